import Derived.Test.YtabfelfinddgkaaGreatDoorT1
import Derived.Test.YtabfelfinddgkaaGreatDoorT2
set_option linter.all false
namespace Go.GP
section
variable {α β σ ε ρ:Type}
@[simp] theorem o9 (x:α) (f:α→Option β):l9 (some x) f=f x:=rfl
@[simp] theorem a6x (f:α→Option β):l9 none f=none:=rfl
theorem Wx {o:Option α} {x:α} (h:o=some x) (f:α→Option β):l9 o f=f x:=by rw[h];rfl
theorem Z7 {o o' :Option α} (h:o=o') {K:α→Option β} {r:Option β} (h2:l9 o' K=r):l9 o K=r:=by rw[h];exact h2
theorem mX (o:Option α):l9 o (fun x=>some x)=o:=by cases o <;> rfl
@[simp] theorem o6 (x y:α):l7 true x y=x:=rfl
@[simp] theorem o5 (x y:α):l7 false x y=y:=rfl
theorem ZO {b:Bool} (h:b=true) (x y:α):l7 b x y=x:=by rw[h];rfl
theorem QU {b:Bool} (h:b=false) (x y:α):l7 b x y=y:=by rw[h];rfl
@[simp] theorem X9 (s:σ) (f:σ→α) (g:ε→α):I7 (.inl s) f g=f s:=rfl
@[simp] theorem wZ (s:ε) (f:σ→α) (g:ε→α):I7 (.inr s) f g=g s:=rfl
@[simp] theorem E5:C9 true=false:=rfl
@[simp] theorem P7:C9 false=true:=rfl
theorem aC {a b:Int} (h:a<b):ilt a b=true:=by simp[ilt,h]
theorem aJ {a b:Int} (h:b≤a):ilt a b=false:=by simp[ilt];omega
theorem aF {a b:Int} (h:a≤b):ile a b=true:=by simp[ile,h]
theorem aU {a b:Int} (h:b<a):ile a b=false:=by simp[ile];omega
theorem dE {a b:Int} (h:a=b):ieq a b=true:=by simp[ieq,h]
theorem fF {a b:Int} (h:a≠b):ieq a b=false:=by simp[ieq,h]
theorem uj {a b:Int} :ilt a b=true↔a<b:=by simp[ilt]
theorem jG {a b:Int} :ile a b=true↔a≤b:=by simp[ile]
theorem U9 {a b:Int} :ieq a b=true↔a=b:=by simp[ieq]
theorem nz {a b:Int} :ilt a b=false↔b≤a:=by simp[ilt]
theorem yU {a b:Int} :ile a b=false↔b<a:=by simp[ile]
theorem ui {a b:Int} :ieq a b=false↔a≠b:=by simp[ieq]
theorem a0J {a b:List UInt8} :seq a b=true↔a=b:=by simp[seq]
theorem Bl {a b:Int} (h:0≤a):a.tdiv b=a / b:=Int.tdiv_eq_ediv_of_nonneg h
theorem MR {a b:Int} (h:0≤a):gz a b=a % b:=Int.tmod_eq_emod_of_nonneg h
def I64 (n:Int):Prop:=-9223372036854775808≤n∧n≤9223372036854775807
theorem BC {n:Int} (h:I64 n):IntKind.wrap .i64 n=n:=by
 unfold I64 at h
 unfold IntKind.wrap
 simp[IntKind.signed,IntKind.bits]
 omega
theorem rY {a b:Int} (h:I64 (a+b)):x9 .i64 a b=a+b:=BC h
theorem Gn {a b:Int} (h:I64 (a -b)):E9 .i64 a b=a -b:=BC h
theorem Gm {a b:Int} (h:I64 (a.tdiv b)):Z5 .i64 a b=a.tdiv b:=BC h
theorem Io {n:Int} (h:(Lit.int .i64 n).wf=true):I64 n:=by
 simp[Lit.wf,IntKind.min,IntKind.max,IntKind.signed,IntKind.bits]at h
 unfold I64;omega
theorem Nj (l:List α):0≤o7 l:=by simp[o7]
theorem D9 (l:List α) (i:Nat):lat l (i:Int)=l[i]?:=by simp[lat]
theorem Js {l:List α} {i:Int} {x:α} (h:lat l i=some x):0≤i∧i<o7 l∧x∈l∧l[i.toNat]? =some x:=by
 unfold lat at h
 split at h
 ·rename_i h0
  obtain⟨h1,h2⟩:=J4.1 h
  refine⟨h0,by simp[o7];omega,?_,h⟩
  rw[←h2];exact List.getElem_mem h1
 ·cases h
theorem um {l:List α} {i:Int} (h0:0≤i) (h:i<o7 l):∃x,lat l i=some x∧x∈l:=by
 unfold o7 at h
 refine⟨l[i.toNat]'(by omega),?_,List.getElem_mem _⟩
 unfold lat
 rw[if_pos h0,ay]
theorem TC (l:List UInt8) (i:Nat):sat l (i:Int)=(l[i]?).map fun c=>(c.toNat:Int):=by simp[sat]
theorem Ai {a b:List α} (h:a.length+b.length≤1073741824):Y7 a b=some (a++b):=by simp[Y7,h]
theorem a0b {l:List α} {lo hi:Int} (h0:0≤lo) (h1:lo≤hi) (h2:hi≤l.length):wE l lo hi=some ((l.take hi.toNat).drop lo.toNat):=by simp[wE,h0,h1,h2]
theorem a0c {l:List α} {hi:Int} (h1:0≤hi) (h2:hi≤l.length):wE l 0 hi=some (l.take hi.toNat):=by rw[a0b (by omega) h1 h2];simp
end
section
variable {σ ε ρ:Type}
theorem DN {f:σ→Option (σ⊕ε)} (Inv:σ→Prop) (Q:ε→Prop) (meas:σ→Nat)
  (h:∀s,Inv s→(∃s',f s=some (.inl s')∧Inv s' ∧meas s' <meas s)∨(∃e,f s=some (.inr e)∧Q e)):
  ∀n s,Inv s→meas s<n→∃e,gG f n s=some e∧Q e
 | 0,_,_,h=>by omega
 | n+1,s,hi,hm=>by
  unfold gG
  rcases h s hi with⟨s',e,hi',hm'⟩ | ⟨x,e,hx⟩
  ·rw[e];exact DN Inv Q meas h n s' hi' (by omega)
  ·rw[e];exact⟨x,rfl,hx⟩
theorem ut {f:σ→Option (σ⊕ε)} {s:σ} (Inv:σ→Prop) (Q:ε→Prop) (meas:σ→Nat) (hi:Inv s) (hm:meas s<18446744073709551616)
  (h:∀s,Inv s→(∃s',f s=some (.inl s')∧Inv s' ∧meas s' <meas s)∨(∃e,f s=some (.inr e)∧Q e)):∃e,N7 f s=some e∧Q e:=
 DN Inv Q meas h _ s hi hm
theorem Gu {f:σ→Option (Out σ ε ρ)} (Inv:σ→Prop) (Q:ε→Prop) (Qr:ρ→Prop) (meas:σ→Nat)
  (h:∀s,Inv s→(∃s',f s=some (.nx s')∧Inv s' ∧meas s' <meas s)∨(∃e,f s=some (.ex e)∧Q e)∨(∃r,f s=some (.rt r)∧Qr r)):
  ∀n s,Inv s→meas s<n→(∃e,bV f n s=some (.inl e)∧Q e)∨(∃r,bV f n s=some (.inr r)∧Qr r)
 | 0,_,_,h=>by omega
 | n+1,s,hi,hm=>by
  unfold bV
  rcases h s hi with⟨s',e,hi',hm'⟩ | ⟨x,e,hx⟩ | ⟨x,e,hx⟩
  ·rw[e];exact Gu Inv Q Qr meas h n s' hi' (by omega)
  ·rw[e];exact .inl ⟨x,rfl,hx⟩
  ·rw[e];exact .inr ⟨x,rfl,hx⟩
theorem yX {f:σ→Option (Out σ ε ρ)} {s:σ} (Inv:σ→Prop) (Q:ε→Prop) (Qr:ρ→Prop) (meas:σ→Nat) (hi:Inv s) (hm:meas s<18446744073709551616)
  (h:∀s,Inv s→(∃s',f s=some (.nx s')∧Inv s' ∧meas s' <meas s)∨(∃e,f s=some (.ex e)∧Q e)∨(∃r,f s=some (.rt r)∧Qr r)):
  (∃e,G8 f s=some (.inl e)∧Q e)∨(∃r,G8 f s=some (.inr r)∧Qr r):=
 Gu Inv Q Qr meas h _ s hi hm
end
section
variable {α β ε ρ:Type}
open Classical in
theorem Jw (l:List α) (p:Nat→α→Bool) (r:ρ) (e:ε) (f:Int→Option (Out Int ε ρ)) (hl:l.length<18446744073709551616)
  (hin:∀(i:Nat) (a:α),l[i]? =some a→f (i:Int)=if p i a=true then some (.nx ((i+1:Nat):Int))else some (.rt r))
  (hend:f (l.length:Int)=some (.ex e)):
  G8 f 0=if(∀i a,l[i]? =some a→p i a=true)then some (.inl e)else some (.inr r):=by
 have key:∀(n i:Nat),i≤l.length→l.length -i<n→(∀j a,j<i→l[j]? =some a→p j a=true)→bV f n (i:Int)=if(∀i a,l[i]? =some a→p i a=true)then some (.inl e)else some (.inr r):=by
  intro n
  induction n with
  | zero=>intro i _ h;omega
  | succ n ih=>
   intro i hi hn hp
   unfold bV
   by_cases h:i<l.length
   ·have e' :=ay h
    rw[hin i _ e']
    by_cases hpi:p i l[i]=true
    ·rw[if_pos hpi]
     exact ih (i+1) (by omega) (by omega) fun j a hj ha=>by
      by_cases hji:j=i
      ·subst hji;rw[e']at ha;cases ha;exact hpi
      ·exact hp j a (by omega) ha
    ·rw[if_neg hpi,if_neg]
     intro hall
     exact hpi (hall i _ e')
   ·have:i=l.length:=by omega
    subst this
    rw[hend,if_pos]
    intro j a ha
    exact hp j a (J4.1 ha).1 ha
 exact key _ 0 (Nat.zero_le _) hl fun j a hj=>by omega
end
end Go.GP
namespace Go.GP
section
variable {α β α' β' σ τ ε ε' ρ ρ' :Type}
def Ag (R:α→β→Prop) (o:Option α) (p:Option β):Prop:=∃a b,o=some a∧p=some b∧R a b
theorem Ag.mk {R:α→β→Prop} {a:α} {b:β} (h:R a b):Ag R (some a) (some b):=⟨a,b,rfl,rfl,h⟩
theorem Ag.mono {R S:α→β→Prop} {o:Option α} {p:Option β} (h:Ag R o p) (hs:∀a b,o=some a→p=some b→R a b→S a b):Ag S o p:=by
 obtain⟨a,b,h1,h2,h3⟩:=h
 exact⟨a,b,h1,h2,hs a b h1 h2 h3⟩
theorem Ag.bind {R:α→β→Prop} {S:α' →β' →Prop} {o:Option α} {p:Option β} {f:α→Option α'} {g:β→Option β'} (h:Ag R o p)
  (hk:∀a b,o=some a→p=some b→R a b→Ag S (f a) (g b)):Ag S (l9 o f) (l9 p g):=by
 obtain⟨a,b,h1,h2,h3⟩:=h
 have:=hk a b h1 h2 h3
 rw[h1,h2];exact this
theorem Ag.left {S:α' →β→Prop} {o:Option α} {a:α} {f:α→Option α'} {p:Option β} (h:o=some a) (hk:Ag S (f a) p):Ag S (l9 o f) p:=by rw[h];exact hk
theorem Ag.right {S:α→β' →Prop} {p:Option β} {b:β} {g:β→Option β'} {o:Option α} (h:p=some b) (hk:Ag S o (g b)):Ag S o (l9 p g):=by rw[h];exact hk
theorem Ag.cond {S:α→β→Prop} {b c:Bool} {x y:Option α} {u v:Option β} (h:b=c) (h1:b=true→Ag S x u) (h2:b=false→Ag S y v):Ag S (l7 b x y) (l7 c u v):=by
 subst h
 cases b
 ·exact h2 rfl
 ·exact h1 rfl
theorem Ag.eq {o p:Option α} (h:Ag Eq o p):∃a,o=some a∧p=some a:=by
 obtain⟨a,b,h1,h2,rfl⟩:=h
 exact⟨a,h1,h2⟩
def b6A (E:ε→ε' →Prop) (Q:ρ→ρ' →Prop):ε⊕ρ→ε' ⊕ρ' →Prop
 | .inl a,.inl b=>E a b
 | .inr a,.inr b=>Q a b
 | _,_=>False
theorem Ag.sum {E:ε→ε' →Prop} {Q:ρ→ρ' →Prop} {S:α→β→Prop} {o:ε⊕ρ} {p:ε' ⊕ρ'} {f:ε→Option α} {g:ρ→Option α} {f' :ε' →Option β} {g' :ρ' →Option β} (h:b6A E Q o p)
  (h1:∀a b,E a b→Ag S (f a) (f' b)) (h2:∀a b,Q a b→Ag S (g a) (g' b)):Ag S (I7 o f g) (I7 p f' g'):=by
 cases o <;> cases p <;> first | exact h1 _ _ h | exact h2 _ _ h | exact h.elim
theorem wC {p:Nat→Option ρ} (n:Nat) (hn:n<18446744073709551616) (e:ε) {f:Int→Option (Out Int ε ρ)}
  (h1:∀i,i<n→f (i:Int)=some (match p i with | some r=> .rt r | none=> .nx ((i+1:Nat):Int))) (h2:f (n:Int)=some (.ex e)):
  G8 f 0=some (match(List.range n).findSome? p with | some r=> .inr r | none=> .inl e):=by
 have key:∀m i,i+m=n→∀k,m<k→bV f k (i:Int)=some (match(List.range' i m).findSome? p with | some r=> .inr r | none=> .inl e):=by
  intro m
  induction m with
  | zero=>
   intro i hi k hk
   obtain⟨k,rfl⟩:∃k',k=k' +1:=⟨k -1,by omega⟩
   have:i=n:=by omega
   subst this
   unfold bV
   rw[h2]
   rfl
  | succ m ih=>
   intro i hi k hk
   obtain⟨k,rfl⟩:∃k',k=k' +1:=⟨k -1,by omega⟩
   unfold bV
   rw[h1 i (by omega),List.range'_succ,List.findSome?_cons]
   cases hp:p i with
   | some r=>rfl
   | none=>exact ih (i+1) (by omega) k (by omega)
 have:=key n 0 (by omega) bH hn
 rw[List.range_eq_range']
 exact this
end
end Go.GP
namespace Go.GP
open Gt
set_option maxRecDepth 100000
theorem U4 {i:Nat} (h:i≤9000000000000000000):x9 .i64 (i:Int) 1=((i+1:Nat):Int):=by
 rw[rY (by unfold I64;omega)];omega
def KJ (c:UInt8):Bool:=decide (97≤c.toNat)&&decide (c.toNat≤122)
def vH (c:UInt8):Bool:=KJ c || (decide (48≤c.toNat)&&decide (c.toNat≤57)) || decide (c.toNat=95)
def IP:List (List UInt8):=pI.getD []
def pW (s:List UInt8):Bool:=match s with | []=>false | c::r=>decide (s.length≤16)&&KJ c&&s.all vH&&!(IP.any fun w=>seq s w)
theorem Ur (c:UInt8) (r:List UInt8):pW (c::r)=(decide ((c::r).length≤16)&&KJ c&&(c::r).all vH&&!(IP.any fun w=>seq (c::r) w)):=rfl
theorem Nq (c:UInt8):gp (c.toNat:Int)=some (KJ c):=by
 unfold gp KJ
 cases h:decide (97≤c.toNat) <;> simp only[decide_eq_true_eq,decide_eq_false_iff_not]at h
 ·rw[aU (by omega)];rfl
 ·rw[aF (by omega)]
  simp only[o6,Bool.true_and,ile]
  congr 1
  by_cases h2:c.toNat≤122 <;> simp[h2] <;> omega
def VC (c:UInt8):Bool:=decide (48≤c.toNat)&&decide (c.toNat≤57)
theorem VD (c:UInt8):jw (c.toNat:Int)=some (VC c):=by
 unfold jw VC
 cases h:decide (48≤c.toNat) <;> simp only[decide_eq_true_eq,decide_eq_false_iff_not]at h
 ·rw[aU (by omega)];rfl
 ·rw[aF (by omega)]
  simp only[o6,Bool.true_and,ile]
  congr 1
  by_cases h2:c.toNat≤57 <;> simp[h2] <;> omega
theorem b1a (c:UInt8):ieq (c.toNat:Int) 95=decide (c.toNat=95):=by
 unfold ieq
 by_cases h:c.toNat=95 <;> simp[h] <;> omega
theorem II {s:List UInt8} (h:s.length≤1000000):∃k,iZ s=some k∧(k=o7 s↔s.all vH=true):=by
 unfold iZ
 have:=ut (f:=fun(x:Int)=>l7 (ilt x (o7 s)) (l9 (sat s x) fun x_1=>l9 (gp x_1) fun x_2=>l7 x_2 (some (Sum.inl (x9 IntKind.i64 x 1)))
   (l9 (sat s x) fun x_3=>l9 (jw x_3) fun x_4=>l7 x_4 (some (Sum.inl (x9 IntKind.i64 x 1))) (l9 (sat s x) fun x_5=>l7 (ieq x_5 95) (some (Sum.inl (x9 IntKind.i64 x 1))) (some (Sum.inr x))))) (some (Sum.inr x)))
  (s:=0) (fun x=>∃i:Nat,x=i∧i≤s.length∧(s.take i).all vH=true) (fun k=>k=o7 s↔s.all vH=true) (fun x=>s.length -x.toNat) ⟨0,rfl,by omega,rfl⟩ (by simp;omega) ?_
 ·obtain⟨k,h1,h2⟩:=this
  refine⟨k,?_,h2⟩
  rw[mX];exact h1
 ·rintro x ⟨i,rfl,hi,hall⟩
  by_cases hl:i<s.length
  ·have e:=ay hl
   simp only[aC (show(i:Int)<o7 s by simp[o7];omega),o6,TC,e,Option.map_some,o9,Nq,VD,b1a]
   have hst:(s.take (i+1)).all vH=((s.take i).all vH&&vH s[i]):=by rw[List.take_succ_eq_append_getElem hl,List.all_append];simp
   have hw:vH s[i]=(KJ s[i] || VC s[i] || decide (s[i].toNat=95)):=rfl
   cases hwb:vH s[i]with
   | true=>
    left
    refine⟨((i+1:Nat):Int),?_,⟨i+1,rfl,hl,by rw[hst,hall,hwb];rfl⟩,by simp;omega⟩
    rw[U4 (by omega)]
    rw[hw]at hwb
    cases h1:KJ s[i] <;> cases h2:VC s[i] <;> cases h3:decide (s[i].toNat=95) <;> rw[h1,h2,h3]at hwb <;> first | rfl | cases hwb
   | false=>
    right
    refine⟨(i:Int),?_,?_⟩
    ·rw[hw]at hwb
     cases h1:KJ s[i] <;> cases h2:VC s[i] <;> cases h3:decide (s[i].toNat=95) <;> rw[h1,h2,h3]at hwb <;> first | rfl | cases hwb
    ·constructor
     ·intro h;simp[o7]at h;omega
     ·intro h
      have:=List.all_eq_true.1 h s[i] (List.getElem_mem hl)
      rw[hwb]at this;cases this
  ·right
   have:i=s.length:=by omega
   subst this
   rw[List.take_length]at hall
   exact⟨_,by rw[aJ (by simp[o7])];rfl,by simp[o7,hall]⟩
theorem UW {a:List UInt8} {w:List UInt8} {r:Option Bool} {x:Bool} (h:r=some x):l7 (seq a w) (some (seq a w)) r=some (seq a w || x):=by
 rw[h];cases seq a w <;> rfl
theorem NV (s:List UInt8):kW s=some (IP.any fun w=>seq s w):=by
 unfold kW
 refine Z7 (o' :=some (IP.any fun w=>seq s w)) ?_ (by cases IP.any fun w=>seq s w <;> rfl)
 have hr:IP=(pI).getD []:=rfl
 rw[show(IP.any fun w=>seq s w)=List.foldr (fun w b=>seq s w || b) false IP from by induction IP with | nil=>rfl | cons w l ih=>simp[List.any_cons,ih]]
 unfold IP pI
 simp only[Option.getD_some,List.foldr]
 repeat (refine UW ?_)
 simp
theorem cZ {s:List UInt8} (h:s.length≤1000000):U2 s=some (pW s):=by
 unfold U2
 cases s with
 | nil=>rfl
 | cons c r=>
  have h1:seq (c::r) []=false:=by simp[seq]
  obtain⟨k,h2,h3⟩:=II h
  rw[h1]
  simp only[P7,o6]
  rw[show sat (c::r) 0=some (c.toNat:Int)from rfl,o9,Nq,o9,h2,o9,NV,o9]
  have h4:ieq k (o7 (c::r))=(c::r).all vH:=by
   rw[Bool.eq_iff_iff,U9];exact h3
  have h5:ile (o7 (c::r)) 16=decide ((c::r).length≤16):=by simp only[ile,o7];congr 1;simp;omega
  rw[h4,h5,Ur]
  cases KJ c <;> cases (c::r).all vH <;> cases decide ((c::r).length≤16) <;> rfl
theorem Bz (t:Int×Int) (en:List X4):U6 t en=U5 t en:=by
 unfold U6 U5
 by_cases h1:t.1=1
 ·simp[ieq,h1,ile]
 by_cases h2:t.1=2
 ·simp[ieq,h2,ile]
 by_cases h3:t.1=3
 ·simp[ieq,h3,ile]
 by_cases h4:t.1=4
 ·simp[ieq,h4,ile]
 by_cases h5:t.1=5
 ·simp[ieq,h5,ile]
 by_cases h6:t.1=6
 ·simp[ieq,h6,ile]
 ·simp only[ieq,h1,h2,h3,h4,h5,h6,decide_false,o5,o9]
  by_cases h7:1≤t.1
  ·rw[ZO (aF h7),QU (aU (by omega))]
  ·rw[QU (aU (by omega))]
theorem TY (t:Int×Int) (en:List X4):dM t en=dJ t en:=by
 unfold dM dJ
 rw[Bz]
def vty (t:Int×Int) (en:List X4):Bool:=l7 (ieq t.1 6) (l7 (ile 0 t.2) (ilt t.2 (o7 en)) false) (l7 (ile 1 t.1) (l7 (ile t.1 5) (ieq t.2 0) false) false)
theorem aP (t:Int×Int) (en:List X4):U5 t en=some (vty t en):=by
 unfold U5 vty
 cases ieq t.1 6 <;> cases ile 0 t.2 <;> cases ile 1 t.1 <;> cases ile t.1 5 <;> rfl
theorem jd (t:Int×Int) (en:List X4):U6 t en=some (vty t en):=(Bz t en).trans (aP t en)
theorem KZ (t:Int×Int) (en:List X4):∃b:Int×Int,dJ t en=some b:=by
 unfold dJ
 rw[aP,o9]
 cases hv:vty t en
 ·exact⟨_,rfl⟩
 simp only[E5,o5]
 cases h1:ieq t.1 1 <;> simp only[o6,o5]
 ·cases h2:ieq t.1 2 <;> simp only[o6,o5]
  ·cases h3:ieq t.1 3 <;> simp only[o6,o5]
   ·cases h4:ieq t.1 4 <;> simp only[o6,o5]
    ·cases h5:ieq t.1 5 <;> simp only[o6,o5]
     ·have h6:ieq t.1 6=true∧ile 0 t.2=true∧ilt t.2 (o7 en)=true:=by
       unfold vty at hv
       rw[ui]at h1 h2 h3 h4 h5
       cases h6:ieq t.1 6 <;> rw[h6]at hv
       ·rw[ui]at h6
        cases h7:ile 1 t.1 <;> rw[h7]at hv
        ·cases hv
        cases h8:ile t.1 5 <;> rw[h8]at hv
        ·cases hv
        rw[jG]at h7 h8
        omega
       ·cases h7:ile 0 t.2 <;> rw[h7]at hv
        ·cases hv
        ·exact⟨rfl,rfl,hv⟩
      obtain⟨x,hx,_⟩:=um (jG.1 h6.2.1) (uj.1 h6.2.2)
      rw[hx];exact⟨_,rfl⟩
     ·exact⟨_,rfl⟩
    ·exact⟨_,rfl⟩
   ·exact⟨_,rfl⟩
  ·exact⟨_,rfl⟩
 ·exact⟨_,rfl⟩
def bnd (t:Int×Int) (en:List X4):Int×Int:=(dJ t en).getD (0,0)
theorem Hg (t:Int×Int) (en:List X4):dJ t en=some (bnd t en):=by
 obtain⟨b,h⟩:=KZ t en
 unfold bnd;rw[h];rfl
theorem Jc (t:Int×Int) (en:List X4):dM t en=some (bnd t en):=(TY t en).trans (Hg t en)
def inB (n:Int) (b:Int×Int):Bool:=l7 (ile b.1 n) (ile n b.2) false
def vV (r:Int×Int):Bool:=l7 (ile 0 r.1) (l7 (ile r.1 r.2) (ile r.2 109573) false) false
theorem BO (r:Int×Int):dh r=some (vV r):=by
 unfold dh vV
 cases ile 0 r.1 <;> cases ile r.1 r.2 <;> rfl
def Rh (a b:Int×Int):(Int×Int)×Bool:=l7 (vV a) (l7 (vV b) (l7 (ile (vJ a.2 b.2) (mV a.1 b.1)) ((0,0),false) ((mV a.1 b.1,vJ a.2 b.2),true)) ((0,0),false)) ((0,0),false)
theorem a0I (a b:Int×Int):dX a b=some (Rh a b):=by
 unfold dX gI Rh
 rw[BO,o9,BO,o9]
 cases vV a
 ·rfl
 simp only[o6]
 cases h1:ilt a.1 a.2
 ·rw[nz]at h1
  rw[aF (show vJ a.2 b.2≤mV a.1 b.1 by unfold vJ mV;omega)]
  cases vV b <;> rfl
 simp only[o9,E5,o5]
 cases vV b
 ·rfl
 simp only[o6]
 cases h2:ilt b.1 b.2
 ·rw[nz]at h2
  rw[aF (show vJ a.2 b.2≤mV a.1 b.1 by unfold vJ mV;omega)]
  rfl
 ·cases ile (vJ a.2 b.2) (mV a.1 b.1) <;> rfl
def ql (a b:vN):Bool:=l7 (Rh a.1 b.1).2 (ilt (mV a.2.1 b.2.1) (vJ a.2.2.1 b.2.2.1)) false
theorem MH (a b:vN):lD a b=some (ql a b):=by
 unfold lD ql
 rw[a0I,o9]
 cases (Rh a.1 b.1).2 <;> rfl
theorem VL {l:List vN} (r:vN) (h:l.length≤1000000):∃k:Int,dZ l r=some (k,l.any fun y=>ql y r):=by
 unfold dZ
 have key:=yX (f:=fun(x:Int)=>l7 (ilt x (o7 l)) (l9 (lat l x) fun x_1=>l9 (fD x_1 r) fun x_2=>l7 x_2 (some (Out.rt (x,true))) (some (Out.nx (x9 IntKind.i64 x 1)))) (some (Out.ex PUnit.unit)))
   (s:=0) (fun x=>∃i:Nat,x=i∧i≤l.length∧(l.take i).any (fun y=>ql y r)=false) (fun _=>(l.any fun y=>ql y r)=false) (fun k=>k.2=true∧(l.any fun y=>ql y r)=true) (fun x=>l.length -x.toNat) ⟨0,rfl,by omega,rfl⟩ (by simp;omega) ?_
 ·rcases key with⟨e,h1,h2⟩ | ⟨k,h1,h2,h3⟩
  ·exact⟨0,by rw[h1,h2];rfl⟩
  ·refine⟨k.1,?_⟩
   rw[h1,h3,←h2];rfl
 ·rintro x ⟨i,rfl,hi,hall⟩
  by_cases hl:i<l.length
  ·have e:=ay hl
   have hst:(l.take (i+1)).any (fun y=>ql y r)=((l.take i).any (fun y=>ql y r) || ql l[i] r):=by rw[List.take_succ_eq_append_getElem hl,List.any_append];simp
   have hv:fD l[i] r=some (ql l[i] r):=by unfold fD;rw[MH];rfl
   simp only[aC (show(i:Int)<o7 l by simp[o7];omega),o6,D9,e,o9,hv]
   cases hc:ql l[i] r with
   | true=>exact .inr (.inr ⟨_,rfl,rfl,List.any_eq_true.2 ⟨l[i],List.getElem_mem hl,hc⟩⟩)
   | false=>exact .inl ⟨((i+1:Nat):Int),by rw[U4 (by omega)];rfl,⟨i+1,rfl,hl,by rw[hst,hall,hc];rfl⟩,by simp;omega⟩
  ·have:i=l.length:=by omega
   subst this
   rw[List.take_length]at hall
   exact .inr (.inl ⟨_,by rw[aJ (by simp[o7])];rfl,hall⟩)
def QJ (x:vN) (bl br:Int×Int):Bool:=
 l7 (vV x.1) (l7 (ieq x.1.1 x.1.2) true (l7 (ile x.2.2.1 x.2.1) true (l7 (inB x.2.1 bl) (l7 (inB (E9 .i64 x.2.2.1 1) bl) (C9 (inB x.2.2.2 br)) true) true))) true
def PU (t:V7) (en:List X4) (i:Nat):Option (Int×Int):=match t.2.2.2[i]? with
 | some x=>l7 (QJ x (bnd t.2.1 en) (bnd t.2.2.1 en)) (some ((i:Int),3)) (l7 ((t.2.2.2.take i).any fun y=>ql y x) (some ((i:Int),11)) none)
 | none=>none
def EH (t:V7) (en:List X4):Int×Int:=
 l7 (ilt 64 (o7 t.2.2.2)) (64,4) (l7 (vty t.2.1 en) (l7 (vty t.2.2.1 en) (match(List.range t.2.2.2.length).findSome? (PU t en)with | some r=>r | none=>(0,0)) (-1,8)) (-1,8))
theorem qF (a b:Int):ilt a b= !ile b a:=by
 simp only[ilt,ile];rw[←decide_not];congr 1;simp
theorem jZ {α:Type} {l:List α} {i:Nat} (h:i≤l.length):wE l 0 (i:Int)=some (l.take i):=by rw[a0c (by omega) (by omega)];simp
theorem Zj (t:V7) (en:List X4):lC t en=some (EH t en):=by
 unfold lC EH
 rw[jd,o9,jd,o9]
 cases h64:ilt 64 (o7 t.2.2.2)
 case true=>rfl
 simp only[o5]
 cases vty t.2.1 en
 ·rfl
 cases vty t.2.2.1 en
 ·rfl
 simp only[E5,o5,o9,X9,o6,Jc]
 have hlen:t.2.2.2.length≤64:=by rw[nz]at h64;simp only[o7]at h64;omega
 refine Z7 (wC (p:=PU t en) t.2.2.2.length (by omega) PUnit.unit (fun i hi=>?_) ?_) ?_
 rotate_left 2
 ·cases (List.range t.2.2.2.length).findSome? (PU t en) <;> rfl
 ·have e:=ay hi
  simp only[aC (show(i:Int)<o7 t.2.2.2 by simp only[o7];omega),o6,D9,e,o9,PU,BO,jZ (show i≤t.2.2.2.length by omega)]
  obtain⟨k,hk⟩:=VL (l:=t.2.2.2.take i) t.2.2.2[i] (by simp;omega)
  rw[hk,U4 (by omega)]
  unfold QJ inB
  simp only[qF]
  generalize bnd t.2.1 en=bl
  generalize bnd t.2.2.1 en=br
  cases vV t.2.2.2[i].1
  ·rfl
  cases ieq t.2.2.2[i].1.1 t.2.2.2[i].1.2
  case true=>rfl
  cases ile t.2.2.2[i].2.2.1 t.2.2.2[i].2.1
  case true=>rfl
  cases ile bl.1 t.2.2.2[i].2.1
  ·rfl
  cases ile t.2.2.2[i].2.1 bl.2
  ·rfl
  cases ile bl.1 (E9 IntKind.i64 t.2.2.2[i].2.2.1 1)
  ·rfl
  cases ile (E9 IntKind.i64 t.2.2.2[i].2.2.1 1) bl.2
  ·rfl
  cases ile br.1 t.2.2.2[i].2.2.2
  ·rfl
  cases ile t.2.2.2[i].2.2.2 br.2
  ·rfl
  cases (t.2.2.2.take i).any fun y=>ql y t.2.2.2[i] <;> rfl
 ·rw[aJ (by simp[o7])];rfl
section
variable {α ε ρ:Type}
theorem zK (l:List α) (p:α→Bool) (r:ρ) (e:ε) {f:Int→Option (Out Int ε ρ)} (hl:l.length≤1000000)
  (hin:∀(i:Nat) (a:α),l[i]? =some a→f (i:Int)=some (bif p a then .rt r else .nx (x9 .i64 (i:Int) 1))) (hend:f (l.length:Int)=some (.ex e)):
  G8 f 0=some (bif l.any p then .inr r else .inl e):=by
 rw[Jw l (fun i a=> !p a) r e f (by omega) (fun i a ha=>?_) hend]
 ·have hb:(∀(j:Nat) (a:α),l[j]? =some a→(!p a)=true)↔l.any p=false:=by
   rw[List.any_eq_false]
   constructor
   ·intro h x hx
    obtain⟨j,hj,rfl⟩:=List.getElem_of_mem hx
    have:=h j _ (ay hj)
    simpa using this
   ·intro h j a hj
    have:=h a (iG hj)
    simpa using this
  by_cases hv:l.any p=false
  ·rw[if_pos (hb.2 hv),hv];rfl
  ·rw[if_neg (fun h=>hv (hb.1 h))]
   simp only[Bool.not_eq_false]at hv
   rw[hv];rfl
 ·have hi:=(J4.1 ha).1
  rw[hin i a ha,U4 (by omega)]
  cases p a <;> rfl
theorem lQ (l:List α) (p:α→Bool) {f:Int→Option (Out Int PUnit Int)} (hl:l.length≤1000000)
  (hin:∀(i:Nat) (a:α),l[i]? =some a→f (i:Int)=some (bif p a then .rt (i:Int)else .nx (x9 .i64 (i:Int) 1))) (hend:f (l.length:Int)=some (.ex PUnit.unit)):
  l9 (l9 (G8 f 0) fun o=>I7 o (fun _=>some (-1)) fun r=>some r) (fun x=>some (ile 0 x))=some (l.any p):=by
 have key:=yX (f:=f) (s:=0) (fun x=>∃i:Nat,x=i∧i≤l.length∧(l.take i).any p=false) (fun _=>l.any p=false) (fun k=>0≤k∧l.any p=true) (fun x=>l.length -x.toNat) ⟨0,rfl,by omega,rfl⟩ (by simp;omega) ?_
 ·rcases key with⟨e,h1,h2⟩ | ⟨k,h1,h2,h3⟩
  ·rw[h1,h2];rfl
  ·rw[h1,h3,o9,wZ,o9,aF h2]
 ·rintro x ⟨i,rfl,hi,hall⟩
  by_cases h:i<l.length
  ·have e:=ay h
   have hst:(l.take (i+1)).any p=((l.take i).any p || p l[i]):=by rw[List.take_succ_eq_append_getElem h,List.any_append];simp
   rw[hin i _ e]
   cases hc:p l[i]with
   | true=>exact .inr (.inr ⟨_,rfl,by omega,List.any_eq_true.2 ⟨l[i],List.getElem_mem h,hc⟩⟩)
   | false=>exact .inl ⟨((i+1:Nat):Int),by rw[U4 (by omega)];rfl,⟨i+1,rfl,h,by rw[hst,hall,hc];rfl⟩,by simp;omega⟩
  ·have:i=l.length:=by omega
   subst this
   rw[List.take_length]at hall
   exact .inr (.inl ⟨_,hend,hall⟩)
theorem F9 {i:Nat} {l:List α} {a:α} (h:l[i]? =some a):ilt (i:Int) (o7 l)=true:=aC (by have:=(J4.1 h).1;simp only[o7];omega)
theorem F8 (l:List α):ilt (l.length:Int) (o7 l)=false:=aJ (by simp[o7])
end
theorem yT {l:List X4} (n:List UInt8) (h:l.length≤1000000):jY l n=some (l.any fun x=>seq x.1 n):=by
 unfold jY X6 af
 rw[mX]
 refine lQ l (fun x=>seq x.1 n) h (fun i a ha=>?_) (by rw[F8];rfl)
 rw[F9 ha,o6,D9,ha,o9]
 unfold ru
 rw[o9]
 cases seq a.1 n <;> rfl
theorem DK {l:List V7} (n:List UInt8) (h:l.length≤1000000):kV l n=some (l.any fun x=>seq x.1 n):=by
 unfold kV V4 Y4
 rw[mX]
 refine lQ l (fun x=>seq x.1 n) h (fun i a ha=>?_) (by rw[F8];rfl)
 rw[F9 ha,o6,D9,ha,o9]
 unfold oV
 rw[o9]
 cases seq a.1 n <;> rfl
theorem MQ {l:List x8} (s:x8) (h:l.length≤1000000):N8 l s=some (l.any fun x=>seq x.1 s.1):=by
 unfold N8 Y3
 refine lQ l (fun x=>seq x.1 s.1) h (fun i a ha=>?_) (by rw[F8];rfl)
 rw[F9 ha,o6,D9,ha,o9]
 unfold lW
 rw[o9]
 cases seq a.1 s.1 <;> rfl
theorem Pn {l:List H9} (s:H9) (h:l.length≤1000000):O7 l s=some (l.any fun x=>seq x.1 s.1):=by
 unfold O7 ah
 refine lQ l (fun x=>seq x.1 s.1) h (fun i a ha=>?_) (by rw[F8];rfl)
 rw[F9 ha,o6,D9,ha,o9]
 unfold nC
 rw[o9]
 cases seq a.1 s.1 <;> rfl
theorem DJ {l:List Z9} (s:Z9) (h:l.length≤1000000):H7 l s=some (l.any fun x=>seq x.1 s.1):=by
 unfold H7 Y2
 refine lQ l (fun x=>seq x.1 s.1) h (fun i a ha=>?_) (by rw[F8];rfl)
 rw[F9 ha,o6,D9,ha,o9]
 unfold lV
 rw[o9]
 cases seq a.1 s.1 <;> rfl
theorem Uk {l:List (List UInt8)} (s:List UInt8) (h:l.length≤1000000):Y6 l s=some (l.any fun x=>seq s x):=by
 unfold Y6 cu
 refine lQ l (fun x=>seq s x) h (fun i a ha=>?_) (by rw[F8];rfl)
 rw[F9 ha,o6,D9,ha,o9]
 cases seq s a <;> rfl
theorem Uj {l:List Int} (s:Int) (h:l.length≤1000000):bi l s=some (l.any fun x=>ieq s x):=by
 unfold bi iU
 refine lQ l (fun x=>ieq s x) h (fun i a ha=>?_) (by rw[F8];rfl)
 rw[F9 ha,o6,D9,ha,o9]
 cases ieq s a <;> rfl
section
variable {α ε ρ:Type}
end
theorem Ro (i k:Nat):ilt (i:Int) (k:Int)=decide (i<k):=by
 unfold ilt;by_cases h:i<k <;> simp[h] <;> omega
def sU (l:G5) (kind:Nat) (k:Nat) (n:List UInt8):Bool:=
 match kind with
 | 1=>(l.1.take k).any fun x=>seq x.1 n
 | 2=>(l.1.any fun x=>seq x.1 n) || ((l.2.1.take k).any fun x=>seq x.1 n)
 | _=>(l.1.any fun x=>seq x.1 n) || (l.2.1.any fun x=>seq x.1 n) || ((l.2.2.take k).any fun x=>seq x.1 n)
def Few (l:G5):Prop:=l.1.length≤1000∧l.2.1.length≤1000∧l.2.2.length≤1000
def a0d (ms:List (List UInt8)) (i:Nat):Option (Int×Int):=match ms[i]? with
 | some m=>l7 (pW m) (l7 ((ms.take i).any fun x=>seq m x) (some (7,((100+i:Nat):Int))) none) (some (2,((100+i:Nat):Int)))
 | none=>none
def FM (l:G5) (i:Nat) (e:X4):Int×Int:=
 l7 (pW e.1) (l7 (sU l 1 i e.1) (7,0) (l7 (ieq (o7 e.2) 0) (5,0) (l7 (ilt 16 (o7 e.2)) (4,116) (match(List.range e.2.length).findSome? (a0d e.2)with | some r=>r | none=>(0,0))))) (2,0)
theorem ZW {i:Nat} (h:i≤1000000):x9 .i64 100 (i:Int)=((100+i:Nat):Int):=by
 rw[rY (by unfold I64;omega)];omega
theorem Kw {l:G5} (h:Few l) {i:Nat} (hi:i≤l.1.length) (e:X4) (h1:e.1.length≤1000000) (h2:∀m∈e.2,m.length≤1000000):
  mG l (i:Int) e=some (FM l i e):=by
 unfold mG FM sU
 rw[cZ h1,o9,jZ hi,o9,yT _ (by have:=h.1;simp;omega),o9]
 cases pW e.1
 ·rfl
 simp only[E5,o5,o6]
 cases (l.1.take i).any fun x=>seq x.1 e.1
 case true=>rfl
 cases ieq (o7 e.2) 0
 case true=>rfl
 cases h16:ilt 16 (o7 e.2)
 case true=>rfl
 simp only[o5]
 have hlen:e.2.length≤16:=by rw[nz]at h16;simp only[o7]at h16;omega
 refine Z7 (wC (p:=a0d e.2) e.2.length (by omega) PUnit.unit (fun j hj=>?_) ?_) ?_
 rotate_left 2
 ·cases (List.range e.2.length).findSome? (a0d e.2) <;> rfl
 ·have e' :=ay hj
  rw[F9 e',o6,D9,e',o9,cZ (h2 _ (List.getElem_mem hj)),o9,jZ (by omega),o9,Uk _ (by simp;omega),o9,ZW (by omega),U4 (by omega)]
  simp only[a0d,e']
  cases pW e.2[j]
  ·rfl
  cases (e.2.take j).any fun x=>seq e.2[j] x <;> rfl
 ·rw[F8];rfl
theorem VM {β:Type} {p:Nat→Option β} {n j:Nat} {c:β} (h0:(List.range j).findSome? p=none) (h1:p j=some c) (hj:j<n):(List.range n).findSome? p=some c:=by
 induction n with
 | zero=>omega
 | succ n ih=>
  rw[List.range_succ,List.findSome?_append]
  by_cases h:j<n
  ·rw[ih h];rfl
  ·have:j=n:=by omega
   subst this;rw[h0];simp[h1]
theorem ZT {β:Type} {p:Nat→Option β} {j:Nat} (h0:(List.range j).findSome? p=none) (h1:p j=none):(List.range (j+1)).findSome? p=none:=by
 rw[List.range_succ,List.findSome?_append,h0];simp[h1]
def I8 {ρ:Type} (n:Nat) (p:Nat→Option ρ):Option ρ:=(List.range n).findSome? p
theorem vZ {σ ε ρ:Type} {p:Nat→Option ρ} (n:Nat) (hn:n≤1000000) (a:σ) (e:ε) {f:σ×Int→Option (Out (σ×Int) ε ρ)}
  (h1:∀i,i<n→f (a,(i:Int))=some (match p i with | some r=> .rt r | none=> .nx (a,x9 .i64 (i:Int) 1))) (h2:f (a,(n:Int))=some (.ex e)):
  G8 f (a,0)=some (match I8 n p with | some r=> .inr r | none=> .inl e):=by
 have key:=yX (f:=f) (s:=(a,0)) (fun x=>∃i:Nat,x=(a,(i:Int))∧i≤n∧I8 i p=none) (fun x=>x=e∧I8 n p=none) (fun r=>I8 n p=some r) (fun x=>n -x.2.toNat) ⟨0,rfl,by omega,rfl⟩ (by simp;omega) ?_
 ·rcases key with⟨x,k1,rfl,k2⟩ | ⟨r,k1,k2⟩
  ·rw[k1,k2]
  ·rw[k1,k2]
 ·rintro x ⟨i,rfl,hi,hnone⟩
  by_cases h:i<n
  ·rw[h1 i h]
   cases hp:p i with
   | some r=>exact .inr (.inr ⟨_,rfl,VM hnone hp h⟩)
   | none=>exact .inl ⟨(a,((i+1:Nat):Int)),by rw[U4 (by omega)],⟨i+1,rfl,h,ZT hnone hp⟩,by simp;omega⟩
  ·have:i=n:=by omega
   subst this
   exact .inr (.inl ⟨_,h2,rfl,hnone⟩)
def BQ (kind i:Int) (r:Int×Int):Option (Int×Int×Int×Int):=l7 (ieq r.1 0) none (some (r.1,kind,i,r.2))
def rQ (l:G5) (i:Nat):Option (Int×Int×Int×Int):=match l.1[i]? with | some e=>BQ 1 i (FM l i e) | none=>none
def iw (l:G5):Int×Int×Int×Int:=l7 (ilt 8 (o7 l.1)) (4,1,8,0) (match I8 l.1.length (rQ l)with | some r=>r | none=>(0,0,0,0))
def JW (l:G5):Prop:=∀e∈l.1,e.1.length≤1000000∧∀m∈e.2,m.length≤1000000
theorem Iu {l:G5} (h:Few l) (hE:JW l):kS l=some (iw l):=by
 unfold kS iw
 cases ilt 8 (o7 l.1)
 case true=>rfl
 simp only[o5]
 refine Z7 (vZ (p:=rQ l) l.1.length (by have:=h.1;omega) _ (0,0,0,0) (fun i hi=>?_) ?_) ?_
 rotate_left 2
 ·cases I8 l.1.length (rQ l) <;> rfl
 ·have e:=ay hi
  have hm:=hE _ (List.getElem_mem hi)
  simp only[F9 e,o6,D9,e,o9,Kw h (show i≤l.1.length by omega) _ hm.1 hm.2,rQ,BQ]
  cases ieq (FM l i l.1[i]).1 0 <;> rfl
 ·rw[F8];rfl
theorem aO {ρ:Type} {n:Nat} {p:Nat→Option ρ} {r:ρ} (h:I8 n p=some r):∃i,i<n∧p i=some r:=by
 unfold I8 at h
 obtain⟨i,hi,hp⟩:=List.exists_of_findSome?_eq_some h
 exact⟨i,List.mem_range.1 hi,hp⟩
theorem Zi (t:V7) (en:List X4):(EH t en).1=-1∨0≤(EH t en).1:=by
 unfold EH
 cases ilt 64 (o7 t.2.2.2)
 case true=>right;simp only[o6];decide
 cases vty t.2.1 en
 ·left;rfl
 cases vty t.2.2.1 en
 ·left;rfl
 right
 simp only[o6,o5]
 cases hf:(List.range t.2.2.2.length).findSome? (PU t en)with
 | none=>exact Int.le_refl _
 | some r=>
  obtain⟨i,hi,hp⟩:=aO (p:=PU t en) hf
  unfold PU at hp
  split at hp
  ·rename_i x hx
   cases hw:QJ x (bnd t.2.1 en) (bnd t.2.2.1 en) <;> rw[hw]at hp
   ·cases ha:(t.2.2.2.take i).any fun y=>ql y x <;> rw[ha]at hp
    ·cases hp
    ·cases hp;show(0:Int)≤(i:Int);omega
   ·cases hp;show(0:Int)≤(i:Int);omega
  ·cases hp
def Qy (l:G5) (i:Nat) (t:V7):Int×Int:=
 l7 (pW t.1) (l7 (sU l 2 i t.1) (7,0) (l7 (ieq (EH t l.1).2 0) (0,0) ((EH t l.1).2,l7 (ile 0 (EH t l.1).1) (x9 .i64 100 (EH t l.1).1) 0))) (2,0)
def zA (l:G5) (i:Nat):Option (Int×Int×Int×Int):=match l.2.1[i]? with | some t=>BQ 2 i (Qy l i t) | none=>none
def lG (l:G5):Int×Int×Int×Int:=l7 (ilt 8 (o7 l.2.1)) (4,2,8,0) (match I8 l.2.1.length (zA l)with | some r=>r | none=>(0,0,0,0))
def EU (l:G5):Prop:=∀t∈l.2.1,t.1.length≤1000000
theorem Fp {l:G5} (h:Few l) (hT:EU l):jI l=some (lG l):=by
 unfold jI lG
 cases ilt 8 (o7 l.2.1)
 case true=>rfl
 simp only[o5]
 refine Z7 (vZ (p:=zA l) l.2.1.length (by have:=h.2.1;omega) _ (0,0,0,0) (fun i hi=>?_) ?_) ?_
 rotate_left 2
 ·cases I8 l.2.1.length (zA l) <;> rfl
 ·have e:=ay hi
  have hm:=hT _ (List.getElem_mem hi)
  simp only[F9 e,o6,D9,e,o9,Zj,cZ hm,yT _ (show l.1.length≤1000000 by have:=h.1;omega),jZ (show i≤l.2.1.length by omega),
   DK _ (show(l.2.1.take i).length≤1000000 by have:=h.2.1;simp;omega),zA,Qy,sU]
  cases pW l.2.1[i].1
  ·rfl
  cases l.1.any fun x=>seq x.1 l.2.1[i].1
  case true=>rfl
  cases (l.2.1.take i).any fun x=>seq x.1 l.2.1[i].1
  case true=>rfl
  simp only[E5,o5,o6,o9,Bool.or_false]
  cases hz:ieq (EH l.2.1[i] l.1).2 0
  case true=>rfl
  simp only[P7,o6,o5,BQ,hz]
  rcases Zi l.2.1[i] l.1 with hr | hr
  ·rw[dE hr,aU (show(EH l.2.1[i] l.1).1<0 by omega)]
   simp only[E5,o5,o9,hz,P7,o6]
  ·rw[fF (show(EH l.2.1[i] l.1).1≠-1 by omega),aF hr]
   simp only[P7,o6,o9,hz]
 ·rw[F8];rfl
theorem a6q {α β ε:Type} (l:List α) (g:α→β) (hl:l.length≤1000000) {f:List β×Int→Option ((List β×Int)⊕ε)} {F:List β→ε}
  (hin:∀(i:Nat) (a:α) (acc:List β),l[i]? =some a→acc.length=i→f (acc,(i:Int))=some (.inl (acc++[g a],x9 .i64 (i:Int) 1))) (hend:∀acc,f (acc,(l.length:Int))=some (.inr (F acc))):
  N7 f ([],0)=some (F (l.map g)):=by
 obtain⟨e,h1,h2⟩:=ut (f:=f) (s:=([],0)) (fun x=>∃i:Nat,x=((l.take i).map g,(i:Int))∧i≤l.length) (fun e=>e=F (l.map g)) (fun x=>l.length -x.2.toNat) ⟨0,rfl,by omega⟩ (by simp;omega) (by
  rintro x ⟨i,rfl,hi⟩
  by_cases h:i<l.length
  ·have e:=ay h
   refine .inl ⟨((l.take (i+1)).map g,((i+1:Nat):Int)),?_,⟨i+1,rfl,h⟩,by simp;omega⟩
   rw[hin i _ _ e (by simp;omega),U4 (by omega),List.take_succ_eq_append_getElem h,List.map_append]
   rfl
  ·have:i=l.length:=by omega
   subst this
   refine .inr ⟨_,hend _,?_⟩
   rw[List.take_length])
 rw[h1,h2]
theorem rf {l:List Z9} (h:l.length≤1000000):eQ l=some (l.map (·.2)):=by
 unfold eQ
 rw[mX]
 refine a6q (F:=id) l (fun x=>x.2) h (fun i a acc ha hacc=>?_) (fun acc=>?_)
 ·have hi:=(J4.1 ha).1
  simp only[F9 ha,o6,D9,ha,o9]
  rw[Ai (by simp[hacc];omega)];rfl
 ·simp only[F8];rfl
def LW (l:G5):Prop:=∀s∈l.2.2,s.1.length≤1000000∧s.2.2.1.length≤1000∧s.2.2.2.1.length≤1000∧s.2.2.2.2.length≤1000
def zx (l:G5) (s:x8):List X4×List V7×List (Int×Int)×List (Int×Int)×List (Int×Int)×Bool:=
 match(if 0≤s.2.1 then l.2.2[s.2.1.toNat]? else none)with
 | some k=>(l.1,l.2.1,s.2.2.1.map (·.2),s.2.2.2.1.map (·.2),k.2.2.2.1.map (·.2),true)
 | none=>(l.1,l.2.1,s.2.2.1.map (·.2),s.2.2.2.1.map (·.2),[],false)
theorem zu {l:G5} (h:LW l) {i:Nat} {s:x8} (hs:l.2.2[i]? =some s):dY l (i:Int)=some (zx l s):=by
 have hm:=h s (iG hs)
 unfold dY zx
 rw[D9,hs,o9,rf (by omega),o9,rf (by omega),o9]
 by_cases h0:0≤s.2.1
 ·rw[aF h0,if_pos h0,o6]
  by_cases h1:s.2.1<o7 l.2.2
  ·obtain⟨k,hk,hkm⟩:=um h0 h1
   have hk' :l.2.2[s.2.1.toNat]? =some k:=(Js hk).2.2.2
   rw[aC h1,o6,hk,o9,rf (by have:=h k hkm;omega),o9,hk']
  ·have h1' :o7 l.2.2≤s.2.1:=Int.not_lt.1 h1
   rw[aJ h1',o5,List.getElem?_eq_none (by simp only[o7]at h1';exact Int.le_toNat h0 |>.2 h1')]
 ·have h0' :s.2.1<(0:Int):=Int.not_le.1 h0
  rw[aU h0',if_neg h0];rfl
abbrev SI (l:List Int):Prop:=l.Pairwise (·< ·)
theorem Qd:∀{a b:List Int},SI a→SI b→(∀x,x∈a↔x∈b)→a=b
 | [],[],_,_,_=>rfl
 | [],y::b,_,_,h=>absurd ((h y).2 (by simp)) (by simp)
 | x::a,[],_,_,h=>absurd ((h x).1 (by simp)) (by simp)
 | x::a,y::b,ha,hb,h=>by
  have ha' :=List.pairwise_cons.1 ha
  have hb' :=List.pairwise_cons.1 hb
  have hxy:x=y:=by
   rcases List.mem_cons.1 ((h x).1 (by simp))with h1 | h1
   ·exact h1
   ·rcases List.mem_cons.1 ((h y).2 (by simp))with h2 | h2
    ·exact h2.symm
    ·have:=hb'.1 _ h1;have:=ha'.1 _ h2;omega
  subst hxy
  congr 1
  refine Qd ha'.2 hb'.2 fun z=>⟨fun hz=>?_,fun hz=>?_⟩
  ·rcases List.mem_cons.1 ((h z).1 (by simp[hz]))with h1 | h1
   ·have:=ha'.1 _ hz;omega
   ·exact h1
  ·rcases List.mem_cons.1 ((h z).2 (by simp[hz]))with h1 | h1
   ·have:=hb'.1 _ hz;omega
   ·exact h1
def ins (n:Int):List Int→List Int
 | []=>[n]
 | a::l=>if n≤a then(if n<a then n::a::l else a::l)else a::ins n l
theorem KO (n x:Int):∀l,x∈ins n l↔x=n∨x∈l
 | []=>by simp[ins]
 | a::l=>by
  unfold ins
  by_cases h:n≤a
  ·rw[if_pos h]
   by_cases h2:n<a
   ·rw[if_pos h2];simp
   ·rw[if_neg h2]
    have:n=a:=by omega
    subst this;simp
  ·rw[if_neg h,List.mem_cons,KO n x l,List.mem_cons]
   constructor
   ·rintro(h | h | h) <;> simp[h]
   ·rintro(h | h | h) <;> simp[h]
theorem Yn (n:Int):∀{l},SI l→SI (ins n l)
 | [],_=>List.pairwise_singleton _ _
 | a::l,h=>by
  have h' :=List.pairwise_cons.1 h
  unfold ins
  by_cases h1:n≤a
  ·rw[if_pos h1]
   by_cases h2:n<a
   ·rw[if_pos h2]
    refine List.pairwise_cons.2 ⟨fun x hx=>?_,h⟩
    rcases List.mem_cons.1 hx with rfl | hx
    ·exact h2
    ·have:=h'.1 x hx;omega
   ·rw[if_neg h2];exact h
  ·rw[if_neg h1]
   refine List.pairwise_cons.2 ⟨fun x hx=>?_,Yn n h'.2⟩
   rcases(KO n x l).1 hx with rfl | hx
   ·omega
   ·exact h'.1 x hx
def Gl (ns:List Int) (l:List Int):List Int:=ns.foldl (fun acc n=>ins n acc) l
theorem Gx (x:Int):∀ns l,x∈Gl ns l↔x∈ns∨x∈l
 | [],l=>by simp[Gl]
 | n::ns,l=>by
  show x∈Gl ns (ins n l)↔_
  rw[Gx x ns,KO,List.mem_cons]
  constructor
  ·rintro(h | h | h) <;> simp[h]
  ·rintro((h | h) | h) <;> simp[h]
theorem Lr:∀ns {l},SI l→SI (Gl ns l)
 | [],_,h=>h
 | n::ns,_,h=>Lr ns (Yn n h)
def zy (l:List Int):List Int:=Gl l []
theorem Am (x:Int) (l:List Int):x∈zy l↔x∈l:=by unfold zy;rw[Gx];simp
theorem TE (l:List Int):SI (zy l):=Lr l List.Pairwise.nil
theorem Gq (n:Int):∀l,(ins n l).length≤l.length+1
 | []=>by simp[ins]
 | a::l=>by
  unfold ins
  by_cases h1:n≤a
  ·rw[if_pos h1];by_cases h2:n<a
   ·rw[if_pos h2];simp
   ·rw[if_neg h2];simp
  ·rw[if_neg h1];have:=Gq n l;simp only[List.length_cons];omega
theorem DL:∀ns l,(Gl ns l).length≤l.length+ns.length
 | [],l=>by simp[Gl]
 | n::ns,l=>by
  have h1:=DL ns (ins n l)
  have h2:=Gq n l
  show(Gl ns (ins n l)).length≤_
  simp only[List.length_cons];omega
theorem Nc (l:List Int):(zy l).length≤l.length:=by have:=DL l [];unfold zy;simpa using this
theorem Qe {l:List Int} (n:Nat) (h:SI l) (h2:∀x∈l,0≤x∧x<n):l.length≤n:=by
 have key:∀(l:List Int) (lo:Int),SI l→(∀x∈l,lo≤x∧x<n)→lo≤n→(l.length:Int)≤n -lo:=by
  intro l
  induction l with
  | nil=>intro lo _ _ hlo;simp;omega
  | cons a l ih=>
   intro lo hs hb hlo
   have h' :=List.pairwise_cons.1 hs
   have ha:=hb a (by simp)
   have:=ih (a+1) h'.2 (fun x hx=>⟨by have:=h'.1 x hx;omega,(hb x (by simp[hx])).2⟩) (by omega)
   simp only[List.length_cons];omega
 have:=key l 0 h (fun x hx=>h2 x hx) (by omega)
 omega
theorem FB (x:Int):∀(l:List Int) (p:Int),(p::l).Pairwise (·≤·)→SI (p::ddp p l)∧(x∈p::ddp p l↔x∈p::l)
 | [],p,_=>⟨List.pairwise_singleton _ _,Iff.rfl⟩
 | a::l,p,h=>by
  have h1:=List.pairwise_cons.1 h
  obtain⟨i1,i2⟩:=FB x l a h1.2
  have h2:=List.pairwise_cons.1 h1.2
  have hpa:=h1.1 a (by simp)
  unfold ddp
  cases hq:ieq a p
  ·rw[ui]at hq
   simp only[cond_false]
   refine⟨List.pairwise_cons.2 ⟨fun y hy=>?_,i1⟩,?_⟩
   ·rcases List.mem_cons.1 hy with rfl | hy
    ·omega
    ·have:=(List.pairwise_cons.1 i1).1 y hy;omega
   ·rw[List.mem_cons,i2,List.mem_cons (a:=x) (b:=p)]
  ·rw[U9]at hq
   subst hq
   simp only[cond_true]
   refine⟨i1,?_⟩
   rw[i2];simp
theorem VA (l:List Int):dd (wz l)=zy l:=by
 have hs:=ul l
 have hp:=uk l
 refine Qd ?_ (TE l) fun x=>?_
 ·cases he:wz l with
  | nil=>exact List.Pairwise.nil
  | cons a r=>rw[he]at hs;exact(FB a r a hs).1
 ·rw[Am,←hp.mem_iff]
  cases he:wz l with
  | nil=>exact Iff.rfl
  | cons a r=>rw[he]at hs;exact(FB x r a hs).2
theorem Us (l:List Int):(wz l).length=l.length:=(uk l).length_eq
theorem a0X {l:List Int} (h:l.length≤1000000):l9 (kF l) (fun x=>aQ x)=some (zy l):=by
 unfold kF aQ
 rw[show Nat.blt l.length 4611686018427387904=true from by simp[Nat.blt];omega]
 simp only[cond_true,o9]
 rw[show Nat.blt (wz l).length 4611686018427387904=true from by rw[Us];simp[Nat.blt];omega]
 rw[cond_true,VA]
def hg (l:List Int) (i:Nat):Int:=l.getD i 0
theorem ZV {l:List Int} {i:Nat} (h:i<l.length):l[i]? =some (hg l i):=by
 unfold hg;rw[Ce,ay h];rfl
def Zw (l:List Int) (n:Nat):Prop:=∀k,0<k→k<n→hg l ((k -1) / 2)≤hg l k
theorem Ov {α:Type} {l:List α} {n i:Nat} {a:α} (h:(l.take n)[i]? =some a):i<n∧l[i]? =some a:=by
 rw[List.getElem?_take]at h
 split at h
 ·exact⟨by assumption,h⟩
 ·cases h
def vY (en:List X4) (f:Z9) (a b:List Z9):Int:=
 l7 (pW f.1) (l7 (a.any fun x=>seq x.1 f.1) 7 (l7 (b.any fun x=>seq x.1 f.1) 7 (l7 (vty f.2 en) 0 8))) 2
theorem yl {l:G5} {f:Z9} {a b:List Z9} (h:f.1.length≤1000000) (ha:a.length≤1000000) (hb:b.length≤1000000):iH l f a b=some (vY l.1 f a b):=by
 unfold iH vY
 rw[cZ h,o9,DJ _ ha,o9,DJ _ hb,o9,jd,o9]
 cases pW f.1
 ·rfl
 cases a.any fun x=>seq x.1 f.1
 case true=>rfl
 cases b.any fun x=>seq x.1 f.1
 case true=>rfl
 cases vty f.2 l.1 <;> rfl
def IB (c e:Int):Option (Int×Int):=l7 (ieq c 0) none (some (c,e))
def inP (l:G5) (s:x8) (i:Nat):Option (Int×Int):=match s.2.2.1[i]? with | some f=>IB (vY l.1 f (s.2.2.1.take i) []) (100+i:Nat) | none=>none
def KA (l:G5) (s:x8) (i:Nat):Option (Int×Int):=match s.2.2.2.1[i]? with | some f=>IB (vY l.1 f s.2.2.1 (s.2.2.2.1.take i)) (200+i:Nat) | none=>none
def Vl (s:x8):Prop:=(∀f∈s.2.2.1,f.1.length≤1000000)∧(∀f∈s.2.2.2.1,f.1.length≤1000000)
theorem Ri {c i:Nat} (hc:c≤1000) (h:i≤1000000):x9 .i64 (c:Int) (i:Int)=((c+i:Nat):Int):=by
 rw[rY (by unfold I64;omega)];omega
def iY (l:G5) (s:x8):Option (Int×Int):=match I8 s.2.2.1.length (inP l s)with | some r=>some r | none=>I8 s.2.2.2.1.length (KA l s)
def arF (op:Int):Int:=(dK op).getD 0
theorem a6C {op:Int} (h:1≤op∧op≤39):∃k:Fin 40,op=(k.val:Int):=⟨⟨op.toNat,by omega⟩,by simp;omega⟩
theorem b0H:∀k:Fin 40,1≤k.val→(bz (k.val:Int)=dK (k.val:Int))∧(dK (k.val:Int)=some 0∨dK (k.val:Int)=some 1∨dK (k.val:Int)=some 2∨dK (k.val:Int)=some 3):=by decide+kernel
theorem KG {op:Int} (h:¬(1≤op∧op≤39)) (k:Int) (h1:1≤k) (h2:k≤39):ieq op k=false:=fF (by omega)
theorem SH {op:Int} (h:¬(1≤op∧op≤39)):dK op=some (-1):=by
 unfold dK
 by_cases h1:1≤op
 ·rw[aF h1,o6,aU (show(9:Int)<op by omega),o5,aU (show(39:Int)<op by omega),aU (show(30:Int)<op by omega)]
  simp[KG h]
  cases ile 35 op <;> cases ile 11 op <;> rfl
 ·rw[aU (show op<1 by omega),o5,aU (show op<35 by omega),aU (show op<11 by omega)]
  simp[KG h]
theorem a5Z {op:Int} (h:¬(1≤op∧op≤39)):bz op=some (-1):=by
 unfold bz
 simp[KG h]
theorem LZ (op:Int):bz op=some (arF op)∧dK op=some (arF op)∧(arF op=-1∨arF op=0∨arF op=1∨arF op=2∨arF op=3):=by
 unfold arF
 by_cases h:1≤op∧op≤39
 ·obtain⟨k,rfl⟩:=a6C h
  obtain⟨h1,h2⟩:=b0H k (by omega)
  rcases h2 with h2 | h2 | h2 | h2 <;> rw[h1,h2] <;> simp
 ·rw[a5Z h,SH h];simp
theorem a1h (op:Int):bz op=some (arF op):=(LZ op).1
inductive XT where
 | l0 (n:Int×Int) | l1 (n:Int×Int) (a:XT) | l2 (n:Int×Int) (a b:XT) | l3 (n:Int×Int) (a b c:XT)
def XT.size:XT→Nat
 | .l0 _=>1 | .l1 _ a=>a.size+1 | .l2 _ a b=>a.size+b.size+1 | .l3 _ a b c=>a.size+b.size+c.size+1
def XT.post:XT→List (Int×Int)
 | .l0 n=>[n] | .l1 n a=>a.post++[n] | .l2 n a b=>a.post++b.post++[n] | .l3 n a b c=>a.post++b.post++c.post++[n]
def XT.sts (o:Nat):XT→List Int
 | .l0 _=>[(o:Int)]
 | .l1 _ a=>a.sts o++[(o:Int)]
 | .l2 _ a b=>a.sts o++b.sts (o+a.size)++[(o:Int)]
 | .l3 _ a b c=>a.sts o++b.sts (o+a.size)++c.sts (o+a.size+b.size)++[(o:Int)]
theorem XT.size_pos (t:XT):0<t.size:=by cases t <;> simp[XT.size]
theorem XT.post_len (t:XT):t.post.length=t.size:=by
 induction t with
 | l0 n=>rfl
 | l1 n a ha=>simp[XT.post,XT.size,ha]
 | l2 n a b ha hb=>simp[XT.post,XT.size,ha,hb];try omega
 | l3 n a b c ha hb hc=>simp[XT.post,XT.size,ha,hb,hc];try omega
theorem XT.sts_len (t:XT):∀o,(t.sts o).length=t.size:=by
 induction t with
 | l0 n=>intro o;rfl
 | l1 n a ha=>intro o;simp[XT.sts,XT.size,ha]
 | l2 n a b ha hb=>intro o;simp[XT.sts,XT.size,ha,hb];try omega
 | l3 n a b c ha hb hc=>intro o;simp[XT.sts,XT.size,ha,hb,hc];try omega
def au:List XT→Nat
 | []=>0
 | t::r=>au r+t.size
def vk:List XT→List (Int×Int)
 | []=>[]
 | t::r=>vk r++t.post
def stR:List XT→List Int
 | []=>[]
 | t::r=>stR r++t.sts (au r)
def fE:List XT→List Int
 | []=>[]
 | t::r=>fE r++[(au r:Int)]
theorem eX:∀ts,(fE ts).length=ts.length
 | []=>rfl
 | t::r=>by simp[fE,eX r]
theorem Bi:∀ts,(stR ts).length=au ts
 | []=>rfl
 | t::r=>by simp[stR,au,Bi r,XT.sts_len]
theorem xN:∀ts,(vk ts).length=au ts
 | []=>rfl
 | t::r=>by simp[vk,au,xN r,XT.post_len]
def push (n:Int×Int) (ts:List XT):Int⊕List XT:=
 if arF n.1=0 then .inr (.l0 n::ts)
 else if arF n.1=1 then(match ts with | a::r=> .inr (.l1 n a::r) | _=> .inl 5)
 else if arF n.1=2 then(match ts with | b::a::r=> .inr (.l2 n a b::r) | _=> .inl 5)
 else if arF n.1=3 then(match ts with | c::b::a::r=> .inr (.l3 n a b c::r) | _=> .inl 5)
 else .inl 2
def jk:Nat→List (Int×Int)→List XT→(Int×Int)⊕List XT
 | _,[],ts=> .inr ts
 | i,n::es,ts=>match push n ts with
  | .inl c=> .inl ((i:Int),c)
  | .inr ts' =>if 12<ts'.length then .inl ((i:Int),16)else jk (i+1) es ts'
def gU (e:List (Int×Int)):(Int×Int)⊕XT:=
 if 48<e.length then .inl (0,4)else if e.length=0 then .inl (0,5)else
  match jk 0 e []with
  | .inl x=> .inl x
  | .inr [t]=> .inr t
  | .inr _=> .inl ((e.length:Int),4)
theorem JG {n:Int×Int} {ts ts' :List XT} (h:push n ts= .inr ts'):vk ts' =vk ts++[n]∧ts' ≠[]:=by
 unfold push at h
 split at h
 ·cases h;exact⟨rfl,by simp⟩
 split at h
 ·split at h
  ·cases h;exact⟨by simp[vk,XT.post],by simp⟩
  ·cases h
 split at h
 ·split at h
  ·cases h;exact⟨by simp[vk,XT.post],by simp⟩
  ·cases h
 split at h
 ·split at h
  ·cases h;exact⟨by simp[vk,XT.post],by simp⟩
  ·cases h
 ·cases h
theorem xP {n:Int×Int} {ts ts' :List XT} (h:push n ts= .inr ts'):au ts' =au ts+1:=by
 rw[←xN,←xN,(JG h).1];simp
theorem uA:∀(es:List (Int×Int)) (i:Nat) (ts ts' :List XT),jk i es ts= .inr ts' →vk ts' =vk ts++es∧(ts≠[]∨es≠[]→ts' ≠[])
 | [],i,ts,ts',h=>by cases h;exact⟨by simp,by simp⟩
 | n::es,i,ts,ts',h=>by
  unfold jk at h
  cases hp:push n ts with
  | inl c=>rw[hp]at h;cases h
  | inr t2=>
   rw[hp]at h
   simp only at h
   split at h
   ·cases h
   ·obtain⟨h1,h2⟩:=uA es (i+1) t2 ts' h
    obtain⟨h3,h4⟩:=JG hp
    exact⟨by rw[h1,h3];simp,fun _=>h2 (.inl h4)⟩
theorem Oq {e:List (Int×Int)} {t:XT} (h:gU e= .inr t):e=t.post∧e.length≤48:=by
 unfold gU at h
 split at h
 ·cases h
 split at h
 ·cases h
 split at h
 ·cases h
 ·rename_i t' hp
  cases h
  have:=(uA e 0 [] [t] hp).1
  exact⟨by simpa[vk]using this.symm,by omega⟩
 ·cases h
theorem Oo {σ ε ρ:Type} (e:List (Int×Int)) (he:e.length≤48) (g:List XT→σ) (fin:List XT→ε) (rt:Int×Int→ρ) {f:σ→Option (Out σ ε ρ)}
  (hs:∀(i:Nat) (n:Int×Int) (ts:List XT),e[i]? =some n→i=au ts→ts.length≤12→f (g ts)=some (match push n ts with
   | .inl c=> .rt (rt ((i:Int),c))
   | .inr ts' =>if 12<ts'.length then .rt (rt ((i:Int),16))else .nx (g ts')))
  (hend:∀ts,au ts=e.length→f (g ts)=some (.ex (fin ts))):
  G8 f (g [])=some (match jk 0 e []with | .inl x=> .inr (rt x) | .inr ts=> .inl (fin ts)):=by
 have key:∀(es:List (Int×Int)) (i:Nat) (ts:List XT) (k:Nat),e.drop i=es→i=au ts→ts.length≤12→i≤e.length→es.length<k→
   bV f k (g ts)=some (match jk i es ts with | .inl x=> .inr (rt x) | .inr ts=> .inl (fin ts)):=by
  intro es
  induction es with
  | nil=>
   intro i ts k hd hi hl hle hk
   obtain⟨k,rfl⟩:∃k',k=k' +1:=⟨k -1,by omega⟩
   have:i=e.length:=by have:=congrArg List.length hd;simp at this;omega
   unfold bV
   rw[hend ts (by omega)];rfl
  | cons n es ih=>
   intro i ts k hd hi hl hle hk
   obtain⟨k,rfl⟩:∃k',k=k' +1:=⟨k -1,by omega⟩
   have hn:e[i]? =some n:=by
    have:(e.drop i)[0]? =some n:=by rw[hd];rfl
    simpa using this
   have hlt:=(J4.1 hn).1
   unfold bV
   rw[hs i n ts hn hi hl]
   unfold jk
   cases hp:push n ts with
   | inl c=>rfl
   | inr ts' =>
    simp only
    by_cases h12:12<ts'.length
    ·rw[if_pos h12,if_pos h12]
    ·rw[if_neg h12,if_neg h12]
     exact ih (i+1) ts' k (by rw[←List.drop_drop,hd];rfl) (by rw[xP hp,hi]) (by omega) (by omega) (by simp at hk;omega)
 exact key e 0 [] bH rfl rfl (by simp) (by omega) (by unfold bH;omega)
theorem NE:∀(p r:List XT),∃X,fE (p++r)=fE r++X∧X.length=p.length∧(p≠[]→X.head?=some (au r:Int))
 | [],r=>⟨[],by simp,rfl,fun h=>absurd rfl h⟩
 | a::p,r=>by
  obtain⟨X,h1,h2,h3⟩:=NE p r
  refine⟨X++[(au (p++r):Int)],?_,by simp[h2],fun _=>?_⟩
  ·show fE (p++r)++[(au (p++r):Int)]=_
   rw[h1,List.append_assoc]
  ·cases p with
   | nil=>simp at h2;subst h2;rfl
   | cons b p=>rw[List.head?_append,h3 (by simp)];rfl
theorem PQ (p r:List XT) (k:Int) (hk:k=(p.length:Int)) (h:p.length+r.length≤100) (hp:p≠[]):
  E9 .i64 (o7 (fE (p++r))) k=(r.length:Int)∧lat (fE (p++r)) (r.length:Int)=some (au r:Int)∧H6 (fE (p++r)) (toN (r.length:Int))=some (au r:Int)
  ∧gK 0 (r.length:Int) (o7 (fE (p++r)))=true∧dF (fE (p++r)) (toN 0) (toN (r.length:Int))=fE r:=by
 obtain⟨X,h1,h2,h3⟩:=NE p r
 have hl:(fE (p++r)).length=r.length+p.length:=by rw[eX];simp;omega
 have hg:(fE (p++r))[r.length]? =some (au r:Int):=by
  rw[h1,List.getElem?_append_right (by rw[eX];omega),eX,Nat.sub_self,←List.head?_eq_getElem?]
  exact h3 hp
 refine⟨?_,?_,?_,?_,?_⟩
 ·simp only[o7,hl]
  rw[Gn (by unfold I64;omega)];omega
 ·rw[D9];exact hg
 ·exact hg
 ·simp only[gK,o7,hl,decide_eq_true_eq];omega
 ·show((fE (p++r)).take r.length).drop 0=_
  rw[h1,List.drop_zero,List.take_append_of_le_length (by rw[eX];omega),List.take_of_length_le (by rw[eX];omega)]
theorem Rn (ts:List XT):ilt 12 (o7 (fE ts))=decide (12<ts.length):=by
 rw[show o7 (fE ts)=((ts.length:Nat):Int) by simp[o7,eX]]
 exact Ro 12 ts.length
theorem jg {α:Type} {l:List α} (x:α) (h:l.length≤1000000):Y7 l [x]=some (l++[x]):=Ai (by simp;omega)
theorem Gi (ts:List XT) (k:Nat):ilt (o7 (fE ts)) (k:Int)=decide (ts.length<k):=by
 rw[show o7 (fE ts)=((ts.length:Nat):Int) by simp[o7,eX]]
 exact Ro _ _
def qR (e:List (Int×Int)):List Int×Int×Int:=match gU e with | .inl x=>([],x) | .inr t=>(t.sts 0,0,0)
theorem UO {e:List (Int×Int)} (h0:e.length≠0) {K:List Int×Int×Int→List Int×Int×Int} (h48:¬48<e.length)
  {r:List Int×Int×Int} (h:∀ts,jk 0 e []= .inr ts→r=l7 (ilt 1 (o7 (fE ts))) ([],o7 e,4) (stR ts,0,0)) (hi:∀x,jk 0 e []= .inl x→r=([],x)):r=qR e:=by
 unfold qR gU
 rw[if_neg h48,if_neg h0]
 cases hp:jk 0 e []with
 | inl x=>exact hi x hp
 | inr ts=>
  rw[h ts hp]
  have:=(uA e 0 [] ts hp).2 (.inr (by intro he;subst he;exact h0 rfl))
  match ts,this with
  | [t],_=>simp[fE,o7,ilt,stR,au]
  | a::b::ts,_=>
   rw[aC (by simp[o7,eX];omega)];rfl
def pd (l:List Int) (k:Nat):List Int:=l++List.replicate k 0
theorem WO (l:List Int) (m:Nat):lat (pd l (m+1)) (l.length:Int)=some 0:=by
 rw[D9];unfold pd
 rw[List.getElem?_append_right (by omega),Nat.sub_self];rfl
theorem a0m (l:List Int) (m:Nat):H6 (pd l (m+1)) (toN (l.length:Int))=some 0:=by
 have:=WO l m;rw[D9]at this;exact this
theorem a6E (l:List Int) (m:Nat) (v:Int):I9 (pd l (m+1)) (toN (l.length:Int)) v=pd (l++[v]) m:=by
 show(l++List.replicate (m+1) 0).set l.length v=_
 rw[List.set_append_right _ _ (by omega),Nat.sub_self,List.replicate_succ]
 simp[pd]
theorem EL (l:List Int) (m:Nat) (v w:Int):I9 (pd (l++[v]) m) (toN (l.length:Int)) w=pd (l++[w]) m:=by
 show(l++[v]++List.replicate m 0).set l.length w=_
 rw[List.append_assoc,List.set_append_right _ _ (by omega),Nat.sub_self]
 simp[pd]
theorem AC (l:List Int) (m:Nat) (v:Int):lat (pd (l++[v]) m) (l.length:Int)=some v:=by
 rw[D9];unfold pd
 rw[List.append_assoc,List.getElem?_append_right (by omega),Nat.sub_self];rfl
theorem AL (l:List Int) (m:Nat) (v:Int):H6 (pd (l++[v]) m) (toN (l.length:Int))=some v:=by
 have:=AC l m v;rw[D9]at this;exact this
theorem LH (e:List (Int×Int)):iD e=some (qR e):=by
 unfold iD
 by_cases h48:48<e.length
 ·rw[aC (by simp[o7];omega),o6]
  unfold qR gU
  rw[if_pos h48]
 by_cases h0:e.length=0
 ·rw[aJ (by simp[o7];omega),o5,dE (by simp[o7,h0]),o6]
  unfold qR gU
  rw[if_neg h48,if_pos h0]
 rw[aJ (by simp[o7];omega),o5,fF (by simp[o7];intro h;exact h0 (by simp[h])),o5]
 rw[show iI (o7 e) (0:Int)=some (pd (stR []) (e.length -au [])) by simp[iI,o7,pd,stR,au];omega,o9]
 refine Z7 (Oo e (by omega) (fun ts=>(pd (stR ts) (e.length -au ts),fE ts,(au ts:Int))) (fun ts=>(pd (stR ts) (e.length -au ts),fE ts)) (fun x=>(([]:List Int),x)) (fun i n ts hn hi hl=>?_) (fun ts hsz=>?_)) ?_
 rotate_left 2
 ·rw[←UO h0 h48 (K:=id) (r:=match jk 0 e []with | .inl x=>([],x) | .inr ts=>l7 (ilt 1 (o7 (fE ts))) ([],o7 e,4) (stR ts,0,0)) (fun ts h=>by rw[h]) (fun x h=>by rw[h])]
  cases hp:jk 0 e []with
  | inl x=>rfl
  | inr ts=>
   have:=(uA e 0 [] ts hp).1
   have hz:e.length -au ts=0:=by
    have:=congrArg List.length this
    rw[xN]at this
    simp[vk]at this;omega
   simp only[o9,X9,hz,pd,List.replicate_zero,List.append_nil];cases ilt 1 (o7 (fE ts)) <;> rfl
 ·subst hi
  have hlt:=(J4.1 hn).1
  have hst:=Bi ts
  have hof:=eX ts
  obtain⟨m,hm⟩:∃m,e.length -au ts=m+1:=⟨e.length -au ts -1,by omega⟩
  simp only[F9 hn,o6,D9 e,hn,o9,a1h,hm]
  rw[←hst]
  simp only[WO,a0m,o9,a6E,AC,AL,EL]
  rw[hst]
  rcases(LZ n.1).2.2 with h | h | h | h | h
  ·rw[show push n ts= .inl 2 by simp[push,h],h];rfl
  ·have e0:E9 .i64 (o7 (fE ts)) 0=((fE ts).length:Int):=by rw[Gn (by unfold I64 o7;omega)];simp[o7]
   rw[show push n ts= .inr (.l0 n::ts) by simp[push,h],h,aJ (by omega),o5,aJ (Nj _),o5,o5,e0,show gK 0 ((fE ts).length:Int) (o7 (fE ts))=true by simp[gK,o7],o6,
    show dF (fE ts) (toN 0) (toN ((fE ts).length:Int))=fE ts by simp[dF,toN],jg _ (by omega),o9,U4 (by omega)]
   rw[show fE ts++[(au ts:Int)]=fE (.l0 n::ts)from rfl,Rn]
   by_cases hc:12<(XT.l0 n::ts).length
   ·simp only[hc,decide_true,if_true,o6]
   ·simp only[hc,decide_false,if_false,o5,au,XT.size,stR,XT.sts,show e.length -(au ts+1)=m by omega]
  ·match ts with
   | []=>rw[show push n []= .inl 5 by simp[push,h],h];rfl
   | a::r=>
    obtain⟨p1,p2,p3,p4,p5⟩:=PQ [a] r 1 rfl (by simp at hl ⊢;omega) (by simp)
    simp only[List.cons_append,List.nil_append]at p1 p2 p3 p4 p5
    have:=Bi (a::r);have:=eX r
    simp only[List.length_cons]at hl
    rw[show push n (a::r)= .inr (.l1 n a::r) by simp[push,h],h,aJ (by omega),o5,show(1:Int)=((1:Nat):Int)from rfl,Gi,show decide ((a::r).length<1)=false by simp]
    simp only[Int.natCast_one]at p1 ⊢
    rw[o5,aC (by omega),o6,p1,p2,o9,p3,o9,p4,o6,p5]
    rw[←hst]
    try simp only[EL,AC,AL,o9]
    rw[hst,jg _ (by omega),o9,U4 (by omega)]
    rw[show fE r++[(au r:Int)]=fE (.l1 n a::r)from rfl,Rn]
    have hz:=xP (show push n (a::r)= .inr (.l1 n a::r) by simp[push,h])
    by_cases hc:12<(XT.l1 n a::r).length
    ·simp only[hc,decide_true,if_true,o6]
    ·simp only[hc,decide_false,if_false,o5,hz,show e.length -(au (a::r)+1)=m by omega,stR,XT.sts,List.append_assoc]
  ·match ts with
   | []=>rw[show push n []= .inl 5 by simp[push,h],h];rfl
   | [a]=>rw[show push n [a]= .inl 5 by simp[push,h],h];rfl
   | b::a::r=>
    obtain⟨p1,p2,p3,p4,p5⟩:=PQ [b,a] r 2 rfl (by simp at hl ⊢;omega) (by simp)
    simp only[List.cons_append,List.nil_append]at p1 p2 p3 p4 p5
    have:=Bi (b::a::r);have:=eX r
    simp only[List.length_cons]at hl
    rw[show push n (b::a::r)= .inr (.l2 n a b::r) by simp[push,h],h,aJ (by omega),o5,show(2:Int)=((2:Nat):Int)from rfl,Gi,show decide ((b::a::r).length<2)=false by simp]
    rw[o5,aC (by omega),o6,show((2:Nat):Int)=2 from rfl,p1,p2,o9,p3,o9,p4,o6,p5]
    rw[←hst]
    try simp only[EL,AC,AL,o9]
    rw[hst,jg _ (by omega),o9,U4 (by omega)]
    rw[show fE r++[(au r:Int)]=fE (.l2 n a b::r)from rfl,Rn]
    have hz:=xP (show push n (b::a::r)= .inr (.l2 n a b::r) by simp[push,h])
    by_cases hc:12<(XT.l2 n a b::r).length
    ·simp only[hc,decide_true,if_true,o6]
    ·rw[hz,show e.length -(au (b::a::r)+1)=m by omega,show stR (.l2 n a b::r)=stR (b::a::r)++[(au r:Int)] by simp only[stR,XT.sts,List.append_assoc,au]];simp only[hc,decide_false,if_false,o5]
  ·match ts with
   | []=>rw[show push n []= .inl 5 by simp[push,h],h];rfl
   | [a]=>rw[show push n [a]= .inl 5 by simp[push,h],h];rfl
   | [b,a]=>rw[show push n [b,a]= .inl 5 by simp[push,h],h];rfl
   | c::b::a::r=>
    obtain⟨p1,p2,p3,p4,p5⟩:=PQ [c,b,a] r 3 rfl (by simp at hl ⊢;omega) (by simp)
    simp only[List.cons_append,List.nil_append]at p1 p2 p3 p4 p5
    have:=Bi (c::b::a::r);have:=eX r
    simp only[List.length_cons]at hl
    rw[show push n (c::b::a::r)= .inr (.l3 n a b c::r) by simp[push,h],h,aJ (by omega),o5,show(3:Int)=((3:Nat):Int)from rfl,Gi,show decide ((c::b::a::r).length<3)=false by simp]
    rw[o5,aC (by omega),o6,show((3:Nat):Int)=3 from rfl,p1,p2,o9,p3,o9,p4,o6,p5]
    rw[←hst]
    try simp only[EL,AC,AL,o9]
    rw[hst,jg _ (by omega),o9,U4 (by omega)]
    rw[show fE r++[(au r:Int)]=fE (.l3 n a b c::r)from rfl,Rn]
    have hz:=xP (show push n (c::b::a::r)= .inr (.l3 n a b c::r) by simp[push,h])
    by_cases hc:12<(XT.l3 n a b c::r).length
    ·simp only[hc,decide_true,if_true,o6]
    ·rw[hz,show e.length -(au (c::b::a::r)+1)=m by omega,show stR (.l3 n a b c::r)=stR (c::b::a::r)++[(au r:Int)] by simp only[stR,XT.sts,List.append_assoc,au]];simp only[hc,decide_false,if_false,o5]
 ·simp only[hsz,F8];rfl
end Go.GP
namespace Go.GP
open Gt
set_option maxRecDepth 100000
def VT (t:Int×Int):Prop:=t=(1,0)∨t=(2,0)∨t=(3,0)∨t=(4,0)∨t=(5,0)∨∃e,t=(6,e)
theorem xn {t:Int×Int} {en:List X4} (h:vty t en=true):VT t:=by
 obtain⟨k,e⟩:=t
 unfold vty at h
 simp only at h
 cases h6:ieq k 6
 ·rw[h6,o5]at h
  cases h1:ile 1 k <;> rw[h1]at h
  ·cases h
  cases h5:ile k 5 <;> rw[h5]at h
  ·cases h
  simp only[o6,U9]at h
  rw[jG]at h1 h5
  subst h
  have:k=1∨k=2∨k=3∨k=4∨k=5:=by omega
  rcases this with rfl | rfl | rfl | rfl | rfl <;> simp[VT]
 ·rw[U9]at h6;subst h6
  exact .inr (.inr (.inr (.inr (.inr ⟨e,rfl⟩))))
def EN (n:Int×Int) (ops:List (Int×Int)) (sg:D8):Option ((Int×Int)×Int):=
 l7 (C9 (ieq n.2 0)) (l9 (aH n.1) fun u=>l7 (C9 u) (some ((0,0),2)) (G6 n ops sg)) (G6 n ops sg)
def fG (n:Int×Int) (ops:List (Int×Int)) (sg:D8):Prop:=∃r:(Int×Int)×Int,kZ n ops sg=some r∧EN n ops sg=some r∧(r.2=0→VT r.1)
theorem VT.lit {k:Int} (h:1≤k∧k≤5):VT (k,0):=by
 have:k=1∨k=2∨k=3∨k=4∨k=5:=by omega
 rcases this with rfl | rfl | rfl | rfl | rfl <;> simp[VT]
theorem EI (a b:Int):ile a b= !ilt b a:=by
 simp only[ilt,ile];rw[←decide_not];congr 1;simp
theorem qJ {α β:Type} (o:Option β) (f:α→Option β):l9 (l9 o fun x=>some (Sum.inr x)) (fun q=>I7 q f fun r=>some r)=o:=by cases o <;> rfl
theorem VT.enum (e:Int):VT (6,e):=.inr (.inr (.inr (.inr (.inr ⟨e,rfl⟩))))
theorem dH {R E:Option ((Int×Int)×Int)} {c:Int} (hc:c≠0) (h1:R=some ((0,0),c)) (h2:E=some ((0,0),c)):∃r:(Int×Int)×Int,R=some r∧E=some r∧(r.2=0→VT r.1):=⟨_,h1,h2,fun h=>absurd h hc⟩
theorem nok {R E:Option ((Int×Int)×Int)} {t:Int×Int} (hv:VT t) (h1:R=some (t,0)) (h2:E=some (t,0)):∃r:(Int×Int)×Int,R=some r∧E=some r∧(r.2=0→VT r.1):=⟨_,h1,h2,fun _=>hv⟩
def RR (a0:Int×Int) (a1:List (Int×Int)) (a2:D8):Option ((Int×Int)×Int):=
 l9 (fM a0 a2) fun(x:Bool)=>l7 (C9 x) (some ((0,0),3)) (l9 (iL a0 a2) fun(x:Bool)=>l7 (C9 x) (some ((0,0),6))
  (l7 (ieq (o7 a1) 0) (l9 (aI a0 a2) fun(x:A7×Bool)=>l7 (C9 x.2) (some ((0,0),8)) (some (x.1,0)))
  (l7 (ieq (o7 a1) 1) (l9 (lat a1 0) fun(x:A7)=>l9 (ja a0 x a2) fun(x:A7×Bool)=>l7 (C9 x.2) (some ((0,0),8)) (some (x.1,0)))
  (l7 (ieq (o7 a1) 2) (l9 (lat a1 0) fun(x:A7)=>l9 (lat a1 1) fun(x_1:A7)=>l9 (lg a0.1 x x_1) fun(x:A7×Bool)=>l7 (C9 x.2) (some ((0,0),8)) (some (x.1,0)))
  (l9 (lat a1 1) fun(x:A7)=>l9 (lat a1 0) fun(x_1:A7)=>l7 (ieq x_1.1 1) (l9 (lat a1 1) fun(x_2:A7)=>l9 (lat a1 2) fun(x_3:A7)=>
   l7 (C9 (P6 (ieq x_2.1 x_3.1) (ieq x_2.2 x_3.2))) (some ((0,0),8)) (some (x,0))) (l7 (C9 false) (some ((0,0),8)) (some (x,0))))))))
theorem a5G (n:Int×Int) (ops:List (Int×Int)) (sg:D8):kZ n ops sg=l7 (C9 (ieq n.2 0)) (l9 (X3 n.1) fun x=>l7 x (RR n ops sg) (some ((0,0),2))) (RR n ops sg):=by
 unfold kZ
 cases ieq n.2 0
 ·simp only[P7,o6]
  cases X3 n.1 with
  | none=>rfl
  | some b=>cases b <;> rfl
 ·rfl
theorem wI {op N:Int} {ops:List (Int×Int)} {sg:D8} (h1:aH op=some true) (h2:X3 op=some true)
  (h:∃r:(Int×Int)×Int,RR (op,N) ops sg=some r∧G6 (op,N) ops sg=some r∧(r.2=0→VT r.1)):fG (op,N) ops sg:=by
 unfold fG
 rw[a5G];unfold EN
 dsimp only
 rw[h1,h2]
 cases ieq N 0 <;> exact h
theorem CJ {op N:Int} {ops:List (Int×Int)} {sg:D8} (h1:aH op=some false) (h2:X3 op=some false)
  (h:∃r:(Int×Int)×Int,RR (op,0) ops sg=some r∧G6 (op,0) ops sg=some r∧(r.2=0→VT r.1)):fG (op,N) ops sg:=by
 unfold fG
 rw[a5G];unfold EN
 dsimp only
 rw[h1,h2]
 cases hz:ieq N 0
 ·exact dH (c:=2) (by decide) rfl rfl
 ·rw[U9]at hz;subst hz;exact h
section
variable (N:Int) (sg:D8)
theorem Ws {k:Int} (hk:k=1∨k=2∨k=3∨k=4∨k=5):fG (k,N) [] sg:=by
 have hv:vty (k,0) sg.1=true:=by rcases hk with rfl | rfl | rfl | rfl | rfl <;> rfl
 have hm:aH k=some true∧X3 k=some true:=by rcases hk with rfl | rfl | rfl | rfl | rfl <;> exact⟨rfl,rfl⟩
 refine wI hm.1 hm.2 ?_
 have key:G6 (k,N) [] sg=ak N k sg:=by rcases hk with rfl | rfl | rfl | rfl | rfl <;> exact qJ _ _
 have key2:RR (k,N) [] sg=l9 (l9 (dJ (k,0) sg.1) fun(x:A7)=>l7 (ile x.1 N) (some (ile N x.2)) (some false)) fun(x:Bool)=>l7 (C9 x) (some ((0,0),3)) (some ((k,0),0)):=by
  rcases hk with rfl | rfl | rfl | rfl | rfl <;> rfl
 rw[key,key2]
 unfold ak
 rw[Jc,Hg,o9,o9,qF,qF]
 cases ile (bnd (k,0) sg.1).1 N
 ·exact dH (c:=3) (by decide) rfl rfl
 cases ile N (bnd (k,0) sg.1).2
 ·exact dH (c:=3) (by decide) rfl rfl
 ·exact nok (xn hv) rfl rfl
theorem UD (hN:I64 N):fG (6,N) [] sg:=by
 have hq:0≤N→Z5 .i64 N 16=N / 16:=fun h=>by rw[Gm (by rw[Bl h];unfold I64 at*;omega),Bl h]
 refine wI rfl rfl ?_
 have hf:iL (6,N) sg=l7 (ilt (Z5 .i64 N 16) (o7 sg.1)) (l9 (lat sg.1 (Z5 .i64 N 16)) fun(x:X4)=>some (ilt (gz N 16) (o7 x.2))) (some false):=rfl
 have hl:aI (6,N) sg=some ((6,Z5 .i64 N 16),vty (6,Z5 .i64 N 16) sg.1):=by
  unfold aI;simp only[aP];rfl
 rw[show G6 (6,N) [] sg=mF N sg from qJ _ _]
 unfold RR mF
 rw[hf,show fM (6,N) sg=some (ile 0 N)from rfl,hl]
 by_cases h0:0≤N
 ·rw[aJ h0,aF h0,hq h0]
  by_cases h1:N / 16<o7 sg.1
  ·obtain⟨x,hx,_⟩:=um (show 0≤N / 16 by omega) h1
   rw[aC h1,aU h1,hx,show vty (6,N / 16) sg.1=true by unfold vty;simp only[aF (show 0≤N / 16 by omega),aC h1];rfl]
   simp only[o9,qF]
   cases ile (o7 x.2) (gz N 16)
   ·exact nok (VT.enum (N / 16)) rfl rfl
   ·exact dH (c:=6) (by decide) rfl rfl
  ·have h1' :o7 sg.1≤N / 16:=by omega
   rw[aJ h1',aF h1']
   exact dH (c:=6) (by decide) rfl rfl
 ·rw[aC (show N<0 by omega),aU (show N<0 by omega)]
  exact dH (c:=3) (by decide) rfl rfl
theorem kX (ts:List (Int×Int)) (en:D8):(∃x,lat ts N=some x∧ile 0 N=true∧ilt N (o7 ts)=true∧Z8 N ts en=some (l7 (vty x en.1) (x,0) ((0,0),8)))∨((ile 0 N=false∨ile 0 N=true∧ilt N (o7 ts)=false)∧Z8 N ts en=some ((0,0),6)):=by
 unfold Z8
 rw[qF N 0,EI (o7 ts) N]
 cases h0:ile 0 N
 ·exact .inr ⟨.inl (by simp),rfl⟩
 cases h1:ilt N (o7 ts)
 ·exact .inr ⟨.inr (by simp),rfl⟩
 rw[jG]at h0;rw[uj]at h1
 obtain⟨x,hx,_⟩:=um h0 h1
 rw[hx]
 simp only[Bool.not_true,Bool.not_false,o5,o6,o9,jd]
 exact .inl ⟨x,rfl,by simp,by simp,by cases vty x en.1 <;> rfl⟩
theorem a0f:fG (7,N) [] sg:=by
 refine wI rfl rfl ?_
 rw[show G6 (7,N) [] sg=Z8 N sg.2.2.1 sg from qJ _ _]
 have hf:iL (7,N) sg=l7 (ile 0 N) (some (ilt N (o7 sg.2.2.1))) (some false):=rfl
 unfold RR
 rw[hf,show fM (7,N) sg=some true from rfl]
 rcases kX N sg.2.2.1 sg with⟨x,h1,h2,h3,h4⟩ | ⟨h1 | ⟨h1,h2⟩,h4⟩
 ·have hl:aI (7,N) sg=some (x,vty x sg.1):=by
   unfold aI;dsimp only;rw[h1];simp only[aP];rfl
  rw[h2,h3,h4,hl]
  cases hv:vty x sg.1
  ·exact dH (c:=8) (by decide) rfl rfl
  ·exact nok (xn hv) rfl rfl
 ·rw[h1,h4];exact dH (c:=6) (by decide) rfl rfl
 ·rw[h1,h2,h4];exact dH (c:=6) (by decide) rfl rfl
theorem Wq:fG (8,N) [] sg:=by
 refine wI rfl rfl ?_
 rw[show G6 (8,N) [] sg=Z8 N sg.2.2.2.1 sg from qJ _ _]
 have hf:iL (8,N) sg=l7 (ile 0 N) (some (ilt N (o7 sg.2.2.2.1))) (some false):=rfl
 unfold RR
 rw[hf,show fM (8,N) sg=some true from rfl]
 rcases kX N sg.2.2.2.1 sg with⟨x,h1,h2,h3,h4⟩ | ⟨h1 | ⟨h1,h2⟩,h4⟩
 ·have hl:aI (8,N) sg=some (x,vty x sg.1):=by
   unfold aI;dsimp only;rw[h1];simp only[aP];rfl
  rw[h2,h3,h4,hl]
  cases hv:vty x sg.1
  ·exact dH (c:=8) (by decide) rfl rfl
  ·exact nok (xn hv) rfl rfl
 ·rw[h1,h4];exact dH (c:=6) (by decide) rfl rfl
 ·rw[h1,h2,h4];exact dH (c:=6) (by decide) rfl rfl
theorem UC:fG (9,N) [] sg:=CJ rfl rfl (nok (VT.lit (k:=5) (by omega)) rfl rfl)
theorem PI:fG (35,N) [] sg:=by
 refine CJ rfl rfl ?_
 rw[show G6 (35,0) [] sg=dn (35,0) sg from qJ _ _]
 unfold RR dn
 simp only[fM,iL,aI,aP,o9]
 cases sg.2.2.2.2.2
 ·exact dH (c:=6) (by decide) rfl rfl
 ·exact nok (VT.lit (k:=2) (by omega)) rfl rfl
theorem Wu {k:Int} (hk:k=36∨k=37∨k=38∨k=39):fG (k,N) [] sg:=by
 have hm:aH k=some true∧X3 k=some true∧ieq k 35=false:=by rcases hk with rfl | rfl | rfl | rfl <;> exact⟨rfl,rfl,rfl⟩
 refine wI hm.1 hm.2.1 ?_
 rw[show G6 (k,N) [] sg=dn (k,N) sg by rcases hk with rfl | rfl | rfl | rfl <;> exact qJ _ _]
 have hr:RR (k,N) [] sg=l9 (l7 sg.2.2.2.2.2 (l7 (ile 0 N) (some (ilt N (o7 sg.2.2.2.2.1))) (some false)) (some false)) fun(x:Bool)=>l7 (C9 x) (some ((0,0),6))
   (l9 (aI (k,N) sg) fun(x:A7×Bool)=>l7 (C9 x.2) (some ((0,0),8)) (some (x.1,0))):=by rcases hk with rfl | rfl | rfl | rfl <;> rfl
 rw[hr]
 unfold dn
 rw[hm.2.2,o5]
 cases sg.2.2.2.2.2
 ·exact dH (c:=6) (by decide) rfl rfl
 simp only[o6,E5,o5]
 rcases kX N sg.2.2.2.2.1 sg with⟨x,h1,h2,h3,h4⟩ | ⟨h1 | ⟨h1,h2⟩,h4⟩
 ·rw[h2,h3,h4]
  have hl:aI (k,N) sg=l9 (some (l7 (ieq k 36) (l7 (vty x sg.1) (l7 (ieq x.1 2) true (ieq x.1 3)) false) (l7 (ieq k 39) (l7 (vty x sg.1) (l7 (ieq x.1 2) true (l7 (ieq x.1 3) true (l7 (ieq x.1 4) true (ieq x.1 5)))) false) (l7 (vty x sg.1) (ieq x.1 1) false)))) fun b=>some (x,b):=by
   unfold aI
   simp only[aP,gu,lh]
   rcases hk with rfl | rfl | rfl | rfl <;> (rw[h1];simp only[ieq,Int.reduceEq,decide_true,decide_false,o6,o5,o9];cases vty x sg.1 <;> cases decide (x.1=2) <;> cases decide (x.1=3) <;> cases decide (x.1=4) <;> rfl)
  rw[hl]
  simp only[o9,aN]
  cases hv:vty x sg.1
  ·rcases hk with rfl | rfl | rfl | rfl <;> exact dH (c:=8) (by decide) rfl rfl
  ·have hx:=xn hv
   rcases hk with rfl | rfl | rfl | rfl <;> rcases hx with rfl | rfl | rfl | rfl | rfl | ⟨e,rfl⟩ <;>
    first
    | exact nok (xn hv) rfl rfl
    | exact dH (c:=8) (by decide) rfl rfl
 ·rw[h1,h4];exact dH (c:=6) (by decide) rfl rfl
 ·rw[h1,h2,h4];exact dH (c:=6) (by decide) rfl rfl
end
end Go.GP
namespace Go.GP
open Gt
set_option maxRecDepth 100000
section
variable (N:Int) (sg:D8)
theorem a0g {k:Int} (hk:k=10∨k=25∨k=31∨k=32) {a:Int×Int} (ha:VT a):fG (k,N) [a] sg:=by
 have hm:aH k=some false∧X3 k=some false:=by rcases hk with rfl | rfl | rfl | rfl <;> exact⟨rfl,rfl⟩
 refine CJ hm.1 hm.2 ?_
 rcases hk with rfl | rfl | rfl | rfl <;> rcases ha with rfl | rfl | rfl | rfl | rfl | ⟨e,rfl⟩ <;>
  first
  | exact nok (VT.lit (k:=1) (by omega)) rfl rfl
  | exact nok (VT.lit (k:=2) (by omega)) rfl rfl
  | exact nok (VT.lit (k:=3) (by omega)) rfl rfl
  | exact nok (VT.lit (k:=4) (by omega)) rfl rfl
  | exact dH (c:=8) (by decide) rfl rfl
theorem Wp {k:Int} (hk:k=13∨k=23∨k=24∨k=27∨k=28∨k=29∨k=30) {a b:Int×Int} (ha:VT a) (hb:VT b):fG (k,N) [a,b] sg:=by
 have hm:aH k=some false∧X3 k=some false:=by rcases hk with rfl | rfl | rfl | rfl | rfl | rfl | rfl <;> exact⟨rfl,rfl⟩
 refine CJ hm.1 hm.2 ?_
 rcases hk with rfl | rfl | rfl | rfl | rfl | rfl | rfl <;> rcases ha with rfl | rfl | rfl | rfl | rfl | ⟨e,rfl⟩ <;> rcases hb with rfl | rfl | rfl | rfl | rfl | ⟨f,rfl⟩ <;>
  first
  | exact dH (c:=8) (by decide) rfl rfl
  | exact nok (VT.lit (k:=1) (by omega)) rfl rfl
  | exact nok (VT.lit (k:=2) (by omega)) rfl rfl
  | exact nok (VT.lit (k:=3) (by omega)) rfl rfl
  | exact nok (VT.lit (k:=4) (by omega)) rfl rfl
  | exact nok (VT.lit (k:=5) (by omega)) rfl rfl
theorem UE {k:Int} (hk:k=14∨k=15∨k=16) {a b:Int×Int} (ha:VT a) (hb:VT b):fG (k,N) [a,b] sg:=by
 have hm:aH k=some true∧X3 k=some true:=by rcases hk with rfl | rfl | rfl <;> exact⟨rfl,rfl⟩
 refine wI hm.1 hm.2 ?_
 have hr:RR (k,N) [a,b] sg=l9 (l7 (ile 0 N) (some (ile N 5)) (some false)) fun x=>l7 (C9 x) (some ((0,0),3)) (l9 (lg k a b) fun x=>l7 (C9 x.2) (some ((0,0),8)) (some (x.1,0))):=by
  rcases hk with rfl | rfl | rfl <;> rfl
 have he:G6 (k,N) [a,b] sg=l9 (l7 (ile 0 N) (some (ile N 5)) (some false)) fun x=>l7 (C9 x) (some ((0,0),3)) (l9 (bD k [a,b]) fun x=>l7 (C9 x.2) (some ((0,0),8)) (some (x.1,0))):=by
  rcases hk with rfl | rfl | rfl <;>
   (show l9 (l9 (aT N) fun x=>l7 (C9 x) (some (Sum.inr (((0:Int),(0:Int)),(3:Int)))) (some (.inl ((0:Int),(0:Int))))) _=_
    unfold aT
    cases ile 0 N <;> cases ile N 5 <;> rfl)
 rw[hr,he]
 cases ile 0 N
 ·exact dH (c:=3) (by decide) rfl rfl
 cases ile N 5
 ·exact dH (c:=3) (by decide) rfl rfl
 rcases hk with rfl | rfl | rfl <;> rcases ha with rfl | rfl | rfl | rfl | rfl | ⟨e,rfl⟩ <;> rcases hb with rfl | rfl | rfl | rfl | rfl | ⟨f,rfl⟩ <;>
  first
  | exact dH (c:=8) (by decide) rfl rfl
  | exact nok (VT.lit (k:=2) (by omega)) rfl rfl
  | exact nok (VT.lit (k:=3) (by omega)) rfl rfl
  | exact nok (VT.lit (k:=4) (by omega)) rfl rfl
theorem UF {k:Int} (hk:k=11∨k=12∨k=17∨k=18∨k=19∨k=20∨k=21∨k=22) {a b:Int×Int} (ha:VT a):fG (k,N) [a,b] sg:=by
 have hm:aH k=some false∧X3 k=some false:=by rcases hk with rfl | rfl | rfl | rfl | rfl | rfl | rfl | rfl <;> exact⟨rfl,rfl⟩
 refine CJ hm.1 hm.2 ?_
 have hr:RR (k,0) [a,b] sg=l9 (lg k a b) fun x=>l7 (C9 x.2) (some ((0,0),8)) (some (x.1,0)):=by
  rcases hk with rfl | rfl | rfl | rfl | rfl | rfl | rfl | rfl <;> rfl
 have he:G6 (k,0) [a,b] sg=l9 (bD k [a,b]) fun x=>l7 (C9 x.2) (some ((0,0),8)) (some (x.1,0)):=by
  rcases hk with rfl | rfl | rfl | rfl | rfl | rfl | rfl | rfl <;> rfl
 rw[hr,he]
 unfold lg bD
 simp only[show lat [a,b] 0=some a from rfl,show lat [a,b] 1=some b from rfl,o9,lh,gu,Y1,aN]
 cases h1:ieq a.1 b.1
 ·rcases hk with rfl | rfl | rfl | rfl | rfl | rfl | rfl | rfl <;> exact dH (c:=8) (by decide) rfl rfl
 cases h2:ieq a.2 b.2
 ·rcases hk with rfl | rfl | rfl | rfl | rfl | rfl | rfl | rfl <;> exact dH (c:=8) (by decide) rfl rfl
 have ha' :=ha
 rcases hk with rfl | rfl | rfl | rfl | rfl | rfl | rfl | rfl <;> rcases ha with rfl | rfl | rfl | rfl | rfl | ⟨e,rfl⟩ <;>
  first
  | exact nok ha' rfl rfl
  | exact nok (VT.lit (k:=1) (by omega)) rfl rfl
  | exact dH (c:=8) (by decide) rfl rfl
theorem a0e {a b c:Int×Int} (ha:VT a) (hb:VT b):fG (26,N) [a,b,c] sg:=by
 refine CJ rfl rfl ?_
 have hr:RR (26,0) [a,b,c] sg=l7 (ieq a.1 1) (l7 (C9 (P6 (ieq b.1 c.1) (ieq b.2 c.2))) (some ((0,0),8)) (some (b,0))) (some ((0,0),8)):=rfl
 have he:G6 (26,0) [a,b,c] sg=l9 (bD 26 [a,b,c]) fun x=>l7 (C9 x.2) (some ((0,0),8)) (some (x.1,0)):=rfl
 have he2:bD 26 [a,b,c]=l9 (l7 (ieq a.1 1) (some (Sum.inr (b,P6 (ieq b.1 c.1) (ieq b.2 c.2)))) (some (Sum.inr (b,false)))) fun(o:A7⊕A7×Bool)=>I7 o (fun(x:A7)=>some ((0,0),false)) fun(r:A7×Bool)=>some r:=rfl
 rw[hr,he,he2]
 cases ieq a.1 1
 ·exact dH (c:=8) (by decide) rfl rfl
 cases ieq b.1 c.1
 ·exact dH (c:=8) (by decide) rfl rfl
 cases ieq b.2 c.2
 ·exact dH (c:=8) (by decide) rfl rfl
 ·exact nok hb rfl rfl
theorem NC {a:Int×Int} (ha:VT a):fG (33,N) [a] sg:=by
 refine wI rfl rfl ?_
 have he:G6 (33,N) [a] sg=eH (33,N) a sg:=qJ _ _
 have hr:RR (33,N) [a] sg=l9 (l7 (ile 0 N) (some (ilt N (o7 sg.2.1))) (some false)) fun x=>l7 (C9 x) (some ((0,0),6)) (l9 (ja (33,N) a sg) fun x=>l7 (C9 x.2) (some ((0,0),8)) (some (x.1,0))):=rfl
 have hs:ja (33,N) a sg=l9 (lat sg.2.1 N) fun(x:V7)=>l9 (U5 x.2.1 sg.1) fun(x_1:Bool)=>l7 x_1 (l9 (U5 x.2.2.1 sg.1) fun(x_2:Bool)=>l7 x_2 (some (x.2.2.1,P6 (ieq a.1 x.2.1.1) (ieq a.2 x.2.1.2))) (some (x.2.2.1,false))) (some (x.2.2.1,false)):=rfl
 rw[he,hr,hs]
 unfold eH
 simp only[ieq,Int.reduceEq,decide_false,o5,o9,X9,qF N 0,EI (o7 sg.2.1) N]
 cases h0:ile 0 N
 ·exact dH (c:=6) (by decide) rfl rfl
 cases h1:ilt N (o7 sg.2.1)
 ·exact dH (c:=6) (by decide) rfl rfl
 rw[jG]at h0;rw[uj]at h1
 obtain⟨x,hx,_⟩:=um h0 h1
 simp only[o9,X9,Bool.not_true,o5,hx,jd,aP,P7,o6]
 cases vty x.2.1 sg.1
 ·exact dH (c:=8) (by decide) rfl rfl
 cases hv:vty x.2.2.1 sg.1
 ·exact dH (c:=8) (by decide) rfl rfl
 simp only[E5,o5,o6,o9]
 cases P6 (decide (a.1=x.2.1.1)) (decide (a.2=x.2.1.2))
 ·exact dH (c:=8) (by decide) rfl rfl
 ·exact nok (xn hv) rfl rfl
theorem IK (hN:I64 N) {a:Int×Int} (ha:VT a):fG (34,N) [a] sg:=by
 refine wI rfl rfl ?_
 have he:G6 (34,N) [a] sg=eH (34,N) a sg:=qJ _ _
 have hr:RR (34,N) [a] sg=l9 (l7 (ile 0 N) (some (ile (gz N 8) 5)) (some false)) fun x=>l7 (C9 x) (some ((0,0),3)) (l7 (C9 (ilt (Z5 .i64 N 8) (o7 sg.2.1))) (some ((0,0),6)) (l9 (ja (34,N) a sg) fun x=>l7 (C9 x.2) (some ((0,0),8)) (some (x.1,0)))):=rfl
 have hs:ja (34,N) a sg=l9 (lat sg.2.1 (Z5 .i64 N 8)) fun(x:V7)=>l7 (ieq a.1 3) (l7 (P6 (ieq x.2.1.1 3) (ieq x.2.1.2 0)) (some (a,P6 (ieq x.2.2.1.1 4) (ieq x.2.2.1.2 0))) (some (a,false))) (some (a,false)):=rfl
 rw[he,hr,hs]
 unfold eH aT
 by_cases h0:0≤N
 case neg=>
  rw[aU (show N<0 by omega),aC (show N<0 by omega)]
  exact dH (c:=3) (by decide) rfl rfl
 have hq:Z5 .i64 N 8=N / 8:=by rw[Gm (by rw[Bl h0];unfold I64 at*;omega),Bl h0]
 rw[aF h0,aJ h0,hq,MR h0]
 simp only[ieq,Int.reduceEq,decide_true,o6,o5,aF (show 0≤N % 8 by omega),o9]
 cases ile (N % 8) 5
 ·exact dH (c:=3) (by decide) rfl rfl
 simp only[E5,o5,o9,X9,aJ (show 0≤N / 8 by omega),EI]
 cases h1:ilt (N / 8) (o7 sg.2.1)
 ·exact dH (c:=6) (by decide) rfl rfl
 rw[uj]at h1
 obtain⟨x,hx,_⟩:=um (show 0≤N / 8 by omega) h1
 simp only[hx,Bool.not_true,o5,o9,X9,jd,E5]
 obtain⟨nm,⟨k1,k2⟩,⟨v1,v2⟩,rows⟩:=x
 dsimp only
 by_cases hK:k1=3∧k2=0
 ·obtain⟨rfl,rfl⟩:=hK
  by_cases hV:v1=4∧v2=0
  ·obtain⟨rfl,rfl⟩:=hV
   rcases ha with rfl | rfl | rfl | rfl | rfl | ⟨e,rfl⟩ <;>
    first
    | exact nok (VT.lit (k:=3) (by omega)) rfl rfl
    | exact dH (c:=8) (by decide) rfl rfl
  ·have hE:vty (v1,v2) sg.1=true→v1≠4:=fun hv h=>by
    subst h
    rcases xn hv with h | h | h | h | h | ⟨e,h⟩ <;> cases h
    exact hV ⟨rfl,rfl⟩
   have hR:P6 (decide (v1=4)) (decide (v2=0))=false:=by
    by_cases h1:v1=4
    ·have:v2≠0:=fun h2=>hV ⟨h1,h2⟩
     simp[P6,h1,this]
    ·simp[P6,h1]
   rw[hR]
   cases hv:vty (v1,v2) sg.1
   ·rcases ha with rfl | rfl | rfl | rfl | rfl | ⟨e,rfl⟩ <;> exact dH (c:=8) (by decide) rfl rfl
   ·have h4:=hE hv
    rw[show decide (v1=4)=false by simp[h4]]
    rcases ha with rfl | rfl | rfl | rfl | rfl | ⟨e,rfl⟩ <;> exact dH (c:=8) (by decide) rfl rfl
 ·have hR:P6 (decide (k1=3)) (decide (k2=0))=false:=by
   by_cases h1:k1=3
   ·have:k2≠0:=fun h2=>hK ⟨h1,h2⟩
    simp[P6,h1,this]
   ·simp[P6,h1]
  rw[hR]
  cases hv:vty (k1,k2) sg.1
  ·rcases ha with rfl | rfl | rfl | rfl | rfl | ⟨e,rfl⟩ <;> exact dH (c:=8) (by decide) rfl rfl
  cases hw:vty (v1,v2) sg.1
  ·rcases ha with rfl | rfl | rfl | rfl | rfl | ⟨e,rfl⟩ <;> exact dH (c:=8) (by decide) rfl rfl
  have h3:k1≠3:=fun h=>by
   subst h
   rcases xn hv with h | h | h | h | h | ⟨e,h⟩ <;> cases h
   exact hK ⟨rfl,rfl⟩
  simp only[show decide (k1=3)=false by simp[h3],E5,o5,o6,o9]
  cases P6 (decide (a.1=k1)) (decide (a.2=k2))
  ·cases decide (a.1=3) <;> exact dH (c:=8) (by decide) rfl rfl
  ·cases decide (a.1=3) <;> exact dH (c:=8) (by decide) rfl rfl
theorem RQ (n:Int×Int) (hN:I64 n.2) (ops:List (Int×Int)) (hv:∀t∈ops,VT t) (hl:o7 ops=arF n.1):fG n ops sg:=by
 obtain⟨op,N⟩:=n
 dsimp only at hN hl
 have hr:1≤op∧op≤39:=by
  by_cases h:1≤op∧op≤39
  ·exact h
  ·have:arF op=-1:=by unfold arF;rw[SH h];rfl
   rw[this]at hl;simp[o7]at hl
 have hc:op=1∨op=2∨op=3∨op=4∨op=5∨op=6∨op=7∨op=8∨op=9∨op=10∨op=11∨op=12∨op=13∨op=14∨op=15∨op=16∨op=17∨op=18∨op=19∨op=20∨op=21∨op=22∨op=23∨op=24∨op=25∨op=26∨op=27∨op=28∨op=29∨op=30∨op=31∨op=32∨op=33∨op=34∨op=35∨op=36∨op=37∨op=38∨op=39:=by omega
 have L0:arF op=0→ops=[]:=fun h=>by rw[h]at hl;simp only[o7]at hl;exact List.length_eq_zero_iff.1 (by omega)
 have L1:arF op=1→∃a,ops=[a]∧VT a:=fun h=>by
  rw[h]at hl;simp only[o7]at hl
  match ops,hl,hv with
  | [a],_,hv=>exact⟨a,rfl,hv a (by simp)⟩
  | [],hl,_=>simp at hl
  | a::b::r,hl,_=>simp at hl;omega
 have L2:arF op=2→∃a b,ops=[a,b]∧VT a∧VT b:=fun h=>by
  rw[h]at hl;simp only[o7]at hl
  match ops,hl,hv with
  | [a,b],_,hv=>exact⟨a,b,rfl,hv a (by simp),hv b (by simp)⟩
  | [],hl,_=>simp at hl
  | [a],hl,_=>simp at hl
  | a::b::c::r,hl,_=>simp at hl;omega
 have L3:arF op=3→∃a b c,ops=[a,b,c]∧VT a∧VT b:=fun h=>by
  rw[h]at hl;simp only[o7]at hl
  match ops,hl,hv with
  | [a,b,c],_,hv=>exact⟨a,b,c,rfl,hv a (by simp),hv b (by simp)⟩
  | [],hl,_=>simp at hl
  | [a],hl,_=>simp at hl
  | [a,b],hl,_=>simp at hl
  | a::b::c::d::r,hl,_=>simp at hl;omega
 rcases hc with rfl | rfl | rfl | rfl | rfl | rfl | rfl | rfl | rfl | rfl | rfl | rfl | rfl | rfl | rfl | rfl | rfl | rfl | rfl | rfl | rfl | rfl | rfl | rfl | rfl | rfl | rfl | rfl | rfl | rfl | rfl | rfl | rfl | rfl | rfl | rfl | rfl | rfl | rfl <;>
  first
  | (rw[L0 rfl];first | exact Ws N sg (by omega) | exact UD N sg hN | exact a0f N sg | exact Wq N sg | exact UC N sg | exact PI N sg | exact Wu N sg (by omega))
  | (obtain⟨a,rfl,ha⟩:=L1 rfl;first | exact a0g N sg (by omega) ha | exact NC N sg ha | exact IK N sg hN ha)
  | (obtain⟨a,b,rfl,ha,hb⟩:=L2 rfl;first | exact Wp N sg (by omega) ha hb | exact UE N sg (by omega) ha hb | exact UF N sg (by omega) ha)
  | (obtain⟨a,b,c,rfl,ha,hb⟩:=L3 rfl;exact a0e N sg ha hb)
end
end Go.GP
namespace Go.GP
open Gt
set_option maxRecDepth 100000
def XT.wf:XT→Prop
 | .l0 n=>arF n.1=0
 | .l1 n a=>arF n.1=1∧a.wf
 | .l2 n a b=>arF n.1=2∧a.wf∧b.wf
 | .l3 n a b c=>arF n.1=3∧a.wf∧b.wf∧c.wf
theorem a0o {n:Int×Int} {ts ts' :List XT} (h:push n ts= .inr ts') (hw:∀t∈ts,t.wf):∀t∈ts',t.wf:=by
 unfold push at h
 split at h
 ·cases h;intro t ht
  rcases List.mem_cons.1 ht with rfl | ht
  ·assumption
  ·exact hw t ht
 split at h
 ·split at h
  ·cases h;intro t ht
   rcases List.mem_cons.1 ht with rfl | ht
   ·exact⟨by assumption,hw _ (by simp)⟩
   ·exact hw t (by simp[ht])
  ·cases h
 split at h
 ·split at h
  ·cases h;intro t ht
   rcases List.mem_cons.1 ht with rfl | ht
   ·exact⟨by assumption,hw _ (by simp),hw _ (by simp)⟩
   ·exact hw t (by simp[ht])
  ·cases h
 split at h
 ·split at h
  ·cases h;intro t ht
   rcases List.mem_cons.1 ht with rfl | ht
   ·exact⟨by assumption,hw _ (by simp),hw _ (by simp),hw _ (by simp)⟩
   ·exact hw t (by simp[ht])
  ·cases h
 ·cases h
theorem NJ:∀(es:List (Int×Int)) (i:Nat) (ts ts' :List XT),jk i es ts= .inr ts' →(∀t∈ts,t.wf)→∀t∈ts',t.wf
 | [],i,ts,ts',h,hw=>by cases h;exact hw
 | n::es,i,ts,ts',h,hw=>by
  unfold jk at h
  cases hp:push n ts with
  | inl c=>rw[hp]at h;cases h
  | inr t2=>
   rw[hp]at h
   simp only at h
   split at h
   ·cases h
   ·exact NJ es (i+1) t2 ts' h (a0o hp hw)
theorem Va {e:List (Int×Int)} {t:XT} (h:gU e= .inr t):t.wf:=by
 unfold gU at h
 split at h
 ·cases h
 split at h
 ·cases h
 split at h
 ·cases h
 ·rename_i t' hp
  cases h
  exact NJ e 0 [] [t] hp (by simp) t (by simp)
 ·cases h
def Ll (n:Int×Int) (ops:List (Int×Int)) (sg:D8):(Int×Int)×Int:=(kZ n ops sg).getD ((0,0),0)
def vg (sg:D8) (n:Int×Int) (ops:List (Int×Int)) (i:Nat):(Int×Int)⊕(Int×Int):=if(Ll n ops sg).2=0 then .inr (Ll n ops sg).1 else .inl ((i:Int),(Ll n ops sg).2)
def lH (sg:D8):XT→Nat→(Int×Int)⊕(Int×Int)
 | .l0 n,o=>vg sg n [] o
 | .l1 n a,o=>match lH sg a o with
  | .inl x=> .inl x
  | .inr ta=>vg sg n [ta] (o+a.size)
 | .l2 n a b,o=>match lH sg a o with
  | .inl x=> .inl x
  | .inr ta=>match lH sg b (o+a.size)with
   | .inl x=> .inl x
   | .inr tb=>vg sg n [ta,tb] (o+a.size+b.size)
 | .l3 n a b c,o=>match lH sg a o with
  | .inl x=> .inl x
  | .inr ta=>match lH sg b (o+a.size)with
   | .inl x=> .inl x
   | .inr tb=>match lH sg c (o+a.size+b.size)with
    | .inl x=> .inl x
    | .inr tc=>vg sg n [ta,tb,tc] (o+a.size+b.size+c.size)
theorem Aq {sg:D8} {n:Int×Int} {ops:List (Int×Int)} {i:Nat} {t:Int×Int} (hN:I64 n.2) (hv:∀t∈ops,VT t) (hl:o7 ops=arF n.1) (h:vg sg n ops i= .inr t):VT t:=by
 obtain⟨r,h1,h2,h3⟩:=RQ sg n hN ops hv hl
 unfold vg at h
 split at h
 ·rename_i h0
  cases h
  have e:Ll n ops sg=r:=by unfold Ll;rw[h1];rfl
  rw[e]at h0 ⊢
  exact h3 h0
 ·cases h
section
variable (e:List (Int×Int)) (sg:D8) (z:Int×Int)
def a1f (f:(Int×Int)×List (Int×Int)×Int→Option (Out ((Int×Int)×List (Int×Int)×Int) ((Int×Int)×List (Int×Int)) ((Int×Int)×Int×Int))):Prop:=
 ∀(i:Nat) (n:Int×Int) (s ops:List (Int×Int)),e[i]? =some n→i≤100→o7 ops=arF n.1→(∀t∈ops,VT t)→s.length+ops.length≤100→
  f (z,s++ops,(i:Int))=some (match vg sg n ops i with | .inl x=> .rt ((0,0),x) | .inr t=> .nx (z,s++[t],((i+1:Nat):Int)))
theorem Vf {f:(Int×Int)×List (Int×Int)×Int→Option (Out ((Int×Int)×List (Int×Int)×Int) ((Int×Int)×List (Int×Int)) ((Int×Int)×Int×Int))}
  (he:e.length≤48) (hI:∀n∈e,I64 n.2) (hs:a1f e sg z f):∀(t:XT),t.wf→∀(pre suf s:List (Int×Int)) (k:Nat),e=pre++t.post++suf→s.length≤pre.length→
  bV f (k+t.size) (z,s,(pre.length:Int))=(match lH sg t pre.length with | .inl x=>some (.inr ((0,0),x)) | .inr r=>bV f k (z,s++[r],((pre.length+t.size:Nat):Int)))∧∀r,lH sg t pre.length= .inr r→VT r:=by
 intro t
 have step:∀(i k:Nat) (n:Int×Int) (s ops:List (Int×Int)),e[i]? =some n→o7 ops=arF n.1→(∀t∈ops,VT t)→s.length+ops.length≤100→
   bV f (k+1) (z,s++ops,(i:Int))=(match vg sg n ops i with | .inl x=>some (.inr ((0,0),x)) | .inr r=>bV f k (z,s++[r],((i+1:Nat):Int))):=by
  intro i k n s ops h1 h2 h3 h4
  rw[bV,hs i n s ops h1 (by have:=(J4.1 h1).1;omega) h2 h3 h4]
  cases vg sg n ops i <;> rfl
 have getn:∀(pre suf:List (Int×Int)) (n:Int×Int),e=pre++[n]++suf→e[pre.length]? =some n:=by
  intro pre suf n h
  rw[h,List.append_assoc,List.getElem?_append_right (by omega),Nat.sub_self];rfl
 have mem:∀(i:Nat) (n:Int×Int),e[i]? =some n→I64 n.2:=fun i n h=>hI n (iG h)
 induction t with
 | l0 n=>
  intro hw pre suf s k hd hl
  have hn:=getn pre suf n hd
  have hlen:pre.length<e.length:=(J4.1 hn).1
  have hz:o7 ([]:List (Int×Int))=arF n.1:=by rw[show arF n.1=0 from hw];rfl
  have h:=step pre.length k n s [] hn hz (by simp) (by simp;omega)
  rw[List.append_nil]at h
  exact⟨h,fun r hr=>Aq (mem _ n hn) (by simp) hz hr⟩
 | l1 n a iha=>
  intro hw pre suf s k hd hl
  simp only[XT.post,List.append_assoc]at hd
  have hpa:(pre++a.post).length=pre.length+a.size:=by simp[XT.post_len]
  have hn:=getn (pre++a.post) suf n (by simpa using hd)
  rw[hpa]at hn
  have hlen:=(J4.1 hn).1
  obtain⟨i1,i2⟩:=iha hw.2 pre ([n]++suf) s (k+1) (by simpa using hd) hl
  simp only[XT.size,lH]
  rw[show k+(a.size+1)=(k+1)+a.size by omega,i1]
  cases ht:lH sg a pre.length with
  | inl x=>exact⟨rfl,fun r hr=>by cases hr⟩
  | inr ta=>
   have hz:o7 [ta]=arF n.1:=by rw[show arF n.1=1 from hw.1];rfl
   have hv:∀t∈[ta],VT t:=by simpa using i2 ta ht
   exact⟨step _ k n s [ta] hn hz hv (by simp;omega),fun r hr=>Aq (mem _ n hn) hv hz hr⟩
 | l2 n a b iha ihb=>
  intro hw pre suf s k hd hl
  simp only[XT.post,List.append_assoc]at hd
  have hpa:(pre++a.post).length=pre.length+a.size:=by simp[XT.post_len]
  have hpb:(pre++a.post++b.post).length=pre.length+a.size+b.size:=by simp[XT.post_len];omega
  have hn:=getn (pre++a.post++b.post) suf n (by simpa using hd)
  rw[hpb]at hn
  have hlen:=(J4.1 hn).1
  obtain⟨i1,i2⟩:=iha hw.2.1 pre (b.post++[n]++suf) s (k+1+b.size) (by simpa using hd) hl
  simp only[XT.size,lH]
  rw[show k+(a.size+b.size+1)=(k+1+b.size)+a.size by omega,i1]
  cases ht:lH sg a pre.length with
  | inl x=>exact⟨rfl,fun r hr=>by cases hr⟩
  | inr ta=>
   have hsa:=a.size_pos
   obtain⟨j1,j2⟩:=ihb hw.2.2 (pre++a.post) ([n]++suf) (s++[ta]) (k+1) (by simpa using hd) (by simp[XT.post_len];omega)
   rw[hpa]at j1 j2
   simp only
   rw[j1]
   cases hu:lH sg b (pre.length+a.size)with
   | inl x=>exact⟨rfl,fun r hr=>by cases hr⟩
   | inr tb=>
    have hz:o7 [ta,tb]=arF n.1:=by rw[show arF n.1=2 from hw.1];rfl
    have hv:∀t∈[ta,tb],VT t:=by simpa using ⟨i2 ta ht,j2 tb hu⟩
    have:=step _ k n s [ta,tb] hn hz hv (by simp;omega)
    simp only[List.append_assoc,List.cons_append,List.nil_append]
    rw[show pre.length+(a.size+b.size+1)=pre.length+a.size+b.size+1 by omega]
    exact⟨this,fun r hr=>Aq (mem _ n hn) hv hz hr⟩
 | l3 n a b c iha ihb ihc=>
  intro hw pre suf s k hd hl
  simp only[XT.post,List.append_assoc]at hd
  have hpa:(pre++a.post).length=pre.length+a.size:=by simp[XT.post_len]
  have hpb:(pre++a.post++b.post).length=pre.length+a.size+b.size:=by simp[XT.post_len];omega
  have hpc:(pre++a.post++b.post++c.post).length=pre.length+a.size+b.size+c.size:=by simp[XT.post_len];omega
  have hn:=getn (pre++a.post++b.post++c.post) suf n (by simpa using hd)
  rw[hpc]at hn
  have hlen:=(J4.1 hn).1
  obtain⟨i1,i2⟩:=iha hw.2.1 pre (b.post++(c.post++([n]++suf))) s (k+1+c.size+b.size) (by simpa using hd) hl
  simp only[XT.size,lH]
  rw[show k+(a.size+b.size+c.size+1)=(k+1+c.size+b.size)+a.size by omega,i1]
  have hsa:=a.size_pos
  have hsb:=b.size_pos
  cases ht:lH sg a pre.length with
  | inl x=>exact⟨rfl,fun r hr=>by cases hr⟩
  | inr ta=>
   obtain⟨j1,j2⟩:=ihb hw.2.2.1 (pre++a.post) (c.post++([n]++suf)) (s++[ta]) (k+1+c.size) (by simpa using hd) (by simp[XT.post_len];omega)
   rw[hpa]at j1 j2
   simp only
   rw[j1]
   cases hu:lH sg b (pre.length+a.size)with
   | inl x=>exact⟨rfl,fun r hr=>by cases hr⟩
   | inr tb=>
    obtain⟨q1,q2⟩:=ihc hw.2.2.2 (pre++a.post++b.post) ([n]++suf) (s++[ta]++[tb]) (k+1) (by simpa using hd) (by simp[XT.post_len];omega)
    rw[hpb]at q1 q2
    simp only
    rw[q1]
    cases hc:lH sg c (pre.length+a.size+b.size)with
    | inl x=>exact⟨rfl,fun r hr=>by cases hr⟩
    | inr tc=>
     have hz:o7 [ta,tb,tc]=arF n.1:=by rw[show arF n.1=3 from hw.1];rfl
     have hv:∀t∈[ta,tb,tc],VT t:=by simpa using ⟨i2 ta ht,j2 tb hu,q2 tc hc⟩
     have:=step _ k n s [ta,tb,tc] hn hz hv (by simp;omega)
     simp only[List.append_assoc,List.cons_append,List.nil_append]
     rw[show pre.length+(a.size+b.size+c.size+1)=pre.length+a.size+b.size+c.size+1 by omega]
     exact⟨this,fun r hr=>Aq (mem _ n hn) hv hz hr⟩
end
def gV (e:List (Int×Int)) (sg:D8):(Int×Int)×Int×Int:=match gU e with
 | .inl x=>((0,0),x)
 | .inr t=>match lH sg t 0 with
  | .inl x=>((0,0),x)
  | .inr r=>(r,0,0)
theorem QD {α:Type} (s ops:List α) (k:Int) (hk:o7 ops=k) (h:s.length+ops.length≤100):
  E9 .i64 (o7 (s++ops)) k=(s.length:Int)∧gK (s.length:Int) (o7 (s++ops)) (o7 (s++ops))=true∧dF (s++ops) (toN (s.length:Int)) (toN (o7 (s++ops)))=ops
  ∧gK 0 (s.length:Int) (o7 (s++ops))=true∧dF (s++ops) (toN 0) (toN (s.length:Int))=s:=by
 subst hk
 refine⟨?_,?_,?_,?_,?_⟩
 ·rw[Gn (by unfold I64;simp[o7];omega)];simp[o7]
 ·simp[gK,o7];omega
 ·show((s++ops).take (((s++ops).length:Nat):Int).toNat).drop s.length=ops
  rw[Int.toNat_natCast,List.take_length,List.drop_left]
 ·simp[gK,o7];omega
 ·simp[dF,toN]
theorem QC {e:List (Int×Int)} {sg:D8} {f:(Int×Int)×List (Int×Int)×Int→Option (Out ((Int×Int)×List (Int×Int)×Int) ((Int×Int)×List (Int×Int)) ((Int×Int)×Int×Int))}
  (hI:∀n∈e,I64 n.2) (hs:a1f e sg (0,0) f) (hend:∀s,f ((0,0),s,(e.length:Int))=some (.ex ((0,0),s))) (hcode:∀x,gU e= .inl x→x.2≠0):
  l7 (C9 (ieq (qR e).2.2 0)) (some ((((0:Int),(0:Int)),(qR e).2):(Int×Int)×Int×Int)) (l9 (G8 f (((0:Int),(0:Int)),([]:List (Int×Int)),(0:Int))) fun(o:(Int×Int)×List (Int×Int)⊕(Int×Int)×Int×Int)=>
   I7 o (fun(y:(Int×Int)×List (Int×Int))=>l9 (lat y.2 0) fun(x:Int×Int)=>l9 (H6 y.2 (toN 0)) fun(x:Int×Int)=>some (x,0,0)) fun(r:(Int×Int)×Int×Int)=>some r)=some (gV e sg):=by
 unfold qR gV
 cases h:gU e with
 | inl x=>simp only[fF (hcode x h),P7,o6]
 | inr t=>
  obtain⟨hp,h48⟩:=Oq h
  have hw:=Va h
  obtain⟨l1,_⟩:=Vf e sg (0,0) h48 hI hs t hw [] [] [] (bH -t.size) (by simpa using hp) (by simp)
  have hsz:e.length=t.size:=by rw[hp,XT.post_len]
  have hlo:G8 f (((0:Int),(0:Int)),([]:List (Int×Int)),(0:Int))=bV f (bH -t.size+t.size) ((0,0),[],(([]:List (Int×Int)).length:Int)):=by
   unfold G8
   rw[Nat.sub_add_cancel (by unfold bH;omega)];rfl
  simp only[dE (rfl:(0:Int)=0),E5,o5]
  rw[hlo,l1]
  simp only[List.length_nil,Nat.zero_add]
  cases lH sg t 0 with
  | inl x=>rfl
  | inr r=>
   obtain⟨k,hk⟩:∃k,bH -t.size=k+1:=⟨bH -t.size -1,by unfold bH;omega⟩
   simp only[List.nil_append]
   rw[hk,bV,←hsz,hend]
   rfl
theorem Om {e:List (Int×Int)} {x:Int×Int} (h:gU e= .inl x):x.2≠0:=by
 have key:∀(es:List (Int×Int)) (i:Nat) (ts:List XT) (x:Int×Int),jk i es ts= .inl x→x.2≠0:=by
  intro es
  induction es with
  | nil=>intro i ts x h;cases h
  | cons n es ih=>
   intro i ts x h
   unfold jk at h
   cases hp:push n ts with
   | inl c=>
    rw[hp]at h;cases h
    show c≠0
    unfold push at hp
    (repeat' split at hp) <;> first | (cases hp;done) | (cases hp;decide)
   | inr t2=>
    rw[hp]at h
    simp only at h
    split at h
    ·cases h;show(16:Int)≠0;decide
    ·exact ih _ _ _ h
 unfold gU at h
 split at h
 ·cases h;show(4:Int)≠0;decide
 split at h
 ·cases h;show(5:Int)≠0;decide
 split at h
 ·rename_i y hp;cases h;exact key _ _ _ _ hp
 ·cases h
 ·cases h;show(4:Int)≠0;decide
theorem Ve {e:List (Int×Int)} (sg:D8) (hI:∀n∈e,I64 n.2):qC e sg=some (gV e sg):=by
 unfold qC
 rw[LH,o9]
 refine QC hI (fun i n s ops hn hi2 hl hv hlen=>?_) (fun s=>?_) (fun x h=>Om h)
 ·obtain⟨r,h1,h2,h3⟩:=RQ sg n (hI n (iG hn)) ops hv hl
  obtain⟨v1,v2,v3,v4,v5⟩:=QD s ops _ hl hlen
  have e' :Ll n ops sg=r:=by unfold Ll;rw[h1];rfl
  have hi:=(J4.1 hn).1
  simp only[F9 hn,o6,D9,hn,o9,a1h,v1,v2,v3,v4,v5]
  unfold vg
  rw[e']
  unfold EN at h2
  have fin:G6 n ops sg=some r→(l9 (G6 n ops sg) fun(x_3:A7×Int)=>l7 (C9 (ieq x_3.2 0)) (some (Out.rt ((((0:Int),(0:Int)),((i:Int),x_3.2)):(Int×Int)×Int×Int)))
    (l9 (Y7 s [x_3.1]) fun(x_4:List A7)=>some (Out.nx (((0:Int),(0:Int)),x_4,x9 .i64 (i:Int) 1))))=
    some (match if r.2=0 then(.inr r.1:(Int×Int)⊕(Int×Int))else .inl ((i:Int),r.2)with | .inl x=>Out.rt ((0,0),x) | .inr t=>(Out.nx ((0,0),s++[t],((i+1:Nat):Int)):Out ((Int×Int)×List (Int×Int)×Int) ((Int×Int)×List (Int×Int)) ((Int×Int)×Int×Int))):=by
   intro hr
   rw[hr,o9]
   by_cases h0:r.2=0
   ·rw[if_pos h0,dE h0]
    simp only[E5,o5]
    rw[jg _ (by omega),o9,U4 (by omega)]
   ·rw[if_neg h0,fF h0];rfl
  cases hz:ieq n.2 0
  ·rw[hz]at h2
   simp only[P7,o6]at h2 ⊢
   cases hu:aH n.1 with
   | none=>rw[hu]at h2;cases h2
   | some u=>
    rw[hu]at h2
    simp only[o9]at h2 ⊢
    cases u
    ·simp only[P7,o6]at h2 ⊢
     cases h2
     rfl
    ·exact fin h2
  ·rw[hz]at h2
   exact fin h2
 ·rw[F8];rfl
section
variable {α β σ ε ρ:Type}
theorem yV (l:List α) (G:β→α→β) (mk:β→Int→σ) (fin:β→ε) (Inv:Nat→β→Prop) {f:σ→Option (σ⊕ε)} {b:β} (hl:l.length≤1000000) (h0:Inv 0 b)
  (hin:∀(i:Nat) (a:α) (b:β),l[i]? =some a→i≤1000000→Inv i b→f (mk b (i:Int))=some (.inl (mk (G b a) ((i+1:Nat):Int)))∧Inv (i+1) (G b a))
  (hend:∀b,Inv l.length b→f (mk b (l.length:Int))=some (.inr (fin b))):
  N7 f (mk b 0)=some (fin (l.foldl G b))∧Inv l.length (l.foldl G b):=by
 have key:∀(n i:Nat) (b:β),i≤l.length→l.length -i<n→Inv i b→gG f n (mk b (i:Int))=some (fin ((l.drop i).foldl G b))∧Inv l.length ((l.drop i).foldl G b):=by
  intro n
  induction n with
  | zero=>intro i b _ h _;omega
  | succ n ih=>
   intro i b hi hn hI
   unfold gG
   by_cases h:i<l.length
   ·have e:=ay h
    obtain⟨h1,h2⟩:=hin i _ b e (by omega) hI
    rw[h1,List.drop_eq_getElem_cons h]
    exact ih (i+1) _ (by omega) (by omega) h2
   ·have:i=l.length:=by omega
    subst this
    rw[hend b hI,List.drop_length]
    exact⟨rfl,hI⟩
 have:=key bH 0 b (by omega) (by unfold bH;omega) h0
 exact this
theorem ae {γ:Type} (l:List α) (G:β→α→β) (mk:β→Int→σ) (fin:β→ε) (Inv:Nat→β→Prop) (b:β) {f:σ→Option (σ⊕ε)} {K:ε→Option γ} {r:Option γ} (hl:l.length≤1000000) (h0:Inv 0 b)
  (hin:∀(i:Nat) (a:α) (b:β),l[i]? =some a→i≤1000000→Inv i b→f (mk b (i:Int))=some (.inl (mk (G b a) ((i+1:Nat):Int)))∧Inv (i+1) (G b a))
  (hend:∀b,Inv l.length b→f (mk b (l.length:Int))=some (.inr (fin b))) (hk:Inv l.length (l.foldl G b)→K (fin (l.foldl G b))=r):l9 (N7 f (mk b 0)) K=r:=by
 obtain⟨h1,h2⟩:=yV l G mk fin Inv hl h0 hin hend
 rw[h1];exact hk h2
def jq (G:β→α→β⊕ρ):List α→β→β⊕ρ
 | [],b=> .inl b
 | a::l,b=>match G b a with | .inl b' =>jq G l b' | .inr r=> .inr r
theorem Py (l:List α) (G:β→α→β⊕ρ) (mk:β→Int→σ) (fin:β→ε) (Inv:Nat→β→Prop) {f:σ→Option (Out σ ε ρ)} {b:β} (hl:l.length≤1000000) (h0:Inv 0 b)
  (hin:∀(i:Nat) (a:α) (b:β),l[i]? =some a→i≤1000000→Inv i b→f (mk b (i:Int))=some (match G b a with | .inl b' => .nx (mk b' ((i+1:Nat):Int)) | .inr r=> .rt r)∧∀b',G b a= .inl b' →Inv (i+1) b')
  (hend:∀b,Inv l.length b→f (mk b (l.length:Int))=some (.ex (fin b))):
  G8 f (mk b 0)=some (match jq G l b with | .inl b' => .inl (fin b') | .inr r=> .inr r)∧∀b',jq G l b= .inl b' →Inv l.length b' :=by
 have key:∀(n i:Nat) (b:β),i≤l.length→l.length -i<n→Inv i b→bV f n (mk b (i:Int))=some (match jq G (l.drop i) b with | .inl b' => .inl (fin b') | .inr r=> .inr r)∧∀b',jq G (l.drop i) b= .inl b' →Inv l.length b' :=by
  intro n
  induction n with
  | zero=>intro i b _ h _;omega
  | succ n ih=>
   intro i b hi hn hI
   unfold bV
   by_cases h:i<l.length
   ·have e:=ay h
    obtain⟨h1,h2⟩:=hin i _ b e (by omega) hI
    rw[h1,List.drop_eq_getElem_cons h]
    unfold jq
    cases hg:G b l[i]with
    | inr r=>exact⟨rfl,fun b' hb=>by cases hb⟩
    | inl b' =>exact ih (i+1) _ (by omega) (by omega) (h2 b' hg)
   ·have:i=l.length:=by omega
    subst this
    rw[hend b hI,List.drop_length]
    exact⟨rfl,fun b' hb=>by cases hb;exact hI⟩
 have:=key bH 0 b (by omega) (by unfold bH;omega) h0
 exact this
theorem uu {γ:Type} (l:List α) (G:β→α→β⊕ρ) (mk:β→Int→σ) (fin:β→ε) (Inv:Nat→β→Prop) (b:β) {f:σ→Option (Out σ ε ρ)} {K:ε⊕ρ→Option γ} {r:Option γ} (hl:l.length≤1000000) (h0:Inv 0 b)
  (hin:∀(i:Nat) (a:α) (b:β),l[i]? =some a→i≤1000000→Inv i b→f (mk b (i:Int))=some (match G b a with | .inl b' => .nx (mk b' ((i+1:Nat):Int)) | .inr r=> .rt r)∧∀b',G b a= .inl b' →Inv (i+1) b')
  (hend:∀b,Inv l.length b→f (mk b (l.length:Int))=some (.ex (fin b)))
  (hk:(∀b',jq G l b= .inl b' →Inv l.length b')→K (match jq G l b with | .inl b' => .inl (fin b') | .inr r=> .inr r)=r):l9 (G8 f (mk b 0)) K=r:=by
 obtain⟨h1,h2⟩:=Py l G mk fin Inv hl h0 hin hend
 rw[h1];exact hk h2
end
def LD (c:UInt8):Bool:=decide (32≤c.toNat)&&decide (c.toNat≤126)&&decide (c.toNat≠34)
def Qx (s:List UInt8):Bool:=decide (s.length≤64)&&s.all LD
theorem Rk (c:UInt8):∀s:List UInt8,decide (0≤Lib.indexByte s c)=s.any fun x=>decide (x.toNat=c.toNat)
 | []=>by simp[Lib.indexByte]
 | b::l=>by
  have ih:=Rk c l
  have hge:=Lib.indexByte_ge l c
  rw[List.any_cons,←ih]
  have e:Lib.indexByte (b::l) c=if b=c then 0 else if Lib.indexByte l c=-1 then -1 else Lib.indexByte l c+1:=by
   rw[Lib.indexByte];simp
  rw[e]
  by_cases h:b=c
  ·subst h;simp
  ·have h2:b.toNat≠c.toNat:=fun hh=>h (UInt8.toNat_inj.1 hh)
   rw[if_neg h,show decide (b.toNat=c.toNat)=false by simp[h2],Bool.false_or]
   by_cases h3:Lib.indexByte l c=-1
   ·rw[h3];rfl
   ·rw[if_neg h3];simp;omega
theorem Ze (c:UInt8):LD c=(!ilt (c.toNat:Int) 32&&!ilt 126 (c.toNat:Int)&&!ieq (c.toNat:Int) 34):=by
 unfold LD ilt ieq
 rw[Bool.eq_iff_iff];simp;omega
theorem QQ (s:List UInt8) (p:UInt8→Bool):(∀(i:Nat) (a:UInt8),s[i]? =some a→p a=true)↔s.all p=true:=by
 rw[List.all_eq_true]
 exact⟨fun h x hx=>by obtain⟨i,hi,rfl⟩:=List.getElem_of_mem hx;exact h i _ (ay hi),fun h i a hi=>h a (iG hi)⟩
theorem Ik {s:List UInt8} (h:s.length≤1000000):jK s=some (Qx s):=by
 unfold jK
 have h5:ilt 64 (o7 s)= !decide (s.length≤64):=by simp only[ilt,o7];rw[←decide_not];congr 1;simp;omega
 rw[h5,show jl s [34]=some (s.any fun x=>decide (x.toNat=(34:UInt8).toNat))from congrArg some (Rk 34 s)]
 unfold Qx
 cases decide (s.length≤64)
 ·rfl
 simp only[Bool.not_true,o5,o9,Bool.true_and]
 cases h34:s.any fun x=>decide (x.toNat=(34:UInt8).toNat)
 case true=>
  obtain⟨x,hx,hx2⟩:=List.any_eq_true.1 h34
  simp only[decide_eq_true_eq]at hx2
  have:s.all LD=false:=by
   rw[List.all_eq_false]
   refine⟨x,hx,?_⟩
   unfold LD;rw[hx2];decide
  rw[this];rfl
 simp only[o5]
 refine Z7 (Jw s (fun i a=>LD a) false PUnit.unit _ (by omega) (fun i x hx=>?_) ?_) ?_
 rotate_left 2
 ·by_cases hw:s.all LD=true
  ·rw[if_pos ((QQ s LD).2 hw),hw];rfl
  ·rw[if_neg (fun h=>hw ((QQ s LD).1 h))]
   simp only[Bool.not_eq_true]at hw
   rw[hw];rfl
 ·have hi:=(J4.1 hx).1
  have hne:ieq (x.toNat:Int) 34=false:=by
   have:=(List.any_eq_false.1 h34) x (iG hx)
   simp only[decide_eq_true_eq]at this
   exact fF (by
     have h:(34:UInt8).toNat=34:=rfl
     omega)
  simp only[F9 hx,o6,TC,hx,Option.map_some,o9]
  rw[U4 (by omega),Ze,hne]
  cases ilt (x.toNat:Int) 32 <;> cases ilt 126 (x.toNat:Int) <;> rfl
 ·rw[F8];rfl
def xq (e:List (Int×Int)) (sg:D8) (t:Int×Int):Int:=l7 (ieq (gV e sg).2.2 0) (l7 (P6 (ieq (gV e sg).1.1 t.1) (ieq (gV e sg).1.2 t.2)) 0 8) (gV e sg).2.2
theorem zT {e:List (Int×Int)} (sg:D8) (t:Int×Int) (hI:∀n∈e,I64 n.2):gm e sg t=some (xq e sg t):=by
 unfold gm xq
 rw[Ve sg hI,o9]
 cases ieq (gV e sg).2.2 0
 ·rfl
 simp only[E5,o5,o6]
 cases P6 (ieq (gV e sg).1.1 t.1) (ieq (gV e sg).1.2 t.2) <;> rfl
def JZ (r:H9):Prop:=r.1.length≤1000000∧r.2.2.2.2.2.2.2.length≤1000000∧(∀n∈r.2.2.2.2.2.1,I64 n.2)∧(∀n∈r.2.2.2.2.2.2.1,I64 n.2)
def BI (rs:List H9) (d:Int):Nat:=rs.countP fun o=>ieq o.2.1 d
def BV (r:H9) (sg:D8) (t:Int×Int):Int:=
 l7 (ilt 0 (o7 r.2.2.2.2.2.1)) (l7 (ieq (xq r.2.2.2.2.2.1 sg (1,0)) 0) (xq r.2.2.2.2.2.2.1 sg t) (xq r.2.2.2.2.2.1 sg (1,0))) (xq r.2.2.2.2.2.2.1 sg t)
def vz (s:x8) (sg:D8) (k:Nat) (r:H9):Int:=
 l7 (pW r.1) (l7 ((s.2.2.2.2.take k).any fun x=>seq x.1 r.1) 7 (match lat s.2.2.2.1 r.2.1 with
  | none=>6
  | some d=>l7 (l7 (ieq r.2.2.1 (-1)) false (l7 (ilt r.2.2.1 0) true (l7 (ile k r.2.2.1) true (match lat s.2.2.2.2 r.2.2.1 with | some q=>C9 (ieq q.2.1 r.2.1) | none=>true)))) 9
   (l7 (ilt r.2.2.2.1 0) 3 (l7 (ilt 9 r.2.2.2.1) 3 (l7 (vV r.2.2.2.2.1) (l7 (ieq r.2.2.2.2.1.1 r.2.2.2.2.1.2) 3
    (l7 (ile 8 (BI (s.2.2.2.2.take k) r.2.1)) 4 (l7 (Qx r.2.2.2.2.2.2.2) (BV r sg d.2) 2))) 3))))) 2
theorem Nb {α:Type} {l:List α} {i:Int} (h:ile 0 i=false∨ilt i (o7 l)=false):lat l i=none:=by
 unfold lat
 split
 ·rename_i h0
  rcases h with h | h
  ·rw[yU]at h;omega
  ·rw[nz]at h;simp only[o7]at h
   exact List.getElem?_eq_none (by omega)
 ·rfl
theorem Ky {s:x8} (sg:D8) {k:Nat} {r:H9} (hr:s.2.2.2.2[k]? =some r) (hl:s.2.2.2.2.length≤1000) (h:JZ r):mJ s (k:Int) sg=some (vz s sg k r):=by
 have hk:=(J4.1 hr).1
 have hcnt:BI (s.2.2.2.2.take k) r.2.1≤1000:=by
  have:=List.countP_le_length (l:=s.2.2.2.2.take k) (p:=fun(o:H9)=>ieq o.2.1 r.2.1)
  unfold BI;simp at this;omega
 unfold mJ
 rw[D9,hr,o9,jZ (by omega),o9]
 refine Z7 (yV (s.2.2.2.2.take k) (fun(c:Nat) (o:H9)=>l7 (ieq o.2.1 r.2.1) (c+1) c) (fun c i=>((c:Int),i)) (fun c=>(c:Int)) (fun i c=>c≤i) (b:=0) (by simp;omega) (by omega) (fun i a c ha hi hc=>?_) (fun c hc=>?_)).1 ?_
 rotate_left 2
 ·have hf:∀(l:List H9) (c:Nat),l.foldl (fun(c:Nat) (o:H9)=>l7 (ieq o.2.1 r.2.1) (c+1) c) c=c+BI l r.2.1:=by
   intro l
   induction l with
   | nil=>intro c;rfl
   | cons a l ih=>
    intro c
    rw[List.foldl_cons,ih]
    unfold BI
    rw[List.countP_cons]
    cases ieq a.2.1 r.2.1 <;> simp <;> omega
  rw[hf,Nat.zero_add,o9,cZ h.1,o9,o9,Pn _ (by simp;omega),o9]
  unfold vz
  cases pW r.1
  ·rfl
  simp only[E5,o5,o6,o9]
  cases (s.2.2.2.2.take k).any fun x=>seq x.1 r.1
  case true=>rfl
  simp only[o5]
  rw[qF r.2.1 0,EI (o7 s.2.2.2.1) r.2.1]
  cases h0:ile 0 r.2.1
  ·rw[Nb (.inl h0)];rfl
  cases h1:ilt r.2.1 (o7 s.2.2.2.1)
  ·rw[Nb (.inr h1)];rfl
  obtain⟨d,hd,_⟩:=um (jG.1 h0) (uj.1 h1)
  rw[hd]
  simp only[Bool.not_true,o5,o9,Ik h.2.1]
  have hpar:(l7 (C9 (ieq r.2.2.1 (-1))) (l7 (ilt r.2.2.1 0) (some true) (l7 (ile (k:Int) r.2.2.1) (some true) (l9 (lat s.2.2.2.2 r.2.2.1) fun(x_6:H9)=>some (C9 (ieq x_6.2.1 r.2.1))))) (some false))=
    some (l7 (ieq r.2.2.1 (-1)) false (l7 (ilt r.2.2.1 0) true (l7 (ile k r.2.2.1) true (match lat s.2.2.2.2 r.2.2.1 with | some q=>C9 (ieq q.2.1 r.2.1) | none=>true)))):=by
   cases ieq r.2.2.1 (-1)
   case true=>rfl
   simp only[P7,o6,o5]
   cases hp0:ilt r.2.2.1 0
   case true=>rfl
   cases hp1:ile (k:Int) r.2.2.1
   case true=>rfl
   rw[nz]at hp0;rw[yU]at hp1
   obtain⟨q,hq,_⟩:=um (l:=s.2.2.2.2) hp0 (by simp only[o7];omega)
   rw[hq];rfl
  rw[hpar,o9]
  cases (l7 (ieq r.2.2.1 (-1)) false (l7 (ilt r.2.2.1 0) true (l7 (ile k r.2.2.1) true (match lat s.2.2.2.2 r.2.2.1 with | some q=>C9 (ieq q.2.1 r.2.1) | none=>true))))
  case true=>rfl
  simp only[o5]
  cases ilt r.2.2.2.1 0
  case true=>rfl
  simp only[o5,o9]
  cases ilt 9 r.2.2.2.1
  case true=>rfl
  simp only[o5]
  have hval:∀(A B:Option (H9⊕Int)),l7 (ilt r.2.2.2.2.1.1 0) A (l7 (ile r.2.2.2.2.1.2 r.2.2.2.2.1.1) A (l7 (ilt 109573 r.2.2.2.2.1.2) A B))=l7 (vV r.2.2.2.2.1) (l7 (ieq r.2.2.2.2.1.1 r.2.2.2.2.1.2) A B) A:=by
   intro A B
   unfold vV
   by_cases v0:r.2.2.2.2.1.1<(0:Int)
   ·rw[aC v0,aU (show r.2.2.2.2.1.1<(0:Int)from v0)];rfl
   rw[aJ (Int.not_lt.1 v0),aF (Int.not_lt.1 v0)]
   by_cases v1:(r.2.2.2.2.1.2:Int)≤r.2.2.2.2.1.1
   ·rw[aF v1]
    by_cases v2:(r.2.2.2.2.1.1:Int)≤r.2.2.2.2.1.2
    ·rw[aF v2,dE (Int.le_antisymm v2 v1)]
     cases ile r.2.2.2.2.1.2 109573 <;> rfl
    ·rw[aU (Int.not_le.1 v2)];rfl
   ·have v1' :=Int.not_le.1 v1
    rw[aU v1',aF (Int.le_of_lt v1'),fF (fun hh=>by rw[hh]at v1';exact Int.lt_irrefl _ v1'),qF]
    cases ile r.2.2.2.2.1.2 109573 <;> rfl
  rw[hval]
  cases vV r.2.2.2.2.1
  ·rfl
  cases ieq r.2.2.2.2.1.1 r.2.2.2.2.1.2
  case true=>rfl
  simp only[o6,o5]
  cases ile 8 ((BI (s.2.2.2.2.take k) r.2.1:Nat):Int)
  case true=>rfl
  cases Qx r.2.2.2.2.2.2.2
  ·rfl
  simp only[E5,o5,o6,o9,X9,BV,hd,zT sg _ h.2.2.1,zT sg _ h.2.2.2]
  cases ilt 0 (o7 r.2.2.2.2.2.1)
  ·rfl
  simp only[o6]
  cases ieq (xq r.2.2.2.2.2.1 sg (1,0)) 0 <;> rfl
 ·have hc' :c≤1000000:=by omega
  obtain⟨ha1,ha2⟩:=Ov ha
  simp only[F9 ha,o6,D9,ha,o9]
  rw[U4 (show i≤9000000000000000000 by omega),U4 (show c≤9000000000000000000 by omega)]
  cases ieq a.2.1 r.2.1
  ·exact⟨rfl,by show c≤i+1;omega⟩
  ·exact⟨rfl,by show c+1≤i+1;omega⟩
 ·simp only[F8];rfl
structure SmS (s:x8):Prop where
 nm:s.1.length≤1000000
 ni:s.2.2.1.length≤14
 nd:s.2.2.2.1.length≤14
 nr:s.2.2.2.2.length≤60
 fo:Vl s
 ro:∀r∈s.2.2.2.2,JZ r∧r.2.2.2.2.2.1.length≤50∧r.2.2.2.2.2.2.1.length≤50
def isM (op:Int):Bool:=l7 (ile 36 op) (ile op 39) false
theorem a6r (op:Int):isM op=l7 (ieq op 36) true (l7 (ieq op 37) true (l7 (ieq op 38) true (ieq op 39))):=by
 unfold isM
 by_cases h1:36≤op
 ·rw[aF h1,o6]
  by_cases h2:op≤39
  ·rw[aF h2]
   have:op=36∨op=37∨op=38∨op=39:=by omega
   rcases this with rfl | rfl | rfl | rfl <;> rfl
  ·rw[aU (by omega),fF (by omega),fF (by omega),fF (by omega),fF (by omega)];rfl
 ·rw[aU (by omega),fF (by omega),fF (by omega),fF (by omega),fF (by omega)];rfl
def CO (p:Int→Bool) (e:List (Int×Int)):List Int:=(e.filter fun n=>p n.1).map (·.2)
def pK (e:List (Int×Int)):List Int×List Int×List Int:=(zy (CO (fun o=>ieq o 7) e),zy (CO (fun o=>ieq o 8) e),zy (CO isM e))
def a0p (g:List Int→Int→List Int) (b:List Int×List Int×List Int) (n:Int×Int):List Int×List Int×List Int:=
 (l7 (ieq n.1 7) (g b.1 n.2) b.1,l7 (ieq n.1 8) (g b.2.1 n.2) b.2.1,l7 (isM n.1) (g b.2.2 n.2) b.2.2)
theorem JM (g:List Int→Int→List Int):∀(e:List (Int×Int)) (b:List Int×List Int×List Int),e.foldl (a0p g) b=((CO (fun o=>ieq o 7) e).foldl g b.1,(CO (fun o=>ieq o 8) e).foldl g b.2.1,(CO isM e).foldl g b.2.2)
 | [],b=>rfl
 | n::e,b=>by
  have hn:∀p:Int→Bool,CO p (n::e)=l7 (p n.1) (n.2::CO p e) (CO p e):=fun p=>by
   unfold CO;rw[List.filter_cons];cases p n.1 <;> rfl
  rw[List.foldl_cons,JM g e,hn,hn,hn]
  unfold a0p
  simp only
  cases ieq n.1 7 <;> cases ieq n.1 8 <;> cases isM n.1 <;> rfl
theorem Jl:∀(l b:List Int),l.foldl (fun acc n=>acc++[n]) b=b++l
 | [],b=>by simp
 | a::l,b=>by rw[List.foldl_cons,Jl l];simp
theorem uh {a k:Int} (h:a=k) (m:Int) (hm:k≠m):ieq a m=false:=fF (by omega)
theorem qw {l:List Int} (hl:l.length≤1000000):fZ l=some (zy l):=by
 unfold fZ
 have:=a0X (l:=l) hl
 rw[show(fun x=>l9 (aQ x) fun(x:List Int)=>some x)=fun x=>aQ x from funext fun x=>mX _]
 exact this
theorem yG {e:List (Int×Int)} (h:e.length≤1000000):bC e=some (pK e):=by
 unfold bC
 refine ae e (a0p (fun acc n=>acc++[n])) (fun b i=>(b.1,b.2.1,b.2.2,i)) (fun b=>b) (fun i b=>b.1.length≤i∧b.2.1.length≤i∧b.2.2.length≤i) (([],[],[]):List Int×List Int×List Int) h (by simp) (fun i a b ha hi hI=>?_) (fun b hI=>?_) (fun h2=>?_)
 ·obtain⟨b1,b2,b3⟩:=b
  simp only at hI
  simp only[F9 ha,o6,D9,ha,o9,jg a.2 (show b1.length≤1000000 by omega),jg a.2 (show b2.length≤1000000 by omega),jg a.2 (show b3.length≤1000000 by omega),a0p,a6r]
  rw[U4 (by omega)]
  by_cases h7:a.1=7
  ·rw[dE h7,uh h7 8 (by decide),uh h7 36 (by decide),uh h7 37 (by decide),uh h7 38 (by decide),uh h7 39 (by decide)]
   exact⟨rfl,by simp <;> omega,by simp <;> omega,by simp <;> omega⟩
  rw[fF h7]
  by_cases h8:a.1=8
  ·rw[dE h8,uh h8 36 (by decide),uh h8 37 (by decide),uh h8 38 (by decide),uh h8 39 (by decide)]
   exact⟨rfl,by simp <;> omega,by simp <;> omega,by simp <;> omega⟩
  rw[fF h8]
  cases ieq a.1 36 <;> cases ieq a.1 37 <;> cases ieq a.1 38 <;> cases ieq a.1 39 <;> exact⟨rfl,by simp <;> omega,by simp <;> omega,by simp <;> omega⟩
 ·simp only[F8];rfl
 ·rw[JM]at h2 ⊢
  simp only[Jl,List.nil_append]at h2 ⊢
  rw[qw (by omega),o9,qw (by omega),o9,qw (by omega)]
  rfl
theorem Wv (p:Int→Bool) (e:List (Int×Int)):(CO p e).length≤e.length:=by
 unfold CO;rw[List.length_map];exact List.length_filter_le _ _
theorem xQ (e:List (Int×Int)):(pK e).2.1.length≤e.length:=Nat.le_trans (Nc _) (Wv _ e)
def inD (n d:Int):Bool:=l7 (ile 0 d) (ilt d n) false
def pG (n:Int) (r:H9):List Int:=(pK r.2.2.2.2.2.1).2.1.filter (inD n)++(pK r.2.2.2.2.2.2.1).2.1.filter (inD n)
theorem FX (p:Int→Bool):∀(l b:List Int),l.foldl (fun acc x=>l7 (p x) (acc++[x]) acc) b=b++l.filter p
 | [],b=>by simp
 | a::l,b=>by
  rw[List.foldl_cons,FX p l,List.filter_cons]
  cases p a <;> simp
theorem Jk {f:List Int×Int→Option ((List Int×Int)⊕List Int)} (l b:List Int) (n:Int) (hl:l.length≤1000) (hb:b.length≤1000)
  (hin:∀(i:Nat) (a:Int) (acc:List Int),l[i]? =some a→i≤1000000→f (acc,(i:Int))=l7 (ile 0 a) (l7 (ilt a n) (l9 (Y7 acc [a]) fun x=>some (.inl (x,x9 .i64 (i:Int) 1))) (some (.inl (acc,x9 .i64 (i:Int) 1)))) (some (.inl (acc,x9 .i64 (i:Int) 1))))
  (hend:∀acc,f (acc,(l.length:Int))=some (.inr acc)):N7 f (b,0)=some (b++l.filter (inD n)):=by
 have key:=yV l (fun(acc:List Int) x=>l7 (inD n x) (acc++[x]) acc) (fun b i=>(b,i)) (fun b=>b) (fun i acc=>acc.length≤1000+i) (f:=f) (b:=b) (by omega) (by omega) ?_ ?_
 ·rw[key.1,FX]
 ·intro i a acc ha hi hI
  have:=(J4.1 ha).1
  rw[hin i a acc ha hi,U4 (by omega),jg _ (by omega)]
  unfold inD
  cases ile 0 a
  ·exact⟨rfl,by show acc.length≤_;omega⟩
  cases ilt a n
  ·exact⟨rfl,by show acc.length≤_;omega⟩
  ·exact⟨rfl,by simp;omega⟩
 ·intro acc hI
  rw[hend]
theorem BM {r:H9} (n:Int) (h1:r.2.2.2.2.2.1.length≤50) (h2:r.2.2.2.2.2.2.1.length≤50):fJ r n=some (pG n r):=by
 have g1:=xQ r.2.2.2.2.2.1
 have g2:=xQ r.2.2.2.2.2.2.1
 unfold fJ pG
 rw[yG (by omega),o9,yG (by omega),o9]
 refine Z7 (Jk (pK r.2.2.2.2.2.1).2.1 [] n (by omega) (by simp) (fun i a acc ha hi=>?_) (fun acc=>?_)) ?_
 rotate_left 2
 ·rw[o9,mX,List.nil_append]
  have:=List.length_filter_le (inD n) (pK r.2.2.2.2.2.1).2.1
  refine Jk (pK r.2.2.2.2.2.2.1).2.1 _ n (by omega) (by omega) (fun i a acc ha hi=>?_) (fun acc=>?_)
  ·simp only[F9 ha,o6,D9,ha,o9]
   rw[show H6 (pK r.2.2.2.2.2.2.1).2.1 (toN (i:Int))=some a from ha,o9]
  ·simp only[F8];rfl
 ·simp only[F9 ha,o6,D9,ha,o9]
  rw[show H6 (pK r.2.2.2.2.2.1).2.1 (toN (i:Int))=some a from ha,o9]
 ·simp only[F8];rfl
def nD (s:x8):Int:=o7 s.2.2.2.1
def dl (n:Int) (rs:List H9) (d:Int):List Int:=rs.flatMap fun r=>l7 (ieq r.2.1 d) (pG n r) []
def U1 (s:x8) (d:Int):List Int:=l7 (inD (nD s) d) (zy (dl (nD s) s.2.2.2.2 d)) []
theorem JI {s:x8} (h:SmS s) {r:H9} (hr:r∈s.2.2.2.2) (n:Int):(pG n r).length≤100:=by
 obtain⟨_,h1,h2⟩:=h.ro r hr
 have a1:=xQ r.2.2.2.2.2.1
 have a2:=xQ r.2.2.2.2.2.2.1
 have b1:=List.length_filter_le (inD n) (pK r.2.2.2.2.2.1).2.1
 have b2:=List.length_filter_le (inD n) (pK r.2.2.2.2.2.2.1).2.1
 unfold pG;rw[List.length_append];omega
theorem QZ (n:Int) (rs:List H9) (r:H9) (d:Int):dl n (rs++[r]) d=dl n rs d++l7 (ieq r.2.1 d) (pG n r) []:=by
 unfold dl;rw[List.flatMap_append];simp
theorem ZR (n:Int) (rs:List H9) (r:H9) (d:Int):dl n (r::rs) d=l7 (ieq r.2.1 d) (pG n r) []++dl n rs d:=rfl
theorem OW {s:x8} (h:SmS s) (n d:Int):∀(rs:List H9),(∀r∈rs,r∈s.2.2.2.2)→(dl n rs d).length≤100*rs.length
 | [],_=>by simp[dl]
 | r::rs,hm=>by
  have ih:=OW h n d rs fun r hr=>hm r (by simp[hr])
  have h1:=JI h (hm r (by simp)) n
  rw[ZR,List.length_append,List.length_cons]
  cases ieq r.2.1 d
  ·simp only[o5,List.length_nil];omega
  ·simp only[o6];omega
theorem PE {n:Int} {rs:List H9} {d x:Int} :x∈dl n rs d↔∃r∈rs,r.2.1=d∧x∈pG n r:=by
 unfold dl
 rw[List.mem_flatMap]
 constructor
 ·rintro⟨r,hr,hx⟩
  cases hq:ieq r.2.1 d <;> rw[hq]at hx
  ·simp at hx
  ·exact⟨r,hr,U9.1 hq,hx⟩
 ·rintro⟨r,hr,hq,hx⟩
  exact⟨r,hr,by rw[dE hq];exact hx⟩
theorem Xl {n:Int} {r:H9} {x:Int} (h:x∈pG n r):0≤x∧x<n:=by
 have key:inD n x=true:=by
  unfold pG at h
  rcases List.mem_append.1 h with h | h <;> exact(List.mem_filter.1 h).2
 unfold inD at key
 cases h0:ile 0 x <;> rw[h0]at key
 ·cases key
 ·exact⟨jG.1 h0,uj.1 key⟩
theorem xE (s:x8) (d:Int):SI (U1 s d):=by
 unfold U1;cases inD (nD s) d
 ·exact List.Pairwise.nil
 ·exact TE _
theorem BN {s:x8} {d x:Int} (h:x∈U1 s d):0≤x∧x<nD s:=by
 unfold U1 at h
 cases hq:inD (nD s) d <;> rw[hq]at h
 ·simp at h
 ·obtain⟨r,_,_,hx⟩:=PE.1 ((Am _ _).1 h)
  exact Xl hx
theorem RD {α:Type} (m k:Nat) (f:Nat→α) (v:α):((List.range m).map f).set k v=(List.range m).map fun d=>if d=k then v else f d:=by
 apply List.ext_getElem?
 intro i
 rw[List.getElem?_set,List.getElem?_map,List.getElem?_map,List.length_map,List.length_range]
 by_cases hi:i<m
 ·rw[List.getElem?_range hi]
  by_cases h:k=i
  ·subst h;simp[hi]
  ·simp[h,Ne.symm h]
 ·have:(List.range m)[i]? =none:=by simp;omega
  rw[this]
  by_cases h:k=i
  ·subst h;simp[hi]
  ·simp[h]
def EZ (m:Nat) (rs:List H9):List (List Int):=(List.range m).map fun(d:Nat)=>dl (m:Int) rs (d:Int)
theorem Lu {l:List Int} (hl:l.length≤1000000):kK l=some (zy l):=qw hl
theorem KN {α:Type} (m:Nat) (f:Nat→α) {k:Nat} (h:k<m):((List.range m).map f)[k]? =some (f k):=by
 rw[List.getElem?_map,List.getElem?_range h];rfl
theorem Kr {s:x8} (h:SmS s):eG s=some ((List.range s.2.2.2.1.length).map fun(d:Nat)=>U1 s (d:Int)):=by
 have hnr:=h.nr
 have hnd:=h.nd
 unfold eG
 generalize hm:s.2.2.2.1.length=m at*
 have hn:nD s=(m:Int):=by unfold nD o7;rw[hm]
 rw[show o7 s.2.2.2.1=(m:Int)from hn,show iI (m:Int) ([]:List Int)=some (EZ m []) by unfold iI EZ dl;rw[if_pos (by omega)];simp[List.map_const'],o9]
 refine ae s.2.2.2.2 (fun(b:List (List Int)) r=>l7 (inD m r.2.1) (b.set r.2.1.toNat ((b.getD r.2.1.toNat [])++pG m r)) b) (fun b i=>(b,i)) (fun b=>b) (fun i b=>b=EZ m (s.2.2.2.2.take i)) (EZ m []) (by omega) (by simp) (fun i r b ha hi hI=>?_) (fun b hI=>?_) (fun h2=>?_)
 ·have hlt:=(J4.1 ha).1
  obtain⟨_,h1,h2⟩:=h.ro r (iG ha)
  have hst:s.2.2.2.2.take (i+1)=s.2.2.2.2.take i++[r]:=by
   rw[List.take_succ_eq_append_getElem hlt,(J4.1 ha).2]
  have hlb:o7 b=(m:Int):=by rw[hI];simp[o7,EZ]
  obtain⟨rd,hrd⟩:∃rd:Int,r.2.1=rd:=⟨r.2.1,rfl⟩
  simp only[F9 ha,o6,D9,ha,o9,hlb,hrd]
  rw[U4 (by omega),hst]
  by_cases hd:0≤rd∧rd<(m:Int)
  ·obtain⟨d0,d1⟩:=hd
   have hk:rd.toNat<m:=by omega
   have hkk:((rd.toNat:Nat):Int)=rd:=by omega
   have hg:b[rd.toNat]? =some (dl m (s.2.2.2.2.take i) rd):=by rw[hI];unfold EZ;rw[KN m _ hk,hkk]
   have hll:=OW h m rd (s.2.2.2.2.take i) fun r hr=>List.mem_of_mem_take hr
   have hrl:=JI h (iG ha) m
   have htl:(s.2.2.2.2.take i).length≤60:=by simp;omega
   rw[aF d0,aC d1,show inb rd (m:Int)=true by unfold inb;simp;omega,show H6 b (toN rd)=some (dl m (s.2.2.2.2.take i) rd)from hg,BM _ h1 h2]
   simp only[o6,o9]
   rw[Ai (by omega),show IJ (toN rd) (toN rd)=true by simp[IJ]]
   simp only[o6,o9]
   have hin:inD m rd=true:=by unfold inD;rw[aF d0,aC d1];rfl
   rw[hin,show b.getD rd.toNat []=dl m (s.2.2.2.2.take i) rd by rw[Ce,hg];rfl]
   refine⟨rfl,?_⟩
   show b.set rd.toNat _=_
   rw[hI];unfold EZ
   rw[RD]
   apply List.map_congr_left
   intro d hdm
   rw[QZ,hrd]
   by_cases hq:d=rd.toNat
   ·subst hq;rw[if_pos rfl,hkk,dE rfl];rfl
   ·rw[if_neg hq,fF (by omega)];simp
  ·have hin:inD m rd=false:=by
    unfold inD
    by_cases d0:0≤rd
    ·rw[aF d0,aJ (by omega)];rfl
    ·rw[aU (by omega)];rfl
   rw[hin]
   refine⟨?_,?_⟩
   ·unfold inD at hin
    cases q0:ile 0 rd
    ·rfl
    ·rw[q0]at hin;simp only[o6]at hin ⊢;rw[hin];rfl
   ·show b=_
    rw[hI];unfold EZ
    apply List.map_congr_left
    intro d hdm
    have:=List.mem_range.1 hdm
    rw[QZ,hrd,fF (by omega)];simp
 ·simp only[F8];rfl
 ·rw[List.take_length]at h2
  rw[h2]
  generalize hA:EZ m s.2.2.2.2=A
  have hAl:o7 A=(m:Int):=by rw[←hA];simp[o7,EZ]
  refine ae (List.range m) (fun(b:List (List Int)) d=>b.set d (zy (b.getD d []))) (fun b i=>(b,i)) (fun b=>b) (fun i b=>b=(List.range m).map fun(d:Nat)=>if d<i then zy (dl m s.2.2.2.2 (d:Int))else dl m s.2.2.2.2 (d:Int)) A (by simp;omega) (by rw[←hA];unfold EZ;simp) (fun i d b ha hi hI=>?_) (fun b hI=>?_) (fun h3=>?_)
  ·have hlt:=(J4.1 ha).1
   simp only[List.length_range]at hlt
   have hdi:d=i:=by rw[List.getElem?_range hlt]at ha;exact(Option.some.inj ha).symm
   subst hdi
   have hlb:o7 b=(m:Int):=by rw[hI];simp[o7]
   have hg:b[d]? =some (dl m s.2.2.2.2 (d:Int)):=by rw[hI,KN m _ hlt,if_neg (by omega)]
   have hll:=OW h m d s.2.2.2.2 fun r hr=>hr
   simp only[hAl,hlb]
   rw[aC (show(d:Int)<(m:Int) by omega),show inb (d:Int) (m:Int)=true by unfold inb;simp;omega,show H6 b (toN (d:Int))=some (dl m s.2.2.2.2 (d:Int))from hg]
   simp only[o6,o9]
   rw[Lu (by omega),show IJ (toN (d:Int)) (toN (d:Int))=true by simp[IJ],U4 (by omega)]
   simp only[o6,o9]
   rw[show b.getD d []=dl m s.2.2.2.2 (d:Int) by rw[Ce,hg];rfl]
   refine⟨rfl,?_⟩
   rw[hI,RD]
   apply List.map_congr_left
   intro e he
   by_cases hq:e=d
   ·subst hq;rw[if_pos rfl,if_pos (by omega)]
   ·rw[if_neg hq]
    by_cases hq2:e<d
    ·rw[if_pos hq2,if_pos (by omega)]
    ·rw[if_neg hq2,if_neg (by omega)]
  ·simp only[List.length_range,hAl,aJ (show(m:Int)≤(m:Int) by omega)];rfl
  ·rw[h3]
   apply congrArg some
   apply List.map_congr_left
   intro d hd
   have:=List.mem_range.1 hd
   simp only[List.length_range]
   rw[if_pos this]
   unfold U1
   rw[hn,show inD (m:Int) (d:Int)=true by unfold inD;rw[aF (by omega),aC (by omega)];rfl];rfl
def Rch (D:Int→List Int) (d:Int) (L:List Int):Prop:=SI L∧(∀x∈D d,x∈L)∧(∀x∈L,∀y∈D x,y∈L)∧∀C:Int→Prop,(∀x∈D d,C x)→(∀x,C x→∀y∈D x,C y)→∀x∈L,C x
theorem Rch.unique {D:Int→List Int} {d:Int} {L M:List Int} (h:Rch D d L) (k:Rch D d M):L=M:=
 Qd h.1 k.1 fun x=>⟨fun hx=>h.2.2.2 (fun y=>y∈M) k.2.1 k.2.2.1 x hx,fun hx=>k.2.2.2 (fun y=>y∈L) h.2.1 h.2.2.1 x hx⟩
theorem LJ:∀{B A:List Int},SI A→SI B→(∀x∈A,x∈B)→A=B∨A.length<B.length
 | [],A,_,_,h=>by
  cases A with
  | nil=>exact .inl rfl
  | cons a A=>exact absurd (h a (by simp)) (by simp)
 | b::B,[],_,_,_=> .inr (by simp)
 | b::B,a::A,hA,hB,h=>by
  have hA' :=List.pairwise_cons.1 hA
  have hB' :=List.pairwise_cons.1 hB
  rcases List.mem_cons.1 (h a (by simp))with hab | hab
  ·subst hab
   rcases LJ (B:=B) (A:=A) hA'.2 hB'.2 (fun x hx=>by
    rcases List.mem_cons.1 (h x (by simp[hx]))with h1 | h1
    ·have:=hA'.1 x hx;omega
    ·exact h1)with h1 | h1
   ·exact .inl (by rw[h1])
   ·exact .inr (by simp only[List.length_cons];omega)
  ·have hab2:=hB'.1 a hab
   rcases LJ (B:=B) (A:=a::A) hA hB'.2 (fun x hx=>by
    rcases List.mem_cons.1 (h x hx)with h1 | h1
    ·rcases List.mem_cons.1 hx with h2 | h2
     ·omega
     ·have:=hA'.1 x h2;omega
    ·exact h1)with h1 | h1
   ·exact .inr (by rw[h1];simp)
   ·exact .inr (by simp only[List.length_cons]at*;omega)
def wH (D:Int→List Int) (L:List Int):List Int:=L.foldl (fun acc x=>Gl (D x) acc) L
theorem sF (D:Int→List Int) (x:Int):∀(l acc:List Int),x∈l.foldl (fun acc x=>Gl (D x) acc) acc↔x∈acc∨∃y∈l,x∈D y
 | [],acc=>by simp
 | a::l,acc=>by
  rw[List.foldl_cons,sF D x l,Gx]
  constructor
  ·rintro((h | h) | ⟨y,hy,h⟩)
   ·exact .inr ⟨a,by simp,h⟩
   ·exact .inl h
   ·exact .inr ⟨y,by simp[hy],h⟩
  ·rintro(h | ⟨y,hy,h⟩)
   ·exact .inl (.inr h)
   ·rcases List.mem_cons.1 hy with rfl | hy
    ·exact .inl (.inl h)
    ·exact .inr ⟨y,hy,h⟩
theorem RN (D:Int→List Int):∀(l:List Int) {acc:List Int},SI acc→SI (l.foldl (fun acc x=>Gl (D x) acc) acc)
 | [],_,h=>h
 | a::l,_,h=>by rw[List.foldl_cons];exact RN D l (Lr _ h)
theorem GM (D:Int→List Int) {L:List Int} (h:SI L):SI (wH D L):=RN D L h
def itS (D:Int→List Int) (d:Int):Nat→List Int
 | 0=>D d
 | k+1=>wH D (itS D d k)
section
variable {D:Int→List Int} {n:Nat} (hsi:∀x,SI (D x)) (hin:∀x,∀y∈D x,0≤y∧y<(n:Int))
include hsi hin
theorem MV (d:Int):∀k,SI (itS D d k)
 | 0=>hsi d
 | k+1=>GM D (MV d k)
theorem VO (d:Int):∀k,∀x∈itS D d k,0≤x∧x<(n:Int)
 | 0,x,hx=>hin d x hx
 | k+1,x,hx=>by
  rcases(sF D x _ _).1 hx with h | ⟨y,_,h⟩
  ·exact VO d k x h
  ·exact hin y x h
theorem Rw (d:Int) (k:Nat):wH D (itS D d k)=itS D d k∨(itS D d k).length<(wH D (itS D d k)).length:=by
 rcases LJ (MV hsi hin d k) (GM D (MV hsi hin d k)) (fun x hx=>(sF D x _ _).2 (.inl hx))with h | h
 ·exact .inl h.symm
 ·exact .inr h
theorem Jq (d:Int):∀k,wH D (itS D d k)=itS D d k∨k<(wH D (itS D d k)).length
 | 0=>by
  rcases Rw hsi hin d 0 with h | h
  ·exact .inl h
  ·exact .inr (by omega)
 | k+1=>by
  rcases Jq d k with h | h
  ·exact .inl (by show wH D (wH D (itS D d k))=wH D (itS D d k);rw[h,h])
  ·rcases Rw hsi hin d (k+1)with h2 | h2
   ·exact .inl h2
   ·exact .inr (by
     have:(itS D d (k+1)).length=(wH D (itS D d k)).length:=rfl
     omega)
theorem a6s (d:Int):Rch D d (itS D d n):=by
 have hst:wH D (itS D d n)=itS D d n:=by
  rcases Jq hsi hin d n with h | h
  ·exact h
  ·have:=Qe n (GM D (MV hsi hin d n)) (VO hsi hin d (n+1))
   omega
 refine⟨MV hsi hin d n,?_,?_,?_⟩
 ·intro x hx
  have:∀k,x∈itS D d k:=by
   intro k
   induction k with
   | zero=>exact hx
   | succ k ih=>exact(sF D x _ _).2 (.inl ih)
  exact this n
 ·intro x hx y hy
  rw[←hst]
  exact(sF D y _ _).2 (.inr ⟨x,hx,hy⟩)
 ·intro C h1 h2
  have:∀k,∀x∈itS D d k,C x:=by
   intro k
   induction k with
   | zero=>exact h1
   | succ k ih=>
    intro x hx
    rcases(sF D x _ _).1 hx with h | ⟨y,hy,h⟩
    ·exact ih x h
    ·exact h2 y (ih y hy) x h
  exact this n
end
def nJ (s:x8) (d:Int):List Int:=itS (U1 s) d s.2.2.2.1.length
theorem xY (s:x8) (d:Int):Rch (U1 s) d (nJ s d):=
 a6s (n:=s.2.2.2.1.length) (xE s) (fun x y hy=>BN hy) d
theorem Zn {s:x8} {d x:Int} (h:x∈nJ s d):0≤x∧x<nD s:=VO (n:=s.2.2.2.1.length) (xE s) (fun x y hy=>BN hy) d _ x h
theorem Pq {s:x8} (h:SmS s) {l:List Int} (hs:SI l) (hi:∀x∈l,0≤x∧x<nD s):l.length≤14:=Nat.le_trans (Qe s.2.2.2.1.length hs hi) h.nd
def mk (S:List Bool) (x:Int):Bool:=if 0≤x then S.getD x.toNat false else false
def unm (S:List Bool):Nat:=S.count false
def rG (b:List Bool×List Int) (e:Int):List Bool×List Int:=l7 (mk b.1 e) b (b.1.set e.toNat true,b.2++[e])
theorem Wi {S:List Bool} {x:Int} (h0:0≤x) (h1:x<o7 S):S[x.toNat]? =some (mk S x):=by
 unfold mk;rw[if_pos h0,Ce]
 have:x.toNat<S.length:=by simp only[o7]at h1;omega
 rw[ay this];rfl
theorem Wj {S:List Bool} {e:Int} (h0:0≤e) (h1:e<o7 S) (x:Int):mk (S.set e.toNat true) x=l7 (ieq x e) true (mk S x):=by
 unfold mk
 have hl:e.toNat<S.length:=by simp only[o7]at h1;omega
 by_cases hx:0≤x
 ·rw[if_pos hx,if_pos hx,Ce,Ce,List.getElem?_set]
  by_cases hq:x=e
  ·subst hq;rw[if_pos rfl,if_pos hl,dE rfl];rfl
  ·rw[if_neg (by omega),fF hq];rfl
 ·rw[if_neg hx,if_neg hx,fF (by omega)];rfl
theorem a0Y {S:List Bool} {e:Int} (h0:0≤e) (h1:e<o7 S) (hm:mk S e=false):unm (S.set e.toNat true)+1=unm S:=by
 have hl:e.toNat<S.length:=by simp only[o7]at h1;omega
 have hg:=Wi h0 h1
 rw[hm,ay hl]at hg
 have hg' :S[e.toNat]=false:=Option.some.inj hg
 unfold unm
 rw[List.count_set hl,hg']
 have:0<S.count false:=List.count_pos_iff.2 (by rw[←hg'];exact List.getElem_mem hl)
 simp;omega
structure RInv (n:Nat) (S:List Bool) (Q:List Int) (l:List Int) (S' :List Bool) (Q' :List Int):Prop where
 len:S'.length=n
 seen:∀x:Int,0≤x→x<(n:Int)→(mk S' x=true↔mk S x=true∨x∈l)
 sum:Q'.length+unm S' =Q.length+unm S
 le:unm S' ≤unm S
 old:∀x∈Q,x∈Q'
 new:∀x∈Q',x∈Q∨x∈l
 got:∀x,mk S' x=true→mk S x=true∨x∈Q'
theorem Xt {n:Nat} :∀(l:List Int) (S:List Bool) (Q:List Int),S.length=n→(∀x∈l,0≤x∧x<(n:Int))→RInv n S Q l (l.foldl rG (S,Q)).1 (l.foldl rG (S,Q)).2
 | [],S,Q,hl,_=>⟨hl,fun x _ _=>by simp,rfl,Nat.le_refl _,fun x hx=>hx,fun x hx=> .inl hx,fun x hx=> .inl hx⟩
 | e::l,S,Q,hl,hi=>by
  have he:=hi e (by simp)
  have hel:e<o7 S:=by simp only[o7];omega
  rw[List.foldl_cons]
  cases hm:mk S e with
  | true=>
   rw[show rG (S,Q) e=(S,Q) by unfold rG;rw[hm];rfl]
   have ih:=Xt l S Q hl fun x hx=>hi x (by simp[hx])
   refine⟨ih.len,fun x h0 h1=>?_,ih.sum,ih.le,ih.old,fun x hx=>?_,ih.got⟩
   ·rw[ih.seen x h0 h1,List.mem_cons]
    constructor
    ·rintro(h | h)
     ·exact .inl h
     ·exact .inr (.inr h)
    ·rintro(h | h | h)
     ·exact .inl h
     ·subst h;exact .inl hm
     ·exact .inr h
   ·rcases ih.new x hx with h | h
    ·exact .inl h
    ·exact .inr (by simp[h])
  | false=>
   rw[show rG (S,Q) e=(S.set e.toNat true,Q++[e]) by unfold rG;rw[hm];rfl]
   have ih:=Xt l (S.set e.toNat true) (Q++[e]) (by simp[hl]) fun x hx=>hi x (by simp[hx])
   have hu:=a0Y he.1 hel hm
   refine⟨ih.len,fun x h0 h1=>?_,?_,?_,fun x hx=>ih.old x (by simp[hx]),fun x hx=>?_,fun x hx=>?_⟩
   ·rw[ih.seen x h0 h1,Wj he.1 hel,List.mem_cons]
    cases hq:ieq x e
    ·rw[ui]at hq;simp[hq]
    ·rw[U9]at hq;simp[hq]
   ·have:=ih.sum;simp only[List.length_append,List.length_cons,List.length_nil]at this;omega
   ·have:=ih.le;omega
   ·rcases ih.new x hx with h | h
    ·rcases List.mem_append.1 h with h | h
     ·exact .inl h
     ·exact .inr (by simp at h;simp[h])
    ·exact .inr (by simp[h])
   ·rcases ih.got x hx with h | h
    ·rw[Wj he.1 hel]at h
     cases hq:ieq x e
     ·rw[hq]at h;exact .inl h
     ·rw[U9]at hq;subst hq
      exact .inr (ih.old _ (by simp))
    ·exact .inr h
def DR (S:List Bool):List Int:=((List.range S.length).filter fun i=>S.getD i false).map fun(i:Nat)=>(i:Int)
theorem xK {S:List Bool} (x:Int):x∈DR S↔mk S x=true:=by
 unfold DR mk
 rw[List.mem_map]
 constructor
 ·rintro⟨i,hi,rfl⟩
  rw[if_pos (by omega)]
  exact(List.mem_filter.1 hi).2
 ·intro h
  split at h
  ·refine⟨x.toNat,List.mem_filter.2 ⟨List.mem_range.2 ?_,h⟩,by omega⟩
   rw[Ce]at h
   cases hg:S[x.toNat]? with
   | none=>rw[hg]at h;cases h
   | some b=>exact(J4.1 hg).1
  ·cases h
theorem VY (S:List Bool):SI (DR S):=by
 unfold DR
 refine List.Pairwise.map _ (R:=(·< ·)) (fun a b h=>by omega) (List.Pairwise.filter _ List.pairwise_lt_range)
theorem PD {f:List Int×Int→Option ((List Int×Int)⊕List Int)} (S:List Bool) (hS:S.length≤100)
  (hin:∀(i:Nat) (a:Bool) (acc:List Int),S[i]? =some a→i≤1000000→acc.length≤i→f (acc,(i:Int))=l7 a (l9 (Y7 acc [(i:Int)]) fun x=>some (.inl (x,x9 .i64 (i:Int) 1))) (some (.inl (acc,x9 .i64 (i:Int) 1))))
  (hend:∀acc,f (acc,(S.length:Int))=some (.inr acc)):N7 f ([],0)=some (DR S):=by
 have mk2:∀i,i≤S.length→((List.range i).filter fun i=>S.getD i false).length≤i:=fun i _=>by
  have:=List.length_filter_le (fun i=>S.getD i false) (List.range i);simpa using this
 obtain⟨e,h1,h2⟩:=ut (f:=f) (s:=([],0)) (fun x=>∃i:Nat,x=(((List.range i).filter fun i=>S.getD i false).map fun(i:Nat)=>(i:Int),(i:Int))∧i≤S.length) (fun e=>e=DR S) (fun x=>S.length -x.2.toNat) ⟨0,rfl,by omega⟩ (by simp;omega) (by
  rintro x ⟨i,rfl,hi⟩
  by_cases h:i<S.length
  ·have e:=ay h
   have hst:(List.range (i+1)).filter (fun i=>S.getD i false)=(List.range i).filter (fun i=>S.getD i false)++l7 S[i] [i] []:=by
    rw[List.range_succ,List.filter_append]
    congr 1
    rw[List.filter_cons,Ce,e]
    cases S[i] <;> rfl
   have hl:=mk2 i hi
   refine .inl ⟨(((List.range (i+1)).filter fun i=>S.getD i false).map fun(i:Nat)=>(i:Int),((i+1:Nat):Int)),?_,⟨i+1,rfl,h⟩,by simp;omega⟩
   rw[hin i _ _ e (by omega) (by simpa using hl),U4 (by omega),hst,List.map_append,jg _ (by rw[List.length_map];omega)]
   cases S[i]
   ·simp
   ·rfl
  ·have:i=S.length:=by omega
   subst this
   exact .inr ⟨_,hend _,rfl⟩)
 rw[h1,h2]
theorem PS {D:Int→List Int} {n:Nat} (hn:n≤14) (hsi:∀x,SI (D x)) (hin:∀x,∀y∈D x,0≤y∧y<(n:Int)) {d:Int} (h0:0≤d) (h1:d<(n:Int)):
  ∃L,kJ ((List.range n).map fun(x:Nat)=>D (x:Int)) d=some L∧Rch D d L:=by
 have hA:o7 ((List.range n).map fun(x:Nat)=>D (x:Int))=(n:Int):=by simp[o7]
 have hget:∀x:Int,0≤x→x<n→lat ((List.range n).map fun(x:Nat)=>D (x:Int)) x=some (D x):=fun x a b=>by
  have:x.toNat<n:=by omega
  unfold lat
  rw[if_pos a,KN n _ this,Int.toNat_of_nonneg a]
 unfold kJ
 generalize (List.range n).map (fun(x:Nat)=>D (x:Int))=A at*
 rw[hA,show iI (n:Int) false=some (List.replicate n false) by unfold iI;rw[if_pos (by omega)];simp,o9]
 have hD14:∀x,(D x).length≤14:=fun x=>Nat.le_trans (Qe n (hsi x) (hin x)) hn
 have key:=ut (f:=fun(x:List Bool×List Int)=>l7 (ilt 0 (o7 x.2)) (l9 (lat x.2 0) fun(x_1:Int)=>l9 (H6 x.2 (toN 0)) fun(x_2:Int)=>l7 (gK 1 (o7 x.2) (o7 x.2)) (l9 (lat A x_2) fun(x_3:List Int)=>
   l9 (N7 (fun(x:List Bool×List Int×Int)=>l7 (ilt x.2.2 (o7 x_3)) (l9 (lat x_3 x.2.2) fun(x_4:Int)=>l9 (lat x.1 x_4) fun(x_5:Bool)=>l9 (H6 x.1 (toN x_4)) fun(x_6:Bool)=>
     l7 (C9 x_6) (l9 (lat x.1 x_4) fun(x_7:Bool)=>l9 (H6 x.1 (toN x_4)) fun(x_8:Bool)=>l9 (Y7 x.2.1 [x_4]) fun(x_9:List Int)=>some (.inl (I9 x.1 (toN x_4) true,x_9,x9 .i64 x.2.2 1)))
      (some (.inl (x.1,x.2.1,x9 .i64 x.2.2 1)))) (some (.inr (x.1,x.2.1)))) (x.1,dF x.2 (toN 1) (toN (o7 x.2)),0)) fun(y:List Bool×List Int)=>some (.inl y)) none) (some (.inr x.1)))
  (s:=(List.replicate n false,[d]))
  (fun x=>x.1.length=n∧(∀q∈x.2,0≤q∧q<(n:Int))∧x.2.length+unm x.1≤n+1∧(∀q∈x.2,q=d∨mk x.1 q=true)∧(∀v,v=d∨mk x.1 v=true→v∈x.2∨∀y∈D v,mk x.1 y=true)∧
   (∀C:Int→Prop,(∀x∈D d,C x)→(∀x,C x→∀y∈D x,C y)→∀v,mk x.1 v=true→C v)∧(∀v,mk x.1 v=true→0≤v∧v<(n:Int)))
  (fun S=>S.length=n∧Rch D d (DR S)) (fun x=>2*unm x.1+x.2.length) ?_ ?_ ?_
 ·obtain⟨S,k1,k2,k3⟩:=key
  refine⟨DR S,?_,k3⟩
  refine(Wx k1 _).trans ?_
  rw[mX]
  refine PD S (by omega) (fun i a acc ha hi hacc=>?_) (fun acc=>?_)
  ·simp only[F9 ha,o6,D9,ha,o9]
   rw[show H6 S (toN (i:Int))=some a from ha,o9]
  ·simp only[F8];rfl
 ·have hnone:∀v,mk (List.replicate n false) v=false:=fun v=>by
   unfold mk
   split
   ·rw[Ce,List.getElem?_replicate];split <;> rfl
   ·rfl
  refine⟨by simp,fun q hq=>by simp at hq;omega,?_,fun q hq=> .inl (by simpa using hq),fun v hv=>?_,fun C _ _ v hv=>(by rw[hnone]at hv;cases hv),fun v hv=>(by rw[hnone]at hv;cases hv)⟩
  ·simp[unm,List.count_replicate];omega
  ·rcases hv with rfl | hv
   ·exact .inl (by simp)
   ·rw[hnone]at hv;cases hv
 ·simp[unm,List.count_replicate];omega
 ·rintro⟨S,Q⟩ ⟨i1,i2,i3,i4,i5,i6,i7⟩
  simp only at i1 i2 i3 i4 i5 i6 i7
  cases Q with
  | nil=>
   right
   refine⟨S,rfl,i1,VY S,fun x hx=>?_,fun x hx y hy=>?_,fun C c1 c2 x hx=>i6 C c1 c2 x ((xK x).1 hx)⟩
   ·rcases i5 d (.inl rfl)with h | h
    ·cases h
    ·exact(xK x).2 (h x hx)
   ·rcases i5 x (.inr ((xK x).1 hx))with h | h
    ·cases h
    ·exact(xK y).2 (h y hy)
  | cons q Q=>
   left
   have hq:=i2 q (by simp)
   have hfold:=Xt (n:=n) (D q) S Q i1 (fun x hx=>hin q x hx)
   refine⟨(D q).foldl rG (S,Q),?_,?_,?_⟩
   ·simp only[aC (show(0:Int)<o7 (q::Q) by simp[o7] <;> omega),o6,show lat (q::Q) 0=some q from rfl,show H6 (q::Q) (toN 0)=some q from rfl,o9,hget q hq.1 hq.2,
     show gK 1 (o7 (q::Q)) (o7 (q::Q))=true by simp[gK,o7] <;> omega,show dF (q::Q) (toN 1) (toN (o7 (q::Q)))=Q by simp[dF,toN,o7]]
    refine ae (D q) rG (fun b i=>(b.1,b.2,i)) (fun b=>b) (fun i b=>b.1.length=n∧b.2.length≤100+i) (S,Q) (by have:=hD14 q;omega) ⟨i1,by simp at i3;show Q.length≤100+0;omega⟩ (fun i e b he hi hI=>?_) (fun b hI=>?_) (fun h2=>rfl)
    ·obtain⟨S1,Q1⟩:=b
     simp only at hI
     have hee:=hin q e (iG he)
     have hlt:=(J4.1 he).1
     have hdl:=hD14 q
     have hg:=Wi (S:=S1) hee.1 (by simp only[o7];omega)
     have hla:lat S1 e=some (mk S1 e):=by unfold lat;rw[if_pos hee.1];exact hg
     have hlg:H6 S1 (toN e)=some (mk S1 e):=hg
     simp only[F9 he,o6,D9 (D q),he,o9,hla,hlg]
     rw[U4 (by omega),jg _ (by omega)]
     unfold rG
     simp only
     cases mk S1 e
     ·exact⟨rfl,by simp[hI.1],by simp <;> omega⟩
     ·exact⟨rfl,hI.1,by show Q1.length≤_;omega⟩
    ·simp only[F8];rfl
   ·obtain⟨j1,j2,j3,j4,j5,j6,j7⟩:=hfold
    generalize (D q).foldl rG (S,Q)=b at*
    obtain⟨S',Q'⟩:=b
    simp only at j1 j2 j3 j4 j5 j6 j7 ⊢
    have hrange:∀v,mk S' v=true→0≤v∧v<(n:Int):=fun v hv=>by
     rcases j7 v hv with h | h
     ·exact i7 v h
     ·rcases j6 v h with h | h
      ·exact i2 v (by simp[h])
      ·exact hin q v h
    refine⟨j1,fun x hx=>?_,?_,fun x hx=>?_,fun v hv=>?_,fun C c1 c2 v hv=>?_,hrange⟩
    ·rcases j6 x hx with h | h
     ·exact i2 x (by simp[h])
     ·exact hin q x h
    ·simp only[List.length_cons]at i3;omega
    ·rcases j6 x hx with h | h
     ·rcases i4 x (by simp[h])with h2 | h2
      ·exact .inl h2
      ·have hr:=i7 x h2
       exact .inr ((j2 x hr.1 hr.2).2 (.inl h2))
     ·have hr:=hin q x h
      exact .inr ((j2 x hr.1 hr.2).2 (.inr h))
    ·have up:∀y,mk S y=true→mk S' y=true:=fun y hy=>by
      have hr:=i7 y hy
      exact(j2 y hr.1 hr.2).2 (.inl hy)
     by_cases hvq:v=q
     ·subst hvq
      right
      intro y hy
      have hr:=hin v y hy
      exact(j2 y hr.1 hr.2).2 (.inr hy)
     ·by_cases hold:v=d∨mk S v=true
      ·rcases i5 v hold with h | h
       ·rcases List.mem_cons.1 h with h | h
        ·exact absurd h hvq
        ·exact .inl (j5 v h)
       ·exact .inr fun y hy=>up y (h y hy)
      ·rcases hv with h | h
       ·exact absurd (.inl h) hold
       ·rcases j7 v h with h2 | h2
        ·exact absurd (.inr h2) hold
        ·exact .inl h2
    ·by_cases hS:mk S v=true
     ·exact i6 C c1 c2 v hS
     ·have hr:=hrange v hv
      rcases(j2 v hr.1 hr.2).1 hv with h | h
      ·exact absurd h hS
      ·rcases i4 q (by simp)with h2 | h2
       ·subst h2;exact c1 v h
       ·exact c2 q (i6 C c1 c2 q h2) v h
   ·have:=hfold.sum;have:=hfold.le
    simp only[List.length_cons];omega
theorem IV {s:x8} (h:SmS s) {d:Int} (h0:0≤d) (h1:d<nD s):di s d=some (nJ s d):=by
 have hn:nD s=((s.2.2.2.1.length:Nat):Int):=rfl
 unfold di
 change l7 (ilt d 0) _ (l7 (ile (nD s) d) _ _)=_
 rw[aJ h0,o5,aU h1,o5,Kr h,o9,mX]
 obtain⟨L,k1,k2⟩:=PS (D:=U1 s) h.nd (xE s) (fun x y hy=>BN hy) h0 (show d<((s.2.2.2.1.length:Nat):Int) by omega)
 rw[k1,Rch.unique k2 (xY s d)]
structure SmL (l:G5):Prop where
 few:Few l
 en:JW l
 tb:EU l
 sc:∀s∈l.2.2,SmS s
theorem SmL.scopes {l:G5} (h:SmL l):LW l:=fun s hs=>by
 have hm:=h.sc s hs
 exact⟨hm.nm,by have:=hm.ni;omega,by have:=hm.nd;omega,by have:=hm.nr;omega⟩
theorem xI {ε ρ:Type} {p:Nat→Option ρ} (n:Nat) (hn:n≤1000000) (e:ε) {f:Int→Option (Out Int ε ρ)}
  (h1:∀i,i<n→f (i:Int)=some (match p i with | some r=> .rt r | none=> .nx (x9 .i64 (i:Int) 1))) (h2:f (n:Int)=some (.ex e)):
  G8 f 0=some (match I8 n p with | some r=> .inr r | none=> .inl e):=
 wC n (by omega) e (fun i hi=>by rw[h1 i hi,U4 (by omega)] <;> cases p i <;> rfl) h2
def qK (l:G5) (s:x8) (k:Nat):Option (Int×Int):=match s.2.2.2.2[k]? with | some r=>IB (vz s (zx l s) k r) (300+k:Nat) | none=>none
def IA (s:x8) (d:Nat):Option (Int×Int):=l7 ((nJ s d).any fun x=>ieq (d:Int) x) (some (9,((200+d:Nat):Int))) none
def nH (l:G5) (i:Nat) (m:Int):Bool:=l7 (ieq m (-1)) false (l7 (ilt m 0) true (l7 (ile (i:Int) m) true (match lat l.2.2 m with | some q=>C9 (ieq q.2.1 (-1)) | none=>true)))
def pq (l:G5) (s:x8):Int×Int:=match iY l s with
 | some r=>r
 | none=>match I8 s.2.2.2.2.length (qK l s)with
  | some r=>r
  | none=>match I8 s.2.2.2.1.length (IA s)with
   | some r=>r
   | none=>(0,0)
def rE (l:G5) (i:Nat) (s:x8):Int×Int:=
 l7 (pW s.1) (l7 (sU l 3 i s.1) (7,0) (l7 (nH l i s.2.1) (6,0) (l7 (ilt 12 (o7 s.2.2.1)) (4,112) (l7 (ilt 12 (o7 s.2.2.2.1)) (4,212) (pq l s))))) (2,0)
theorem Iw {l:G5} (hL:SmL l) {i:Nat} {s:x8} (hs:l.2.2[i]? =some s):kT l (i:Int)=some (rE l i s):=by
 have hi:=(J4.1 hs).1
 have hS:=hL.sc s (iG hs)
 have hf:=hL.few
 have hf1:=hf.1;have hf2:=hf.2.1;have hf3:=hf.2.2
 have n1:=hS.ni;have n2:=hS.nd;have n3:=hS.nr
 unfold kT rE sU
 rw[D9,hs,o9,jZ (by omega),o9,yT _ (by omega),o9,DK _ (by omega),o9,MQ _ (by simp;omega),o9]
 have hb:(l7 (l.1.any fun x=>seq x.1 s.1) (some (s,true)) (l7 (l.2.1.any fun x=>seq x.1 s.1) (some (s,true)) (some (s,(l.2.2.take i).any fun x=>seq x.1 s.1))))=
   some (s,(l.1.any fun x=>seq x.1 s.1) || (l.2.1.any fun x=>seq x.1 s.1) || (l.2.2.take i).any fun x=>seq x.1 s.1):=by
  cases l.1.any fun x=>seq x.1 s.1
  ·cases l.2.1.any fun x=>seq x.1 s.1 <;> rfl
  ·rfl
 rw[hb,o9]
 simp only
 rw[cZ hS.nm,o9]
 cases pW s.1
 ·rfl
 simp only[E5,o5,o6]
 cases (l.1.any fun x=>seq x.1 s.1) || (l.2.1.any fun x=>seq x.1 s.1) || (l.2.2.take i).any fun x=>seq x.1 s.1
 case true=>rfl
 simp only[o5]
 have hm:(l7 (C9 (ieq s.2.1 (-1))) (l7 (ilt s.2.1 0) (some true) (l7 (ile (i:Int) s.2.1) (some true) (l9 (lat (l.2.2.take i) s.2.1) fun(x:x8)=>some (C9 (ieq x.2.1 (-1)))))) (some false))=some (nH l i s.2.1):=by
  unfold nH
  cases ieq s.2.1 (-1)
  case true=>rfl
  simp only[P7,o6,o5]
  cases h0:ilt s.2.1 0
  case true=>rfl
  cases h1:ile (i:Int) s.2.1
  case true=>rfl
  rw[nz]at h0;rw[yU]at h1
  obtain⟨q,hq,_⟩:=um (l:=l.2.2.take i) h0 (by simp only[o7,List.length_take];omega)
  have hq2:lat l.2.2 s.2.1=some q:=by
   have:=(Js hq).2.2.2
   unfold lat;rw[if_pos h0];exact(Ov this).2
  rw[hq,hq2];rfl
 rw[hm,o9]
 cases nH l i s.2.1
 case true=>rfl
 simp only[o5]
 cases ilt 12 (o7 s.2.2.1)
 case true=>rfl
 cases ilt 12 (o7 s.2.2.2.1)
 case true=>rfl
 simp only[o5,o9,X9]
 unfold pq iY
 refine Z7 (xI (p:=inP l s) s.2.2.1.length (by omega) PUnit.unit (fun k hk=>?_) ?_) ?_
 rotate_left 2
 ·cases I8 s.2.2.1.length (inP l s)
  case some r=>rfl
  simp only[o9,X9]
  refine Z7 (xI (p:=KA l s) s.2.2.2.1.length (by omega) PUnit.unit (fun k hk=>?_) ?_) ?_
  rotate_left 2
  ·cases I8 s.2.2.2.1.length (KA l s)
   case some r=>rfl
   simp only[o9,X9]
   rw[zu hL.scopes hs,o9]
   refine Z7 (xI (p:=qK l s) s.2.2.2.2.length (by omega) PUnit.unit (fun k hk=>?_) ?_) ?_
   rotate_left 2
   ·cases I8 s.2.2.2.2.length (qK l s)
    case some r=>rfl
    simp only[o9,X9]
    refine Z7 (xI (p:=IA s) s.2.2.2.1.length (by omega) PUnit.unit (fun k hk=>?_) ?_) ?_
    rotate_left 2
    ·cases I8 s.2.2.2.1.length (IA s) <;> rfl
    ·have e:=ay hk
     simp only[F9 e,o6]
     rw[IV hS (by omega) (by show(k:Int)<o7 s.2.2.2.1;simp only[o7];omega),o9,Uj _ (by
      have:=Pq hS (xY s (k:Int)).1 (fun x hx=>Zn hx)
      omega),o9,show(200:Int)=((200:Nat):Int)from rfl,Ri (by omega) (by omega)]
     unfold IA
     cases (nJ s (k:Int)).any fun x=>ieq (k:Int) x <;> rfl
    ·rw[F8];rfl
   ·have e:=ay hk
    have hr:=(hS.ro _ (List.getElem_mem hk)).1
    simp only[F9 e,o6]
    rw[Ky _ e (by omega) hr,o9,show(300:Int)=((300:Nat):Int)from rfl,Ri (by omega) (by omega)]
    simp only[qK,e,IB]
    cases ieq (vz s (zx l s) k s.2.2.2.2[k]) 0 <;> rfl
   ·rw[F8];rfl
  ·have e:=ay hk
   have hm:=hS.fo.2 _ (List.getElem_mem hk)
   simp only[F9 e,o6,D9,e,o9]
   rw[jZ (by omega),o9,yl hm (by omega) (by simp;omega),o9,show(200:Int)=((200:Nat):Int)from rfl,Ri (by omega) (by omega)]
   simp only[KA,e,IB]
   cases ieq (vY l.1 s.2.2.2.1[k] s.2.2.1 (s.2.2.2.1.take k)) 0 <;> rfl
  ·rw[F8];rfl
 ·have e:=ay hk
  have hm:=hS.fo.1 _ (List.getElem_mem hk)
  simp only[F9 e,o6,D9,e,o9]
  rw[jZ (by omega),o9,yl hm (by simp;omega) (by simp),o9,show(100:Int)=((100:Nat):Int)from rfl,Ri (by omega) (by omega)]
  simp only[inP,e,IB]
  cases ieq (vY l.1 s.2.2.1[k] (s.2.2.1.take k) []) 0 <;> rfl
 ·rw[F8];rfl
theorem xH {c e:Int} {r:Int×Int} (h:IB c e=some r):r.1≠0:=by
 unfold IB at h
 cases hc:ieq c 0 <;> rw[hc]at h
 ·cases h;exact ui.1 hc
 ·cases h
theorem qE {l:G5} {s:x8} {r:Int×Int} (h:iY l s=some r):r.1≠0:=by
 unfold iY at h
 split at h
 ·rename_i q hq
  cases h
  obtain⟨k,_,hk⟩:=aO hq
  unfold inP at hk
  split at hk
  ·exact xH hk
  ·cases hk
 ·obtain⟨k,_,hk⟩:=aO h
  unfold KA at hk
  split at hk
  ·exact xH hk
  ·cases hk
def rD (l:G5) (i:Nat):Option (Int×Int×Int×Int):=match l.2.2[i]? with | some s=>BQ 3 i (rE l i s) | none=>none
def uJ (l:G5):Int×Int×Int×Int:=l7 (ilt 4 (o7 l.2.2)) (4,3,4,0) (match I8 l.2.2.length (rD l)with | some r=>r | none=>(0,0,0,0))
def J9 (l:G5):Int×Int×Int×Int:=l7 (ieq (iw l).1 0) (l7 (ieq (lG l).1 0) (uJ l) (lG l)) (iw l)
theorem Fj {l:G5} (hL:SmL l):jH l=some (uJ l):=by
 have hf:=hL.few.2.2
 unfold jH uJ
 cases ilt 4 (o7 l.2.2)
 case true=>rfl
 simp only[o5]
 refine Z7 (vZ (p:=rD l) l.2.2.length (by omega) _ (0,0,0,0) (fun i hi=>?_) ?_) ?_
 rotate_left 2
 ·cases I8 l.2.2.length (rD l) <;> rfl
 ·have e:=ay hi
  simp only[F9 e,o6,Iw hL e,o9,rD,e,BQ]
  cases ieq (rE l i l.2.2[i]).1 0 <;> rfl
 ·rw[F8];rfl
theorem xm {l:G5} (hL:SmL l):fK l=some (J9 l):=by
 unfold fK J9
 rw[Iu hL.few hL.en,o9]
 cases ieq (iw l).1 0
 ·rfl
 simp only[E5,o5,o6]
 rw[Fp hL.few hL.tb,o9]
 cases ieq (lG l).1 0
 ·rfl
 simp only[E5,o5,o6]
 rw[Fj hL];rfl
theorem BR {k i:Int} {c:Int×Int} {r:Int×Int×Int×Int} (h:BQ k i c=some r):r.1≠0:=by
 unfold BQ at h
 cases hc:ieq c.1 0 <;> rw[hc]at h
 ·cases h;exact ui.1 hc
 ·cases h
structure SmC (c:ET):Prop where
 ni:c.2.1.length≤1000
 nm:c.2.2.length≤1000
 nv:∀v∈c.2.2,v.length≤1000
def b7S (r:Int×Int) (t:Int):Bool:=l7 (vV r) (l7 (ile r.1 t) (ilt t r.2) false) false
section
variable (on:Nat→Bool) (par:Nat→Int)
def bG (i:Nat):Nat:=((List.range i).filter on).length
def b1h (i:Nat):Int:=if on i=true then(bG on i:Int)else if h:0≤par i∧par i<(i:Int)then b1h (par i).toNat else -1
termination_by i
decreasing_by omega
def anc (i:Nat):Int:=if 0≤par i∧par i<(i:Int)then b1h on par (par i).toNat else -1
def onL (n:Nat):List Nat:=(List.range n).filter on
theorem wK (i:Nat):onL on (i+1)=onL on i++(bif on i then[i]else[]):=by
 unfold onL;rw[List.range_succ,List.filter_append]
 rw[show List.filter on [i]=bif on i then[i]else[] by rw[List.filter_cons];cases on i <;> rfl]
theorem a0h (i:Nat):(onL on i).length≤i:=by
 have:=List.length_filter_le on (List.range i);unfold onL;simpa using this
theorem RU {n p:Nat} (hp:p<n) (h:on p=true):(onL on n)[bG on p]? =some p:=by
 induction n with
 | zero=>omega
 | succ n ih=>
  rw[wK]
  by_cases hq:p=n
  ·subst hq
   rw[h,List.getElem?_append_right (by unfold bG onL;omega)]
   unfold bG onL;simp
  ·have:=ih (by omega)
   rw[List.getElem?_append_left (J4.1 this).1]
   exact this
theorem GU {n i:Nat} (h:i∈onL on n):i<n∧on i=true:=by
 unfold onL at h
 obtain⟨h1,h2⟩:=List.mem_filter.1 h
 exact⟨List.mem_range.1 h1,h2⟩
end
def castL (l:List Nat):List Int:=l.map fun(i:Nat)=>(i:Int)
def Y8 (s:x8) (i:Nat):Int:=match s.2.2.2.2[i]? with | some r=>r.2.2.1 | none=>-1
theorem UH {l:List Nat} (hl:l.Pairwise (·< ·)) {i j a:Nat} (hi:l[i]? =some a) (hj:l[j]? =some a):i=j:=by
 obtain⟨h1,h2⟩:=J4.1 hi
 obtain⟨h3,h4⟩:=J4.1 hj
 rcases Nat.lt_trichotomy i j with h | h | h
 ·have:=List.pairwise_iff_getElem.1 hl i j h1 h3 h;omega
 ·exact h
 ·have:=List.pairwise_iff_getElem.1 hl j i h3 h1 h;omega
theorem WA (on:Nat→Bool) (n:Nat):(onL on n).Pairwise (·< ·):=List.Pairwise.filter _ List.pairwise_lt_range
end Go.GP
namespace Go.GP
open Gt
set_option maxRecDepth 100000
def b6w (par prio:List Int) (i:Nat):Option Int:=match par[i]?,prio[i]? with
 | some p,some q=>l7 (ilt p (-1)) (some 9) (l7 (ile (i:Int) p) (some 9) (l7 (ilt q 0) (some 3) (l7 (ilt 9 q) (some 3) none)))
 | _,_=>none
def Zo (par prio:List Int):Int:=l7 (C9 (ieq (o7 par) (o7 prio))) 2 (l7 (ilt 8 (o7 par)) 4 (match I8 par.length (b6w par prio)with | some r=>r | none=>0))
theorem kP {ρ:Type} {n:Nat} {p:Nat→Option ρ} (h:I8 n p=none):∀i,i<n→p i=none:=by
 unfold I8 at h
 intro i hi
 exact List.findSome?_eq_none_iff.1 h i (List.mem_range.2 hi)
section
variable (par prio:List Int) (ap:List Bool)
variable (hv:Zo par prio=0)
include hv
end
end Go.GP
namespace Go.GP
open Gt
set_option maxRecDepth 100000
section
variable (par prio:List Int) (ap:List Bool) (hv:Zo par prio=0) (hap:ap.length=par.length)
include hv in
include hv in
include hv in
include hv in
include hv in
include hv hap in
end
section
variable (par prio:List Int) (ap:List Bool) (hv:Zo par prio=0) (hap:ap.length=par.length)
include hv hap in
end
end Go.GP
namespace Go.GP
open Gt
set_option maxRecDepth 100000
def xZ (O:List Int) (x:Int):Bool:=O.any fun y=>ieq y x
theorem wu {O:List Int} {x:Int} :xZ O x=true↔x∈O:=by
 unfold xZ
 rw[List.any_eq_true]
 constructor
 ·rintro⟨y,hy,h⟩;rw[U9]at h;exact h▸hy
 ·exact fun h=>⟨x,h,dE rfl⟩
def Xm (s:x8) (d:Int) (O:List Int):Bool:=(U1 s d).all fun x=>xZ O x
def okN (s:x8) (O:List Int) (d:Nat):Bool:=l7 (xZ O (d:Int)) false (Xm s (d:Int) O)
def b1i (s:x8) (O:List Int) (d:Nat):Option Nat:=l7 (okN s O d) (some d) none
def b1j (s:x8) (O:List Int):Option Nat:=I8 s.2.2.2.1.length (b1i s O)
def b1k (s:x8):Nat→List Int→List Int⊕(List Int×Int)
 | 0,O=> .inl O
 | k+1,O=>if O.length<s.2.2.2.1.length then(match b1j s O with | none=> .inr ([],9) | some d=>b1k s k (O++[(d:Int)]))else .inl O
def KX (s:x8):List Int×Int:=match b1k s 100 []with | .inl O=>(O,0) | .inr x=>x
def zB (s:x8) (e:Int) (i:Nat):List Nat:=onL (fun d=>decide (e∈U1 s (d:Int))) i
def Jt (s:x8) (O:List Int) (d:Int):List Int:=(U1 s d).filter fun x=> !xZ O x
def hw (W:List Int) (d:Int):Int:=W.getD d.toNat 0
theorem MN {l:List Int} (h:SI l) {O:List Int} {m:Int} (hm:m∉O):((l.filter fun x=> !xZ (O++[m]) x).length:Int)=((l.filter fun x=> !xZ O x).length:Int) -(if m∈l then 1 else 0):=by
 have hh:∀x,xZ (O++[m]) x=(xZ O x || ieq m x):=fun x=>by unfold xZ;rw[List.any_append];simp
 induction l with
 | nil=>simp
 | cons a l ih=>
  have h' :=List.pairwise_cons.1 h
  have ih' :=ih h'.2
  rw[List.filter_cons,List.filter_cons,hh]
  by_cases hma:m=a
  ·subst hma
   have hno:m∉l:=fun hx=>by have:=h'.1 m hx;omega
   rw[if_neg hno]at ih'
   have h1:xZ O m=false:=by
    cases hq:xZ O m
    ·rfl
    ·exact absurd (wu.1 hq) hm
   have hA:(!(xZ O m || ieq m m))=false:=by rw[dE rfl];simp
   have hB:(!xZ O m)=true:=by rw[h1];rfl
   rw[hA,hB,if_pos (show m∈m::l by simp)]
   simp only[Bool.false_eq_true,if_false,if_true,List.length_cons];omega
  ·rw[fF hma,Bool.or_false]
   have:(if m∈a::l then(1:Int)else 0)=if m∈l then 1 else 0:=by simp[hma]
   rw[this]
   cases xZ O a
   ·simp only[Bool.not_false,if_true,List.length_cons];omega
   ·simp only[Bool.not_true,Bool.false_eq_true,if_false];exact ih'
structure KInv (s:x8) (O W H:List Int):Prop where
 nd:O.Nodup
 rng:∀x∈O,0≤x∧x<nD s
 cl:∀u∈O,∀x∈U1 s u,x∈O
 wl:W.length=s.2.2.2.1.length
 w:∀d,0≤d→d<nD s→hw W d=((Jt s O d).length:Int)
 hp:Zw H H.length
 hnd:H.Nodup
 hm:∀d,d∈H↔0≤d∧d<nD s∧d∉O∧hw W d=0
theorem a6z {s:x8} {O:List Int} {d:Nat} :okN s O d=true↔(d:Int)∉O∧Jt s O (d:Int)=[]:=by
 unfold okN Xm Jt
 cases hq:xZ O (d:Int)
 ·have h1:(d:Int)∉O:=fun h=>by rw[wu.2 h]at hq;cases hq
  simp only[o5,List.all_eq_true,List.filter_eq_nil_iff,Bool.not_eq_true,Bool.not_eq_false']
  exact⟨fun h=>⟨h1,fun a ha=>by rw[h a ha]⟩,fun h a ha=>h.2 a ha⟩
 ·have h1:=wu.1 hq
  simp only[o6]
  exact⟨fun h=>(by cases h),fun h=>absurd h1 h.1⟩
theorem KInv.ready {s:x8} {O W H:List Int} (h:KInv s O W H) {d:Nat} (hd:d<s.2.2.2.1.length):okN s O d=true↔(d:Int)∈H:=by
 have hn:nD s=((s.2.2.2.1.length:Nat):Int):=rfl
 rw[a6z,h.hm]
 have:=h.w (d:Int) (by omega) (by omega)
 constructor
 ·rintro⟨h1,h2⟩;exact⟨by omega,by omega,h1,by rw[this,h2];rfl⟩
 ·rintro⟨_,_,h1,h2⟩
  refine⟨h1,List.length_eq_zero_iff.1 ?_⟩
  rw[this]at h2;omega
structure UInv (s:x8) (W H0:List Int) (us:List Int) (W' H' :List Int):Prop where
 wl:W'.length=s.2.2.2.1.length
 w:∀d,0≤d→d<nD s→hw W' d=hw W d -(if d∈us then 1 else 0)
 hp:Zw H' H'.length
 pm:∃P:List Int,H'.Perm (H0++P)∧P.Sublist us∧∀d,d∈P↔d∈us∧hw W d=1
theorem zC {s:x8} {m:Int} {d:Int} :d∈castL (zB s m s.2.2.2.1.length)↔0≤d∧d<nD s∧m∈U1 s d:=by
 have hn:nD s=((s.2.2.2.1.length:Nat):Int):=rfl
 unfold castL
 rw[List.mem_map]
 constructor
 ·rintro⟨k,hk,rfl⟩
  obtain⟨h1,h2⟩:=GU _ hk
  exact⟨by omega,by omega,by simpa using h2⟩
 ·rintro⟨h1,h2,h3⟩
  refine⟨d.toNat,?_,by omega⟩
  unfold zB onL
  rw[List.mem_filter,List.mem_range]
  exact⟨by omega,by rw[Int.toNat_of_nonneg h1];simpa using h3⟩
theorem Vx {l:List Nat} (h:l.Pairwise (·< ·)):SI (castL l):=List.Pairwise.map _ (fun a b h=>by omega) h
theorem KInv.step {s:x8} {O W H:List Int} (h:KInv s O W H) (h0:0<H.length) {m:Nat} (hm:hg H 0=(m:Int)) {R:List Int} (hR:Zw R R.length) (hRp:(R++[(m:Int)]).Perm H) {W' H' :List Int} (hU:UInv s W R (castL (zB s (m:Int) s.2.2.2.1.length)) W' H'):KInv s (O++[(m:Int)]) W' H' :=by
 have hn:nD s=((s.2.2.2.1.length:Nat):Int):=rfl
 have hmem:(m:Int)∈H:=by rw[←hm];have:=ZV h0;exact iG this
 have hmm:=(h.hm _).1 hmem
 have hleft:Jt s O (m:Int)=[]:=by
  have:=h.w (m:Int) hmm.1 hmm.2.1
  rw[hmm.2.2.2]at this
  exact List.length_eq_zero_iff.1 (by omega)
 have hdeps:∀x∈U1 s (m:Int),x∈O:=fun x hx=>by
  have hnil:=List.filter_eq_nil_iff.1 hleft x hx
  simp only[Bool.not_eq_true,Bool.not_eq_false']at hnil
  exact wu.1 hnil
 have hndR:(R++[(m:Int)]).Nodup:=hRp.nodup_iff.2 h.hnd
 have hmR:(m:Int)∉R:=fun hx=>by
  have:=(List.nodup_append.1 hndR).2.2 _ hx _ (List.mem_singleton.2 rfl)
  exact this rfl
 have hRm:∀d,d∈R↔d∈H∧d≠(m:Int):=fun d=>by
  rw[←hRp.mem_iff,List.mem_append,List.mem_singleton]
  constructor
  ·intro hx;exact⟨.inl hx,fun hq=>hmR (hq▸hx)⟩
  ·rintro⟨hx | hx,hq⟩
   ·exact hx
   ·exact absurd hx hq
 obtain⟨P,p1,p2,p3⟩:=hU.pm
 have huO:∀u,(m:Int)∈U1 s u→u∉O:=fun u hu hx=>hmm.2.2.1 (h.cl u hx _ hu)
 refine⟨?_,?_,?_,hU.wl,fun d d0 d1=>?_,hU.hp,?_,fun d=>?_⟩
 ·exact List.nodup_append.2 ⟨h.nd,by simp,fun a ha b hb=>by simp at hb;subst hb;intro hq;subst hq;exact hmm.2.2.1 ha⟩
 ·intro x hx
  rcases List.mem_append.1 hx with hx | hx
  ·exact h.rng x hx
  ·simp at hx;subst hx;exact⟨hmm.1,hmm.2.1⟩
 ·intro u hu x hx
  rcases List.mem_append.1 hu with hu | hu
  ·exact List.mem_append_left _ (h.cl u hu x hx)
  ·simp at hu;subst hu;exact List.mem_append_left _ (hdeps x hx)
 ·rw[hU.w d d0 d1,h.w d d0 d1]
  unfold Jt
  rw[MN (xE s d) hmm.2.2.1]
  congr 1
  have:(d∈castL (zB s (m:Int) s.2.2.2.1.length))↔((m:Int)∈U1 s d):=by rw[zC];exact⟨fun h=>h.2.2,fun h=>⟨d0,d1,h⟩⟩
  by_cases hq:(m:Int)∈U1 s d
  ·rw[if_pos (this.2 hq),if_pos hq]
  ·rw[if_neg (fun hx=>hq (this.1 hx)),if_neg hq]
 ·rw[p1.nodup_iff]
  refine List.nodup_append.2 ⟨(List.nodup_append.1 hndR).1,?_,fun a ha b hb hq=>?_⟩
  ·have:(castL (zB s (m:Int) s.2.2.2.1.length)).Nodup:=(Vx (WA _ _)).imp fun {a b} h=>by omega
   exact p2.nodup this
  ·subst hq
   have h1:=(h.hm a).1 ((hRm a).1 ha).1
   have h2:=(p3 a).1 hb
   omega
 ·rw[p1.mem_iff,List.mem_append,hRm,p3,zC,h.hm]
  have hw' :=fun d0 d1=>hU.w d d0 d1
  have hmemU:d∈castL (zB s (m:Int) s.2.2.2.1.length)↔0≤d∧d<nD s∧(m:Int)∈U1 s d:=zC
  constructor
  ·rintro(⟨⟨d0,d1,dO,dw⟩,dm⟩ | ⟨⟨d0,d1,dd⟩,dw⟩)
   ·refine⟨d0,d1,fun hx=>?_,?_⟩
    ·rcases List.mem_append.1 hx with hx | hx
     ·exact dO hx
     ·simp at hx;exact dm hx
    ·have hnot:(m:Int)∉U1 s d:=fun hx=>by
      have h1:=h.w d d0 d1
      rw[dw]at h1
      have h2:Jt s O d=[]:=List.length_eq_zero_iff.1 (by omega)
      have h3:=List.filter_eq_nil_iff.1 h2 _ hx
      simp only[Bool.not_eq_true,Bool.not_eq_false']at h3
      exact hmm.2.2.1 (wu.1 h3)
     rw[hw' d0 d1,dw,if_neg (fun hx=>hnot (hmemU.1 hx).2.2)];rfl
   ·refine⟨d0,d1,fun hx=>?_,?_⟩
    ·rcases List.mem_append.1 hx with hx | hx
     ·exact huO d dd hx
     ·simp at hx
      rw[hx]at dd
      exact hmm.2.2.1 (hdeps _ dd)
    ·rw[hw' d0 d1,if_pos (hmemU.2 ⟨d0,d1,dd⟩)];omega
  ·rintro⟨d0,d1,dO,dw⟩
   rw[hw' d0 d1]at dw
   have dO1:d∉O:=fun hx=>dO (List.mem_append_left _ hx)
   have dm:d≠(m:Int):=fun hx=>dO (by rw[hx];simp)
   by_cases hq:(m:Int)∈U1 s d
   ·rw[if_pos (hmemU.2 ⟨d0,d1,hq⟩)]at dw
    exact .inr ⟨⟨d0,d1,hq⟩,by omega⟩
   ·rw[if_neg (fun hx=>hq (hmemU.1 hx).2.2)]at dw
    exact .inl ⟨⟨d0,d1,dO1,by omega⟩,dm⟩
def a8C (s:x8) (i:Nat):List (List Int):=(List.range s.2.2.2.1.length).map fun(e:Nat)=>castL (zB s (e:Int) i)
structure IInv (s:x8) (i:Nat) (U:List (List Int)) (W H:List Int):Prop where
 u:U=a8C s i
 w:W=pd ((List.range i).map fun(d:Nat)=>((U1 s (d:Int)).length:Int)) (s.2.2.2.1.length -i)
 hp:Zw H H.length
 hnd:H.Nodup
 hm:∀d,d∈H↔0≤d∧d<(i:Int)∧U1 s d=[]
 hl:H.length≤i
end Go.GP
namespace Gt
open Go Go.GP
def il (y:Int):Bool:=if y % 4=0 then(if y % 100≠0 then true else decide (y % 400=0))else false
def ys (y:Int):Int:=(y -1900)*365+((y -1) / 4 -(y -1) / 100+(y -1) / 400) -460
def dim (y m:Int):Int:=
 if m=2 then(if il y then 29 else 28)else if m=4∨m=6∨m=9∨m=11 then 30 else 31
def rem (y:Int):Nat→Int
 | 0=>0
 | n+1=>dim y (12 -n)+rem y n
end Gt
namespace Go.GP
open Gt
set_option maxRecDepth 100000
def a5F (n:Int) (k:Nat):Prop:=n<2^k∧(0<n→0<k∧2^(k -1)≤n)
theorem a5F.shift {n:Int} {j k:Nat} (h:a5F (n / 2^j) k) (hn:2^j≤n):a5F n (j+k):=by
 have hp:(0:Int)<2^j:=Int.pow_pos (by omega)
 have h1:0<n / 2^j:=by have:=Int.le_ediv_of_mul_le hp (show 1*2^j≤n by omega);omega
 obtain⟨a,b⟩:=h
 obtain⟨b1,b2⟩:=b h1
 have hdm:=Int.mul_ediv_add_emod n (2^j)
 have hm:=Int.emod_lt_of_pos n hp
 have hm0:=Int.emod_nonneg n (show(2:Int)^j≠0 by omega)
 refine⟨?_,fun _=>⟨by omega,?_⟩⟩
 ·have:(2:Int)^j*(n / 2^j+1)≤2^j*2^k:=Int.mul_le_mul_of_nonneg_left (by omega) (by omega)
  rw[Int.mul_add,Int.mul_one]at this
  rw[Int.pow_add];omega
 ·have:(2:Int)^j*2^(k -1)≤2^j*(n / 2^j):=Int.mul_le_mul_of_nonneg_left b2 (by omega)
  rw[show j+k -1=j+(k -1) by omega,Int.pow_add];omega
def q1 (q:Int) (u:Bool):Int:=l7 u (q+1) q
def sg (q:Int) (neg:Bool):Int:=l7 neg (-q) q
def a1e (r:vN):Prop:=I64 r.2.1∧I64 r.2.2.1∧I64 r.2.2.2
def JY (t:V7):Prop:=t.2.2.2.length≤200∧∀r∈t.2.2.2,a1e r
abbrev V3:Type:=Int×Int×Int
theorem Cb {α β ρ:Type} (G:β→α→β⊕ρ) (P:ρ→Prop) (hG:∀b a r,G b a= .inr r→P r):∀(l:List α) (b:β) (r:ρ),jq G l b= .inr r→P r
 | [],b,r,h=>by cases h
 | a::l,b,r,h=>by
  unfold jq at h
  cases hg:G b a with
  | inr r' =>rw[hg]at h;simp only at h;cases h;exact hG _ _ _ hg
  | inl b' =>rw[hg]at h;exact Cb G P hG l b' r h
structure EvOk (env:pV):Prop where
 ms:env.2.2.2.1.length≤1000000
 tb:∀t∈env.2.2.2.2.2,JY t
structure OStep (S:List Int) (f:List Int×Int×Int→Option ((List Int×Int×Int)⊕List Int)):Prop where
 step:∀(l:List Int) (c:Nat) (j:Nat) (x:Nat),j<l.length→l.length≤3→S[c]? =some ((x:Nat):Int)→x≤100→f (l,(c:Int),(j:Int))=some (.inl (l.set j (c:Int),(x:Int) -1,(j:Int) -1))
 stop:∀(l:List Int) (c:Int),f (l,c,-1)=some (.inr l)
theorem Cj {α:Type} {k:Int} (h:0≤k) (h2:k≤1000000) (x:α):iI k x=some (List.replicate k.toNat x):=if_pos ⟨h,by omega⟩
end Go.GP
namespace Go.GP
open Gt
set_option maxRecDepth 100000
abbrev VSt:Type:=V3×List V3×Int
structure VStep (ops:List Int) (ev:Int→Option (V3×Int)) (pad:List V3→List V3) (f:VSt→Option (Out VSt (V3×List V3) (V3×Int))):Prop where
 step:∀(l:List V3) (c:Int) (r:V3×Int),ops[l.length]? =some c→ev c=some r→f ((0,0,0),pad l,(l.length:Int))=some (l7 (ieq r.2 0) (.nx ((0,0,0),pad (l++[r.1]),((l.length+1:Nat):Int))) (.rt ((0,0,0),r.2)))
 stop:∀(l:List V3),l.length=ops.length→f ((0,0,0),pad l,(l.length:Int))=some (.ex ((0,0,0),l))
section
variable {ev:Int→Option (V3×Int)} {pad:List V3→List V3} {f:VSt→Option (Out VSt (V3×List V3) (V3×Int))}
theorem v0 (h:VStep [] ev pad f):G8 f ((0,0,0),pad [],0)=some (.inl ((0,0,0),[])):=by
 obtain⟨k,hk⟩:∃k,bH=k+1:=⟨bH -1,by unfold bH;omega⟩
 unfold G8
 rw[hk,bV,show f ((0,0,0),pad [],0)=some (.ex ((0,0,0),[]))from h.stop [] rfl]
theorem v1 {c:Int} {r:V3×Int} (h:VStep [c] ev pad f) (h1:ev c=some r):G8 f ((0,0,0),pad [],0)=some (l7 (ieq r.2 0) (.inl ((0,0,0),[r.1])) (.inr ((0,0,0),r.2))):=by
 obtain⟨k,hk⟩:∃k,bH=k+1+1:=⟨bH -2,by unfold bH;omega⟩
 unfold G8
 rw[hk,bV,show f ((0,0,0),pad [],0)=_ from h.step [] c r rfl h1]
 cases ieq r.2 0
 ·rfl
 ·simp only[o6]
  rw[bV,show f ((0,0,0),pad ([]++[r.1]),(([].length+1:Nat):Int))=_ from h.stop [r.1] rfl]
theorem v2 {c d:Int} {r q:V3×Int} (h:VStep [c,d] ev pad f) (h1:ev c=some r) (h2:ev d=some q):G8 f ((0,0,0),pad [],0)=some (l7 (ieq r.2 0) (l7 (ieq q.2 0) (.inl ((0,0,0),[r.1,q.1])) (.inr ((0,0,0),q.2))) (.inr ((0,0,0),r.2))):=by
 obtain⟨k,hk⟩:∃k,bH=k+1+1+1:=⟨bH -3,by unfold bH;omega⟩
 unfold G8
 rw[hk,bV,show f ((0,0,0),pad [],0)=_ from h.step [] c r rfl h1]
 cases ieq r.2 0
 ·rfl
 ·simp only[o6]
  rw[bV,show f ((0,0,0),pad ([]++[r.1]),(([].length+1:Nat):Int))=_ from h.step [r.1] d q rfl h2]
  cases ieq q.2 0
  ·rfl
  ·simp only[o6]
   rw[bV,show f ((0,0,0),pad ([r.1]++[q.1]),(([r.1].length+1:Nat):Int))=_ from h.stop [r.1,q.1] rfl]
end
end Go.GP
namespace Go.GP
open Gt
set_option maxRecDepth 100000
abbrev DB:Type:=List V3×List Int
def b0Z (env:pV) (ds:List V3):pV:=(env.1,env.2.1,ds,env.2.2.2)
def RP:x8:=([],0,[],[],[])
def a1k (l:G5) (s:x8):x8:=l7 (ile 0 s.2.1) ((lat l.2.2 s.2.1).getD RP) RP
theorem OD {l:G5} (h:(J9 l).1=0) {i:Nat} {s:x8} (hs:l.2.2[i]? =some s):(rE l i s).1=0:=by
 unfold J9 at h
 cases h1:ieq (iw l).1 0 <;> rw[h1]at h
 ·simp only[o5]at h;rw[dE h]at h1;cases h1
 cases h2:ieq (lG l).1 0 <;> rw[h2]at h
 ·simp only[o6,o5]at h;rw[dE h]at h2;cases h2
 simp only[o6]at h
 unfold uJ at h
 cases h3:ilt 4 (o7 l.2.2) <;> rw[h3]at h
 case true=>exact absurd (show(4:Int)=0 from h) (by decide)
 simp only[o5]at h
 have hi:=(J4.1 hs).1
 cases hf:I8 l.2.2.length (rD l)with
 | some r=>
  rw[hf]at h
  simp only at h
  obtain⟨j,hj,hp⟩:=aO hf
  unfold rD at hp
  cases hq:l.2.2[j]? with
  | none=>rw[hq]at hp;cases hp
  | some q=>
   rw[hq]at hp
   simp only at hp
   unfold BQ at hp
   exact absurd h (by
    cases he:ieq (rE l j q).1 0 <;> rw[he]at hp <;> cases hp
    simp only
    intro h4;rw[dE h4]at he;cases he)
 | none=>
  have hn:=kP hf i hi
  unfold rD at hn
  rw[hs]at hn
  simp only at hn
  unfold BQ at hn
  cases he:ieq (rE l i s).1 0 <;> rw[he]at hn
  ·cases hn
  exact U9.1 he
theorem sV {l:G5} (h:(J9 l).1=0) {i:Nat} {s:x8} (hs:l.2.2[i]? =some s):nH l i s.2.1=false∧(pq l s).1=0:=by
 have he:=OD h hs
 unfold rE at he
 cases g1:pW s.1 <;> rw[g1]at he
 ·exact absurd (show(2:Int)=0 from he) (by decide)
 cases g2:sU l 3 i s.1 <;> rw[g2]at he
 case true=>exact absurd (show(7:Int)=0 from he) (by decide)
 cases g3:nH l i s.2.1 <;> rw[g3]at he
 case true=>exact absurd (show(6:Int)=0 from he) (by decide)
 cases g4:ilt 12 (o7 s.2.2.1) <;> rw[g4]at he
 case true=>exact absurd (show(4:Int)=0 from he) (by decide)
 cases g5:ilt 12 (o7 s.2.2.2.1) <;> rw[g5]at he
 case true=>exact absurd (show(4:Int)=0 from he) (by decide)
 exact⟨rfl,he⟩
theorem U7 {α:Type} {n:Nat} {l:List α} (h:ilt (n:Int) (o7 l)=false):l.length≤n:=by
 rw[nz]at h;unfold o7 at h;omega
def Gs (r:H9):Bool:=l7 (ilt 80 (o7 r.1)) true (l7 (ilt 80 (o7 r.2.2.2.2.2.2.2)) true (l7 (ilt 50 (o7 r.2.2.2.2.2.1)) true (ilt 50 (o7 r.2.2.2.2.2.2.1))))
def smS (s:x8):Bool:=l7 (ilt 80 (o7 s.1)) false (l7 (ilt 14 (o7 s.2.2.1)) false (l7 (ilt 14 (o7 s.2.2.2.1)) false (l7 (ilt 60 (o7 s.2.2.2.2)) false
 (l7 (s.2.2.1.any fun f=>ilt 80 (o7 f.1)) false (l7 (s.2.2.2.1.any fun f=>ilt 80 (o7 f.1)) false (C9 (s.2.2.2.2.any Gs)))))))
theorem FT {fs:List Z9} (h:fs.length≤1000000):G8 (fun(x:Int)=>l7 (ilt x (o7 fs)) (l9 (lat fs x) fun(x_1:Z9)=>l7 (ilt 80 (o7 x_1.1)) (some (Out.rt false)) (some (Out.nx (x9 IntKind.i64 x 1)))) (some (Out.ex PUnit.unit))) 0=some (bif fs.any (fun f=>ilt 80 (o7 f.1))then .inr false else .inl PUnit.unit):=by
 refine zK fs (fun f=>ilt 80 (o7 f.1)) false PUnit.unit h (fun i a ha=>?_) ?_
 ·simp only[F9 ha,o6,D9,ha,o9]
  cases ilt 80 (o7 a.1) <;> rfl
 ·rw[F8];rfl
theorem IR (s:x8):jP s=some (smS s):=by
 unfold jP smS
 cases h1:ilt 80 (o7 s.1)
 case true=>rfl
 cases h2:ilt 14 (o7 s.2.2.1)
 case true=>rfl
 cases h3:ilt 14 (o7 s.2.2.2.1)
 case true=>rfl
 cases h4:ilt 60 (o7 s.2.2.2.2)
 case true=>rfl
 have l2:=U7 (n:=14) h2
 have l3:=U7 (n:=14) h3
 have l4:=U7 (n:=60) h4
 simp only[o5,o9,X9]
 rw[FT (by omega),FT (by omega),o9]
 cases s.2.2.1.any fun f=>ilt 80 (o7 f.1)
 case true=>rfl
 simp only[cond_false,X9,o5,o9]
 cases s.2.2.2.1.any fun f=>ilt 80 (o7 f.1)
 case true=>rfl
 simp only[cond_false,X9,o5]
 refine Z7 (zK s.2.2.2.2 Gs false PUnit.unit (by omega) (fun i a ha=>?_) ?_) ?_
 rotate_left 2
 ·cases s.2.2.2.2.any Gs <;> rfl
 ·simp only[F9 ha,o6,D9,ha,o9]
  unfold Gs
  cases ilt 80 (o7 a.1) <;> cases ilt 80 (o7 a.2.2.2.2.2.2.2) <;> cases ilt 50 (o7 a.2.2.2.2.2.1) <;> cases ilt 50 (o7 a.2.2.2.2.2.2.1) <;> rfl
 ·rw[F8];rfl
def ScI (s:x8):Prop:=∀r∈s.2.2.2.2,(∀n∈r.2.2.2.2.2.1,I64 n.2)∧∀n∈r.2.2.2.2.2.2.1,I64 n.2
theorem Iq {a b:Bool} (h:l7 a false b=true):a=false∧b=true:=by cases a <;> cases b <;> first | exact⟨rfl,rfl⟩ | cases h
theorem LY {α:Type} {l:List α} {p:α→Bool} (h:l.any p=false):∀a∈l,p a=false:=by
 intro a ha
 rw[List.any_eq_false]at h
 have:=h a ha
 cases hp:p a
 ·rfl
 ·exact absurd hp this
theorem a7i {s:x8} (h:smS s=true) (hI:ScI s):SmS s:=by
 unfold smS at h
 obtain⟨h1,h⟩:=Iq h
 obtain⟨h2,h⟩:=Iq h
 obtain⟨h3,h⟩:=Iq h
 obtain⟨h4,h⟩:=Iq h
 obtain⟨h5,h⟩:=Iq h
 obtain⟨h6,h⟩:=Iq h
 have h7:s.2.2.2.2.any Gs=false:=by cases hq:s.2.2.2.2.any Gs <;> rw[hq]at h <;> first | rfl | cases h
 refine⟨by have:=U7 (n:=80) h1;omega,U7 (n:=14) h2,U7 (n:=14) h3,U7 (n:=60) h4,⟨fun f hf=>?_,fun f hf=>?_⟩,fun r hr=>?_⟩
 ·have:=U7 (n:=80) (LY h5 f hf);omega
 ·have:=U7 (n:=80) (LY h6 f hf);omega
 ·have hl:=LY h7 r hr
  unfold Gs at hl
  cases g1:ilt 80 (o7 r.1) <;> rw[g1]at hl
  case true=>cases hl
  cases g2:ilt 80 (o7 r.2.2.2.2.2.2.2) <;> rw[g2]at hl
  case true=>cases hl
  cases g3:ilt 50 (o7 r.2.2.2.2.2.1) <;> rw[g3]at hl
  case true=>cases hl
  have k1:=U7 (n:=80) g1
  have k2:=U7 (n:=80) g2
  exact⟨⟨by omega,by omega,(hI r hr).1,(hI r hr).2⟩,U7 (n:=50) g3,U7 (n:=50) hl⟩
def Nl (e:X4):Bool:=l7 (ilt 80 (o7 e.1)) true (l7 (ilt 20 (o7 e.2)) true (e.2.any fun m=>ilt 80 (o7 m)))
def tG (b:Int) (t:V7):Int⊕Bool:=l7 (ilt 80 (o7 t.1)) (.inr false) (l7 (ilt 150 (x9 .i64 b (o7 t.2.2.2))) (.inr false) (.inl (x9 .i64 b (o7 t.2.2.2))))
def sG (b:Int) (s:x8):Int⊕Bool:=l7 (ilt 60 (x9 .i64 b (o7 s.2.2.2.2))) (.inr false) (l7 (smS s) (.inl (x9 .i64 b (o7 s.2.2.2.2))) (.inr false))
def smL (l:G5):Bool:=l7 (ilt 9 (o7 l.1)) false (l7 (ilt 9 (o7 l.2.1)) false (l7 (ilt 5 (o7 l.2.2)) false (l7 (l.1.any Nl) false
 (match jq tG l.2.1 0 with | .inr _=>false | .inl _=>match jq sG l.2.2 0 with | .inr _=>false | .inl _=>true))))
theorem a8B:∀(b:Int) (t:V7) (r:Bool),tG b t= .inr r→r=false:=by
 intro b t r h
 unfold tG at h
 cases g0:ilt 80 (o7 t.1) <;> cases g:ilt 150 (x9 .i64 b (o7 t.2.2.2)) <;> simp only[g0,g,o6,o5]at h <;> cases h <;> rfl
theorem a7e:∀(b:Int) (s:x8) (r:Bool),sG b s= .inr r→r=false:=by
 intro b s r h
 unfold sG at h
 cases g:ilt 60 (x9 .i64 b (o7 s.2.2.2.2)) <;> cases g2:smS s <;> simp only[g,g2,o6,o5]at h <;> cases h <;> rfl
theorem Em (l:G5):jC l=some (smL l):=by
 unfold jC smL
 cases h1:ilt 9 (o7 l.1)
 case true=>rfl
 cases h2:ilt 9 (o7 l.2.1)
 case true=>rfl
 cases h3:ilt 5 (o7 l.2.2)
 case true=>rfl
 have l1:=U7 (n:=9) h1
 have l2:=U7 (n:=9) h2
 have l3:=U7 (n:=5) h3
 simp only[o5,o9,X9]
 refine Z7 (zK l.1 Nl false PUnit.unit (by omega) (fun i a ha=>?_) ?_) ?_
 ·simp only[F9 ha,o6,D9,ha,o9]
  unfold Nl
  cases ilt 80 (o7 a.1)
  case true=>rfl
  cases h5:ilt 20 (o7 a.2)
  case true=>rfl
  have l5:=U7 (n:=20) h5
  simp only[o5]
  refine Z7 (zK a.2 (fun m=>ilt 80 (o7 m)) false PUnit.unit (by omega) (fun j m hm=>?_) ?_) ?_
  ·simp only[F9 hm,o6,D9,hm,o9]
   cases ilt 80 (o7 m) <;> rfl
  ·rw[F8];rfl
  ·cases a.2.any fun m=>ilt 80 (o7 m) <;> rfl
 ·rw[F8];rfl
 cases l.1.any Nl
 case true=>rfl
 simp only[cond_false,X9,o5]
 apply uu l.2.1 tG (fun b i=>((b,i):Int×Int)) (fun _=>PUnit.unit) (fun _ _=>True) 0 (by omega) trivial
 ·intro i t b hi hi' _
  refine⟨?_,fun _ _=>trivial⟩
  simp only[F9 hi,o6,D9,hi,o9]
  unfold tG
  rw[U4 (by omega)]
  cases ilt 80 (o7 t.1) <;> cases ilt 150 (x9 .i64 b (o7 t.2.2.2)) <;> rfl
 ·intro b _
  rw[F8];rfl
 ·intro _
  cases ht:jq tG l.2.1 0 with
  | inr r=>rw[Cb tG (fun r=>r=false) a8B _ _ _ ht];rfl
  | inl b=>
   simp only[X9]
   apply uu l.2.2 sG (fun b i=>((b,i):Int×Int)) (fun _=>PUnit.unit) (fun _ _=>True) 0 (by omega) trivial
   ·intro i s b hi hi' _
    refine⟨?_,fun _ _=>trivial⟩
    simp only[F9 hi,o6,D9,hi,o9,IR]
    unfold sG
    rw[U4 (by omega)]
    cases ilt 60 (x9 .i64 b (o7 s.2.2.2.2)) <;> cases smS s <;> rfl
   ·intro b _
    rw[F8];rfl
   ·intro _
    cases hs:jq sG l.2.2 0 with
    | inr r=>rw[Cb sG (fun r=>r=false) a7e _ _ _ hs];rfl
    | inl b=>rfl
structure WfL (l:G5):Prop where
 rl:∀t∈l.2.1,t.2.2.2.length≤4611686018427387904
 ri:∀t∈l.2.1,∀r∈t.2.2.2,a1e r
 sl:∀s∈l.2.2,s.2.2.2.2.length≤4611686018427387904
 si:∀s∈l.2.2,ScI s
theorem Zh:∀(L:List V7) (b b' :Int),0≤b→b≤150→(∀t∈L,t.2.2.2.length≤4611686018427387904)→jq tG L b= .inl b' →∀t∈L,t.1.length≤80∧t.2.2.2.length≤150
 | [],_,_,_,_,_,_=>by simp
 | t::L,b,b',h0,h1,hw,h=>by
  have hwt:=hw t (by simp)
  have ha:x9 .i64 b (o7 t.2.2.2)=b+o7 t.2.2.2:=rY (by unfold I64 o7;omega)
  unfold jq tG at h
  rw[ha]at h
  cases g0:ilt 80 (o7 t.1) <;> rw[g0]at h
  case true=>cases h
  cases g1:ilt 150 (b+o7 t.2.2.2) <;> rw[g1]at h
  case true=>cases h
  rw[nz]at g1
  intro x hx
  rcases List.mem_cons.1 hx with rfl | hx
  ·exact⟨U7 (n:=80) g0,by unfold o7 at g1;omega⟩
  ·exact Zh L (b+o7 t.2.2.2) b' (by unfold o7;omega) g1 (fun q hq=>hw q (by simp[hq])) h x hx
theorem Yi:∀(L:List x8) (b b' :Int),0≤b→b≤60→(∀s∈L,s.2.2.2.2.length≤4611686018427387904)→jq sG L b= .inl b' →∀s∈L,smS s=true
 | [],_,_,_,_,_,_=>by simp
 | s::L,b,b',h0,h1,hw,h=>by
  have hwt:=hw s (by simp)
  have ha:x9 .i64 b (o7 s.2.2.2.2)=b+o7 s.2.2.2.2:=rY (by unfold I64 o7;omega)
  unfold jq sG at h
  rw[ha]at h
  cases g1:ilt 60 (b+o7 s.2.2.2.2) <;> rw[g1]at h
  case true=>cases h
  cases g2:smS s <;> rw[g2]at h
  case false=>cases h
  rw[nz]at g1
  intro x hx
  rcases List.mem_cons.1 hx with rfl | hx
  ·exact g2
  ·exact Yi L (b+o7 s.2.2.2.2) b' (by unfold o7;omega) g1 (fun q hq=>hw q (by simp[hq])) h x hx
theorem Yo {l:G5} (h:smL l=true) (hW:WfL l):SmL l∧∀t∈l.2.1,JY t:=by
 unfold smL at h
 obtain⟨h1,h⟩:=Iq h
 obtain⟨h2,h⟩:=Iq h
 obtain⟨h3,h⟩:=Iq h
 obtain⟨h4,h⟩:=Iq h
 have l1:=U7 (n:=9) h1
 have l2:=U7 (n:=9) h2
 have l3:=U7 (n:=5) h3
 cases ht:jq tG l.2.1 0 with
 | inr r=>rw[ht]at h;cases h
 | inl b=>
  rw[ht]at h
  simp only at h
  cases hs:jq sG l.2.2 0 with
  | inr r=>rw[hs]at h;cases h
  | inl b' =>
   have T:=Zh l.2.1 0 b (by omega) (by omega) hW.rl ht
   have S:=Yi l.2.2 0 b' (by omega) (by omega) hW.sl hs
   refine⟨⟨⟨by omega,by omega,by omega⟩,fun e he=>?_,fun t ht=>by have:=(T t ht).1;omega,fun s hs=>a7i (S s hs) (hW.si s hs)⟩,fun t ht=>⟨by have:=(T t ht).2;omega,hW.ri t ht⟩⟩
   have hl:=LY h4 e he
   unfold Nl at hl
   cases g1:ilt 80 (o7 e.1) <;> rw[g1]at hl
   case true=>cases hl
   cases g2:ilt 20 (o7 e.2) <;> rw[g2]at hl
   case true=>cases hl
   have k1:=U7 (n:=80) g1
   exact⟨by omega,fun m hm=>by have:=U7 (n:=80) (LY hl m hm);omega⟩
theorem NM:reachBytes≤4611686018427387904:=by decide
theorem a5E {l:G5} (h:wf c0j l):WfL l:=by
 refine⟨fun t ht=>?_,fun t ht r hr=>?_,fun s hs=>?_,fun s hs r hr=>⟨fun n hn=>?_,fun n hn=>?_⟩⟩
 ·have:=(h.2.1.2 t ht).2.2.2.1;exact Nat.le_trans this NM
 ·have:=(h.2.1.2 t ht).2.2.2.2 r hr
  exact⟨Io this.2.1,Io this.2.2.1,Io this.2.2.2⟩
 ·have:=(h.2.2.2 s hs).2.2.2.2.1;exact Nat.le_trans this NM
 ·have:=(h.2.2.2 s hs).2.2.2.2.2 r hr
  exact Io (this.2.2.2.2.2.1.2 n hn).2
 ·have:=(h.2.2.2 s hs).2.2.2.2.2 r hr
  exact Io (this.2.2.2.2.2.2.1.2 n hn).2
theorem zD {l:G5} (h:(J9 l).1=0) {i:Nat} {s:x8} (hs:l.2.2[i]? =some s) {k:Nat} {r:H9} (hr:s.2.2.2.2[k]? =some r):vz s (zx l s) k r=0:=by
 have hp:=(sV h hs).2
 unfold pq at hp
 cases h1:iY l s with
 | some q=>rw[h1]at hp;exact absurd hp (qE h1)
 | none=>
  rw[h1]at hp
  simp only at hp
  cases h2:I8 s.2.2.2.2.length (qK l s)with
  | some q=>
   rw[h2]at hp
   obtain⟨j,hj,hq⟩:=aO h2
   unfold qK at hq
   cases h3:s.2.2.2.2[j]? with
   | none=>rw[h3]at hq;cases hq
   | some q2=>rw[h3]at hq;exact absurd hp (xH hq)
  | none=>
   have hn:=kP h2 k (J4.1 hr).1
   unfold qK at hn
   rw[hr]at hn
   simp only at hn
   unfold IB at hn
   cases he:ieq (vz s (zx l s) k r) 0 <;> rw[he]at hn
   ·cases hn
   ·exact U9.1 he
theorem PX {s:x8} {sg:D8} {k:Nat} {r:H9} (h:vz s sg k r=0):∃d,lat s.2.2.2.1 r.2.1=some d∧BV r sg d.2=0:=by
 unfold vz at h
 cases g1:pW r.1 <;> rw[g1]at h
 ·exact absurd (show(2:Int)=0 from h) (by decide)
 cases g2:(s.2.2.2.2.take k).any fun x=>seq x.1 r.1 <;> rw[g2]at h
 case true=>exact absurd (show(7:Int)=0 from h) (by decide)
 cases g3:lat s.2.2.2.1 r.2.1 with
 | none=>rw[g3]at h;exact absurd (show(6:Int)=0 from h) (by decide)
 | some d=>
  rw[g3]at h
  refine⟨d,rfl,?_⟩
  simp only[o6,o5]at h
  revert h
  generalize l7 (ieq r.2.2.1 (-1)) false (l7 (ilt r.2.2.1 0) true (l7 (ile k r.2.2.1) true (match lat s.2.2.2.2 r.2.2.1 with | some q=>C9 (ieq q.2.1 r.2.1) | none=>true)))=b1
  generalize ilt r.2.2.2.1 0=b2
  generalize ilt 9 r.2.2.2.1=b3
  generalize vV r.2.2.2.2.1=b4
  generalize ieq r.2.2.2.2.1.1 r.2.2.2.2.1.2=b5
  generalize ile 8 (BI (s.2.2.2.2.take k) r.2.1)=b6
  generalize Qx r.2.2.2.2.2.2.2=b7
  intro h
  cases b1
  case true=>exact absurd (show(9:Int)=0 from h) (by decide)
  cases b2
  case true=>exact absurd (show(3:Int)=0 from h) (by decide)
  cases b3
  case true=>exact absurd (show(3:Int)=0 from h) (by decide)
  cases b4
  case false=>exact absurd (show(3:Int)=0 from h) (by decide)
  cases b5
  case true=>exact absurd (show(3:Int)=0 from h) (by decide)
  cases b6
  case true=>exact absurd (show(4:Int)=0 from h) (by decide)
  cases b7
  case false=>exact absurd (show(2:Int)=0 from h) (by decide)
  exact h
abbrev BB:Type:=List Bool×List Bool
def BOk (s m:x8) (b:BB):Prop:=b.1.length=s.2.2.2.1.length∧b.2.length=m.2.2.2.1.length
structure Sim (P Q:Int→Prop) (a b:pV):Prop where
 e1:a.1=b.1
 e2:a.2.1=b.2.1
 e3:a.2.2.2.2=b.2.2.2.2
 dl:a.2.2.1.length=b.2.2.1.length
 d:∀x,P x→lat a.2.2.1 x=lat b.2.2.1 x
 ml:a.2.2.2.1.length=b.2.2.2.1.length
 m:∀x,Q x→a.2.2.2.1.map (fun v=>lat v x)=b.2.2.2.1.map (fun v=>lat v x)
def a5H (s:x8) (P Q:Int→Prop) (d:Int):Prop:=∀r∈s.2.2.2.2,r.2.1=d→∀e,e=r.2.2.2.2.2.1∨e=r.2.2.2.2.2.2.1→(∀x∈(pK e).2.1,P x)∧∀x∈(pK e).2.2,Q x
def a8D (s:x8) (O:List Int):Prop:=O.Nodup∧(∀d∈O,0≤d∧d<nD s)∧∀(pre:List Int) (d:Int) (suf:List Int),O=pre++d::suf→∀x∈U1 s d,x∈pre
theorem QF {l:G5} (h:(J9 l).1=0) {i:Nat} {s:x8} (hs:l.2.2[i]? =some s):∀d,0≤d→d<nD s→d∉nJ s d:=by
 intro d d0 d1 hd
 have hp:=(sV h hs).2
 unfold pq at hp
 cases h1:iY l s with
 | some q=>rw[h1]at hp;exact absurd hp (qE h1)
 | none=>
  rw[h1]at hp
  simp only at hp
  cases h2:I8 s.2.2.2.2.length (qK l s)with
  | some q=>
   rw[h2]at hp
   obtain⟨j,hj,hq⟩:=aO h2
   unfold qK at hq
   cases h3:s.2.2.2.2[j]? with
   | none=>rw[h3]at hq;cases hq
   | some q2=>rw[h3]at hq;exact absurd hp (xH hq)
  | none=>
   rw[h2]at hp
   simp only at hp
   have key:IA s d.toNat=some (9,((200+d.toNat:Nat):Int)):=by
    unfold IA
    rw[show((nJ s d.toNat).any fun x=>ieq (d.toNat:Int) x)=true from ?_];rfl
    rw[Int.toNat_of_nonneg d0]
    exact List.any_eq_true.2 ⟨d,hd,dE rfl⟩
   cases h3:I8 s.2.2.2.1.length (IA s)with
   | none=>
    have:=kP h3 d.toNat (by unfold nD o7 at d1;omega)
    rw[key]at this;cases this
   | some q=>
    rw[h3]at hp
    obtain⟨j,hj,hq⟩:=aO h3
    unfold IA at hq
    cases h4:(nJ s (j:Int)).any fun x=>ieq (j:Int) x <;> rw[h4]at hq
    ·cases hq
    ·cases hq;exact absurd (show(9:Int)=0 from hp) (by decide)
structure SimE (Q:Int→Prop) (a b:pV):Prop where
 e1:a.1=b.1
 e2:a.2.1=b.2.1
 e3:a.2.2.2.2=b.2.2.2.2
 ml:a.2.2.2.1.length=b.2.2.2.1.length
 m:∀x,Q x→a.2.2.2.1.map (fun v=>lat v x)=b.2.2.2.1.map (fun v=>lat v x)
theorem SimE.at {P Q:Int→Prop} {a b:pV} (h:SimE Q a b) {D D' :List V3} (hl:D.length=D'.length) (hd:∀x,P x→lat D x=lat D' x):Sim P Q (b0Z a D) (b0Z b D'):=⟨h.e1,h.e2,h.e3,hl,hd,h.ml,h.m⟩
abbrev ND (w:List Bool) (x:Int):Prop:=(lat w x).getD false=true
structure DInv (n:Nat) (need:List Bool) (B B' :DB):Prop where
 l1:B.1.length=n∧B.2.length=n
 l2:B'.1.length=n∧B'.2.length=n
 eq:∀x,ND need x→lat B.1 x=lat B'.1 x∧lat B.2 x=lat B'.2 x
structure MInv (need:List Bool) (b b' :List DB):Prop where
 l:b.length=b'.length
 eq:∀x,ND need x→b.map (fun v=>lat v.1 x)=b'.map (fun v=>lat v.1 x)
def Vj (s:x8) (w:List Bool):Prop:=∀d,mk w d=true→∀x∈U1 s d,mk w x=true
structure NI (l:G5) (s:x8) (B:BB):Prop where
 ok:BOk s (a1k l s) B
 c1:Vj s B.1
 c2:Vj (a1k l s) B.2
 hr:∀e,mk B.1 e=true→a5H s (fun x=>x∈U1 s e) (fun x=>mk B.2 x=true) e
structure Grows (B C:BB):Prop where
 g1:∀x,mk B.1 x=true→mk C.1 x=true
 g2:∀x,mk B.2 x=true→mk C.2 x=true
theorem Grows.refl (B:BB):Grows B B:=⟨fun _ h=>h,fun _ h=>h⟩
theorem Grows.trans {A B C:BB} (h:Grows A B) (k:Grows B C):Grows A C:=⟨fun x hx=>k.g1 x (h.g1 x hx),fun x hx=>k.g2 x (h.g2 x hx)⟩
end Go.GP
namespace Go.GP
open Gt
set_option maxRecDepth 100000
section
variable {en:List X4} {t:Int×Int}
end
end Go.GP
namespace Go.GP
open Gt
set_option maxRecDepth 100000
def PVW (en:List X4) (t:Int×Int) (v:V3):Prop:=v.1=t.1∧v.2.1=t.2∧(v.1=6→inB v.2.2 (bnd t en)=true)
structure TOk (sg:D8) (env:pV):Prop where
 inp:∀i t v,lat sg.2.2.1 i=some t→lat env.2.1 i=some v→PVW sg.1 t v
 dfs:∀i t v,lat sg.2.2.2.1 i=some t→lat env.2.2.1 i=some v→v.1≠0→PVW sg.1 t v
 mty:∀i t u,lat sg.2.2.2.2.1 i=some t→lat env.2.2.2.2.1 i=some u→u=t
 tbs:env.2.2.2.2.2=sg.2.1
 row:∀t∈sg.2.1,∀r∈t.2.2.2,inB r.2.2.2 (bnd t.2.2.1 sg.1)=true
end Go.GP
namespace Go.GP
open Gt
set_option maxRecDepth 100000
section
variable {sg:D8} {env:pV}
end
end Go.GP
namespace Go.GP
open Gt
set_option maxRecDepth 100000
theorem FW {ρ:Type} {n:Nat} {p:Nat→Option ρ} (h:∀r,I8 n p≠some r):∀i,i<n→p i=none:=by
 cases hf:I8 n p with
 | some r=>exact absurd hf (h r)
 | none=>exact kP hf
theorem Jh {k i:Int} {r:Int×Int} (h:BQ k i r=none):r.1=0:=by
 unfold BQ at h
 cases he:ieq r.1 0 <;> rw[he]at h
 ·cases h
 ·exact U9.1 he
theorem QH {l:G5} (h:(J9 l).1=0):∀e∈l.1,e.2.length≤16:=by
 intro e he
 unfold J9 at h
 cases h1:ieq (iw l).1 0 <;> rw[h1]at h
 ·simp only[o5]at h;rw[dE h]at h1;cases h1
 have h1:=U9.1 h1
 unfold iw at h1
 cases h2:ilt 8 (o7 l.1) <;> rw[h2]at h1
 case true=>exact absurd (show(4:Int)=0 from h1) (by decide)
 simp only[o5]at h1
 obtain⟨i,hi,e1⟩:=List.getElem_of_mem he
 have hn:=FW (n:=l.1.length) (p:=rQ l) (fun r hf=>by
  rw[hf]at h1
  obtain⟨j,_,hj⟩:=aO hf
  unfold rQ at hj
  split at hj
  ·exact BR hj h1
  ·cases hj) i hi
 unfold rQ at hn
 rw[ay hi,e1]at hn
 have hz:=Jh hn
 unfold FM at hz
 cases g1:pW e.1 <;> rw[g1]at hz
 ·exact absurd (show(2:Int)=0 from hz) (by decide)
 cases g2:sU l 1 i e.1 <;> rw[g2]at hz
 case true=>exact absurd (show(7:Int)=0 from hz) (by decide)
 cases g3:ieq (o7 e.2) 0 <;> rw[g3]at hz
 case true=>exact absurd (show(5:Int)=0 from hz) (by decide)
 cases g4:ilt 16 (o7 e.2) <;> rw[g4]at hz
 case true=>exact absurd (show(4:Int)=0 from hz) (by decide)
 rw[nz]at g4;unfold o7 at g4;omega
theorem Eo {l:G5} (h:(J9 l).1=0) {i:Nat} {s:x8} (hs:l.2.2[i]? =some s) {j:Nat} {f:Z9} (hf:s.2.2.2.1[j]? =some f):vty f.2 l.1=true:=by
 have hp:=(sV h hs).2
 unfold pq at hp
 cases h1:iY l s with
 | some q=>rw[h1]at hp;exact absurd hp (qE h1)
 | none=>
  unfold iY at h1
  cases h2:I8 s.2.2.1.length (inP l s)with
  | some q=>rw[h2]at h1;cases h1
  | none=>
   rw[h2]at h1
   have hn:=kP h1 j (J4.1 hf).1
   unfold KA at hn
   rw[hf]at hn
   simp only at hn
   unfold IB at hn
   cases he:ieq (vY l.1 f s.2.2.1 (s.2.2.2.1.take j)) 0 <;> rw[he]at hn
   ·cases hn
   have he:=U9.1 he
   unfold vY at he
   cases g1:pW f.1 <;> rw[g1]at he
   ·exact absurd (show(2:Int)=0 from he) (by decide)
   cases g2:s.2.2.1.any fun x=>seq x.1 f.1 <;> rw[g2]at he
   case true=>exact absurd (show(7:Int)=0 from he) (by decide)
   cases g3:(s.2.2.2.1.take j).any fun x=>seq x.1 f.1 <;> rw[g3]at he
   case true=>exact absurd (show(7:Int)=0 from he) (by decide)
   cases g4:vty f.2 l.1 <;> rw[g4]at he
   ·exact absurd (show(8:Int)=0 from he) (by decide)
theorem a0K (l:G5) (s:x8):(zx l s).1=l.1∧(zx l s).2.1=l.2.1∧(zx l s).2.2.1=s.2.2.1.map (·.2):=by unfold zx;split <;> exact⟨rfl,rfl,rfl⟩
abbrev a8E:Int×Int:=(0,109573)
def onA (s:x8) (T:Int) (i:Nat):Bool:=match s.2.2.2.2[i]? with | some r=>b7S r.2.2.2.2.1 T | none=>false
def b1c (s:x8) (T:Int):List Nat:=onL (onA s T) s.2.2.2.2.length
def rOn (s:x8) (T:Int) (i:Nat):H9:=match s.2.2.2.2[i]? with
 | some r=>(r.1,r.2.1,anc (onA s T) (Y8 s) i,r.2.2.2.1,a8E,r.2.2.2.2.2.1,r.2.2.2.2.2.2.1,r.2.2.2.2.2.2.2)
 | none=>([],0,0,0,a8E,[],[],[])
def sOn (T:Int) (s:x8):x8:=(s.1,s.2.1,s.2.2.1,s.2.2.2.1,(b1c s T).map (rOn s T))
theorem Na {α β:Type} (f:α→β) (l:List α) (i:Int):lat (l.map f) i=(lat l i).map f:=by
 unfold lat
 split
 ·rw[List.getElem?_map]
 ·rfl
end Go.GP
namespace Go.GP
open Gt
set_option maxRecDepth 100000
theorem oG (on:Nat→Bool) (i:Nat):bG on (i+1)=bG on i+(if on i=true then 1 else 0):=by
 unfold bG
 rw[List.range_succ,List.filter_append,List.length_append]
 cases h:on i <;> simp[h]
theorem MF (on:Nat→Bool) {i j:Nat} (h:i≤j):bG on i≤bG on j:=by
 induction j with
 | zero=>
   have:i=0:=by omega
   subst this;omega
 | succ j ih=>
  rw[oG]
  by_cases e:i=j+1
  ·subst e;rw[oG];omega
  ·have:=ih (by omega);omega
theorem a6a {on:Nat→Bool} {a i:Nat} (h:a<i) (ha:on a=true):bG on a<bG on i:=by
 have h1:=oG on a
 rw[if_pos ha]at h1
 have h2:=MF on (show a+1≤i from h)
 omega
section
variable {A R R' :Nat→Bool} {par par' :Nat→Int} {n:Nat} (hRA:∀i,i<n→R i=true→A i=true) (hR:∀i,i<n→A i=true→R' (bG A i)=R i) (hp:∀i,i<n→A i=true→par' (bG A i)=anc A par i)
include hRA hR
omit hR in
omit hR in
include hp
end
end Go.GP
namespace Go.GP
open Gt
set_option maxRecDepth 100000
section
variable {s:x8} {T:Int} (h0:0≤T) (h1:T≤109572)
include h0 h1
omit h0 h1 in
omit h0 h1 in
end
end Go.GP
namespace Go.GP
open Gt
set_option maxRecDepth 100000
structure OnOk (s:x8) (T:Int):Prop where
 h0:0≤T
 h1:T≤109572
 t1:a8D s (KX s).1
 f1:∀d,0≤d→d<nD s→d∈(KX s).1
 t2:a8D (sOn T s) (KX (sOn T s)).1
 f2:∀d,0≤d→d<nD s→d∈(KX (sOn T s)).1
 r1:∀d,a5H s (fun x=>x∈U1 s d) (fun _=>True) d
 r2:∀d,a5H (sOn T s) (fun x=>x∈U1 (sOn T s) d) (fun _=>True) d
def vP (s:x8) (k:Nat) (r:H9):Bool:=l7 (ieq r.2.2.1 (-1)) false (l7 (ilt r.2.2.1 0) true (l7 (ile k r.2.2.1) true (match lat s.2.2.2.2 r.2.2.1 with | some q=>C9 (ieq q.2.1 r.2.1) | none=>true)))
structure RuleV (s:x8) (sg:D8) (k:Nat) (r:H9):Prop where
 id:pW r.1=true
 nm:((s.2.2.2.2.take k).any fun x=>seq x.1 r.1)=false
 df:∃d,lat s.2.2.2.1 r.2.1=some d∧BV r sg d.2=0
 pa:vP s k r=false
 p0:ilt r.2.2.2.1 0=false
 p9:ilt 9 r.2.2.2.1=false
 dv:vV r.2.2.2.2.1=true
 ne:ieq r.2.2.2.2.1.1 r.2.2.2.2.1.2=false
 ct:ile 8 (BI (s.2.2.2.2.take k) r.2.1)=false
 sr:Qx r.2.2.2.2.2.2.2=true
theorem RuleV.zero {s:x8} {sg:D8} {k:Nat} {r:H9} (h:RuleV s sg k r):vz s sg k r=0:=by
 obtain⟨d,h1,h2⟩:=h.df
 unfold vz
 rw[h.id,h.nm,h1]
 simp only[o6,o5]
 change l7 (vP s k r) (9:Int) _=0
 rw[h.pa,h.p0,h.p9,h.dv,h.ne,h.ct,h.sr,h2];rfl
theorem PV {s:x8} {sg:D8} {k:Nat} {r:H9} (h:vz s sg k r=0):RuleV s sg k r:=by
 obtain⟨d,hd,hx⟩:=PX h
 unfold vz at h
 cases g1:pW r.1 <;> rw[g1]at h
 ·exact absurd (show(2:Int)=0 from h) (by decide)
 cases g2:(s.2.2.2.2.take k).any fun x=>seq x.1 r.1 <;> rw[g2]at h
 case true=>exact absurd (show(7:Int)=0 from h) (by decide)
 rw[hd]at h
 simp only[o6,o5]at h
 change l7 (vP s k r) (9:Int) _=0 at h
 cases b1:vP s k r <;> rw[b1]at h
 case true=>exact absurd (show(9:Int)=0 from h) (by decide)
 cases b2:ilt r.2.2.2.1 0 <;> rw[b2]at h
 case true=>exact absurd (show(3:Int)=0 from h) (by decide)
 cases b3:ilt 9 r.2.2.2.1 <;> rw[b3]at h
 case true=>exact absurd (show(3:Int)=0 from h) (by decide)
 cases b4:vV r.2.2.2.2.1 <;> rw[b4]at h
 case false=>exact absurd (show(3:Int)=0 from h) (by decide)
 cases b5:ieq r.2.2.2.2.1.1 r.2.2.2.2.1.2 <;> rw[b5]at h
 case true=>exact absurd (show(3:Int)=0 from h) (by decide)
 cases b6:ile 8 (BI (s.2.2.2.2.take k) r.2.1) <;> rw[b6]at h
 case true=>exact absurd (show(4:Int)=0 from h) (by decide)
 cases b7:Qx r.2.2.2.2.2.2.2 <;> rw[b7]at h
 case false=>exact absurd (show(2:Int)=0 from h) (by decide)
 exact⟨g1,g2,⟨d,hd,hx⟩,b1,b2,b3,b4,b5,b6,b7⟩
theorem WB (on:Nat→Bool) {n i:Nat} (hi:i≤n):(onL on n).take (bG on i)=onL on i:=by
 induction n with
 | zero=>
   have e:i=0:=by omega
   subst e;unfold onL bG;simp
 | succ n ih=>
  by_cases e:i=n+1
  ·subst e
   rw[List.take_of_length_le (by unfold onL bG;omega)]
  ·rw[wK,List.take_append_of_le_length (by have:=MF on (show i≤n by omega);exact this)]
   exact ih (by omega)
def arr {α:Type} (n:Nat) (f:Nat→α):List α:=(List.range n).map f
section
variable {α:Type} {n:Nat}
theorem zN (f:Nat→α):(arr n f).length=n:=by simp[arr]
theorem Md (f:Nat→α):o7 (arr n f)=(n:Int):=by unfold o7;rw[zN]
theorem tq {f:Nat→α} {i:Nat} (h:i<n):(arr n f)[i]? =some (f i):=by
 unfold arr;rw[List.getElem?_map,List.getElem?_range h];rfl
theorem qf {f:Nat→α} {i:Nat} (h:i<n):lat (arr n f) (i:Int)=some (f i):=by rw[D9];exact tq h
theorem gX {f:Nat→α} {i:Nat} (h:i<n):H6 (arr n f) (toN (i:Int))=some (f i):=by
 show(arr n f)[((i:Int)).toNat]? =_
 rw[Int.toNat_natCast];exact tq h
theorem qc {f g:Nat→α} (h:∀i,i<n→f i=g i):arr n f=arr n g:=by
 unfold arr
 exact List.map_congr_left fun i hi=>h i (List.mem_range.1 hi)
theorem zO {f:Nat→α} {i:Nat} (x:α):I9 (arr n f) (toN (i:Int)) x=arr n (fun j=>if j=i then x else f j):=by
 show(arr n f).set ((i:Int)).toNat x=_
 rw[Int.toNat_natCast]
 apply List.ext_getElem?
 intro j
 rw[List.getElem?_set]
 by_cases hj:j<n
 ·rw[tq hj,tq hj,zN]
  by_cases e:i=j
  ·subst e;rw[if_pos rfl,if_pos hj,if_pos rfl]
  ·rw[if_neg e,if_neg (fun h:j=i=>e h.symm)]
 ·have e1:(arr n f)[j]? =none:=List.getElem?_eq_none (by rw[zN];omega)
  have e2:(arr n fun j=>if j=i then x else f j)[j]? =none:=List.getElem?_eq_none (by rw[zN];omega)
  rw[e1,e2,zN]
  by_cases e:i=j
  ·subst e;rw[if_pos rfl,if_neg hj]
  ·rw[if_neg e]
theorem Kt (x:α):List.replicate n x=arr n fun _=>x:=by
 unfold arr
 apply List.ext_getElem?
 intro j
 rw[List.getElem?_map,List.getElem?_replicate]
 by_cases hj:j<n
 ·rw[if_pos hj,List.getElem?_range hj];rfl
 ·rw[if_neg hj,List.getElem?_eq_none (by simp;omega)];rfl
end
def upP (s:x8) (i:Nat):Option Nat:=if 0≤Y8 s i∧Y8 s i<(i:Int)then some (Y8 s i).toNat else none
theorem Dt {s:x8} {i p:Nat} (h:upP s i=some p):p<i:=by
 unfold upP at h
 split at h
 ·cases h;omega
 ·cases h
def upI (s:x8) (i:Nat):Int:=match upP s i with | some p=>(p:Int) | none=>-1
def ups (s:x8) (i:Nat):List Nat:=i::(if h:0≤Y8 s i∧Y8 s i<(i:Int)then ups s (Y8 s i).toNat else[])
termination_by i
decreasing_by omega
theorem LQ (s:x8) (i:Nat):ups s i=i::(match upP s i with | some p=>ups s p | none=>[]):=by
 rw[ups]
 unfold upP
 by_cases h:0≤Y8 s i∧Y8 s i<(i:Int)
 ·rw[dif_pos h,if_pos h]
 ·rw[dif_neg h,if_neg h]
theorem Bq (s:x8) (i:Nat):i∈ups s i:=by rw[LQ];simp
theorem Zq (s:x8):∀i,∀j∈ups s i,∀p,upP s j=some p→p∈ups s i:=by
 intro i
 induction i using Nat.strongRecOn with
 | ind i ih=>
  intro j hj p hp
  rw[LQ]at hj ⊢
  rcases List.mem_cons.1 hj with rfl | hj
  ·rw[hp];exact List.mem_cons_of_mem _ (Bq s p)
  ·cases hq:upP s i with
   | none=>rw[hq]at hj;cases hj
   | some q=>
    rw[hq]at hj
    exact List.mem_cons_of_mem _ (ih q (Dt hq) j hj p hp)
def Clo (s:x8) (f:Nat→Bool) (m:Nat):Prop:=∀j,j≤m→f j=true→∀p,upP s j=some p→f p=true
theorem ZP {s:x8} {f:Nat→Bool} :∀i,Clo s f i→f i=true→∀j∈ups s i,f j=true:=by
 intro i
 induction i using Nat.strongRecOn with
 | ind i ih=>
  intro hc hf j hj
  rw[LQ]at hj
  rcases List.mem_cons.1 hj with rfl | hj
  ·exact hf
  ·cases hp:upP s i with
   | none=>rw[hp]at hj;cases hj
   | some p=>
    rw[hp]at hj
    have hlt:=Dt hp
    exact ih p hlt (fun k hk=>hc k (by omega)) (hc i (Nat.le_refl _) hf p hp) j hj
def Ew (s:x8) (r j:Nat):Bool:=(ups s r).contains j
theorem mW {s:x8} {r j:Nat} :Ew s r j=true↔j∈ups s r:=by unfold Ew;simp
def zi (s:x8) (f:Nat→Bool) (a:Nat):Nat→Bool:=fun j=>f j || Ew s a j
theorem WM {s:x8} {f:Nat→Bool} {m:Nat} (h:Clo s f m) (a:Nat):Clo s (zi s f a) m:=by
 intro j hj hf p hp
 unfold zi at hf ⊢
 rw[Bool.or_eq_true]at hf ⊢
 rcases hf with hf | hf
 ·exact .inl (h j hj hf p hp)
 ·exact .inr (mW.2 (Zq s a j (mW.1 hf) p hp))
theorem xM {s:x8} {f:Nat→Bool} {a j:Nat} :zi s f a j=((if j=a then true else f j) || (match upP s a with | some p=>Ew s p j | none=>false)):=by
 unfold zi Ew
 rw[LQ,List.contains_cons]
 by_cases e:j=a
 ·subst e;simp
 ·rw[if_neg e]
  have:(j==a)=false:=by simp[e]
  rw[this]
  cases upP s a <;> simp
theorem DZ {s:x8} {i:Nat} (h:i<s.2.2.2.2.length):iK s (i:Int)=some (upI s i):=by
 have e:=ay h
 have hp:Y8 s i=s.2.2.2.2[i].2.2.1:=by unfold Y8;rw[e]
 unfold iK upI upP
 rw[D9,e,o9,←hp]
 by_cases h1:Y8 s i<0
 ·rw[aC h1,o6,if_neg (by omega)]
 ·rw[aJ (by omega),o5]
  by_cases h2:(i:Int)≤Y8 s i
  ·rw[aF h2,o6,if_neg (by omega)]
  ·rw[aU (by omega),o5,if_pos ⟨by omega,by omega⟩]
   show some (Y8 s i)=some (((Y8 s i).toNat:Nat):Int)
   rw[Int.toNat_of_nonneg (by omega)]
theorem b6y {s:x8} {n:Nat} {f:List Bool×Int→Option ((List Bool×Int)⊕List Bool)}
  (hin:∀(g:Nat→Bool) (a:Nat),a<n→f (arr n g,(a:Int))=l7 (C9 (g a)) (some (.inl (arr n (fun j=>if j=a then true else g j),upI s a))) (some (.inr (arr n g))))
  (hend:∀g:Nat→Bool,f (arr n g,-1)=some (.inr (arr n g))):∀(a:Nat) (g:Nat→Bool) (N:Nat),a<n→a+2≤N→Clo s g a→gG f N (arr n g,(a:Int))=some (arr n (zi s g a)):=by
 intro a
 induction a using Nat.strongRecOn with
 | ind a ih=>
  intro g N ha hN hc
  obtain⟨M,rfl⟩:∃M,N=M+1:=⟨N -1,by omega⟩
  unfold gG
  rw[hin g a ha]
  cases hg:g a
  ·rw[P7,o6]
   show gG f M (arr n (fun j=>if j=a then true else g j),upI s a)=_
   unfold upI
   cases hp:upP s a with
   | none=>
    obtain⟨M2,rfl⟩:∃M2,M=M2+1:=⟨M -1,by omega⟩
    show gG f (M2+1) (arr n (fun j=>if j=a then true else g j),-1)=_
    unfold gG
    rw[hend]
    show some _=some _
    refine congrArg some (qc fun j _=>?_)
    rw[xM,hp,Bool.or_false]
   | some p=>
    have hlt:=Dt hp
    show gG f M (arr n (fun j=>if j=a then true else g j),(p:Int))=_
    rw[ih p hlt _ M (by omega) (by omega) (fun j hj hf q hq=>by
     have:=Dt hq
     have hf:g j=true:=by rwa[if_neg (by omega)]at hf
     show(if q=a then true else g q)=true
     rw[if_neg (by omega)]
     exact hc j (by omega) hf q hq)]
    refine congrArg some (qc fun j _=>?_)
    rw[xM (a:=a),hp]
    rfl
  ·rw[E5,o5]
   show some _=some _
   refine congrArg some (qc fun j _=>?_)
   unfold zi
   cases hj:Ew s a j
   ·rw[Bool.or_false]
   ·rw[ZP a hc hg j (mW.1 hj)];rfl
theorem b6z {s:x8} {n:Nat} {f:List Bool×Int→Option ((List Bool×Int)⊕List Bool)}
  (hin:∀(g:Nat→Bool) (a:Nat),a<n→f (arr n g,(a:Int))=match upP s a with | some p=>some (.inl (arr n (fun j=>if j=p then true else g j),(p:Int))) | none=>some (.inr (arr n g))):
  ∀(a:Nat) (g:Nat→Bool) (N:Nat),a<n→a+1≤N→g a=true→gG f N (arr n g,(a:Int))=some (arr n (zi s g a)):=by
 intro a
 induction a using Nat.strongRecOn with
 | ind a ih=>
  intro g N ha hN hg
  obtain⟨M,rfl⟩:∃M,N=M+1:=⟨N -1,by omega⟩
  unfold gG
  rw[hin g a ha]
  have hgg:∀j,(if j=a then true else g j)=g j:=fun j=>by
   by_cases e:j=a
   ·subst e;rw[if_pos rfl,hg]
   ·rw[if_neg e]
  cases hp:upP s a with
  | none=>
   show some _=some _
   refine congrArg some (qc fun j _=>?_)
   rw[xM,hp,hgg,Bool.or_false]
  | some p=>
   have hlt:=Dt hp
   show gG f M (arr n (fun j=>if j=p then true else g j),(p:Int))=_
   rw[ih p hlt _ M (by omega) (by omega) (by rw[if_pos rfl])]
   refine congrArg some (qc fun j _=>?_)
   rw[xM (a:=a),hp,hgg]
   unfold zi
   show((if j=p then true else g j) || Ew s p j)=(g j || Ew s p j)
   by_cases e:j=p
   ·subst e;rw[mW.2 (Bq s j)];simp
   ·rw[if_neg e]
abbrev nR (s:x8):Nat:=s.2.2.2.2.length
def inN (n:Nat) (r:Int):Bool:=decide (0≤r)&&decide (r<(n:Int))
def U8 (s:x8) (ks:List Int) (j:Nat):Bool:=ks.any fun r=>inN (nR s) r&&Ew s r.toNat j
def Ju (s:x8) (ks:List Int) (j:Nat):Bool:=ks.any fun r=>inN (nR s) r&&decide (r.toNat=j)
abbrev KB:=(Nat→Bool)×(Nat→Bool)
def kG (s:x8) (b:KB) (r:Int):KB:=if inN (nR s) r=true then(zi s b.1 r.toNat,fun j=>if j=r.toNat then true else b.2 j)else b
theorem Rx (s:x8):∀(ks:List Int) (b:KB),((ks.foldl (kG s) b).1=fun j=>b.1 j || U8 s ks j)∧((ks.foldl (kG s) b).2=fun j=>b.2 j || Ju s ks j)
 | [],b=>by simp[U8,Ju]
 | r::ks,b=>by
  obtain⟨h1,h2⟩:=Rx s ks (kG s b r)
  rw[List.foldl_cons,h1,h2]
  unfold kG U8 Ju
  cases hr:inN (nR s) r
  ·rw[if_neg (by simp)]
   refine⟨?_,?_⟩ <;> funext j <;> simp[hr]
  ·rw[if_pos rfl]
   refine⟨?_,?_⟩ <;> funext j
   ·simp only[List.any_cons,hr,Bool.true_and]
    unfold zi
    rw[Bool.or_assoc]
   ·simp only[List.any_cons,hr,Bool.true_and]
    by_cases e:j=r.toNat
    ·subst e;simp
    ·rw[if_neg e]
     have:decide (r.toNat=j)=false:=decide_eq_false fun h=>e h.symm
     rw[this];simp
theorem MP {n:Nat} (h:n≤1000000):n≤bH:=by unfold bH;omega
theorem Ae {s:x8} {ks:List Int} (hn:nR s≤1000) (hk:ks.length≤1000):fV s ks=some (arr (nR s) (U8 s ks),arr (nR s) (Ju s ks)):=by
 unfold fV
 have hL:o7 s.2.2.2.2=(nR s:Int):=rfl
 rw[show iI (o7 s.2.2.2.2) false=some (arr (nR s) fun _=>false) by rw[hL,Cj (by omega) (by omega),←Kt,Int.toNat_natCast]]
 simp only[o9]
 refine ae ks (kG s) (fun(b:KB) i=>(arr (nR s) b.1,arr (nR s) b.2,i)) (fun b=>(arr (nR s) b.1,arr (nR s) b.2)) (fun _ b=>Clo s b.1 (nR s)) (fun _=>false,fun _=>false) (by omega) (fun j _ h=>by cases h) (fun i r b hr hi hc=>?_) (fun b hb=>?_) (fun hb=>?_)
 ·have hci:Clo s (kG s b r).1 (nR s):=by
   unfold kG
   split
   ·exact WM hc _
   ·exact hc
  refine⟨?_,hci⟩
  simp only[F9 hr,o6,D9,hr,o9]
  unfold kG inN
  by_cases h1:r<0
  ·rw[aC h1,o6,if_neg (by simp;omega),U4 (by omega)]
  ·rw[aJ (by omega),o5]
   by_cases h2:(nR s:Int)≤r
   ·rw[show ile (o7 s.2.2.2.2) r=true from aF h2,o6,if_neg (by simp;omega),U4 (by omega)]
   ·rw[show ile (o7 s.2.2.2.2) r=false from aU (by have hL:o7 s.2.2.2.2=(nR s:Int):=rfl;rw[hL];omega),o5,if_pos (by simp;omega)]
    obtain⟨a,ha⟩:∃a:Nat,r=(a:Int):=⟨r.toNat,by omega⟩
    subst ha
    have hlt:a<nR s:=by omega
    rw[qf hlt,o9,gX hlt,o9]
    refine Z7 (b6y (s:=s) (n:=nR s) (fun g a ha=>?_) (fun g=>?_) a b.1 bH hlt (MP (by omega)) (fun j hj=>hc j (by omega))) ?_
    ·simp only[aF (show(0:Int)≤(a:Int) by omega),o6,qf ha,o9,gX ha]
     cases g a
     ·rw[DZ ha,o9,zO]
     ·rfl
    ·rfl
    ·rw[o9,zO,U4 (by omega),Int.toNat_natCast]
 ·simp only[F8,o5]
 ·obtain⟨h1,h2⟩:=Rx s ks (fun _=>false,fun _=>false)
  rw[h1,h2]
  simp only[Bool.false_or]
theorem VN {ks:List Int} (hk:ks.length≤1000) (k:Int):sJ ks k=some (ks.any fun r=>ieq r k):=by
 unfold sJ
 refine Z7 (zK ks (fun r=>ieq r k) true PUnit.unit (by omega) (fun i a ha=>?_) ?_) ?_
 ·simp only[F9 ha,o6,D9,ha,o9]
  cases ieq a k <;> rfl
 ·rw[F8];rfl
 ·cases ks.any fun r=>ieq r k <;> rfl
def rkG (s:x8) (ks:List Int) (b:Nat→Bool) (i:Nat):Nat→Bool:=if(ks.any fun r=>ieq r (i:Int))=true then zi s b i else b
theorem NW (s:x8) (ks:List Int):∀(l:List Nat) (b:Nat→Bool),l.foldl (rkG s ks) b=fun j=>b j || l.any fun i=>(ks.any fun r=>ieq r (i:Int))&&Ew s i j
 | [],b=>by simp
 | i::l,b=>by
  rw[List.foldl_cons,NW s ks l]
  funext j
  unfold rkG
  rw[List.any_cons]
  cases hr:ks.any fun r=>ieq r (i:Int)
  ·rw[if_neg (by simp)];simp
  ·rw[if_pos rfl];unfold zi;rw[Bool.true_and,Bool.or_assoc]
theorem UT (s:x8) (ks:List Int) (j:Nat):((List.range (nR s)).any fun i=>(ks.any fun r=>ieq r (i:Int))&&Ew s i j)=U8 s ks j:=by
 rw[Bool.eq_iff_iff]
 unfold U8 inN
 simp only[List.any_eq_true,List.mem_range,Bool.and_eq_true,decide_eq_true_eq]
 constructor
 ·rintro⟨i,hi,⟨r,hr,he⟩,hu⟩
  have:=U9.1 he
  subst this
  exact⟨_,hr,⟨by omega,by omega⟩,by rw[Int.toNat_natCast];exact hu⟩
 ·rintro⟨r,hr,⟨h0,h1⟩,hu⟩
  exact⟨r.toNat,by omega,⟨r,hr,U9.2 (by omega)⟩,hu⟩
theorem NY {s:x8} {ks:List Int} (hn:nR s≤1000) (hk:ks.length≤1000):pJ s ks=some (arr (nR s) (U8 s ks)):=by
 unfold pJ
 have hL:o7 s.2.2.2.2=(nR s:Int):=rfl
 rw[show iI (o7 s.2.2.2.2) false=some (arr (nR s) fun _=>false) by rw[hL,Cj (by omega) (by omega),←Kt,Int.toNat_natCast],o9]
 have hll:(List.range (nR s)).length=nR s:=List.length_range
 refine ae (List.range (nR s)) (rkG s ks) (fun(b:Nat→Bool) i=>(arr (nR s) b,i)) (fun b=>arr (nR s) b) (fun _ _=>True) (fun _=>false) (by omega) trivial (fun i a b ha hi _=>⟨?_,trivial⟩) (fun b hb=>?_) (fun hb=>?_)
 ·have hlt:i<nR s:=by have:=(J4.1 ha).1;omega
  have ea:a=i:=by rw[List.getElem?_range hlt]at ha;exact(Option.some.inj ha).symm
  subst ea
  have hl2:ilt (a:Int) (o7 s.2.2.2.2)=true:=aC (by rw[hL];omega)
  simp only[hl2,o6,VN hk,o9]
  unfold rkG
  cases hr:ks.any fun r=>ieq r (a:Int)
  ·rw[P7,o6,if_neg (by simp),U4 (by omega)]
  ·rw[E5,o5,if_pos rfl,qf hlt,o9,gX hlt,o9,zO]
   refine Z7 (b6z (s:=s) (n:=nR s) (fun g a ha=>?_) a _ bH hlt (MP (by omega)) (by rw[if_pos rfl])) ?_
   ·have e:=ay ha
    have hp:Y8 s a=s.2.2.2.2[a].2.2.1:=by unfold Y8;rw[e]
    simp only[D9,e,o9]
    rw[←hp]
    unfold upP
    by_cases h1:0≤Y8 s a
    ·rw[aF h1,o6]
     by_cases h2:Y8 s a<(a:Int)
     ·rw[aC h2,o6,if_pos ⟨h1,h2⟩]
      obtain⟨p,hpp⟩:∃p:Nat,Y8 s a=(p:Int):=⟨(Y8 s a).toNat,by omega⟩
      rw[hpp,qf (by omega),o9,gX (by omega),o9,zO,Int.toNat_natCast]
     ·rw[aJ (by omega),o5,if_neg (by omega)]
    ·rw[aU (by omega),o5,if_neg (by omega)]
   ·rw[o9,U4 (by omega)]
    have:arr (nR s) (zi s (fun j=>if j=a then true else b j) a)=arr (nR s) (zi s b a):=qc fun j _=>by
     unfold zi
     by_cases e:j=a
     ·subst e;rw[mW.2 (Bq s j)];simp
     ·show((if j=a then true else b j) || _)=_
      rw[if_neg e]
    rw[this]
 ·rw[hll]
  have hl2:ilt (nR s:Int) (o7 s.2.2.2.2)=false:=aJ (by rw[hL];omega)
  simp only[hl2,o5]
 ·rw[NW]
  simp only[Bool.false_or]
  have:(fun j=>(List.range (nR s)).any fun i=>(ks.any fun r=>ieq r (i:Int))&&Ew s i j)=U8 s ks:=funext fun j=>UT s ks j
  rw[this]
def KP (f:Nat→Bool) (i:Nat):Int:=if f i=true then(bG f i:Int)else -1
abbrev NB:=(Nat→Int)×Int
def nG (f:Nat→Bool) (b:NB) (i:Nat):NB:=if f i=true then(fun j=>if j=i then b.2 else b.1 j,b.2+1)else(fun j=>if j=i then -1 else b.1 j,b.2)
theorem MC (f:Nat→Bool) (i:Nat):bG f i≤i:=by unfold bG;have:=List.length_filter_le f (List.range i);simpa using this
theorem yC {n:Nat} (hn:n≤1000) (f:Nat→Bool):fB (arr n f)=some (arr n (KP f)):=by
 unfold fB
 rw[Md]
 rw[show iI (n:Int) (0:Int)=some (arr n fun _=>(0:Int)) by rw[Cj (by omega) (by omega),←Kt];rw[Int.toNat_natCast],o9]
 have hll:(List.range n).length=n:=List.length_range
 refine ae (List.range n) (nG f) (fun(b:NB) i=>(arr n b.1,b.2,i)) (fun b=>arr n b.1) (fun i b=>b.2=(bG f i:Int)∧∀j,j<i→b.1 j=KP f j) (fun _=>0,0) (by omega) ⟨rfl,fun j h=>by omega⟩ (fun i a b ha hi hb=>?_) (fun b hb=>?_) (fun hb=>?_)
 ·have hlt:i<n:=by have:=(J4.1 ha).1;omega
  have ea:a=i:=by rw[List.getElem?_range hlt]at ha;exact(Option.some.inj ha).symm
  subst ea
  have hl2:ilt (a:Int) (n:Int)=true:=aC (by omega)
  have hc:=MC f a
  simp only[hl2,o6,qf hlt,o9,gX hlt,zO]
  obtain⟨hb1,hb2⟩:=hb
  unfold nG
  cases hf:f a
  ·rw[o5,if_neg (by simp)]
   refine⟨by rw[U4 (by omega)],?_,fun j hj=>?_⟩
   ·rw[hb1,oG,hf];simp
   ·show(if j=a then -1 else b.1 j)=_
    by_cases e:j=a
    ·subst e;unfold KP;rw[if_pos rfl,hf];rfl
    ·rw[if_neg e];exact hb2 j (by omega)
  ·rw[o6,if_pos rfl]
   have e1:arr n (fun j=>if j=a then b.2 else if j=a then -1 else b.1 j)=arr n (fun j=>if j=a then b.2 else b.1 j):=qc fun j _=>by
    by_cases e:j=a
    ·rw[if_pos e,if_pos e]
    ·rw[if_neg e,if_neg e,if_neg e]
   refine⟨by rw[e1,U4 (by omega),hb1,U4 (by omega)];rfl,?_,fun j hj=>?_⟩
   ·show b.2+1=_
    rw[hb1,oG,hf];simp
   ·show(if j=a then b.2 else b.1 j)=_
    by_cases e:j=a
    ·subst e;unfold KP;rw[if_pos rfl,hf,hb1];rfl
    ·rw[if_neg e];exact hb2 j (by omega)
 ·rw[hll]
  have hl2:ilt (n:Int) (n:Int)=false:=aJ (by omega)
  simp only[hl2,o5]
 ·rw[hll]at hb
  rw[qc fun j hj=>hb.2 j hj]
def GK (s:x8) (ks:List Int) (k:Int):Int:=if 0≤k∧k<(nR s:Int)then KP (U8 s ks) k.toNat else -1
theorem Ny {s:x8} {ks:List Int} (hn:nR s≤1000) (hk:ks.length≤1000) (k:Int):fA s ks k=some (GK s ks k):=by
 unfold fA GK
 by_cases h1:k<0
 ·rw[aC h1,o6,if_neg (by omega)]
 ·rw[aJ (by omega),o5]
  by_cases h2:(nR s:Int)≤k
  ·rw[show ile (o7 s.2.2.2.2) k=true from aF h2,o6,if_neg (by omega)]
  ·rw[show ile (o7 s.2.2.2.2) k=false from aU (by have hL:o7 s.2.2.2.2=(nR s:Int):=rfl;rw[hL];omega),o5,if_pos (by omega),Ae hn hk,o9,yC hn,o9]
   obtain⟨a,rfl⟩:∃a:Nat,k=(a:Int):=⟨k.toNat,by omega⟩
   rw[qf (by omega),o9,gX (by omega),o9,Int.toNat_natCast]
theorem AQ {s:x8} {ks:List Int} (hn:nR s≤1000) (hk:ks.length≤1000) (k:Int):aV s ks k=some (GK s ks k):=by
 unfold aV GK
 rw[NY hn hk,o9,Md]
 by_cases h1:k<0
 ·rw[aC h1,o6,if_neg (by omega)]
 ·rw[aJ (by omega),o5]
  by_cases h2:(nR s:Int)≤k
  ·rw[aF h2,o6,if_neg (by omega)]
  ·rw[aU (by omega),o5,if_pos (by omega)]
   obtain⟨a,rfl⟩:∃a:Nat,k=(a:Int):=⟨k.toNat,by omega⟩
   have ha:a<nR s:=by omega
   rw[qf ha,o9,gX ha,o9,Int.toNat_natCast]
   unfold KP
   cases hf:U8 s ks a
   ·rfl
   ·rw[E5,o5,if_pos rfl]
    have hll:(List.range a).length=a:=List.length_range
    refine ae (List.range a) (fun(b:Int) i=>if U8 s ks i=true then b+1 else b) (fun(b:Int) i=>(b,i)) (fun b=>b) (fun i b=>b=(bG (U8 s ks) i:Int)) 0 (by omega) rfl (fun i x b hx hi hb=>?_) (fun b hb=>?_) (fun hb=>?_)
    ·have hlt:i<a:=by have:=(J4.1 hx).1;omega
     have ea:x=i:=by rw[List.getElem?_range hlt]at hx;exact(Option.some.inj hx).symm
     subst ea
     have hl2:ilt (x:Int) (a:Int)=true:=aC (by omega)
     have hc:=MC (U8 s ks) x
     simp only[hl2,o6,qf (show x<nR s by omega),o9,gX (show x<nR s by omega)]
     cases hf:U8 s ks x
     ·rw[o5,if_neg (by simp),U4 (by omega)]
      exact⟨rfl,by rw[hb,oG,hf];simp⟩
     ·rw[o6,if_pos rfl,hb,U4 (by omega),U4 (by omega)]
      exact⟨rfl,by rw[oG,hf];simp⟩
    ·rw[hll]
     have hl2:ilt (a:Int) (a:Int)=false:=aJ (by omega)
     simp only[hl2,o5]
    ·rw[hll]at hb
     rw[hb]
structure LenL (l:G5):Prop where
 e:l.1.length≤1000000∧∀e∈l.1,e.2.length≤1000000
 t:l.2.1.length≤1000000∧∀t∈l.2.1,t.2.2.2.length≤1000000
 s:l.2.2.length≤1000000∧∀s∈l.2.2,s.2.2.1.length≤1000000∧s.2.2.2.1.length≤1000000∧s.2.2.2.2.length≤1000000∧∀r∈s.2.2.2.2,r.2.2.2.2.2.1.length≤1000000∧r.2.2.2.2.2.2.1.length≤1000000
theorem BZ {α β ρ:Type} (b:β):∀l:List α,jq (fun(b:β) (_:α)=>(.inl b:β⊕ρ)) l b= .inl b
 | []=>rfl
 | _::l=>BZ b l
theorem kD {α:Type} {a:List α} (hl:a.length≤1000000) {f:Int→Option (Out Int PUnit Bool)}
  (hin:∀(i:Nat) x,a[i]? =some x→f (i:Int)=some (.nx (x9 .i64 (i:Int) 1))) (hend:f (a.length:Int)=some (.ex PUnit.unit)):
  (l7 (C9 (ieq (o7 a) (o7 a))) (some false) (l9 (G8 f 0) fun o=>I7 o (fun _=>some true) fun r=>some r))=some true:=by
 rw[dE rfl,E5,o5]
 refine uu a (fun(b:Unit) _=>(.inl b:Unit⊕Bool)) (fun _ i=>i) (fun _=>PUnit.unit) (fun _ _=>True) () hl trivial (fun i x _ hx hi _=>⟨?_,fun _ _=>trivial⟩) (fun _ _=>hend) (fun _=>?_)
 ·rw[hin i x hx,U4 (by omega)]
 ·rw[BZ];rfl
theorem sO (a:List UInt8):seq a a=true:=a0J.2 rfl
theorem rZ (a:Int):ieq a a=true:=dE rfl
theorem zQ:P6 true true=true:=rfl
theorem Bf {a:List (List UInt8)} (h:a.length≤1000000):nV a a=some true:=by
 unfold nV
 refine kD h (fun i x hx=>?_) (by simp only[F8,o5])
 simp only[F9 hx,o6,D9,hx,o9,sO,E5,o5]
theorem vG {a:List A7} (h:a.length≤1000000):mD a a=some true:=by
 unfold mD
 refine kD h (fun i x hx=>?_) (by simp only[F8,o5])
 simp only[F9 hx,o6,D9,hx,o9,rZ,zQ,E5,o5]
theorem Ia {a:List vN} (h:a.length≤1000000):xW a a=some true:=by
 unfold xW
 refine kD h (fun i x hx=>?_) (by simp only[F8,o5])
 simp only[F9 hx,o6,D9,hx,o9,rZ,zQ,E5,o5]
theorem sN {a:List Z9} (h:a.length≤1000000):mY a a=some true:=by
 unfold mY
 refine kD h (fun i x hx=>?_) (by simp only[F8,o5])
 simp only[F9 hx,o6,D9,hx,o9,rZ,sO,zQ,E5,o5]
theorem EF {a:List X4} (h:a.length≤1000000) (h2:∀e∈a,e.2.length≤1000000):uF a a=some true:=by
 unfold uF
 refine kD h (fun i x hx=>?_) (by simp only[F8,o5])
 have e:xU x x=some true:=by
  unfold xU
  rw[sO,o6,Bf (h2 x (iG hx)),o9]
 simp only[F9 hx,o6,D9,hx,o9,e,E5,o5]
theorem Di {a:List V7} (h:a.length≤1000000) (h2:∀t∈a,t.2.2.2.length≤1000000):qP a a=some true:=by
 unfold qP
 refine kD h (fun i x hx=>?_) (by simp only[F8,o5])
 have e:uI x x=some true:=by
  unfold uI
  simp only[sO,rZ,zQ,o6]
  rw[Ia (h2 x (iG hx)),o9]
 simp only[F9 hx,o6,D9,hx,o9,e,E5,o5]
theorem EG {a:List H9} (h:a.length≤1000000) (h2:∀r∈a,r.2.2.2.2.2.1.length≤1000000∧r.2.2.2.2.2.2.1.length≤1000000):uG a a=some true:=by
 unfold uG
 refine kD h (fun i x hx=>?_) (by simp only[F8,o5])
 have e:xX x x=some true:=by
  obtain⟨g1,g2⟩:=h2 x (iG hx)
  unfold xX
  simp only[sO,rZ,zQ,o6]
  rw[vG g1,o9,o6,vG g2,o9]
 simp only[F9 hx,o6,D9,hx,o9,e,E5,o5]
theorem yK {l:G5} (h:LenL l):wX l l=some true:=by
 unfold wX
 rw[EF h.e.1 h.e.2,o9,o6,Di h.t.1 h.t.2,o9,o6]
 have e:qO l.2.2 l.2.2=some true:=by
  unfold qO
  refine kD h.s.1 (fun i x hx=>?_) (by simp only[F8,o5])
  have e:uH x x=some true:=by
   obtain⟨g1,g2,g3,g4⟩:=h.s.2 x (iG hx)
   unfold uH
   simp only[sO,rZ,o6]
   rw[sN g1,o9,o6,sN g2,o9,o6,EG g3 g4,o9]
  simp only[F9 hx,o6,D9,hx,o9,e,E5,o5]
 rw[e,o9]
theorem oU {α:Type} :∀(l p:List α),l.foldl (fun b a=>b++[a]) p=p++l
 | [],p=>by simp
 | a::l,p=>by rw[List.foldl_cons,oU l];simp
theorem rH {α:Type} {l:List α} (h:l.length≤1000000):aZ l=some l:=by
 unfold aZ
 rw[Ai (by simp;omega),List.nil_append]
theorem Iy {a:List X4} (h:a.length≤1000000) (h2:∀e∈a,e.2.length≤1000000):kU a=some a:=by
 unfold kU
 refine ae a (fun(b:List X4) x=>b++[x]) (fun b i=>(b,i)) (fun b=>b) (fun i b=>b.length=i) [] h rfl (fun i x b hx hi hb=>⟨?_,by simp[hb]⟩) (fun b hb=>?_) (fun hb=>?_)
 ·simp only[F9 hx,o6,D9,hx,o9]
  rw[rH (h2 x (iG hx)),o9,jg _ (by omega),o9,U4 (by omega)]
 ·simp only[F8,o5]
 ·rw[oU,List.nil_append]
theorem Fq {a:List V7} (h:a.length≤1000000) (h2:∀e∈a,e.2.2.2.length≤1000000):jJ a=some a:=by
 unfold jJ
 refine ae a (fun(b:List V7) x=>b++[x]) (fun b i=>(b,i)) (fun b=>b) (fun i b=>b.length=i) [] h rfl (fun i x b hx hi hb=>⟨?_,by simp[hb]⟩) (fun b hb=>?_) (fun hb=>?_)
 ·simp only[F9 hx,o6,D9,hx,o9]
  rw[rH (h2 x (iG hx)),o9,jg _ (by omega),o9,U4 (by omega)]
 ·simp only[F8,o5]
 ·rw[oU,List.nil_append]
theorem Ub {l:G5} (h:LenL l):xJ l=some l:=by
 unfold xJ
 rw[Iy h.e.1 h.e.2,o9,Fq h.t.1 h.t.2,o9]
 refine ae l.2.2 (fun(b:List x8) x=>b++[x]) (fun b i=>((l.1,l.2.1,b),i)) (fun b=>(l.1,l.2.1,b)) (fun i b=>b.length=i) [] h.s.1 rfl (fun i x b hx hi hb=>⟨?_,by simp[hb]⟩) (fun b hb=>?_) (fun hb=>?_)
 ·obtain⟨g1,g2,g3,g4⟩:=h.s.2 x (iG hx)
  simp only[F9 hx,o6,D9,hx,o9]
  rw[rH g1,o9,rH g2,o9]
  refine ae x.2.2.2.2 (fun(b:List H9) x=>b++[x]) (fun b i=>((x.1,x.2.1,x.2.2.1,x.2.2.2.1,b),i)) (fun b=>(x.1,x.2.1,x.2.2.1,x.2.2.2.1,b)) (fun i b=>b.length=i) [] g3 rfl (fun i y b hy hi hb=>⟨?_,by simp[hb]⟩) (fun b hb=>?_) (fun hb=>?_)
  ·obtain⟨k1,k2⟩:=g4 y (iG hy)
   simp only[F9 hy,o6,D9,hy,o9]
   rw[rH k1,o9,rH k2,o9,jg _ (by omega),o9,U4 (by omega)]
  ·simp only[F8,o5]
  ·rw[oU,List.nil_append,jg _ (by omega),o9,U4 (by omega)]
 ·simp only[F8,o5]
 ·rw[oU,List.nil_append]
def MI (r:H9):Int:=r.2.1
def Ah (d:Z9):Int:=d.2.1
def uw (s:x8):Int:=s.2.1
structure RedOk (s:x8):Prop where
 par:∀(i:Nat),i<nR s→Y8 s i<(i:Int)
 df:∀(i:Nat) (r:H9),s.2.2.2.2[i]? =some r→∃d,lat s.2.2.2.1 (MI r)=some d∧1≤Ah d∧Ah d≤6
def rC (t:Int×Int):Int×Int:=l7 (ieq t.1 6) (6,x9 .i64 (bJ .i64 16 t.2) 0) (t.1,0)
def Bo (s:x8) (d:Int):Int×Int:=match lat s.2.2.2.1 d with | some d=>d.2 | none=>(0,0)
def Gf (ks:List Int) (i:Nat):Bool:=ks.any fun r=>ieq r (i:Int)
def rP (s:x8) (ks:List Int) (p:Int):Int:=if 0≤p then GK s ks p else p
def rK (s:x8) (ks:List Int) (i:Nat):H9:=match s.2.2.2.2[i]? with
 | some r=>if Gf ks i=true then(r.1,r.2.1,rP s ks (Y8 s i),r.2.2.2)else(r.1,r.2.1,rP s ks (Y8 s i),r.2.2.2.1,r.2.2.2.2.1,[(1,0)],[rC (Bo s r.2.1)],r.2.2.2.2.2.2.2)
 | none=>([],0,0,0,(0,0),[],[],[])
def yf (s:x8) (ks:List Int):List H9:=(onL (U8 s ks) (nR s)).map (rK s ks)
theorem Hm (s:x8) (ks:List Int):(yf s ks).length≤nR s:=by unfold yf;rw[List.length_map];exact a0h _ _
def dkG (s:x8) (ks:List Int) (b:List H9) (i:Nat):List H9:=if U8 s ks i=true then b++[rK s ks i]else b
theorem FD (s:x8) (ks:List Int):∀n,(List.range n).foldl (dkG s ks) []=(onL (U8 s ks) n).map (rK s ks)
 | 0=>rfl
 | n+1=>by
  rw[List.range_succ,List.foldl_append,FD s ks n,wK,List.map_append]
  show dkG s ks _ n=_
  unfold dkG
  cases U8 s ks n
  ·simp
  ·simp
theorem VV {s:x8} {ks:List Int} {i:Nat} (h:i<nR s):Ju s ks i=Gf ks i:=by
 rw[Bool.eq_iff_iff]
 unfold Ju Gf inN
 simp only[List.any_eq_true,Bool.and_eq_true,decide_eq_true_eq]
 constructor
 ·rintro⟨r,hr,⟨h0,h1⟩,h2⟩
  exact⟨r,hr,U9.2 (by omega)⟩
 ·rintro⟨r,hr,h2⟩
  have:=U9.1 h2
  exact⟨r,hr,⟨by omega,by omega⟩,by omega⟩
theorem VS {α:Type} {l:List α} {i:Int} {x:α} (h:lat l i=some x):0≤i∧i<o7 l:=by
 unfold lat at h
 by_cases e:0≤i
 ·rw[if_pos e]at h
  have:=(J4.1 h).1
  exact⟨e,by unfold o7;omega⟩
 ·rw[if_neg e]at h;cases h
theorem a6v {s:x8} (h:RedOk s) {i:Nat} {r:H9} (hr:s.2.2.2.2[i]? =some r):gq s r.2.1=some [rC (Bo s r.2.1)]:=by
 obtain⟨d,h1,h2,h3⟩:=h.df i r hr
 obtain⟨hge,hlt⟩:=VS h1
 show gq s (MI r)=some [rC (Bo s (MI r))]
 generalize MI r=q at*
 unfold gq Bo rC zF
 rw[aJ hge,o5,aU hlt,o5,o9,X9,h1]
 simp only[o9]
 have hc:Ah d=1∨Ah d=2∨Ah d=3∨Ah d=4∨Ah d=5∨Ah d=6:=by omega
 unfold Ah at hc
 rcases hc with e | e | e | e | e | e <;> rw[e] <;> rfl
theorem a0w {s:x8} (h:RedOk s) {i:Nat} {r:H9} (hr:s.2.2.2.2[i]? =some r):∃d,lat s.2.2.2.1 r.2.1=some d∧mM d.2=some (rC (Bo s r.2.1)):=by
 obtain⟨d,h1,h2,h3⟩:=h.df i r hr
 refine⟨d,h1,?_⟩
 show _=some (rC (Bo s (MI r)))
 unfold mM zn rC Bo
 rw[h1,o9]
 simp only
 cases ieq d.2.1 6 <;> rfl
theorem Zp {s:x8} (h:RedOk s) {i:Nat} (hi:i<nR s):(0≤Y8 s i∧upI s i=Y8 s i∧∃p:Nat,Y8 s i=(p:Int)∧p<i)∨(Y8 s i<0∧upI s i=-1):=by
 have hp:=h.par i hi
 unfold upI upP
 by_cases h0:0≤Y8 s i
 ·rw[if_pos ⟨h0,hp⟩]
  exact .inl ⟨h0,by show(((Y8 s i).toNat:Nat):Int)=_;omega,(Y8 s i).toNat,by omega,by omega⟩
 ·rw[if_neg (by omega)]
  exact .inr ⟨by omega,rfl⟩
theorem JL {s:x8} {ks:List Int} (hn:nR s≤1000) (hk:ks.length≤1000) (h:RedOk s):kY s ks=some (yf s ks):=by
 unfold kY
 rw[Ae hn hk,o9,yC hn,o9]
 have hll:(List.range (nR s)).length=nR s:=List.length_range
 refine ae (List.range (nR s)) (dkG s ks) (fun b i=>(b,i)) (fun b=>b) (fun i b=>b.length≤i) [] (by omega) (Nat.le_refl _) (fun i x b hx hi hb=>?_) (fun b hb=>?_) (fun hb=>?_)
 ·have hlt:i<nR s:=by have:=(J4.1 hx).1;omega
  have ea:x=i:=by rw[List.getElem?_range hlt]at hx;exact(Option.some.inj hx).symm
  subst ea
  have hr:s.2.2.2.2[x]? =some s.2.2.2.2[x]:=ay hlt
  have hl2:ilt (x:Int) (o7 s.2.2.2.2)=true:=aC (by show _<((nR s:Nat):Int);omega)
  refine⟨?_,?_⟩
  rotate_left
  ·unfold dkG
   split
   ·rw[List.length_append];show _+1≤_;omega
   ·omega
  simp only[hl2,o6,D9,hr,o9,tq hlt,gX hlt]
  unfold dkG
  cases hf:U8 s ks x
  ·rw[P7,o6,if_neg (by simp),U4 (by omega)]
  ·rw[E5,o5,if_pos rfl,DZ hlt,o9]
   have hrk:rK s ks x=if Gf ks x=true then((s.2.2.2.2[x]).1,(s.2.2.2.2[x]).2.1,rP s ks (Y8 s x),(s.2.2.2.2[x]).2.2.2)else((s.2.2.2.2[x]).1,(s.2.2.2.2[x]).2.1,rP s ks (Y8 s x),(s.2.2.2.2[x]).2.2.2.1,(s.2.2.2.2[x]).2.2.2.2.1,[(1,0)],[rC (Bo s (s.2.2.2.2[x]).2.1)],(s.2.2.2.2[x]).2.2.2.2.2.2.2):=by unfold rK;rw[hr]
   rw[VV hlt,a6v h hr,hrk]
   have hpe:Y8 s x=(s.2.2.2.2[x]).2.2.1:=by unfold Y8;rw[hr]
   generalize hrr:s.2.2.2.2[x]=r at*
   have hpp:rP s ks (Y8 s x)=if 0≤Y8 s x then GK s ks (Y8 s x)else Y8 s x:=rfl
   rcases Zp h hlt with⟨h0,h1,p,h2,h3⟩ | ⟨h0,h1⟩
   ·rw[h1,aF h0,o6]
    have hnew:GK s ks (Y8 s x)=KP (U8 s ks) p:=by
     unfold GK
     rw[if_pos ⟨h0,by omega⟩,h2,Int.toNat_natCast]
    rw[if_pos h0,hnew]at hpp
    have hpn:p<nR s:=by omega
    rw[hpp,h2]
    simp only[D9,tq hpn,gX hpn,o9]
    cases Gf ks x
    ·rw[P7,o6,if_neg (by simp)]
     rw[jg _ (by omega),o9,U4 (by omega)]
    ·rw[E5,o5,if_pos rfl,jg _ (by omega),o9,U4 (by omega)]
   ·rw[h1,aU (by omega),o5]
    rw[if_neg (by omega)]at hpp
    rw[hpp,hpe]
    cases Gf ks x
    ·rw[P7,o6,if_neg (by simp)]
     simp only[o9]
     rw[jg _ (by omega),o9,U4 (by omega)]
    ·rw[E5,o5,if_pos rfl,jg _ (by omega),o9,U4 (by omega)]
 ·rw[hll]
  have hl2:ilt (nR s:Int) (o7 s.2.2.2.2)=false:=aJ (by show((nR s:Nat):Int)≤_;omega)
  simp only[hl2,o5]
 ·rw[FD];rfl
theorem Hz {s:x8} {ks:List Int} (hn:nR s≤1000) (hk:ks.length≤1000) (h:RedOk s):lm s ks=some (s.1,s.2.1,s.2.2.1,s.2.2.2.1,yf s ks):=by
 unfold lm
 rw[NY hn hk,o9]
 have hll:(List.range (nR s)).length=nR s:=List.length_range
 refine ae (List.range (nR s)) (dkG s ks) (fun b i=>((s.1,s.2.1,s.2.2.1,s.2.2.2.1,b),i)) (fun b=>(s.1,s.2.1,s.2.2.1,s.2.2.2.1,b)) (fun i b=>b.length≤i) [] (by omega) (Nat.le_refl _) (fun i x b hx hi hb=>?_) (fun b hb=>?_) (fun hb=>?_)
 ·have hlt:i<nR s:=by have:=(J4.1 hx).1;omega
  have ea:x=i:=by rw[List.getElem?_range hlt]at hx;exact(Option.some.inj hx).symm
  subst ea
  have hr:s.2.2.2.2[x]? =some s.2.2.2.2[x]:=ay hlt
  have hl2:ilt (x:Int) (o7 s.2.2.2.2)=true:=aC (by show _<((nR s:Nat):Int);omega)
  refine⟨?_,?_⟩
  rotate_left
  ·unfold dkG
   split
   ·rw[List.length_append];show _+1≤_;omega
   ·omega
  simp only[hl2,o6,D9,hr,o9,tq hlt,gX hlt]
  unfold dkG
  cases hf:U8 s ks x
  ·rw[P7,o6,if_neg (by simp),U4 (by omega)]
  ·rw[E5,o5,if_pos rfl]
   have hrk:rK s ks x=if Gf ks x=true then((s.2.2.2.2[x]).1,(s.2.2.2.2[x]).2.1,rP s ks (Y8 s x),(s.2.2.2.2[x]).2.2.2)else((s.2.2.2.2[x]).1,(s.2.2.2.2[x]).2.1,rP s ks (Y8 s x),(s.2.2.2.2[x]).2.2.2.1,(s.2.2.2.2[x]).2.2.2.2.1,[(1,0)],[rC (Bo s (s.2.2.2.2[x]).2.1)],(s.2.2.2.2[x]).2.2.2.2.2.2.2):=by unfold rK;rw[hr]
   obtain⟨d,hd1,hd2⟩:=a0w h hr
   rw[hrk]
   have hpe:Y8 s x=(s.2.2.2.2[x]).2.2.1:=by unfold Y8;rw[hr]
   generalize hrr:s.2.2.2.2[x]=r at*
   have hq:l9 (l7 (ile 0 r.2.2.1) (l9 (aV s ks r.2.2.1) fun(x_3:Int)=>some (r.1,r.2.1,x_3,r.2.2.2)) (some r)) (fun x=>some x)=some ((r.1,r.2.1,rP s ks (Y8 s x),r.2.2.2):H9):=by
    rw[←hpe]
    unfold rP
    by_cases h0:0≤Y8 s x
    ·rw[aF h0,o6,AQ hn hk,o9,o9,if_pos h0]
    ·rw[aU (by omega),o5,o9,if_neg h0,hpe]
   have hq2:l7 (ile 0 r.2.2.1) (l9 (aV s ks r.2.2.1) fun(x_3:Int)=>some (r.1,r.2.1,x_3,r.2.2.2)) (some r)=some ((r.1,r.2.1,rP s ks (Y8 s x),r.2.2.2):H9):=by
    revert hq
    cases l7 (ile 0 r.2.2.1) (l9 (aV s ks r.2.2.1) fun(x_3:Int)=>some (r.1,r.2.1,x_3,r.2.2.2)) (some r)with
    | none=>intro h;cases h
    | some z=>intro h;exact h
   refine Z7 hq2 ?_
   rw[o9]
   rw[VN hk,o9]
   show l7 (C9 (Gf ks x)) _ _=_
   cases Gf ks x
   ·rw[P7,o6,if_neg (by simp)]
    simp only
    rw[hd1,o9,hd2,o9,jg _ (by omega),o9,U4 (by omega)]
   ·rw[E5,o5,if_pos rfl,jg _ (by omega),o9,U4 (by omega)]
 ·rw[hll]
  have hl2:ilt (nR s:Int) (o7 s.2.2.2.2)=false:=aJ (by show((nR s:Nat):Int)≤_;omega)
  simp only[hl2,o5]
 ·rw[FD];rfl
def sK (ks:List Int) (s:x8):x8:=(s.1,s.2.1,s.2.2.1,s.2.2.2.1,yf s ks)
def jv (l:G5) (k:Int) (own mem:List Int):G5:=
 if 0≤k∧k<o7 l.2.2 then(match l.2.2[k.toNat]? with
  | some s=>(l.1,l.2.1,if 0≤uw s∧uw s<o7 l.2.2 then(match l.2.2[(uw s).toNat]? with | some t=>(l.2.2.set k.toNat (sK own s)).set (uw s).toNat (sK mem t) | none=>l.2.2.set k.toNat (sK own s))else l.2.2.set k.toNat (sK own s))
  | none=>l)else l
structure KeepOk (l:G5):Prop where
 len:LenL l
 nr:∀s∈l.2.2,nR s≤1000
 red:∀s∈l.2.2,RedOk s
 mem:∀(i:Nat) (s:x8),l.2.2[i]? =some s→uw s<(i:Int)
theorem KH {l:G5} (h:KeepOk l) (k:Int) {own mem:List Int} (ho:own.length≤1000) (hm:mem.length≤1000):X0 l k own mem=some (jv l k own mem):=by
 unfold X0 jv
 rw[Ub h.len,o9]
 by_cases h1:k<0
 ·rw[aC h1,o6,o9,wZ,if_neg (by omega)]
 rw[aJ (by omega),o5]
 by_cases h2:o7 l.2.2≤k
 ·rw[aF h2,o6,o9,wZ,if_neg (by omega)]
 rw[aU (by omega),o5,o9,X9,if_pos (by omega)]
 obtain⟨a,rfl⟩:∃a:Nat,k=(a:Int):=⟨k.toNat,by omega⟩
 have ha:a<l.2.2.length:=by unfold o7 at h2;omega
 have hs:l.2.2[a]? =some l.2.2[a]:=ay ha
 have hmem:l.2.2[a]∈l.2.2:=List.getElem_mem ha
 have hlt:=h.mem a _ hs
 have hn:=h.nr _ hmem
 have hrd:=h.red _ hmem
 rw[Int.toNat_natCast,D9,hs]
 generalize l.2.2[a]=s at*
 have hg:∀{α:Type} (L:List α) (i:Nat),H6 L (toN (i:Int))=L[i]?:=fun L i=>by show L[((i:Int)).toNat]? =_;rw[Int.toNat_natCast]
 have hst:∀{α:Type} (L:List α) (i:Nat) (x:α),I9 L (toN (i:Int)) x=L.set i x:=fun L i x=>by show L.set ((i:Int)).toNat x=_;rw[Int.toNat_natCast]
 simp only[o9,hg,hs,JL hn ho hrd,hst,D9]
 have hset:(l.2.2.set a (s.1,s.2.1,s.2.2.1,s.2.2.2.1,yf s own))[a]? =some (sK own s):=by rw[List.getElem?_set_self ha];rfl
 rw[hset,o9,o9]
 show l7 (ile 0 (uw s)) _ _=_
 by_cases h3:0≤uw s
 ·rw[aF h3,o6]
  have h4:uw s<o7 (l.2.2.set a (s.1,s.2.1,s.2.2.1,s.2.2.2.1,yf s own)):=by unfold o7;rw[List.length_set];omega
  have h5:uw s<o7 l.2.2:=by unfold o7;omega
  rw[show ilt (sK own s).2.1 (o7 (l.2.2.set a (s.1,s.2.1,s.2.2.1,s.2.2.2.1,yf s own)))=true from aC h4,o6,if_pos ⟨h3,h5⟩]
  rw[show ieq (sK own s).2.1 (a:Int)=false from fF (show uw s≠(a:Int) by omega),P7,o6]
  obtain⟨b,hb⟩:∃b:Nat,uw s=(b:Int):=⟨(uw s).toNat,by omega⟩
  have hbn:b<l.2.2.length:=by omega
  have ht:l.2.2[b]? =some l.2.2[b]:=ay hbn
  have htm:l.2.2[b]∈l.2.2:=List.getElem_mem hbn
  have htn:=h.nr _ htm
  have htr:=h.red _ htm
  have hset2:(l.2.2.set a (s.1,s.2.1,s.2.2.1,s.2.2.2.1,yf s own))[b]? =some l.2.2[b]:=by rw[List.getElem?_set_ne (by omega)];exact ht
  rw[show(sK own s).2.1=(b:Int)from hb]
  simp only[D9,hset2,o9,hg,JL htn hm htr,hst]
  rw[hb,Int.toNat_natCast,ht]
  rfl
 ·rw[aU (by omega),o5,if_neg (by omega)]
  rfl
theorem Xu {l:G5} (h:KeepOk l) (k:Int) {own mem:List Int} (ho:own.length≤1000) (hm:mem.length≤1000):jM l k own mem=some (jv l k own mem):=by
 unfold jM jv
 by_cases h1:k<0
 ·rw[aC h1,o6,o9,wZ,if_neg (by omega)]
 rw[aJ (by omega),o5]
 by_cases h2:o7 l.2.2≤k
 ·rw[aF h2,o6,o9,wZ,if_neg (by omega)]
 rw[aU (by omega),o5,o9,X9,if_pos (by omega)]
 obtain⟨a,rfl⟩:∃a:Nat,k=(a:Int):=⟨k.toNat,by omega⟩
 have ha:a<l.2.2.length:=by unfold o7 at h2;omega
 have hs:l.2.2[a]? =some l.2.2[a]:=ay ha
 have hmem:l.2.2[a]∈l.2.2:=List.getElem_mem ha
 have hlt:=h.mem a _ hs
 have hn:=h.nr _ hmem
 have hrd:=h.red _ hmem
 have hll:=h.len.s.1
 rw[Ai (by simp;omega),List.nil_append,o9]
 rw[Int.toNat_natCast,D9,hs]
 generalize l.2.2[a]=s at*
 have hg:∀{α:Type} (L:List α) (i:Nat),H6 L (toN (i:Int))=L[i]?:=fun L i=>by show L[((i:Int)).toNat]? =_;rw[Int.toNat_natCast]
 have hst:∀{α:Type} (L:List α) (i:Nat) (x:α),I9 L (toN (i:Int)) x=L.set i x:=fun L i x=>by show L.set ((i:Int)).toNat x=_;rw[Int.toNat_natCast]
 simp only[o9,hg,hs,Hz hn ho hrd,hst,D9]
 show l7 (ile 0 (uw s)) _ _=_
 by_cases h3:0≤uw s
 ·have h5:uw s<o7 l.2.2:=by unfold o7;omega
  rw[aF h3,o6,show ilt s.2.1 (o7 l.2.2)=true from aC h5,o6,if_pos ⟨h3,h5⟩]
  obtain⟨b,hb⟩:∃b:Nat,uw s=(b:Int):=⟨(uw s).toNat,by omega⟩
  have hbn:b<l.2.2.length:=by omega
  have ht:l.2.2[b]? =some l.2.2[b]:=ay hbn
  have htm:l.2.2[b]∈l.2.2:=List.getElem_mem hbn
  have htn:=h.nr _ htm
  have htr:=h.red _ htm
  have hset2:(l.2.2.set a (sK own s))[b]? =some l.2.2[b]:=by rw[List.getElem?_set_ne (by omega)];exact ht
  rw[show((s.1,s.2.1,s.2.2.1,s.2.2.2.1,yf s own):x8)=sK own s from rfl]
  rw[show s.2.1=(b:Int)from hb,hb]
  simp only[D9,ht,o9,hg,Hz htn hm htr,hst,hset2,Int.toNat_natCast]
  rfl
 ·rw[aU (by omega),o5,if_neg (by omega)]
  rfl
theorem Ku:V9=some true:=by decide+kernel
theorem OG {t:Int×Int} {en:List X4} (h:vty t en=true):1≤t.1∧t.1≤6:=by
 unfold vty at h
 cases h1:ieq t.1 6 <;> rw[h1]at h
 ·rw[o5]at h
  cases h2:ile 1 t.1 <;> rw[h2]at h
  ·cases h
  rw[o6]at h
  cases h3:ile t.1 5 <;> rw[h3]at h
  ·cases h
  have:=jG.1 h2
  have:=jG.1 h3
  omega
 ·have:=U9.1 h1
  omega
theorem TV {s:x8} {k:Nat} {r:H9} (hr:s.2.2.2.2[k]? =some r) (h:vP s k r=false):Y8 s k<(k:Int):=by
 have e:Y8 s k=r.2.2.1:=by unfold Y8;rw[hr]
 unfold vP at h
 rw[←e]at h
 cases h1:ieq (Y8 s k) (-1) <;> rw[h1]at h
 ·rw[o5]at h
  cases h2:ilt (Y8 s k) 0 <;> rw[h2]at h
  ·rw[o5]at h
   cases h3:ile (k:Int) (Y8 s k) <;> rw[h3]at h
   ·exact yU.1 h3
   ·cases h
  ·cases h
 ·have:=U9.1 h1
  omega
theorem Ux {l:G5} {i:Nat} {m:Int} (h:nH l i m=false):m<(i:Int):=by
 unfold nH at h
 cases h1:ieq m (-1) <;> rw[h1]at h
 ·rw[o5]at h
  cases h2:ilt m 0 <;> rw[h2]at h
  ·rw[o5]at h
   cases h3:ile (i:Int) m <;> rw[h3]at h
   ·exact yU.1 h3
   ·cases h
  ·cases h
 ·have:=U9.1 h1
  omega
theorem JK {l:G5} (h:(J9 l).1=0) {i:Nat} {s:x8} (hs:l.2.2[i]? =some s):RedOk s:=by
 refine⟨fun k hk=>?_,fun k r hr=>?_⟩
 ·have hr:s.2.2.2.2[k]? =some s.2.2.2.2[k]:=ay hk
  exact TV hr (PV (zD h hs hr)).pa
 ·obtain⟨d,hd,_⟩:=(PV (zD h hs hr)).df
  refine⟨d,hd,?_⟩
  obtain⟨h0,_⟩:=VS (i:=MI r) hd
  have hj:s.2.2.2.1[(MI r).toNat]? =some d:=by
   have h1:lat s.2.2.2.1 (MI r)=some d:=hd
   unfold lat at h1;rw[if_pos h0]at h1;exact h1
  exact OG (Eo h hs hj)
theorem Px {l:G5} (h:(J9 l).1=0) (hL:SmL l) (hT:∀t∈l.2.1,JY t):LenL l:=by
 refine⟨⟨by have:=hL.few.1;omega,fun e he=>by have:=QH h e he;omega⟩,⟨by have:=hL.few.2.1;omega,fun t ht=>by have:=(hT t ht).1;omega⟩,by have:=hL.few.2.2;omega,fun s hs=>?_⟩
 have hm:=hL.sc s hs
 have h1:=hm.ni
 have h2:=hm.nd
 have h3:=hm.nr
 exact⟨by omega,by omega,by omega,fun r hr=>by have:=hm.ro r hr;exact⟨by omega,by omega⟩⟩
theorem Ad {l:G5} (h:(J9 l).1=0) (hL:SmL l) (hT:∀t∈l.2.1,JY t):KeepOk l:=by
 refine⟨Px h hL hT,fun s hs=>?_,fun s hs=>?_,fun i s hs=>Ux (sV h hs).1⟩
 ·have:=(hL.sc s hs).nr
  unfold nR;omega
 ·obtain⟨i,hi,rfl⟩:=List.getElem_of_mem hs
  exact JK h (ay hi)
theorem a6G {s:x8} (hm:SmS s) (ks:List Int) (i:Nat):(rK s ks i).2.2.2.2.2.1.length≤1000000∧(rK s ks i).2.2.2.2.2.2.1.length≤1000000:=by
 unfold rK
 cases hr:s.2.2.2.2[i]? with
 | none=>exact⟨by simp,by simp⟩
 | some r=>
  have:=hm.ro r (iG hr)
  simp only
  split
  ·exact⟨by show r.2.2.2.2.2.1.length≤_;omega,by show r.2.2.2.2.2.2.1.length≤_;omega⟩
  ·exact⟨by simp,by simp⟩
theorem a7g {s:x8} (hm:SmS s) (ks:List Int):(sK ks s).2.2.1.length≤1000000∧(sK ks s).2.2.2.1.length≤1000000∧(sK ks s).2.2.2.2.length≤1000000∧∀r∈(sK ks s).2.2.2.2,r.2.2.2.2.2.1.length≤1000000∧r.2.2.2.2.2.2.1.length≤1000000:=by
 have h1:=hm.ni
 have h2:=hm.nd
 have h3:=hm.nr
 have h4:=Hm s ks
 refine⟨by show s.2.2.1.length≤_;omega,by show s.2.2.2.1.length≤_;omega,by show(yf s ks).length≤_;unfold nR at h4;omega,fun r hr=>?_⟩
 obtain⟨i,_,rfl⟩:=List.mem_map.1 (show r∈(onL (U8 s ks) (nR s)).map (rK s ks)from hr)
 exact a6G hm ks i
theorem Uu {l:G5} {k:Int} {own mem:List Int} {t:x8} (h:t∈(jv l k own mem).2.2):t∈l.2.2∨∃s∈l.2.2,∃ks,t=sK ks s:=by
 unfold jv at h
 split at h
 ·split at h
  ·rename_i s hs
   have hsm:=iG hs
   simp only at h
   split at h
   ·split at h
    ·rename_i u hu
     rcases List.mem_or_eq_of_mem_set h with h | rfl
     ·rcases List.mem_or_eq_of_mem_set h with h | rfl
      ·exact .inl h
      ·exact .inr ⟨s,hsm,own,rfl⟩
     ·exact .inr ⟨u,iG hu,mem,rfl⟩
    ·rcases List.mem_or_eq_of_mem_set h with h | rfl
     ·exact .inl h
     ·exact .inr ⟨s,hsm,own,rfl⟩
   ·rcases List.mem_or_eq_of_mem_set h with h | rfl
    ·exact .inl h
    ·exact .inr ⟨s,hsm,own,rfl⟩
  ·exact .inl h
 ·exact .inl h
theorem Jr (l:G5) (k:Int) (own mem:List Int):(jv l k own mem).1=l.1∧(jv l k own mem).2.1=l.2.1∧(jv l k own mem).2.2.length=l.2.2.length:=by
 unfold jv
 split
 ·split
  ·refine⟨rfl,rfl,?_⟩
   simp only
   split
   ·split <;> simp
   ·simp
  ·exact⟨rfl,rfl,rfl⟩
 ·exact⟨rfl,rfl,rfl⟩
theorem Ut {l:G5} (h:KeepOk l) (hL:SmL l) (k:Int) (own mem:List Int):LenL (jv l k own mem):=by
 obtain⟨e1,e2,e3⟩:=Jr l k own mem
 refine⟨by rw[e1];exact h.len.e,by rw[e2];exact h.len.t,by rw[e3];exact h.len.s.1,fun t ht=>?_⟩
 rcases Uu ht with h1 | ⟨s,hs,ks,rfl⟩
 ·exact h.len.s.2 t h1
 ·exact a7g (hL.sc s hs) ks
theorem Ep (l:G5):P6 (ieq (J9 l).1 0) (P6 (ieq (J9 l).2.1 0) (P6 (ieq (J9 l).2.2.1 0) (ieq (J9 l).2.2.2 0)))=true→(J9 l).1=0:=by
 intro h
 unfold P6 at h
 rw[Bool.and_eq_true]at h
 exact U9.1 h.1
theorem GZ (s:x8) (ks:List Int) (k:Int):lS s ks k=some true:=by
 unfold lS
 rw[Ku]
 cases h1:ilt 100 (o7 s.2.2.2.2)
 case true=>rfl
 cases h2:ilt 100 (o7 ks)
 case true=>rfl
 have h1:=U7 (n:=100) h1
 have h2:=U7 (n:=100) h2
 rw[o5,o5,Ny (by unfold nR;omega) (by omega),o9,AQ (by unfold nR;omega) (by omega),o9,dE rfl]
 rfl
theorem Ha {l:G5} (hW:WfL l) (k:Int) (own mem:List Int):lT l k own mem=some true:=by
 unfold lT
 rw[Em,o9,Ku]
 cases hl:smL l
 ·rfl
 cases h1:ilt 100 (o7 own)
 case true=>rfl
 cases h2:ilt 100 (o7 mem)
 case true=>rfl
 have h1:=U7 (n:=100) h1
 have h2:=U7 (n:=100) h2
 obtain⟨hL,hT⟩:=Yo hl hW
 rw[E5,o5,o5,o5,xm hL,o9]
 cases hz:P6 (ieq (J9 l).1 0) (P6 (ieq (J9 l).2.1 0) (P6 (ieq (J9 l).2.2.1 0) (ieq (J9 l).2.2.2 0)))
 ·rfl
 have hv:=Ep l hz
 have hK:=Ad hv hL hT
 rw[E5,o5,KH hK k (by omega) (by omega),o9,Xu hK k (by omega) (by omega),o9,yK (Ut hK hL k own mem),o9]
 rfl
theorem OC {l:G5} (h:(J9 l).1=0):∀e∈l.1,e.2.length≠0:=by
 intro e he
 unfold J9 at h
 cases h1:ieq (iw l).1 0 <;> rw[h1]at h
 ·simp only[o5]at h;rw[dE h]at h1;cases h1
 have h1:=U9.1 h1
 unfold iw at h1
 cases h2:ilt 8 (o7 l.1) <;> rw[h2]at h1
 case true=>exact absurd (show(4:Int)=0 from h1) (by decide)
 simp only[o5]at h1
 obtain⟨i,hi,e1⟩:=List.getElem_of_mem he
 have hn:=FW (n:=l.1.length) (p:=rQ l) (fun r hf=>by
  rw[hf]at h1
  obtain⟨j,_,hj⟩:=aO hf
  unfold rQ at hj
  split at hj
  ·exact BR hj h1
  ·cases hj) i hi
 unfold rQ at hn
 rw[ay hi,e1]at hn
 have hz:=Jh hn
 unfold FM at hz
 cases g1:pW e.1 <;> rw[g1]at hz
 ·exact absurd (show(2:Int)=0 from hz) (by decide)
 cases g2:sU l 1 i e.1 <;> rw[g2]at hz
 case true=>exact absurd (show(7:Int)=0 from hz) (by decide)
 cases g3:ieq (o7 e.2) 0 <;> rw[g3]at hz
 case true=>exact absurd (show(5:Int)=0 from hz) (by decide)
 have:=ui.1 g3
 unfold o7 at this
 omega
theorem Ue {l:G5} (h:(J9 l).1=0):l.1.length≤8:=by
 unfold J9 at h
 cases h1:ieq (iw l).1 0 <;> rw[h1]at h
 ·simp only[o5]at h;rw[dE h]at h1;cases h1
 have h1:=U9.1 h1
 unfold iw at h1
 cases h2:ilt 8 (o7 l.1) <;> rw[h2]at h1
 case true=>exact absurd (show(4:Int)=0 from h1) (by decide)
 exact U7 (n:=8) h2
theorem Un {a b:Int} (h:I64 (a*b)):bJ .i64 a b=a*b:=BC h
theorem a0u {sg:D8} {t:Int×Int} (hv:vty t sg.1=true) (he:∀e∈sg.1,e.2.length≠0) (hn:sg.1.length≤8):kZ (rC t) [] sg=some (t,0):=by
 obtain⟨k,e⟩:=t
 unfold vty at hv
 unfold rC
 cases h6:ieq k 6
 ·simp only[h6]at hv ⊢
  simp only[o5]at hv ⊢
  cases h1:ile 1 k <;> rw[h1]at hv
  ·cases hv
  cases h5:ile k 5 <;> rw[h5]at hv
  ·cases hv
  have e0:e=0:=U9.1 hv
  subst e0
  have g1:=jG.1 h1
  have g2:=jG.1 h5
  have hc:k=1∨k=2∨k=3∨k=4∨k=5:=by omega
  rcases hc with rfl | rfl | rfl | rfl | rfl <;> rfl
 ·have ek:=U9.1 h6
  subst ek
  simp only[h6]at hv ⊢
  simp only[o6]at hv ⊢
  cases h1:ile 0 e <;> rw[h1]at hv
  ·cases hv
  have g1:=jG.1 h1
  have g2:e<o7 sg.1:=uj.1 hv
  have hl:e<(sg.1.length:Int):=g2
  rw[Un (by unfold I64;omega),rY (by unfold I64;omega),Int.add_zero]
  have hq:Z5 .i64 (16*e) 16=e:=by
   rw[Gm (by rw[Int.mul_tdiv_cancel_left _ (by decide)];unfold I64;omega),Int.mul_tdiv_cancel_left _ (by decide)]
  have hr:gz (16*e) 16=0:=by
   rw[MR (by omega)];omega
  have h0:ile 0 (16*e)=true:=aF (by omega)
  obtain⟨x,hx⟩:∃x,lat sg.1 e=some x:=⟨sg.1[e.toNat]'(by omega),by unfold lat;rw[if_pos g1];exact ay _⟩
  have hxm:x∈sg.1:=by
   unfold lat at hx;rw[if_pos g1]at hx;exact iG hx
  have hxl:=he x hxm
  have hrr:RR (6,16*e) [] sg=some ((6,e),0):=by
   have a1:fM (6,16*e) sg=some (ile 0 (16*e)):=rfl
   have a2:iL (6,16*e) sg=l7 (ilt (Z5 .i64 (16*e) 16) (o7 sg.1)) (l9 (lat sg.1 (Z5 .i64 (16*e) 16)) fun(x:X4)=>some (ilt (gz (16*e) 16) (o7 x.2))) (some false):=rfl
   have a3:aI (6,16*e) sg=l9 (U5 (6,Z5 .i64 (16*e) 16) sg.1) fun(b:Bool)=>some ((6,Z5 .i64 (16*e) 16),b):=rfl
   unfold RR
   rw[a1,h0,o9,E5,o5,a2,hq,aC g2,o6,hx,o9,hr,aC (show(0:Int)<o7 x.2 by unfold o7;omega),o9,E5,o5]
   rw[show ieq (o7 ([]:List (Int×Int))) 0=true from rfl,o6,a3,hq,aP,o9,o9]
   have hv2:vty (6,e) sg.1=true:=by
    unfold vty
    show l7 (ile 0 e) (ilt e (o7 sg.1)) false=true
    rw[h1,o6,aC g2]
   rw[hv2];rfl
  rw[a5G]
  cases ieq (16*e) 0
  ·rw[P7,o6,show X3 6=some true from rfl,o9,o6];exact hrr
  ·rw[E5,o5];exact hrr
theorem Ig {n:Int×Int} (h:1≤n.1∧n.1≤6):gU [n]= .inr (.l0 n):=by
 obtain⟨k,e⟩:=n
 obtain⟨h1,h2⟩:=h
 have h1:1≤k:=h1
 have h2:k≤6:=h2
 have hc:k=1∨k=2∨k=3∨k=4∨k=5∨k=6:=by omega
 rcases hc with rfl | rfl | rfl | rfl | rfl | rfl <;> rfl
theorem Jv {t:Int×Int} (h:1≤t.1∧t.1≤6):1≤(rC t).1∧(rC t).1≤6:=by
 unfold rC
 cases ieq t.1 6
 ·exact h
 ·exact⟨by show(1:Int)≤6;decide,by show(6:Int)≤6;decide⟩
theorem Zu {sg:D8} {t:Int×Int} (hv:vty t sg.1=true) (he:∀e∈sg.1,e.2.length≠0) (hn:sg.1.length≤8):xq [rC t] sg t=0:=by
 have h:gV [rC t] sg=(t,0,0):=by
  unfold gV
  rw[Ig (Jv (OG hv))]
  have hres:Ll (rC t) [] sg=(t,0):=by unfold Ll;rw[a0u hv he hn];rfl
  show(match vg sg (rC t) [] 0 with | .inl x=>((0,0),x) | .inr r=>(r,0,0))=_
  unfold vg
  rw[hres];rfl
 unfold xq
 rw[h]
 show l7 (ieq 0 0) (l7 (P6 (ieq t.1 t.1) (ieq t.2 t.2)) 0 8) 0=0
 rw[dE rfl,dE rfl,dE rfl];rfl
theorem QI {sg:D8} :xq [(1,0)] sg (1,0)=0:=by
 have h:gV [(1,0)] sg=((1,0),0,0):=by
  unfold gV
  rw[Ig ⟨by decide,by decide⟩]
  rfl
 unfold xq
 rw[h];rfl
theorem a0a {s:x8} {ks:List Int} {i p:Nat} (hi:U8 s ks i=true) (hp:upP s i=some p):U8 s ks p=true:=by
 unfold U8 at hi ⊢
 obtain⟨r,hr,h1⟩:=List.any_eq_true.1 hi
 rw[Bool.and_eq_true]at h1
 exact List.any_eq_true.2 ⟨r,hr,by rw[Bool.and_eq_true];exact⟨h1.1,mW.2 (Zq s _ i (mW.1 h1.2) p hp)⟩⟩
theorem JH {s:x8} {ks:List Int} {i:Nat} {r:H9} (hr:s.2.2.2.2[i]? =some r):(rK s ks i).1=r.1∧(rK s ks i).2.1=r.2.1∧(rK s ks i).2.2.1=rP s ks (Y8 s i)∧(rK s ks i).2.2.2.1=r.2.2.2.1∧(rK s ks i).2.2.2.2.1=r.2.2.2.2.1∧(rK s ks i).2.2.2.2.2.2.2=r.2.2.2.2.2.2.2:=by
 unfold rK
 rw[hr]
 simp only
 split <;> exact⟨rfl,rfl,rfl,rfl,rfl,rfl⟩
theorem Xk {s:x8} {ks:List Int} {i:Nat} {r:H9} (hr:s.2.2.2.2[i]? =some r):((rK s ks i).2.2.2.2.2.1=r.2.2.2.2.2.1∧(rK s ks i).2.2.2.2.2.2.1=r.2.2.2.2.2.2.1)∨((rK s ks i).2.2.2.2.2.1=[(1,0)]∧(rK s ks i).2.2.2.2.2.2.1=[rC (Bo s r.2.1)]):=by
 unfold rK
 rw[hr]
 simp only
 split
 ·exact .inl ⟨rfl,rfl⟩
 ·exact .inr ⟨rfl,rfl⟩
theorem SK {s:x8} {ks:List Int} {i:Nat} (hi:i<nR s) (hk:U8 s ks i=true):(yf s ks)[bG (U8 s ks) i]? =some (rK s ks i):=by
 unfold yf
 rw[List.getElem?_map,RU _ hi hk];rfl
theorem QX (s:x8) (ks:List Int) (d:Int):∀i,i≤nR s→BI ((onL (U8 s ks) i).map (rK s ks)) d≤BI (s.2.2.2.2.take i) d
 | 0,_=>by simp[onL,BI]
 | i+1,hi=>by
  have ih:=QX s ks d i (by omega)
  have hlt:i<s.2.2.2.2.length:=by show i<nR s;omega
  have hr:s.2.2.2.2[i]? =some s.2.2.2.2[i]:=ay hlt
  rw[wK,List.map_append,List.take_succ_eq_append_getElem hlt]
  unfold BI at ih ⊢
  rw[List.countP_append,List.countP_append]
  cases U8 s ks i
  ·simp only[cond_false,List.map_nil,List.countP_nil];omega
  ·simp only[cond_true,List.map_cons,List.map_nil]
   have e:List.countP (fun(o:H9)=>ieq o.2.1 d) [rK s ks i]=List.countP (fun(o:H9)=>ieq o.2.1 d) [s.2.2.2.2[i]]:=by
    simp only[List.countP_cons,List.countP_nil,(JH (ks:=ks) hr).2.1]
   rw[e];omega
theorem PW {s:x8} {sg:D8} {ks:List Int} (hV:∀(j:Nat) (r:H9),s.2.2.2.2[j]? =some r→RuleV s sg j r) (hd:∀d,d∈s.2.2.2.1→vty d.2 sg.1=true) (he:∀e∈sg.1,e.2.length≠0) (hn:sg.1.length≤8)
  {i:Nat} (hi:i<nR s) (hk:U8 s ks i=true):RuleV (sK ks s) sg (bG (U8 s ks) i) (rK s ks i):=by
 have hr:s.2.2.2.2[i]? =some s.2.2.2.2[i]:=ay hi
 have h:=hV i _ hr
 generalize hrr:s.2.2.2.2[i]=r at*
 obtain⟨e1,e2,e3,e4,e5,e6⟩:=JH (ks:=ks) hr
 have htake:(sK ks s).2.2.2.2.take (bG (U8 s ks) i)=(onL (U8 s ks) i).map (rK s ks):=by
  show((onL (U8 s ks) (nR s)).map (rK s ks)).take _=_
  rw[←List.map_take,WB _ (by omega)]
 obtain⟨d,d1,d2⟩:=h.df
 refine⟨by rw[e1];exact h.id,?_,⟨d,by rw[e2];exact d1,?_⟩,?_,by rw[e4];exact h.p0,by rw[e4];exact h.p9,by rw[e5];exact h.dv,by rw[e5];exact h.ne,?_,by rw[e6];exact h.sr⟩
 ·rw[htake,List.any_eq_false]
  intro x hx
  obtain⟨j,hj,rfl⟩:=List.mem_map.1 hx
  obtain⟨j1,_⟩:=GU _ hj
  have hjl:j<s.2.2.2.2.length:=by show j<nR s;omega
  have hrj:s.2.2.2.2[j]? =some s.2.2.2.2[j]:=ay hjl
  have:=List.any_eq_false.1 h.nm s.2.2.2.2[j] (List.mem_take_iff_getElem.2 ⟨j,by omega,rfl⟩)
  rw[(JH (ks:=ks) hrj).1,e1];exact this
 ·rcases Xk (ks:=ks) hr with⟨x1,x2⟩ | ⟨x1,x2⟩
  ·unfold BV at d2 ⊢
   rw[x1,x2];exact d2
  ·have ht:Bo s r.2.1=d.2:=by unfold Bo;rw[d1]
   unfold BV
   rw[x1,x2,ht,QI,Zu (hd d (by
    have:=d1
    unfold lat at this
    split at this
    ·exact iG this
    ·cases this)) he hn]
   rfl
 ·unfold vP
  rw[e3]
  have hpa:=h.pa
  unfold vP at hpa
  have hpe:Y8 s i=r.2.2.1:=by unfold Y8;rw[hr]
  rw[←hpe]at hpa
  unfold rP
  cases h1:ieq (Y8 s i) (-1) <;> rw[h1]at hpa
  ·rw[o5]at hpa
   cases h2:ilt (Y8 s i) 0 <;> rw[h2]at hpa
   case true=>cases hpa
   rw[o5]at hpa
   cases h3:ile (i:Int) (Y8 s i) <;> rw[h3]at hpa
   case true=>cases hpa
   rw[o5]at hpa
   have g2:=nz.1 h2
   have g3:=yU.1 h3
   obtain⟨p,hp⟩:∃p:Nat,Y8 s i=(p:Int):=⟨(Y8 s i).toNat,by omega⟩
   have hup:upP s i=some p:=by unfold upP;rw[if_pos ⟨g2,g3⟩,hp,Int.toNat_natCast]
   have hpk:=a0a hk hup
   have hpi:p<i:=Dt hup
   have hlt:=a6a hpi hpk
   rw[if_pos g2]
   have hnew:GK s ks (Y8 s i)=(bG (U8 s ks) p:Int):=by
    unfold GK
    rw[if_pos ⟨g2,by omega⟩,hp,Int.toNat_natCast]
    unfold KP
    rw[if_pos hpk]
   rw[hnew,fF (show((bG (U8 s ks) p:Nat):Int)≠-1 by omega),aJ (show(0:Int)≤(bG (U8 s ks) p:Nat) by omega),aU (show((bG (U8 s ks) p:Nat):Int)<((bG (U8 s ks) i:Nat):Int) by omega)]
   simp only[o5]
   rw[D9,show(sK ks s).2.2.2.2[bG (U8 s ks) p]? =some (rK s ks p)from SK (by omega) hpk]
   have hpl:p<s.2.2.2.2.length:=by show p<nR s;omega
   have hrp:s.2.2.2.2[p]? =some s.2.2.2.2[p]:=ay hpl
   simp only
   rw[(JH (ks:=ks) hrp).2.1,e2]
   rw[hp,D9,hrp]at hpa
   exact hpa
  ·have g1:=U9.1 h1
   rw[if_neg (by omega),g1];rfl
 ·rw[htake]
  have h1:=QX s ks r.2.1 i (by omega)
  have h2:=h.ct
  rw[yU]at h2 ⊢
  rw[e2]
  omega
abbrev THd:=List UInt8×Int×List Z9×List Z9
def hdS (s:x8):THd:=(s.1,s.2.1,s.2.2.1,s.2.2.2.1)
structure KL (l l' :G5):Prop where
 en:l'.1=l.1
 tb:l'.2.1=l.2.1
 ln:l'.2.2.length=l.2.2.length
 sc:∀(i:Nat) (s:x8),l.2.2[i]? =some s→∃t,l'.2.2[i]? =some t∧(t=s∨∃ks,t=sK ks s)
theorem KL.hd {l l' :G5} (h:KL l l'):l'.2.2.map hdS=l.2.2.map hdS:=by
 apply List.ext_getElem?
 intro i
 rw[List.getElem?_map,List.getElem?_map]
 cases hs:l.2.2[i]? with
 | none=>
  have h1:=List.getElem?_eq_none_iff.1 hs
  rw[List.getElem?_eq_none (by rw[h.ln];exact h1)]
 | some s=>
  obtain⟨t,ht,hts⟩:=h.sc i s hs
  rw[ht]
  rcases hts with rfl | ⟨ks,rfl⟩ <;> rfl
theorem Vs (L:List x8) (n:List UInt8):(L.any fun x=>seq x.1 n)=(L.map hdS).any fun x=>seq x.1 n:=by rw[List.any_map];rfl
theorem Ii {l l' :G5} (h:KL l l') (kind k:Nat) (n:List UInt8):sU l' kind k n=sU l kind k n:=by
 unfold sU
 rw[h.en,h.tb]
 split
 ·rfl
 ·rfl
 ·rw[Vs,Vs,List.map_take,List.map_take,h.hd]
theorem a6u {l l' :G5} (h:KL l l') (i:Int):(lat l'.2.2 i).map hdS=(lat l.2.2 i).map hdS:=by
 rw[←Na,←Na,h.hd]
theorem Uw {l l' :G5} (h:KL l l') (i:Nat) (m:Int):nH l' i m=nH l i m:=by
 have e:=a6u h m
 unfold nH
 cases h1:lat l.2.2 m with
 | none=>
  rw[h1]at e
  cases h2:lat l'.2.2 m with
  | none=>rfl
  | some q=>rw[h2]at e;cases e
 | some p=>
  rw[h1]at e
  cases h2:lat l'.2.2 m with
  | none=>rw[h2]at e;cases e
  | some q=>
   rw[h2]at e
   have e:hdS q=hdS p:=Option.some.inj e
   have e2:q.2.1=p.2.1:=congrArg (fun x:THd=>x.2.1) e
   simp only
   rw[e2]
theorem a7h {l l' :G5} (h:KL l l') {s t:x8} (hh:hdS t=hdS s):zx l' t=zx l s:=by
 have e1:t.2.1=s.2.1:=congrArg (fun x:THd=>x.2.1) hh
 have e2:t.2.2.1=s.2.2.1:=congrArg (fun x:THd=>x.2.2.1) hh
 have e3:t.2.2.2.1=s.2.2.2.1:=congrArg (fun x:THd=>x.2.2.2) hh
 unfold zx
 rw[e1,e2,e3,h.en,h.tb]
 by_cases hm:0≤s.2.1
 ·rw[if_pos hm,if_pos hm]
  have e:(l'.2.2[s.2.1.toNat]?).map hdS=(l.2.2[s.2.1.toNat]?).map hdS:=by rw[←List.getElem?_map,←List.getElem?_map,h.hd]
  cases h1:l.2.2[s.2.1.toNat]? with
  | none=>
   rw[h1]at e
   cases h2:l'.2.2[s.2.1.toNat]? with
   | none=>rfl
   | some q=>rw[h2]at e;cases e
  | some p=>
   rw[h1]at e
   cases h2:l'.2.2[s.2.1.toNat]? with
   | none=>rw[h2]at e;cases e
   | some q=>
    rw[h2]at e
    have e:hdS q=hdS p:=Option.some.inj e
    have e4:q.2.2.2.1=p.2.2.2.1:=congrArg (fun x:THd=>x.2.2.2) e
    simp only
    rw[e4]
 ·rw[if_neg hm,if_neg hm]
theorem Ug {l l' :G5} (h:KL l l') {s t:x8} (hh:hdS t=hdS s):iY l' t=iY l s:=by
 have e2:t.2.2.1=s.2.2.1:=congrArg (fun x:THd=>x.2.2.1) hh
 have e3:t.2.2.2.1=s.2.2.2.1:=congrArg (fun x:THd=>x.2.2.2) hh
 have a1:inP l' t=inP l s:=by funext i;unfold inP;rw[e2,h.en]
 have a2:KA l' t=KA l s:=by funext i;unfold KA;rw[e2,e3,h.en]
 unfold iY
 rw[a1,a2,e2,e3]
theorem NP {n:Int×Int} (h:1≤n.1∧n.1≤6):(pK [n]).2.1=[]:=by
 unfold pK CO
 have e:ieq n.1 8=false:=fF (by omega)
 simp only[List.filter_cons,e,List.filter_nil]
 rfl
theorem UU {s:x8} (hR:RedOk s) {ks:List Int} {i:Nat} {r:H9} (hr:s.2.2.2.2[i]? =some r) {n x:Int} (hx:x∈pG n (rK s ks i)):x∈pG n r:=by
 rcases Xk (ks:=ks) hr with⟨x1,x2⟩ | ⟨x1,x2⟩
 ·unfold pG at hx ⊢;rw[x1,x2]at hx;exact hx
 ·exfalso
  unfold pG at hx
  obtain⟨d,d1,d2,d3⟩:=hR.df i r hr
  have ht:Bo s r.2.1=d.2:=by unfold Bo;rw[show lat s.2.2.2.1 r.2.1=some d from d1]
  rw[x1,x2,NP (n:=(1,0)) ⟨by decide,by decide⟩,ht,NP (Jv ⟨d2,d3⟩)]at hx
  cases hx
theorem VE {s:x8} (hR:RedOk s) {ks:List Int} {d:Int} :∀x∈U1 (sK ks s) d,x∈U1 s d:=by
 intro x hx
 unfold U1 at hx ⊢
 have hn:nD (sK ks s)=nD s:=rfl
 rw[hn]at hx
 cases hq:inD (nD s) d <;> rw[hq]at hx
 ·simp at hx
 ·obtain⟨r,hr,h1,h2⟩:=PE.1 ((Am _ _).1 hx)
  obtain⟨i,hi,rfl⟩:=List.mem_map.1 (show r∈(onL (U8 s ks) (nR s)).map (rK s ks)from hr)
  obtain⟨i1,_⟩:=GU _ hi
  have hri:s.2.2.2.2[i]? =some s.2.2.2.2[i]:=ay i1
  rw[(JH (ks:=ks) hri).2.1]at h1
  exact(Am _ _).2 (PE.2 ⟨s.2.2.2.2[i],List.getElem_mem i1,h1,UU hR hri h2⟩)
theorem Vd {s:x8} (hR:RedOk s) {ks:List Int} {d:Int} :∀x∈nJ (sK ks s) d,x∈nJ s d:=by
 obtain⟨_,a2,a3,_⟩:=xY s d
 obtain⟨_,_,_,b4⟩:=xY (sK ks s) d
 exact fun x hx=>b4 (fun z=>z∈nJ s d) (fun y hy=>a2 y (VE hR y hy)) (fun y hy z hz=>a3 y hy z (VE hR z hz)) x hx
theorem Yk {l l' :G5} (h:(J9 l).1=0) (hk:KL l l') {i:Nat} {s t:x8} (hs:l.2.2[i]? =some s) (hts:t=s∨∃ks,t=sK ks s):(rE l' i t).1=0:=by
 have hz:=OD h hs
 have hp:=(sV h hs).2
 have hac:=QF h hs
 have hh:hdS t=hdS s:=by rcases hts with rfl | ⟨ks,rfl⟩ <;> rfl
 have e0:t.1=s.1:=congrArg (fun x:THd=>x.1) hh
 have e1:t.2.1=s.2.1:=congrArg (fun x:THd=>x.2.1) hh
 have e2:t.2.2.1=s.2.2.1:=congrArg (fun x:THd=>x.2.2.1) hh
 have e3:t.2.2.2.1=s.2.2.2.1:=congrArg (fun x:THd=>x.2.2.2) hh
 have hsg:=a7h hk hh
 have hff:=Ug hk hh
 unfold rE at hz ⊢
 rw[Ii hk,Uw hk,e0,e1,e2,e3]
 have hparts:(pq l s).1=0→(pq l' t).1=0:=by
  intro hp
  have hf:iY l s=none:=by
   unfold pq at hp
   cases h1:iY l s with
   | some q=>rw[h1]at hp;exact absurd hp (qE h1)
   | none=>rfl
  rcases hts with rfl | ⟨ks,rfl⟩
  ·have hr:qK l' t=qK l t:=by funext k;unfold qK;rw[hsg]
   unfold pq at hp ⊢
   rw[hff,hr];exact hp
  ·have hR:=JK h hs
   have hV:∀(j:Nat) (r:H9),s.2.2.2.2[j]? =some r→RuleV s (zx l s) j r:=fun j r hr=>PV (zD h hs hr)
   have hs1:=(a0K l s).1
   unfold pq
   rw[hff,hf]
   simp only
   have hr:I8 (sK ks s).2.2.2.2.length (qK l' (sK ks s))=none:=by
    unfold I8
    rw[List.findSome?_eq_none_iff]
    intro j hj
    have hj:j<((onL (U8 s ks) (nR s)).map (rK s ks)).length:=List.mem_range.1 hj
    rw[List.length_map]at hj
    have hk2:(onL (U8 s ks) (nR s))[j]? =some (onL (U8 s ks) (nR s))[j]:=ay hj
    obtain⟨k1,k2⟩:=GU _ (List.getElem_mem hj)
    have hcj:bG (U8 s ks) (onL (U8 s ks) (nR s))[j]=j:=UH (WA _ _) (RU _ k1 k2) hk2
    have hv:=PW (sg:=zx l s) (ks:=ks) hV (fun d hd=>by
     obtain⟨q,hq,rfl⟩:=List.getElem_of_mem hd
     rw[hs1];exact Eo h hs (ay hq)) (by rw[hs1];exact OC h) (by rw[hs1];exact Ue h) k1 k2
    rw[hcj]at hv
    have hrj:(sK ks s).2.2.2.2[j]? =some (rK s ks (onL (U8 s ks) (nR s))[j]):=by
     have:=SK (ks:=ks) k1 k2
     rw[hcj]at this;exact this
    unfold qK
    rw[hrj]
    simp only
    rw[hsg,hv.zero];rfl
   rw[hr]
   simp only
   have hc:I8 (sK ks s).2.2.2.1.length (IA (sK ks s))=none:=by
    unfold I8
    rw[List.findSome?_eq_none_iff]
    intro j hj
    have hj:j<s.2.2.2.1.length:=List.mem_range.1 hj
    unfold IA
    have e:((nJ (sK ks s) (j:Int)).any fun x=>ieq (j:Int) x)=false:=by
     rw[List.any_eq_false]
     intro x hx hq
     have hx2:=Vd hR x hx
     rw[←U9.1 hq]at hx2
     exact hac (j:Int) (by omega) (by unfold nD o7;omega) hx2
    rw[e];rfl
   rw[hc]
 cases g1:pW s.1 <;> rw[g1]at hz
 ·exact absurd (show(2:Int)=0 from hz) (by decide)
 cases g2:sU l 3 i s.1 <;> rw[g2]at hz
 case true=>exact absurd (show(7:Int)=0 from hz) (by decide)
 cases g3:nH l i s.2.1 <;> rw[g3]at hz
 case true=>exact absurd (show(6:Int)=0 from hz) (by decide)
 cases g4:ilt 12 (o7 s.2.2.1) <;> rw[g4]at hz
 case true=>exact absurd (show(4:Int)=0 from hz) (by decide)
 cases g5:ilt 12 (o7 s.2.2.2.1) <;> rw[g5]at hz
 case true=>exact absurd (show(4:Int)=0 from hz) (by decide)
 simp only[o6,o5]
 exact hparts hp
theorem Zt {l l' :G5} (h:(J9 l).1=0) (hk:KL l l'):(J9 l').1=0:=by
 have h0:=h
 unfold J9 at h0
 cases h1:ieq (iw l).1 0 <;> rw[h1]at h0
 ·simp only[o5]at h0;rw[dE h0]at h1;cases h1
 cases h2:ieq (lG l).1 0 <;> rw[h2]at h0
 ·simp only[o6,o5]at h0;rw[dE h0]at h2;cases h2
 simp only[o6]at h0
 have ee:iw l' =iw l:=by
  have:rQ l' =rQ l:=by
   funext i
   unfold rQ
   rw[hk.en]
   cases l.1[i]? with
   | none=>rfl
   | some e=>
    simp only
    unfold FM
    rw[Ii hk]
  unfold iw
  rw[this,hk.en]
 have et:lG l' =lG l:=by
  have:zA l' =zA l:=by
   funext i
   unfold zA
   rw[hk.tb]
   cases l.2.1[i]? with
   | none=>rfl
   | some t=>
    simp only
    unfold Qy
    rw[Ii hk,hk.en]
  unfold lG
  rw[this,hk.tb]
 have es:(uJ l').1=0:=by
  unfold uJ at h0 ⊢
  rw[show o7 l'.2.2=o7 l.2.2 by unfold o7;rw[hk.ln]]
  cases g:ilt 4 (o7 l.2.2) <;> rw[g]at h0
  case true=>exact absurd (show(4:Int)=0 from h0) (by decide)
  simp only[o5]
  have hn2:I8 l'.2.2.length (rD l')=none:=by
   unfold I8
   rw[List.findSome?_eq_none_iff]
   intro j hj
   have hj:j<l.2.2.length:=by rw[←hk.ln];exact List.mem_range.1 hj
   have e:=ay hj
   obtain⟨t,ht,hts⟩:=hk.sc j _ e
   unfold rD
   rw[ht]
   simp only
   unfold BQ
   rw[dE (Yk h hk e hts)];rfl
  rw[hn2]
 unfold J9
 rw[ee,h1]
 simp only[o6]
 rw[et,h2]
 exact es
theorem ZZ {l:G5} (k:Int) (own mem:List Int) (hm:∀(i:Nat) (s:x8),l.2.2[i]? =some s→uw s<(i:Int)):KL l (jv l k own mem):=by
 obtain⟨e1,e2,e3⟩:=Jr l k own mem
 refine⟨e1,e2,e3,fun i s hs=>?_⟩
 have hi:=(J4.1 hs).1
 unfold jv
 by_cases h:0≤k∧k<o7 l.2.2
 ·rw[if_pos h]
  obtain⟨a,rfl⟩:∃a:Nat,k=(a:Int):=⟨k.toNat,by omega⟩
  have ha:a<l.2.2.length:=by have:=h.2;unfold o7 at this;omega
  rw[Int.toNat_natCast]
  have hq:l.2.2[a]? =some l.2.2[a]:=ay ha
  rw[hq]
  simp only
  have one:∃t,(l.2.2.set a (sK own l.2.2[a]))[i]? =some t∧(t=s∨∃ks,t=sK ks s):=by
   by_cases e:a=i
   ·subst e
    rw[hs]at hq;cases hq
    exact⟨_,List.getElem?_set_self ha,.inr ⟨own,rfl⟩⟩
   ·exact⟨s,by rw[List.getElem?_set_ne e];exact hs,.inl rfl⟩
  split
  ·rename_i h2
   split
   ·rename_i u hu
    have hlt:=hm a _ hq
    by_cases e:(uw l.2.2[a]).toNat=i
    ·subst e
     rw[hs]at hu;cases hu
     exact⟨_,List.getElem?_set_self (by rw[List.length_set];exact hi),.inr ⟨mem,rfl⟩⟩
    ·rw[List.getElem?_set_ne e]
     exact one
   ·exact one
  ·exact one
 ·rw[if_neg h]
  exact⟨s,hs,.inl rfl⟩
theorem VR {l l' :G5} (hk:KL l l') {i:Nat} {s t:x8} (hs:l.2.2[i]? =some s) (ht:l'.2.2[i]? =some t):nR t≤nR s:=by
 obtain⟨u,hu,h⟩:=hk.sc i s hs
 rw[ht]at hu;cases hu
 rcases h with rfl | ⟨ks,rfl⟩
 ·exact Nat.le_refl _
 ·exact Hm s ks
theorem a1a (n:Int):I64 (IntKind.wrap .i64 n):=by
 unfold I64 IntKind.wrap
 simp[IntKind.signed,IntKind.bits]
 omega
theorem VX (t:Int×Int):I64 (rC t).2:=by
 unfold rC
 cases ieq t.1 6
 ·show I64 0;unfold I64;omega
 ·exact a1a _
theorem b5n {s:x8} (hm:SmS s) (ks:List Int):SmS (sK ks s):=by
 refine⟨hm.nm,hm.ni,hm.nd,by have:=Hm s ks;have:=hm.nr;show(yf s ks).length≤60;unfold nR at*;omega,hm.fo,fun r hr=>?_⟩
 obtain⟨i,hi,rfl⟩:=List.mem_map.1 (show r∈(onL (U8 s ks) (nR s)).map (rK s ks)from hr)
 obtain⟨i1,_⟩:=GU _ hi
 have hri:s.2.2.2.2[i]? =some s.2.2.2.2[i]:=ay i1
 obtain⟨⟨a1,a2,a3,a4⟩,a5,a6⟩:=hm.ro _ (iG hri)
 obtain⟨e1,e2,e3,e4,e5,e6⟩:=JH (ks:=ks) hri
 rcases Xk (ks:=ks) hri with⟨x1,x2⟩ | ⟨x1,x2⟩
 ·unfold JZ
  rw[e1,e6,x1,x2]
  exact⟨⟨a1,a2,a3,a4⟩,a5,a6⟩
 ·unfold JZ
  rw[e1,e6,x1,x2]
  refine⟨⟨a1,a2,fun n hn=>?_,fun n hn=>?_⟩,by simp,by simp⟩
  ·rw[List.mem_singleton.1 hn];show I64 0;unfold I64;omega
  ·rw[List.mem_singleton.1 hn];exact VX _
theorem b1d {l l' :G5} (hk:KL l l') (hL:SmL l):SmL l' :=by
 refine⟨?_,?_,?_,fun t ht=>?_⟩
 ·have:=hL.few
  unfold Few at*
  rw[hk.en,hk.tb,hk.ln];exact this
 ·have:=hL.en
  unfold JW at*
  rw[hk.en];exact this
 ·have:=hL.tb
  unfold EU at*
  rw[hk.tb];exact this
 ·obtain⟨i,hi,rfl⟩:=List.getElem_of_mem ht
  have hi2:i<l.2.2.length:=by rw[←hk.ln];exact hi
  have hs:=ay hi2
  obtain⟨u,hu,h⟩:=hk.sc i _ hs
  rw[ay hi]at hu
  have hu:=Option.some.inj hu
  rw[hu]
  rcases h with h | ⟨ks,h⟩
  ·rw[h];exact hL.sc _ (List.getElem_mem hi2)
  ·rw[h];exact b5n (hL.sc _ (List.getElem_mem hi2)) ks
def yN (n:Nat):List Int:=(List.range n).map fun(i:Nat)=>(i:Int)
theorem Gp {s:x8} {i:Nat} (hn:nR s≤100) (hi:i<nR s):U8 s (yN 100) i=true:=by
 unfold U8
 refine List.any_eq_true.2 ⟨(i:Int),List.mem_map.2 ⟨i,List.mem_range.2 (by omega),rfl⟩,?_⟩
 unfold inN
 rw[decide_eq_true (show(0:Int)≤(i:Int) by omega),decide_eq_true (show(i:Int)<(nR s:Int) by omega),Int.toNat_natCast,mW.2 (Bq s i)];rfl
theorem ZU {i:Nat} (hi:i<100):Gf (yN 100) i=true:=by
 unfold Gf
 exact List.any_eq_true.2 ⟨(i:Int),List.mem_map.2 ⟨i,List.mem_range.2 hi,rfl⟩,U9.2 rfl⟩
theorem KQ {f:Nat→Bool} :∀n,(∀i,i<n→f i=true)→onL f n=List.range n
 | 0,_=>rfl
 | n+1,h=>by rw[wK,KQ n (fun i hi=>h i (by omega)),h n (by omega),List.range_succ];rfl
theorem Uc {f:Nat→Bool} {n:Nat} (h:∀i,i<n→f i=true):bG f n=n:=by
 have:=KQ n h
 unfold bG
 have e:(List.range n).filter f=List.range n:=this
 rw[e,List.length_range]
theorem a6F {s:x8} (hR:RedOk s) (hn:nR s≤100) {i:Nat} {r:H9} (hr:s.2.2.2.2[i]? =some r):rK s (yN 100) i=r:=by
 have hi:i<nR s:=(J4.1 hr).1
 have hpe:Y8 s i=r.2.2.1:=by unfold Y8;rw[hr]
 have hp:rP s (yN 100) (Y8 s i)=Y8 s i:=by
  unfold rP
  rcases Zp hR hi with⟨h0,h1,p,h2,h3⟩ | ⟨h0,h1⟩
  ·rw[if_pos h0]
   unfold GK
   rw[if_pos ⟨h0,by omega⟩,h2,Int.toNat_natCast]
   unfold KP
   rw[if_pos (Gp hn (by omega)),Uc (fun j hj=>Gp hn (by omega))]
  ·rw[if_neg (by omega)]
 unfold rK
 rw[hr]
 simp only
 rw[if_pos (ZU (by omega)),hp,hpe]
theorem Xn {s:x8} (hR:RedOk s) (hn:nR s≤100):yf s (yN 100)=s.2.2.2.2:=by
 unfold yf
 rw[KQ _ (fun i hi=>Gp hn hi)]
 apply List.ext_getElem?
 intro i
 rw[List.getElem?_map]
 by_cases hi:i<nR s
 ·have hr:s.2.2.2.2[i]? =some s.2.2.2.2[i]:=ay hi
  rw[List.getElem?_range hi,hr]
  show some (rK s (yN 100) i)=_
  rw[a6F hR hn hr]
 ·rw[List.getElem?_eq_none (by simp;omega),List.getElem?_eq_none (by show nR s≤i;omega)];rfl
theorem a7f {s:x8} (hR:RedOk s) (hn:nR s≤100):sK (yN 100) s=s:=by
 unfold sK
 rw[Xn hR hn]
theorem VQ {l:G5} (hK:KeepOk l) (hn:∀s∈l.2.2,nR s≤100) (k:Int):jv l k (yN 100) (yN 100)=l:=by
 have h1:∀(i:Nat) (s:x8),l.2.2[i]? =some s→l.2.2.set i (sK (yN 100) s)=l.2.2:=fun i s hs=>by
  rw[a7f (hK.red s (iG hs)) (hn s (iG hs))]
  apply List.ext_getElem?
  intro j
  rw[List.getElem?_set]
  by_cases e:i=j
  ·subst e
   rw[if_pos rfl,if_pos (J4.1 hs).1,hs]
  ·rw[if_neg e]
 unfold jv
 split
 ·split
  ·rename_i s hs
   rw[h1 _ s hs]
   split
   ·split
    ·rename_i t ht
     rw[h1 _ t ht]
    ·rfl
   ·rfl
  ·rfl
 ·rfl
theorem Uh {n:Nat} {p:Nat→Option (Int×Int×Int×Int)} (hp:∀i r,p i=some r→r.1≠0):(match I8 n p with | some r=>r | none=>((0,0,0,0):Int×Int×Int×Int)).1=0→(match I8 n p with | some r=>r | none=>((0,0,0,0):Int×Int×Int×Int))=(0,0,0,0):=by
 cases h:I8 n p with
 | none=>exact fun _=>rfl
 | some r=>
  obtain⟨i,_,hi⟩:=aO h
  exact fun e=>absurd e (hp i r hi)
theorem OE (l:G5):(J9 l).1=0→J9 l=(0,0,0,0):=by
 unfold J9
 cases h1:ieq (iw l).1 0
 ·simp only[o5];exact fun h=>absurd h (ui.1 h1)
 simp only[o6]
 cases h2:ieq (lG l).1 0
 ·simp only[o5];exact fun h=>absurd h (ui.1 h2)
 simp only[o6]
 unfold uJ
 cases ilt 4 (o7 l.2.2)
 ·simp only[o5]
  refine Uh fun i r h=>?_
  unfold rD at h
  split at h
  ·exact BR h
  ·cases h
 ·simp only[o6];exact fun h=>absurd h (by decide)
theorem QG {l:G5} (h:(J9 l).1=0):P6 (ieq (J9 l).1 0) (P6 (ieq (J9 l).2.1 0) (P6 (ieq (J9 l).2.2.1 0) (ieq (J9 l).2.2.2 0)))=true:=by
 rw[OE l h];rfl
theorem He {l:G5} (hW:WfL l) (k:Int) (own mem:List Int):lU l k own mem=some true:=by
 unfold lU
 rw[Em,o9,Ku]
 cases hl:smL l
 ·rfl
 cases h1:ilt 100 (o7 own)
 case true=>rfl
 cases h2:ilt 100 (o7 mem)
 case true=>rfl
 have h1:=U7 (n:=100) h1
 have h2:=U7 (n:=100) h2
 obtain⟨hL,hT⟩:=Yo hl hW
 rw[E5,o5,o5,o5,xm hL,o9]
 cases hz:P6 (ieq (J9 l).1 0) (P6 (ieq (J9 l).2.1 0) (P6 (ieq (J9 l).2.2.1 0) (ieq (J9 l).2.2.2 0)))
 ·rfl
 have hv:=Ep l hz
 have hK:=Ad hv hL hT
 have hkl:=ZZ k own mem hK.mem
 have hL2:=b1d hkl hL
 have hv2:=Zt hv hkl
 have hz2:P6 (ieq (J9 (jv l k own mem)).1 0) (P6 (ieq (J9 (jv l k own mem)).2.1 0) (P6 (ieq (J9 (jv l k own mem)).2.2.1 0) (ieq (J9 (jv l k own mem)).2.2.2 0)))=true:=QG hv2
 rw[E5,o5,o9,X9,KH hK k (by omega) (by omega),o9,xm hL2,o9,hz2,E5,o5]
 rw[dE (show o7 (jv l k own mem).2.2=o7 l.2.2 by unfold o7;rw[hkl.ln]),E5,o5,o9,X9]
 have hll:(List.range 100).length=100:=List.length_range
 refine ae (List.range 100) (fun(b:List Int) (i:Nat)=>b++[(i:Int)]) (fun b i=>(b,i)) (fun b=>b) (fun i b=>b.length=i) [] (by omega) rfl (fun i x b hx hi hb=>?_) (fun b hb=>?_) (fun hb=>?_)
 ·have hlt:i<100:=by have:=(J4.1 hx).1;omega
  have ea:x=i:=by rw[List.getElem?_range hlt]at hx;exact(Option.some.inj hx).symm
  subst ea
  rw[aC (show(x:Int)<100 by omega),o6,jg _ (by show b.length≤1000000;omega),o9,U4 (by omega)]
  exact⟨rfl,by simp[hb]⟩
 ·rw[hll,aJ (show(100:Int)≤((100:Nat):Int) by decide)];rfl
 ·have hall:(List.range 100).foldl (fun(b:List Int) (i:Nat)=>b++[(i:Int)]) []=yN 100:=by
   have:∀(L:List Nat) (b:List Int),L.foldl (fun(b:List Int) (i:Nat)=>b++[(i:Int)]) b=b++L.map fun(i:Nat)=>(i:Int):=fun L=>by
    induction L with
    | nil=>intro b;simp
    | cons a L ih=>intro b;rw[List.foldl_cons,ih];simp
   rw[this];rfl
  rw[hall]
  have hn100:∀s∈l.2.2,nR s≤100:=fun s hs=>by have:=(hL.sc s hs).nr;unfold nR;omega
  refine uu (jv l k own mem).2.2 (fun(b:Unit) (_:x8)=>(.inl b:Unit⊕Bool)) (fun _ i=>i) (fun _=>PUnit.unit) (fun _ _=>True) () (by rw[hkl.ln];have:=hL.few.2.2;omega) trivial (fun i x _ hx hi _=>⟨?_,fun _ _=>trivial⟩) (fun _ _=>?_) (fun _=>?_)
  ·have hi2:i<l.2.2.length:=by rw[←hkl.ln];exact(J4.1 hx).1
   have hs:=ay hi2
   have hle:=VR hkl hs hx
   simp only[F9 hx,o6,D9,hx,o9,hs]
   rw[show ilt (o7 (l.2.2[i]).2.2.2.2) (o7 x.2.2.2.2)=false from aJ (by unfold o7;unfold nR at hle;omega),o5,U4 (by omega)]
  ·simp only[F8,o5]
  ·rw[BZ]
   show l9 (X0 l k (yN 100) (yN 100)) _=_
   have hal:(yN 100).length=100:=by unfold yN;rw[List.length_map,List.length_range]
   rw[KH hK k (by omega) (by omega),o9,VQ hK hn100,yK hK.len,o9]
   rfl
end Go.GP
namespace Go.GP
open Gt
theorem EC:∀x,BA Gt.ps3 x→(Gt.s3.fn x:Option Bool)=some true:=fun x h=>Ha (a5E h.1) x.2.1 x.2.2.1 x.2.2.2
theorem Ez:∀x,BA Gt.ps4 x→(Gt.s4.fn x:Option Bool)=some true:=fun x _=>GZ x.1 x.2.1 x.2.2
theorem ED:∀x,BA Gt.ps5 x→(Gt.s5.fn x:Option Bool)=some true:=fun x h=>He (a5E h.1) x.2.1 x.2.2.1 x.2.2.2
end Go.GP
