import Derived.Test.YtpgdlhcmenjcgaaGreatDoorT1
import Derived.Test.YtpgdlhcmenjcgaaGreatDoorT3
set_option linter.all false
namespace Go.GP
section
variable {α β σ ε ρ:Type}
@[simp] theorem o7 (x:α) (f:α→Option β):l9 (some x) f=f x:=rfl
@[simp] theorem b8W (f:α→Option β):l9 none f=none:=rfl
theorem dh {o:Option α} {x:α} (h:o=some x) (f:α→Option β):l9 o f=f x:=by rw[h];rfl
theorem J5 {o o' :Option α} (h:o=o') {K:α→Option β} {r:Option β} (h2:l9 o' K=r):l9 o K=r:=by rw[h];exact h2
theorem bb (a b:Bool):l7 a (some b) (some false)=some (a&&b):=by cases a <;> rfl
theorem Y7 (o:Option α):l9 o (fun x=>some x)=o:=by cases o <;> rfl
@[simp] theorem o6 (x y:α):l7 true x y=x:=rfl
@[simp] theorem o5 (x y:α):l7 false x y=y:=rfl
theorem xn {b:Bool} (h:b=true) (x y:α):l7 b x y=x:=by rw[h];rfl
theorem BU {b:Bool} (h:b=false) (x y:α):l7 b x y=y:=by rw[h];rfl
@[simp] theorem D5 (s:σ) (f:σ→α) (g:ε→α):J9 (.inl s) f g=f s:=rfl
@[simp] theorem H7 (s:ε) (f:σ→α) (g:ε→α):J9 (.inr s) f g=g s:=rfl
@[simp] theorem x8:D6 true=false:=rfl
@[simp] theorem E5:D6 false=true:=rfl
theorem F6 {a b:Int} (h:a<b):ilt a b=true:=by simp[ilt,h]
theorem E8 {a b:Int} (h:b≤a):ilt a b=false:=by simp[ilt];omega
theorem G7 {a b:Int} (h:a≤b):ile a b=true:=by simp[ile,h]
theorem G8 {a b:Int} (h:b<a):ile a b=false:=by simp[ile];omega
theorem F8 {a b:Int} (h:a=b):ieq a b=true:=by simp[ieq,h]
theorem F5 {a b:Int} (h:a≠b):ieq a b=false:=by simp[ieq,h]
theorem Y4 {a b:Int} :ilt a b=true↔a<b:=by simp[ilt]
theorem fM {a b:Int} :ile a b=true↔a≤b:=by simp[ile]
theorem N8 {a b:Int} :ieq a b=true↔a=b:=by simp[ieq]
theorem X6 {a b:Int} :ilt a b=false↔b≤a:=by simp[ilt]
theorem tN {a b:Int} :ile a b=false↔b<a:=by simp[ile]
theorem qh {a b:Int} :ieq a b=false↔a≠b:=by simp[ieq]
theorem a1A {a b:List UInt8} :seq a b=true↔a=b:=by simp[seq]
theorem aC {a b:Int} (h:0≤a):a.tdiv b=a / b:=Int.tdiv_eq_ediv_of_nonneg h
theorem qo {a b:Int} (h:0≤a):V6 a b=a % b:=Int.tmod_eq_emod_of_nonneg h
def I64 (n:Int):Prop:=-9223372036854775808≤n∧n≤9223372036854775807
def U64 (n:Int):Prop:=0≤n∧n≤18446744073709551615
theorem dZ {n:Int} (h:I64 n):IntKind.wrap .i64 n=n:=by
 unfold I64 at h
 unfold IntKind.wrap
 simp[IntKind.signed,IntKind.bits]
 omega
theorem a7X {n:Int} (h:U64 n):IntKind.wrap .u64 n=n:=by
 unfold U64 at h
 unfold IntKind.wrap
 simp[IntKind.signed,IntKind.bits]
 omega
theorem J6 {a b:Int} (h:I64 (a+b)):x9 .i64 a b=a+b:=dZ h
theorem I5 {a b:Int} (h:I64 (a -b)):G5 .i64 a b=a -b:=dZ h
theorem dL {a b:Int} (h:I64 (a*b)):L9 .i64 a b=a*b:=dZ h
theorem tV {a b:Int} (h:I64 (a.tdiv b)):V5 .i64 a b=a.tdiv b:=dZ h
theorem Qs {n:Int} (h:(Lit.int .i64 n).wf=true):I64 n:=by
 simp[Lit.wf,IntKind.min,IntKind.max,IntKind.signed,IntKind.bits]at h
 unfold I64;omega
theorem LG (l:List α):0≤o8 l:=by simp[o8]
theorem E9 (l:List α) (i:Nat):lat l (i:Int)=l[i]?:=by simp[lat]
theorem iK {l:List α} {i:Int} {x:α} (h:lat l i=some x):0≤i∧i<o8 l∧x∈l∧l[i.toNat]? =some x:=by
 unfold lat at h
 split at h
 ·rename_i h0
  obtain⟨h1,h2⟩:=O5.1 h
  refine⟨h0,by simp[o8];omega,?_,h⟩
  rw[←h2];exact List.getElem_mem h1
 ·cases h
theorem cZ {l:List α} {i:Int} (h0:0≤i) (h:i<o8 l):∃x,lat l i=some x∧x∈l:=by
 unfold o8 at h
 refine⟨l[i.toNat]'(by omega),?_,List.getElem_mem _⟩
 unfold lat
 rw[if_pos h0,Y5]
theorem Nw (l:List UInt8) (i:Nat):sat l (i:Int)=(l[i]?).map fun c=>(c.toNat:Int):=by simp[sat]
theorem tX {a b:List α} (h:a.length+b.length≤1073741824):X9 a b=some (a++b):=by simp[X9,h]
theorem a8I {l:List α} {lo hi:Int} (h0:0≤lo) (h1:lo≤hi) (h2:hi≤l.length):Ei l lo hi=some ((l.take hi.toNat).drop lo.toNat):=by simp[Ei,h0,h1,h2]
theorem a8J {l:List α} {hi:Int} (h1:0≤hi) (h2:hi≤l.length):Ei l 0 hi=some (l.take hi.toNat):=by rw[a8I (by omega) h1 h2];simp
end
section
variable {σ ε ρ:Type}
theorem LJ {f:σ→Option (σ⊕ε)} (Inv:σ→Prop) (Q:ε→Prop) (meas:σ→Nat)
  (h:∀s,Inv s→(∃s',f s=some (.inl s')∧Inv s' ∧meas s' <meas s)∨(∃e,f s=some (.inr e)∧Q e)):
  ∀n s,Inv s→meas s<n→∃e,ku f n s=some e∧Q e
 | 0,_,_,h=>by omega
 | n+1,s,hi,hm=>by
  unfold ku
  rcases h s hi with⟨s',e,hi',hm'⟩ | ⟨x,e,hx⟩
  ·rw[e];exact LJ Inv Q meas h n s' hi' (by omega)
  ·rw[e];exact⟨x,rfl,hx⟩
theorem Z5 {f:σ→Option (σ⊕ε)} {s:σ} (Inv:σ→Prop) (Q:ε→Prop) (meas:σ→Nat) (hi:Inv s) (hm:meas s<18446744073709551616)
  (h:∀s,Inv s→(∃s',f s=some (.inl s')∧Inv s' ∧meas s' <meas s)∨(∃e,f s=some (.inr e)∧Q e)):∃e,P5 f s=some e∧Q e:=
 LJ Inv Q meas h _ s hi hm
theorem OT {f:σ→Option (Out σ ε ρ)} (Inv:σ→Prop) (Q:ε→Prop) (Qr:ρ→Prop) (meas:σ→Nat)
  (h:∀s,Inv s→(∃s',f s=some (.nx s')∧Inv s' ∧meas s' <meas s)∨(∃e,f s=some (.ex e)∧Q e)∨(∃r,f s=some (.rt r)∧Qr r)):
  ∀n s,Inv s→meas s<n→(∃e,dP f n s=some (.inl e)∧Q e)∨(∃r,dP f n s=some (.inr r)∧Qr r)
 | 0,_,_,h=>by omega
 | n+1,s,hi,hm=>by
  unfold dP
  rcases h s hi with⟨s',e,hi',hm'⟩ | ⟨x,e,hx⟩ | ⟨x,e,hx⟩
  ·rw[e];exact OT Inv Q Qr meas h n s' hi' (by omega)
  ·rw[e];exact .inl ⟨x,rfl,hx⟩
  ·rw[e];exact .inr ⟨x,rfl,hx⟩
theorem lM {f:σ→Option (Out σ ε ρ)} {s:σ} (Inv:σ→Prop) (Q:ε→Prop) (Qr:ρ→Prop) (meas:σ→Nat) (hi:Inv s) (hm:meas s<18446744073709551616)
  (h:∀s,Inv s→(∃s',f s=some (.nx s')∧Inv s' ∧meas s' <meas s)∨(∃e,f s=some (.ex e)∧Q e)∨(∃r,f s=some (.rt r)∧Qr r)):
  (∃e,J7 f s=some (.inl e)∧Q e)∨(∃r,J7 f s=some (.inr r)∧Qr r):=
 OT Inv Q Qr meas h _ s hi hm
end
section
variable {α β ε ρ:Type}
open Classical in
theorem vF (l:List α) (p:Nat→α→Bool) (r:ρ) (e:ε) (f:Int→Option (Out Int ε ρ)) (hl:l.length<18446744073709551616)
  (hin:∀(i:Nat) (a:α),l[i]? =some a→f (i:Int)=if p i a=true then some (.nx ((i+1:Nat):Int))else some (.rt r))
  (hend:f (l.length:Int)=some (.ex e)):
  J7 f 0=if(∀i a,l[i]? =some a→p i a=true)then some (.inl e)else some (.inr r):=by
 have key:∀(n i:Nat),i≤l.length→l.length -i<n→(∀j a,j<i→l[j]? =some a→p j a=true)→dP f n (i:Int)=if(∀i a,l[i]? =some a→p i a=true)then some (.inl e)else some (.inr r):=by
  intro n
  induction n with
  | zero=>intro i _ h;omega
  | succ n ih=>
   intro i hi hn hp
   unfold dP
   by_cases h:i<l.length
   ·have e' :=Y5 h
    rw[hin i _ e']
    by_cases hpi:p i l[i]=true
    ·rw[if_pos hpi]
     exact ih (i+1) (by omega) (by omega) fun j a hj ha=>by
      by_cases hji:j=i
      ·subst hji;rw[e']at ha;cases ha;exact hpi
      ·exact hp j a (by omega) ha
    ·rw[if_neg hpi,if_neg]
     intro hall
     exact hpi (hall i _ e')
   ·have:i=l.length:=by omega
    subst this
    rw[hend,if_pos]
    intro j a ha
    exact hp j a (O5.1 ha).1 ha
 exact key _ 0 (Nat.zero_le _) hl fun j a hj=>by omega
end
end Go.GP
namespace Go.GP
section
variable {α β α' β' σ τ ε ε' ρ ρ' :Type}
def Ag (R:α→β→Prop) (o:Option α) (p:Option β):Prop:=∃a b,o=some a∧p=some b∧R a b
theorem Ag.mk {R:α→β→Prop} {a:α} {b:β} (h:R a b):Ag R (some a) (some b):=⟨a,b,rfl,rfl,h⟩
theorem Ag.mono {R S:α→β→Prop} {o:Option α} {p:Option β} (h:Ag R o p) (hs:∀a b,o=some a→p=some b→R a b→S a b):Ag S o p:=by
 obtain⟨a,b,h1,h2,h3⟩:=h
 exact⟨a,b,h1,h2,hs a b h1 h2 h3⟩
theorem Ag.bind {R:α→β→Prop} {S:α' →β' →Prop} {o:Option α} {p:Option β} {f:α→Option α'} {g:β→Option β'} (h:Ag R o p)
  (hk:∀a b,o=some a→p=some b→R a b→Ag S (f a) (g b)):Ag S (l9 o f) (l9 p g):=by
 obtain⟨a,b,h1,h2,h3⟩:=h
 have:=hk a b h1 h2 h3
 rw[h1,h2];exact this
theorem Ag.left {S:α' →β→Prop} {o:Option α} {a:α} {f:α→Option α'} {p:Option β} (h:o=some a) (hk:Ag S (f a) p):Ag S (l9 o f) p:=by rw[h];exact hk
theorem Ag.right {S:α→β' →Prop} {p:Option β} {b:β} {g:β→Option β'} {o:Option α} (h:p=some b) (hk:Ag S o (g b)):Ag S o (l9 p g):=by rw[h];exact hk
theorem Ag.cond {S:α→β→Prop} {b c:Bool} {x y:Option α} {u v:Option β} (h:b=c) (h1:b=true→Ag S x u) (h2:b=false→Ag S y v):Ag S (l7 b x y) (l7 c u v):=by
 subst h
 cases b
 ·exact h2 rfl
 ·exact h1 rfl
theorem Ag.eq {o p:Option α} (h:Ag Eq o p):∃a,o=some a∧p=some a:=by
 obtain⟨a,b,h1,h2,rfl⟩:=h
 exact⟨a,h1,h2⟩
def d3W (E:ε→ε' →Prop) (Q:ρ→ρ' →Prop):ε⊕ρ→ε' ⊕ρ' →Prop
 | .inl a,.inl b=>E a b
 | .inr a,.inr b=>Q a b
 | _,_=>False
theorem Ag.sum {E:ε→ε' →Prop} {Q:ρ→ρ' →Prop} {S:α→β→Prop} {o:ε⊕ρ} {p:ε' ⊕ρ'} {f:ε→Option α} {g:ρ→Option α} {f' :ε' →Option β} {g' :ρ' →Option β} (h:d3W E Q o p)
  (h1:∀a b,E a b→Ag S (f a) (f' b)) (h2:∀a b,Q a b→Ag S (g a) (g' b)):Ag S (J9 o f g) (J9 p f' g'):=by
 cases o <;> cases p <;> first | exact h1 _ _ h | exact h2 _ _ h | exact h.elim
theorem zG {p:Nat→Option ρ} (n:Nat) (hn:n<18446744073709551616) (e:ε) {f:Int→Option (Out Int ε ρ)}
  (h1:∀i,i<n→f (i:Int)=some (match p i with | some r=> .rt r | none=> .nx ((i+1:Nat):Int))) (h2:f (n:Int)=some (.ex e)):
  J7 f 0=some (match(List.range n).findSome? p with | some r=> .inr r | none=> .inl e):=by
 have key:∀m i,i+m=n→∀k,m<k→dP f k (i:Int)=some (match(List.range' i m).findSome? p with | some r=> .inr r | none=> .inl e):=by
  intro m
  induction m with
  | zero=>
   intro i hi k hk
   obtain⟨k,rfl⟩:∃k',k=k' +1:=⟨k -1,by omega⟩
   have:i=n:=by omega
   subst this
   unfold dP
   rw[h2]
   rfl
  | succ m ih=>
   intro i hi k hk
   obtain⟨k,rfl⟩:∃k',k=k' +1:=⟨k -1,by omega⟩
   unfold dP
   rw[h1 i (by omega),List.range'_succ,List.findSome?_cons]
   cases hp:p i with
   | some r=>rfl
   | none=>exact ih (i+1) (by omega) k (by omega)
 have:=key n 0 (by omega) bK hn
 rw[List.range_eq_range']
 exact this
end
end Go.GP
namespace Go.GP
open Gt
set_option maxRecDepth 100000
theorem O8 {i:Nat} (h:i≤9000000000000000000):x9 .i64 (i:Int) 1=((i+1:Nat):Int):=by
 rw[J6 (by unfold I64;omega)];omega
def JV (c:UInt8):Bool:=decide (97≤c.toNat)&&decide (c.toNat≤122)
def uP (c:UInt8):Bool:=JV c || (decide (48≤c.toNat)&&decide (c.toNat≤57)) || decide (c.toNat=95)
def DJ:List (List UInt8):=kZ.getD []
theorem a9d:kZ=some DJ:=by kernel_rfl
def wV (s:List UInt8):Bool:=match s with | []=>false | c::r=>decide (s.length≤16)&&JV c&&s.all uP&&!(DJ.any fun w=>seq s w)
theorem RS (c:UInt8) (r:List UInt8):wV (c::r)=(decide ((c::r).length≤16)&&JV c&&(c::r).all uP&&!(DJ.any fun w=>seq (c::r) w)):=rfl
theorem OU (c:UInt8):mM (c.toNat:Int)=some (JV c):=by
 unfold mM JV
 cases h:decide (97≤c.toNat) <;> simp only[decide_eq_true_eq,decide_eq_false_iff_not]at h
 ·rw[G8 (by omega)];rfl
 ·rw[G7 (by omega)]
  simp only[o6,Bool.true_and,ile]
  congr 1
  by_cases h2:c.toNat≤122 <;> simp[h2] <;> omega
theorem SS (c:UInt8):zM (c.toNat:Int)=some (JV c):=OU c
def VB (c:UInt8):Bool:=decide (48≤c.toNat)&&decide (c.toNat≤57)
theorem VC (c:UInt8):qw (c.toNat:Int)=some (VB c):=by
 unfold qw VB
 cases h:decide (48≤c.toNat) <;> simp only[decide_eq_true_eq,decide_eq_false_iff_not]at h
 ·rw[G8 (by omega)];rfl
 ·rw[G7 (by omega)]
  simp only[o6,Bool.true_and,ile]
  congr 1
  by_cases h2:c.toNat≤57 <;> simp[h2] <;> omega
theorem a2X (c:UInt8):ED (c.toNat:Int)=some (VB c):=VC c
theorem b0a (c:UInt8):ieq (c.toNat:Int) 95=decide (c.toNat=95):=by
 unfold ieq
 by_cases h:c.toNat=95 <;> simp[h] <;> omega
theorem a9T (c:UInt8):CX (c.toNat:Int)=some (uP c):=by
 unfold CX
 rw[SS,o7,a2X,b0a]
 unfold uP
 change _=some (JV c || VB c || decide (c.toNat=95))
 cases JV c <;> cases VB c <;> rfl
theorem QH {s:List UInt8} (h:s.length≤1000000):∃k,oW s=some k∧(k=o8 s↔s.all uP=true):=by
 unfold oW
 have:=Z5 (f:=fun(x:Int)=>l7 (ilt x (o8 s)) (l9 (sat s x) fun x_1=>l9 (mM x_1) fun x_2=>l7 x_2 (some (Sum.inl (x9 IntKind.i64 x 1)))
   (l9 (sat s x) fun x_3=>l9 (qw x_3) fun x_4=>l7 x_4 (some (Sum.inl (x9 IntKind.i64 x 1))) (l9 (sat s x) fun x_5=>l7 (ieq x_5 95) (some (Sum.inl (x9 IntKind.i64 x 1))) (some (Sum.inr x))))) (some (Sum.inr x)))
  (s:=0) (fun x=>∃i:Nat,x=i∧i≤s.length∧(s.take i).all uP=true) (fun k=>k=o8 s↔s.all uP=true) (fun x=>s.length -x.toNat) ⟨0,rfl,by omega,rfl⟩ (by simp;omega) ?_
 ·obtain⟨k,h1,h2⟩:=this
  refine⟨k,?_,h2⟩
  rw[Y7];exact h1
 ·rintro x ⟨i,rfl,hi,hall⟩
  by_cases hl:i<s.length
  ·have e:=Y5 hl
   simp only[F6 (show(i:Int)<o8 s by simp[o8];omega),o6,Nw,e,Option.map_some,o7,OU,VC,b0a]
   have hst:(s.take (i+1)).all uP=((s.take i).all uP&&uP s[i]):=by rw[List.take_succ_eq_append_getElem hl,List.all_append];simp
   have hw:uP s[i]=(JV s[i] || VB s[i] || decide (s[i].toNat=95)):=rfl
   cases hwb:uP s[i]with
   | true=>
    left
    refine⟨((i+1:Nat):Int),?_,⟨i+1,rfl,hl,by rw[hst,hall,hwb];rfl⟩,by simp;omega⟩
    rw[O8 (by omega)]
    rw[hw]at hwb
    cases h1:JV s[i] <;> cases h2:VB s[i] <;> cases h3:decide (s[i].toNat=95) <;> rw[h1,h2,h3]at hwb <;> first | rfl | cases hwb
   | false=>
    right
    refine⟨(i:Int),?_,?_⟩
    ·rw[hw]at hwb
     cases h1:JV s[i] <;> cases h2:VB s[i] <;> cases h3:decide (s[i].toNat=95) <;> rw[h1,h2,h3]at hwb <;> first | rfl | cases hwb
    ·constructor
     ·intro h;simp[o8]at h;omega
     ·intro h
      have:=List.all_eq_true.1 h s[i] (List.getElem_mem hl)
      rw[hwb]at this;cases this
  ·right
   have:i=s.length:=by omega
   subst this
   rw[List.take_length]at hall
   exact⟨_,by rw[E8 (by simp[o8])];rfl,by simp[o8,hall]⟩
theorem a3b {a:List UInt8} {w:List UInt8} {r:Option Bool} {x:Bool} (h:r=some x):l7 (seq a w) (some (seq a w)) r=some (seq a w || x):=by
 rw[h];cases seq a w <;> rfl
theorem Xc (s:List UInt8):ui s=some (DJ.any fun w=>seq s w):=by
 unfold ui
 refine J5 (o' :=some (DJ.any fun w=>seq s w)) ?_ (by cases DJ.any fun w=>seq s w <;> rfl)
 have hr:DJ=(kZ).getD []:=rfl
 rw[show(DJ.any fun w=>seq s w)=List.foldr (fun w b=>seq s w || b) false DJ from by induction DJ with | nil=>rfl | cons w l ih=>simp[List.any_cons,ih]]
 unfold DJ kZ
 simp only[Option.getD_some,List.foldr]
 repeat (refine a3b ?_)
 simp
theorem jm {s:List UInt8} (h:s.length≤1000000):ax s=some (wV s):=by
 unfold ax
 cases s with
 | nil=>rfl
 | cons c r=>
  have h1:seq (c::r) []=false:=by simp[seq]
  obtain⟨k,h2,h3⟩:=QH h
  rw[h1]
  simp only[E5,o6]
  rw[show sat (c::r) 0=some (c.toNat:Int)from rfl,o7,OU,o7,h2,o7,Xc,o7]
  have h4:ieq k (o8 (c::r))=(c::r).all uP:=by
   rw[Bool.eq_iff_iff,N8];exact h3
  have h5:ile (o8 (c::r)) 16=decide ((c::r).length≤16):=by simp only[ile,o8];congr 1;simp;omega
  rw[h4,h5,RS]
  cases JV c <;> cases (c::r).all uP <;> cases decide ((c::r).length≤16) <;> rfl
theorem fE {s:List UInt8} (h:s.length≤1000000):X5 s=some (wV s):=by
 unfold X5
 cases s with
 | nil=>rfl
 | cons c r=>
  have h0:ieq (o8 (c::r)) 0=false:=F5 (by simp[o8];omega)
  have h5:ilt 16 (o8 (c::r))= !decide ((c::r).length≤16):=by
   simp only[ilt,o8];rw[←decide_not];congr 1;simp;omega
  rw[h0,h5,show sat (c::r) 0=some (c.toNat:Int)from rfl,o7,SS,o7,RS]
  generalize hs:c::r=s at*
  cases hl:decide (s.length≤16)
  ·rfl
  cases hc:JV c
  ·rfl
  simp only[Bool.not_true,o5,x8,o7,D5,Bool.true_and]
  refine J5 (vF s (fun i a=>uP a) false PUnit.unit _ (by omega) (fun i x hx=>?_) ?_) ?_
  rotate_left 2
  ·have ha:(∀(i:Nat) (a:UInt8),s[i]? =some a→uP a=true)↔s.all uP=true:=by
    rw[List.all_eq_true]
    constructor
    ·intro h x hx
     obtain⟨i,hi,rfl⟩:=List.getElem_of_mem hx
     exact h i _ (Y5 hi)
    ·intro h i a hi
     exact h a (dN hi)
   by_cases hw:s.all uP=true
   ·rw[if_pos (ha.2 hw),o7,D5,a9d,o7,hw]
    refine J5 (vF DJ (fun i a=> !seq a s) false PUnit.unit _ (by decide+kernel) (fun i x hx=>?_) ?_) ?_
    rotate_left 2
    ·have hb:(∀(i:Nat) (a:List UInt8),DJ[i]? =some a→(!seq a s)=true)↔(DJ.any fun w=>seq s w)=false:=by
      rw[List.any_eq_false]
      constructor
      ·intro h x hx
       obtain⟨i,hi,rfl⟩:=List.getElem_of_mem hx
       have:=h i _ (Y5 hi)
       intro hq;rw[a1A.1 hq]at this;simp[seq]at this
      ·intro h i a hi
       have:=h a (dN hi)
       cases hq:seq a s
       ·rfl
       ·exact absurd (by rw[a1A.1 hq];simp[seq]) this
     by_cases hv:(DJ.any fun w=>seq s w)=false
     ·rw[if_pos (hb.2 hv),hv];rfl
     ·rw[if_neg (fun h=>hv (hb.1 h))]
      simp only[Bool.not_eq_false]at hv
      rw[hv];rfl
    ·have hi:=(O5.1 hx).1
     simp only[F6 (show(i:Int)<o8 DJ by simp[o8];omega),o6,E9,hx,o7]
     rw[show J4 DJ (toN (i:Int))=some x from by simp[J4,toN,hx],o7,O8 (by
       have:DJ.length≤100:=by decide+kernel
       omega)]
     cases seq x s <;> rfl
    ·rw[E8 (by simp[o8])];rfl
   ·rw[if_neg (fun h=>hw (ha.1 h))]
    simp only[Bool.not_eq_true]at hw
    rw[hw];rfl
  ·have hi:=(O5.1 hx).1
   simp only[F6 (show(i:Int)<o8 s by simp[o8];omega),o6,Nw,hx,Option.map_some,o7,a9T]
   rw[O8 (by omega)]
   cases uP x <;> rfl
  ·rw[E8 (by simp[o8])];rfl
theorem Jv (t:Int×Int) (en:List bT):aF t en=V7 t en:=by
 unfold aF V7
 by_cases h1:t.1=1
 ·simp[ieq,h1,ile]
 by_cases h2:t.1=2
 ·simp[ieq,h2,ile]
 by_cases h3:t.1=3
 ·simp[ieq,h3,ile]
 by_cases h4:t.1=4
 ·simp[ieq,h4,ile]
 by_cases h5:t.1=5
 ·simp[ieq,h5,ile]
 by_cases h6:t.1=6
 ·simp[ieq,h6,ile]
 ·simp only[ieq,h1,h2,h3,h4,h5,h6,decide_false,o5,o7]
  by_cases h7:1≤t.1
  ·rw[xn (G7 h7),BU (G8 (by omega))]
  ·rw[BU (G8 (by omega))]
theorem a1W (t:Int×Int) (en:List bT):jR t en=fU t en:=by
 unfold jR fU
 rw[Jv]
def vty (t:Int×Int) (en:List bT):Bool:=l7 (ieq t.1 6) (l7 (ile 0 t.2) (ilt t.2 (o8 en)) false) (l7 (ile 1 t.1) (l7 (ile t.1 5) (ieq t.2 0) false) false)
theorem aZ (t:Int×Int) (en:List bT):V7 t en=some (vty t en):=by
 unfold V7 vty
 cases ieq t.1 6 <;> cases ile 0 t.2 <;> cases ile 1 t.1 <;> cases ile t.1 5 <;> rfl
theorem qc (t:Int×Int) (en:List bT):aF t en=some (vty t en):=(Jv t en).trans (aZ t en)
theorem UB (t:Int×Int) (en:List bT):∃b:Int×Int,fU t en=some b:=by
 unfold fU
 rw[aZ,o7]
 cases hv:vty t en
 ·exact⟨_,rfl⟩
 simp only[x8,o5]
 cases h1:ieq t.1 1 <;> simp only[o6,o5]
 ·cases h2:ieq t.1 2 <;> simp only[o6,o5]
  ·cases h3:ieq t.1 3 <;> simp only[o6,o5]
   ·cases h4:ieq t.1 4 <;> simp only[o6,o5]
    ·cases h5:ieq t.1 5 <;> simp only[o6,o5]
     ·have h6:ieq t.1 6=true∧ile 0 t.2=true∧ilt t.2 (o8 en)=true:=by
       unfold vty at hv
       rw[qh]at h1 h2 h3 h4 h5
       cases h6:ieq t.1 6 <;> rw[h6]at hv
       ·rw[qh]at h6
        cases h7:ile 1 t.1 <;> rw[h7]at hv
        ·cases hv
        cases h8:ile t.1 5 <;> rw[h8]at hv
        ·cases hv
        rw[fM]at h7 h8
        omega
       ·cases h7:ile 0 t.2 <;> rw[h7]at hv
        ·cases hv
        ·exact⟨rfl,rfl,hv⟩
      obtain⟨x,hx,_⟩:=cZ (fM.1 h6.2.1) (Y4.1 h6.2.2)
      rw[hx];exact⟨_,rfl⟩
     ·exact⟨_,rfl⟩
    ·exact⟨_,rfl⟩
   ·exact⟨_,rfl⟩
  ·exact⟨_,rfl⟩
 ·exact⟨_,rfl⟩
def bnd (t:Int×Int) (en:List bT):Int×Int:=(fU t en).getD (0,0)
theorem Hr (t:Int×Int) (en:List bT):fU t en=some (bnd t en):=by
 obtain⟨b,h⟩:=UB t en
 unfold bnd;rw[h];rfl
theorem JE (t:Int×Int) (en:List bT):jR t en=some (bnd t en):=(a1W t en).trans (Hr t en)
def inB (n:Int) (b:Int×Int):Bool:=l7 (ile b.1 n) (ile n b.2) false
theorem Ux (n:Int) (t:Int×Int) (en:List bT):yR n t en=some (inB n (bnd t en)):=by
 unfold yR inB
 rw[Hr,o7]
 cases ile (bnd t en).1 n <;> rfl
def zg (r:Int×Int):Bool:=l7 (ile 0 r.1) (l7 (ile r.1 r.2) (ile r.2 109573) false) false
theorem AY (r:Int×Int):jo r=some (zg r):=by
 unfold jo zg
 cases ile 0 r.1 <;> cases ile r.1 r.2 <;> rfl
theorem CW (r:Int×Int):oC r=some (zg r):=AY r
def Ol (a b:Int×Int):(Int×Int)×Bool:=l7 (zg a) (l7 (zg b) (l7 (ile (eX a.2 b.2) (fO a.1 b.1)) ((0,0),false) ((fO a.1 b.1,eX a.2 b.2),true)) ((0,0),false)) ((0,0),false)
theorem a5P (a b:Int×Int):qV a b=some (Ol a b):=by
 unfold qV Ol
 rw[CW,o7,CW,o7]
 cases zg a <;> cases zg b <;> cases ile (eX a.2 b.2) (fO a.1 b.1) <;> rfl
theorem a9C (a b:Int×Int):kH a b=some (Ol a b):=by
 unfold kH mZ Ol
 rw[AY,o7,AY,o7]
 cases zg a
 ·rfl
 simp only[o6]
 cases h1:ilt a.1 a.2
 ·rw[X6]at h1
  rw[G7 (show eX a.2 b.2≤fO a.1 b.1 by unfold eX fO;omega)]
  cases zg b <;> rfl
 simp only[o7,x8,o5]
 cases zg b
 ·rfl
 simp only[o6]
 cases h2:ilt b.1 b.2
 ·rw[X6]at h2
  rw[G7 (show eX a.2 b.2≤fO a.1 b.1 by unfold eX fO;omega)]
  rfl
 ·cases ile (eX a.2 b.2) (fO a.1 b.1) <;> rfl
def ql (a b:uQ):Bool:=l7 (Ol a.1 b.1).2 (ilt (fO a.2.1 b.2.1) (eX a.2.2.1 b.2.2.1)) false
theorem Vx (a b:uQ):uK a b=some (ql a b):=by
 unfold uK ql
 rw[a9C,o7]
 cases (Ol a.1 b.1).2 <;> rfl
theorem UC (a b:uQ):uz a b=some (ql a b):=by
 unfold uz ql
 rw[a5P,o7]
 cases (Ol a.1 b.1).2 <;> rfl
theorem a4i {l:List uQ} (r:uQ) (h:l.length≤1000000):∃k:Int,kL l r=some (k,l.any fun y=>ql y r):=by
 unfold kL
 have key:=lM (f:=fun(x:Int)=>l7 (ilt x (o8 l)) (l9 (lat l x) fun x_1=>l9 (lw x_1 r) fun x_2=>l7 x_2 (some (Out.rt (x,true))) (some (Out.nx (x9 IntKind.i64 x 1)))) (some (Out.ex PUnit.unit)))
   (s:=0) (fun x=>∃i:Nat,x=i∧i≤l.length∧(l.take i).any (fun y=>ql y r)=false) (fun _=>(l.any fun y=>ql y r)=false) (fun k=>k.2=true∧(l.any fun y=>ql y r)=true) (fun x=>l.length -x.toNat) ⟨0,rfl,by omega,rfl⟩ (by simp;omega) ?_
 ·rcases key with⟨e,h1,h2⟩ | ⟨k,h1,h2,h3⟩
  ·exact⟨0,by rw[h1,h2];rfl⟩
  ·refine⟨k.1,?_⟩
   rw[h1,h3,←h2];rfl
 ·rintro x ⟨i,rfl,hi,hall⟩
  by_cases hl:i<l.length
  ·have e:=Y5 hl
   have hst:(l.take (i+1)).any (fun y=>ql y r)=((l.take i).any (fun y=>ql y r) || ql l[i] r):=by rw[List.take_succ_eq_append_getElem hl,List.any_append];simp
   have hv:lw l[i] r=some (ql l[i] r):=by unfold lw;rw[Vx];rfl
   simp only[F6 (show(i:Int)<o8 l by simp[o8];omega),o6,E9,e,o7,hv]
   cases hc:ql l[i] r with
   | true=>exact .inr (.inr ⟨_,rfl,rfl,List.any_eq_true.2 ⟨l[i],List.getElem_mem hl,hc⟩⟩)
   | false=>exact .inl ⟨((i+1:Nat):Int),by rw[O8 (by omega)];rfl,⟨i+1,rfl,hl,by rw[hst,hall,hc];rfl⟩,by simp;omega⟩
  ·have:i=l.length:=by omega
   subst this
   rw[List.take_length]at hall
   exact .inr (.inl ⟨_,by rw[E8 (by simp[o8])];rfl,hall⟩)
def KZ (x:uQ) (bl br:Int×Int):Bool:=
 l7 (zg x.1) (l7 (ieq x.1.1 x.1.2) true (l7 (ile x.2.2.1 x.2.1) true (l7 (inB x.2.1 bl) (l7 (inB (G5 .i64 x.2.2.1 1) bl) (D6 (inB x.2.2.2 br)) true) true))) true
theorem a3g (x:uQ) (t:Y1) (en:List bT):zN x t en=some (KZ x (bnd t.2.1 en) (bnd t.2.2.1 en)):=by
 unfold zN KZ
 rw[CW,o7,Ux,Ux,Ux]
 cases zg x.1
 ·rfl
 cases ieq x.1.1 x.1.2
 case true=>rfl
 cases ile x.2.2.1 x.2.1
 case true=>rfl
 simp only[x8,o5,o7,D5,o6]
 cases inB x.2.1 (bnd t.2.1 en)
 ·rfl
 cases inB (G5 .i64 x.2.2.1 1) (bnd t.2.1 en)
 ·rfl
 rfl
def QQ (t:Y1) (en:List bT) (i:Nat):Option (Int×Int):=match t.2.2.2[i]? with
 | some x=>l7 (KZ x (bnd t.2.1 en) (bnd t.2.2.1 en)) (some ((i:Int),3)) (l7 ((t.2.2.2.take i).any fun y=>ql y x) (some ((i:Int),11)) none)
 | none=>none
def Gg (t:Y1) (en:List bT):Int×Int:=
 l7 (ilt 64 (o8 t.2.2.2)) (64,4) (l7 (vty t.2.1 en) (l7 (vty t.2.2.1 en) (match(List.range t.2.2.2.length).findSome? (QQ t en)with | some r=>r | none=>(0,0)) (-1,8)) (-1,8))
theorem iF (a b:Int):ilt a b= !ile b a:=by
 simp only[ilt,ile];rw[←decide_not];congr 1;simp
theorem a3f (t:Y1) (en:List bT):uy t en=some (Gg t en):=by
 unfold uy Gg
 rw[aZ,o7,aZ,o7]
 cases h64:ilt 64 (o8 t.2.2.2)
 case true=>rfl
 simp only[o5]
 cases vty t.2.1 en
 ·rfl
 cases vty t.2.2.1 en
 ·rfl
 simp only[x8,o5,o7,D5,o6]
 have hlen:t.2.2.2.length≤64:=by rw[X6]at h64;simp only[o8]at h64;omega
 refine J5 (zG (p:=QQ t en) t.2.2.2.length (by omega) PUnit.unit (fun i hi=>?_) ?_) ?_
 rotate_left 2
 ·cases (List.range t.2.2.2.length).findSome? (QQ t en) <;> rfl
 ·have e:=Y5 hi
  simp only[F6 (show(i:Int)<o8 t.2.2.2 by simp only[o8];omega),o6,E9,e,o7,a3g,QQ]
  cases KZ t.2.2.2[i] (bnd t.2.1 en) (bnd t.2.2.1 en)
  case true=>rfl
  simp only[o5]
  refine J5 (vF (t.2.2.2.take i) (fun j a=> !ql a t.2.2.2[i]) ((i:Int),(11:Int)) PUnit.unit _ (by simp;omega) (fun j x hx=>?_) ?_) ?_
  rotate_left 2
  ·have hb:(∀(j:Nat) (a:uQ),(t.2.2.2.take i)[j]? =some a→(!ql a t.2.2.2[i])=true)↔((t.2.2.2.take i).any fun y=>ql y t.2.2.2[i])=false:=by
    rw[List.any_eq_false]
    constructor
    ·intro h x hx
     obtain⟨j,hj,rfl⟩:=List.getElem_of_mem hx
     have:=h j _ (Y5 hj)
     simpa using this
    ·intro h j a hj
     have:=h a (dN hj)
     simpa using this
   by_cases hv:((t.2.2.2.take i).any fun y=>ql y t.2.2.2[i])=false
   ·rw[if_pos (hb.2 hv),hv,O8 (by omega)];rfl
   ·rw[if_neg (fun h=>hv (hb.1 h))]
    simp only[Bool.not_eq_false]at hv
    rw[hv];rfl
  ·have hj:=(O5.1 hx).1
   simp only[List.length_take]at hj
   have hx' :t.2.2.2[j]? =some x:=by rw[List.getElem?_take]at hx;split at hx <;> first | exact hx | cases hx
   simp only[F6 (show(j:Int)<(i:Int) by omega),o6,E9,hx',o7,e,UC]
   rw[O8 (by omega)]
   cases ql x t.2.2.2[i] <;> rfl
  ·have hl:(t.2.2.2.take i).length=i:=by simp;omega
   rw[hl,E8 (by omega)];rfl
 ·rw[E8 (by simp[o8])];rfl
theorem sF {α:Type} {l:List α} {i:Nat} (h:i≤l.length):Ei l 0 (i:Int)=some (l.take i):=by rw[a8J (by omega) (by omega)];simp
theorem a7O (t:Y1) (en:List bT):uJ t en=some (Gg t en):=by
 unfold uJ Gg
 rw[qc,o7,qc,o7]
 cases h64:ilt 64 (o8 t.2.2.2)
 case true=>rfl
 simp only[o5]
 cases vty t.2.1 en
 ·rfl
 cases vty t.2.2.1 en
 ·rfl
 simp only[x8,o5,o7,D5,o6,JE]
 have hlen:t.2.2.2.length≤64:=by rw[X6]at h64;simp only[o8]at h64;omega
 refine J5 (zG (p:=QQ t en) t.2.2.2.length (by omega) PUnit.unit (fun i hi=>?_) ?_) ?_
 rotate_left 2
 ·cases (List.range t.2.2.2.length).findSome? (QQ t en) <;> rfl
 ·have e:=Y5 hi
  simp only[F6 (show(i:Int)<o8 t.2.2.2 by simp only[o8];omega),o6,E9,e,o7,QQ,AY,sF (show i≤t.2.2.2.length by omega)]
  obtain⟨k,hk⟩:=a4i (l:=t.2.2.2.take i) t.2.2.2[i] (by simp;omega)
  rw[hk,O8 (by omega)]
  unfold KZ inB
  simp only[iF]
  generalize bnd t.2.1 en=bl
  generalize bnd t.2.2.1 en=br
  cases zg t.2.2.2[i].1
  ·rfl
  cases ieq t.2.2.2[i].1.1 t.2.2.2[i].1.2
  case true=>rfl
  cases ile t.2.2.2[i].2.2.1 t.2.2.2[i].2.1
  case true=>rfl
  cases ile bl.1 t.2.2.2[i].2.1
  ·rfl
  cases ile t.2.2.2[i].2.1 bl.2
  ·rfl
  cases ile bl.1 (G5 IntKind.i64 t.2.2.2[i].2.2.1 1)
  ·rfl
  cases ile (G5 IntKind.i64 t.2.2.2[i].2.2.1 1) bl.2
  ·rfl
  cases ile br.1 t.2.2.2[i].2.2.2
  ·rfl
  cases ile t.2.2.2[i].2.2.2 br.2
  ·rfl
  cases (t.2.2.2.take i).any fun y=>ql y t.2.2.2[i] <;> rfl
 ·rw[E8 (by simp[o8])];rfl
section
variable {α ε ρ:Type}
theorem oM (l:List α) (p:α→Bool) (r:ρ) (e:ε) {f:Int→Option (Out Int ε ρ)} (hl:l.length≤1000000)
  (hin:∀(i:Nat) (a:α),l[i]? =some a→f (i:Int)=some (bif p a then .rt r else .nx (x9 .i64 (i:Int) 1))) (hend:f (l.length:Int)=some (.ex e)):
  J7 f 0=some (bif l.any p then .inr r else .inl e):=by
 rw[vF l (fun i a=> !p a) r e f (by omega) (fun i a ha=>?_) hend]
 ·have hb:(∀(j:Nat) (a:α),l[j]? =some a→(!p a)=true)↔l.any p=false:=by
   rw[List.any_eq_false]
   constructor
   ·intro h x hx
    obtain⟨j,hj,rfl⟩:=List.getElem_of_mem hx
    have:=h j _ (Y5 hj)
    simpa using this
   ·intro h j a hj
    have:=h a (dN hj)
    simpa using this
  by_cases hv:l.any p=false
  ·rw[if_pos (hb.2 hv),hv];rfl
  ·rw[if_neg (fun h=>hv (hb.1 h))]
   simp only[Bool.not_eq_false]at hv
   rw[hv];rfl
 ·have hi:=(O5.1 ha).1
  rw[hin i a ha,O8 (by omega)]
  cases p a <;> rfl
theorem uZ (l:List α) (p:α→Bool) {f:Int→Option (Out Int PUnit Int)} (hl:l.length≤1000000)
  (hin:∀(i:Nat) (a:α),l[i]? =some a→f (i:Int)=some (bif p a then .rt (i:Int)else .nx (x9 .i64 (i:Int) 1))) (hend:f (l.length:Int)=some (.ex PUnit.unit)):
  l9 (l9 (J7 f 0) fun o=>J9 o (fun _=>some (-1)) fun r=>some r) (fun x=>some (ile 0 x))=some (l.any p):=by
 have key:=lM (f:=f) (s:=0) (fun x=>∃i:Nat,x=i∧i≤l.length∧(l.take i).any p=false) (fun _=>l.any p=false) (fun k=>0≤k∧l.any p=true) (fun x=>l.length -x.toNat) ⟨0,rfl,by omega,rfl⟩ (by simp;omega) ?_
 ·rcases key with⟨e,h1,h2⟩ | ⟨k,h1,h2,h3⟩
  ·rw[h1,h2];rfl
  ·rw[h1,h3,o7,H7,o7,G7 h2]
 ·rintro x ⟨i,rfl,hi,hall⟩
  by_cases h:i<l.length
  ·have e:=Y5 h
   have hst:(l.take (i+1)).any p=((l.take i).any p || p l[i]):=by rw[List.take_succ_eq_append_getElem h,List.any_append];simp
   rw[hin i _ e]
   cases hc:p l[i]with
   | true=>exact .inr (.inr ⟨_,rfl,by omega,List.any_eq_true.2 ⟨l[i],List.getElem_mem h,hc⟩⟩)
   | false=>exact .inl ⟨((i+1:Nat):Int),by rw[O8 (by omega)];rfl,⟨i+1,rfl,h,by rw[hst,hall,hc];rfl⟩,by simp;omega⟩
  ·have:i=l.length:=by omega
   subst this
   rw[List.take_length]at hall
   exact .inr (.inl ⟨_,hend,hall⟩)
theorem H6 {i:Nat} {l:List α} {a:α} (h:l[i]? =some a):ilt (i:Int) (o8 l)=true:=F6 (by have:=(O5.1 h).1;simp only[o8];omega)
theorem H5 (l:List α):ilt (l.length:Int) (o8 l)=false:=E8 (by simp[o8])
end
theorem GX {l:List bT} (n:List UInt8) (h:l.length≤1000000):su l n=some (l.any fun x=>seq x.1 n):=by
 unfold su bH dE
 rw[Y7]
 refine uZ l (fun x=>seq x.1 n) h (fun i a ha=>?_) (by rw[H5];rfl)
 rw[H6 ha,o6,E9,ha,o7]
 unfold Aq
 rw[o7]
 cases seq a.1 n <;> rfl
theorem Ls {l:List Y1} (n:List UInt8) (h:l.length≤1000000):uh l n=some (l.any fun x=>seq x.1 n):=by
 unfold uh aO bQ
 rw[Y7]
 refine uZ l (fun x=>seq x.1 n) h (fun i a ha=>?_) (by rw[H5];rfl)
 rw[H6 ha,o6,E9,ha,o7]
 unfold yJ
 rw[o7]
 cases seq a.1 n <;> rfl
theorem VP {l:List D8} (s:D8) (h:l.length≤1000000):Y0 l s=some (l.any fun x=>seq x.1 s.1):=by
 unfold Y0 bP
 refine uZ l (fun x=>seq x.1 s.1) h (fun i a ha=>?_) (by rw[H5];rfl)
 rw[H6 ha,o6,E9,ha,o7]
 unfold vz
 rw[o7]
 cases seq a.1 s.1 <;> rfl
theorem Yh {l:List V9} (s:V9) (h:l.length≤1000000):Z7 l s=some (l.any fun x=>seq x.1 s.1):=by
 unfold Z7 dF
 refine uZ l (fun x=>seq x.1 s.1) h (fun i a ha=>?_) (by rw[H5];rfl)
 rw[H6 ha,o6,E9,ha,o7]
 unfold wW
 rw[o7]
 cases seq a.1 s.1 <;> rfl
theorem Lr {l:List bg} (s:bg) (h:l.length≤1000000):U5 l s=some (l.any fun x=>seq x.1 s.1):=by
 unfold U5 bM
 refine uZ l (fun x=>seq x.1 s.1) h (fun i a ha=>?_) (by rw[H5];rfl)
 rw[H6 ha,o6,E9,ha,o7]
 unfold vk
 rw[o7]
 cases seq a.1 s.1 <;> rfl
theorem a2n {l:List (List UInt8)} (s:List UInt8) (h:l.length≤1000000):bY l s=some (l.any fun x=>seq s x):=by
 unfold bY jd
 refine uZ l (fun x=>seq s x) h (fun i a ha=>?_) (by rw[H5];rfl)
 rw[H6 ha,o6,E9,ha,o7]
 cases seq s a <;> rfl
theorem a2m {l:List Int} (s:Int) (h:l.length≤1000000):gQ l s=some (l.any fun x=>ieq s x):=by
 unfold gQ oK
 refine uZ l (fun x=>ieq s x) h (fun i a ha=>?_) (by rw[H5];rfl)
 rw[H6 ha,o6,E9,ha,o7]
 cases ieq s a <;> rfl
section
variable {α ε ρ:Type}
theorem AP (l:List α) (k:Nat) (p:α→Bool) (r:ρ) (e:ε) {f:Int→Option (Out Int ε ρ)} (hl:l.length≤1000000)
  (hin:∀(i:Nat) (a:α),l[i]? =some a→f (i:Int)=some (bif (decide (i<k)&&p a)then .rt r else .nx (x9 .i64 (i:Int) 1))) (hend:f (l.length:Int)=some (.ex e)):
  J7 f 0=some (bif (l.take k).any p then .inr r else .inl e):=by
 rw[vF l (fun i a=> !(decide (i<k)&&p a)) r e f (by omega) (fun i a ha=>?_) hend]
 ·have hb:(∀(j:Nat) (a:α),l[j]? =some a→(!(decide (j<k)&&p a))=true)↔(l.take k).any p=false:=by
   rw[List.any_eq_false]
   constructor
   ·intro h x hx
    obtain⟨j,hj,rfl⟩:=List.getElem_of_mem hx
    simp only[List.length_take]at hj
    have:=h j _ (Y5 (by omega))
    rw[List.getElem_take]
    simp only[show j<k by omega,decide_true,Bool.true_and]at this
    simpa using this
   ·intro h j a hj
    by_cases hk:j<k
    ·have hm:a∈l.take k:=dN (i:=j) (by rw[List.getElem?_take_of_lt hk];exact hj)
     have:=h a hm
     simpa[hk]using this
    ·simp[hk]
  by_cases hv:(l.take k).any p=false
  ·rw[if_pos (hb.2 hv),hv];rfl
  ·rw[if_neg (fun h=>hv (hb.1 h))]
   simp only[Bool.not_eq_false]at hv
   rw[hv];rfl
 ·have hi:=(O5.1 ha).1
  rw[hin i a ha,O8 (by omega)]
  cases decide (i<k)&&p a <;> rfl
end
theorem IJ (i k:Nat):ilt (i:Int) (k:Int)=decide (i<k):=by
 unfold ilt;by_cases h:i<k <;> simp[h] <;> omega
def xm (l:L8) (kind:Nat) (k:Nat) (n:List UInt8):Bool:=
 match kind with
 | 1=>(l.1.take k).any fun x=>seq x.1 n
 | 2=>(l.1.any fun x=>seq x.1 n) || ((l.2.1.take k).any fun x=>seq x.1 n)
 | _=>(l.1.any fun x=>seq x.1 n) || (l.2.1.any fun x=>seq x.1 n) || ((l.2.2.take k).any fun x=>seq x.1 n)
def Few (l:L8):Prop:=l.1.length≤1000∧l.2.1.length≤1000∧l.2.2.length≤1000
theorem a3o {l:L8} (h:Few l) (k:Nat) (n:List UInt8):aY l 1 (k:Int) n=some (xm l 1 k n):=by
 unfold aY xm
 refine J5 (AP l.1 k (fun x=>seq x.1 n) true PUnit.unit (by have:=h.1;omega) (fun i a ha=>?_) ?_) ?_
 rotate_left 2
 ·cases (l.1.take k).any fun x=>seq x.1 n
  case true=>rfl
  simp only[cond_false,D5]
  refine J5 (AP l.2.1 0 (fun x=>seq x.1 n) true PUnit.unit (by have:=h.2.1;omega) (fun i a ha=>?_) ?_) ?_
  rotate_left 2
  ·simp only[List.take_zero,List.any_nil,cond_false,D5]
   refine J5 (AP l.2.2 0 (fun x=>seq x.1 n) true PUnit.unit (by have:=h.2.2;omega) (fun i a ha=>?_) ?_) ?_
   rotate_left 2
   ·rfl
   ·rw[H6 ha];simp;rfl
   ·rw[H5];rfl
  ·rw[H6 ha];simp;rfl
  ·rw[H5];rfl
 ·rw[H6 ha,E9,ha,o7,IJ,o6]
  cases decide (i<k) <;> cases seq a.1 n <;> rfl
 ·rw[H5];rfl
theorem a3p {l:L8} (h:Few l) (k:Nat) (n:List UInt8):aY l 2 (k:Int) n=some (xm l 2 k n):=by
 unfold aY xm
 refine J5 (oM l.1 (fun x=>seq x.1 n) true PUnit.unit (by have:=h.1;omega) (fun i a ha=>?_) ?_) ?_
 rotate_left 2
 ·cases l.1.any fun x=>seq x.1 n
  case true=>rfl
  simp only[cond_false,D5,Bool.false_or]
  refine J5 (AP l.2.1 k (fun x=>seq x.1 n) true PUnit.unit (by have:=h.2.1;omega) (fun i a ha=>?_) ?_) ?_
  rotate_left 2
  ·cases (l.2.1.take k).any fun x=>seq x.1 n
   case true=>rfl
   simp only[cond_false,D5]
   refine J5 (AP l.2.2 0 (fun x=>seq x.1 n) true PUnit.unit (by have:=h.2.2;omega) (fun i a ha=>?_) ?_) ?_
   rotate_left 2
   ·rfl
   ·rw[H6 ha];simp;rfl
   ·rw[H5];rfl
  ·rw[H6 ha,E9,ha,o7,IJ,o6]
   cases decide (i<k) <;> cases seq a.1 n <;> rfl
  ·rw[H5];rfl
 ·rw[H6 ha,E9,ha,o7,o6]
  cases seq a.1 n <;> rfl
 ·rw[H5];rfl
theorem a3q {l:L8} (h:Few l) (k:Nat) (n:List UInt8):aY l 3 (k:Int) n=some (xm l 3 k n):=by
 unfold aY xm
 refine J5 (oM l.1 (fun x=>seq x.1 n) true PUnit.unit (by have:=h.1;omega) (fun i a ha=>?_) ?_) ?_
 rotate_left 2
 ·cases l.1.any fun x=>seq x.1 n
  case true=>rfl
  simp only[cond_false,D5,Bool.false_or]
  refine J5 (oM l.2.1 (fun x=>seq x.1 n) true PUnit.unit (by have:=h.2.1;omega) (fun i a ha=>?_) ?_) ?_
  rotate_left 2
  ·cases l.2.1.any fun x=>seq x.1 n
   case true=>rfl
   simp only[cond_false,D5,Bool.false_or]
   refine J5 (AP l.2.2 k (fun x=>seq x.1 n) true PUnit.unit (by have:=h.2.2;omega) (fun i a ha=>?_) ?_) ?_
   rotate_left 2
   ·cases (l.2.2.take k).any fun x=>seq x.1 n <;> rfl
   ·rw[H6 ha,E9,ha,o7,IJ,o6]
    cases decide (i<k) <;> cases seq a.1 n <;> rfl
   ·rw[H5];rfl
  ·rw[H6 ha,E9,ha,o7,o6]
   cases seq a.1 n <;> rfl
  ·rw[H5];rfl
 ·rw[H6 ha,E9,ha,o7,o6]
  cases seq a.1 n <;> rfl
 ·rw[H5];rfl
def QF (ms:List (List UInt8)) (i:Nat):Option (Int×Int):=match ms[i]? with
 | some m=>l7 (wV m) (l7 ((ms.take i).any fun x=>seq m x) (some (7,((100+i:Nat):Int))) none) (some (2,((100+i:Nat):Int)))
 | none=>none
def Om (l:L8) (i:Nat) (e:bT):Int×Int:=
 l7 (wV e.1) (l7 (xm l 1 i e.1) (7,0) (l7 (ieq (o8 e.2) 0) (5,0) (l7 (ilt 16 (o8 e.2)) (4,116) (match(List.range e.2.length).findSome? (QF e.2)with | some r=>r | none=>(0,0))))) (2,0)
theorem a0i {i:Nat} (h:i≤1000000):x9 .i64 100 (i:Int)=((100+i:Nat):Int):=by
 rw[J6 (by unfold I64;omega)];omega
theorem TC {l:L8} (h:Few l) {i:Nat} (hi:i≤l.1.length) (e:bT) (h1:e.1.length≤1000000) (h2:∀m∈e.2,m.length≤1000000):
  vX l (i:Int) e=some (Om l i e):=by
 unfold vX Om xm
 rw[jm h1,o7,sF hi,o7,GX _ (by have:=h.1;simp;omega),o7]
 cases wV e.1
 ·rfl
 simp only[x8,o5,o6]
 cases (l.1.take i).any fun x=>seq x.1 e.1
 case true=>rfl
 cases ieq (o8 e.2) 0
 case true=>rfl
 cases h16:ilt 16 (o8 e.2)
 case true=>rfl
 simp only[o5]
 have hlen:e.2.length≤16:=by rw[X6]at h16;simp only[o8]at h16;omega
 refine J5 (zG (p:=QF e.2) e.2.length (by omega) PUnit.unit (fun j hj=>?_) ?_) ?_
 rotate_left 2
 ·cases (List.range e.2.length).findSome? (QF e.2) <;> rfl
 ·have e' :=Y5 hj
  rw[H6 e',o6,E9,e',o7,jm (h2 _ (List.getElem_mem hj)),o7,sF (by omega),o7,a2n _ (by simp;omega),o7,a0i (by omega),O8 (by omega)]
  simp only[QF,e']
  cases wV e.2[j]
  ·rfl
  cases (e.2.take j).any fun x=>seq e.2[j] x <;> rfl
 ·rw[H5];rfl
theorem a6y (a b:List UInt8):seq a b=seq b a:=by
 unfold seq;by_cases h:a=b <;> simp[h,eq_comm]
theorem a1S {α σ ρ:Type} (l:List α) (p:α→Bool) (n:Nat) (hn:n≤l.length) (hl:l.length≤1000000) (a b:σ) (r:ρ) {ε:Type} (e:ε) {f:σ×σ×Int→Option (Out (σ×σ×Int) ε ρ)}
  (hin:∀(i:Nat) (x:α),i<n→l[i]? =some x→f (a,b,(i:Int))=some (bif p x then .rt r else .nx (a,b,x9 .i64 (i:Int) 1))) (hend:f (a,b,(n:Int))=some (.ex e)):
  J7 f (a,b,0)=some (bif (l.take n).any p then .inr r else .inl e):=by
 have key:=lM (f:=f) (s:=(a,b,0)) (fun x=>∃i:Nat,x=(a,b,(i:Int))∧i≤n∧(l.take i).any p=false) (fun x=>x=e∧(l.take n).any p=false) (fun k=>k=r∧(l.take n).any p=true) (fun x=>n -x.2.2.toNat) ⟨0,rfl,by omega,rfl⟩ (by simp;omega) ?_
 ·rcases key with⟨x,h1,rfl,h2⟩ | ⟨k,h1,rfl,h2⟩
  ·rw[h1,h2];rfl
  ·rw[h1,h2];rfl
 ·rintro x ⟨i,rfl,hi,hall⟩
  by_cases h:i<n
  ·have e' :=Y5 (show i<l.length by omega)
   have hst:(l.take (i+1)).any p=((l.take i).any p || p l[i]):=by rw[List.take_succ_eq_append_getElem (by omega),List.any_append];simp
   rw[hin i _ h e']
   cases hc:p l[i]with
   | true=>
    refine .inr (.inr ⟨_,rfl,rfl,List.any_eq_true.2 ⟨l[i],?_,hc⟩⟩)
    exact dN (i:=i) (by rw[List.getElem?_take_of_lt h];exact e')
   | false=>exact .inl ⟨(a,b,((i+1:Nat):Int)),by rw[O8 (by omega)];rfl,⟨i+1,rfl,h,by rw[hst,hall,hc];rfl⟩,by simp;omega⟩
  ·have:i=n:=by omega
   subst this
   exact .inr (.inl ⟨_,hend,rfl,hall⟩)
theorem IE {β:Type} {p:Nat→Option β} {n j:Nat} {c:β} (h0:(List.range j).findSome? p=none) (h1:p j=some c) (hj:j<n):(List.range n).findSome? p=some c:=by
 induction n with
 | zero=>omega
 | succ n ih=>
  rw[List.range_succ,List.findSome?_append]
  by_cases h:j<n
  ·rw[ih h];rfl
  ·have:j=n:=by omega
   subst this;rw[h0];simp[h1]
theorem a0g {β:Type} {p:Nat→Option β} {j:Nat} (h0:(List.range j).findSome? p=none) (h1:p j=none):(List.range (j+1)).findSome? p=none:=by
 rw[List.range_succ,List.findSome?_append,h0];simp[h1]
def FV (kind i:Int) (r:Int×Int):Int×Int×Int×Int:=l7 (ieq r.1 0) (0,0,0,0) (r.1,kind,i,r.2)
theorem QM {l:L8} (h:Few l) {i:Nat} {e:bT} (he:l.1[i]? =some e) (h1:e.1.length≤1000000) (h2:∀m∈e.2,m.length≤1000000):
  qY l (i:Int)=some (FV 1 i (Om l i e)):=by
 unfold qY Om
 rw[E9,he,o7,fE h1,o7,a3o h,o7]
 cases wV e.1
 ·rfl
 simp only[x8,o5,o6]
 cases xm l 1 i e.1
 case true=>rfl
 cases ieq (o8 e.2) 0
 case true=>rfl
 cases h16:ilt 16 (o8 e.2)
 case true=>rfl
 simp only[o5]
 have hlen:e.2.length≤16:=by rw[X6]at h16;simp only[o8]at h16;omega
 have key:=lM (f:=fun(x_3:bJ×bJ×Int)=>
   l7 (ilt x_3.2.2 (o8 e.2)) (l9 (lat e.2 x_3.2.2) fun(x_4:List UInt8)=>l9 (X5 x_4) fun(x_5:Bool)=>
    l7 (D6 x_5) (some (Out.rt (2,x_3.2.1.2.1,x_3.2.1.2.2.1,x9 IntKind.i64 100 x_3.2.2)))
     (l9 (J7 (fun(x_6:bJ×bJ×Int)=>l7 (ilt x_6.2.2 x_3.2.2) (l9 (lat e.2 x_6.2.2) fun(x_7:List UInt8)=>l9 (lat e.2 x_3.2.2) fun(x:List UInt8)=>
       l7 (seq x_7 x) (some (Out.rt (7,x_6.2.1.2))) (some (Out.nx (x_6.1,x_6.2.1,x9 IntKind.i64 x_6.2.2 1)))) (some (Out.ex (x_6.1,x_6.2.1))))
      (x_3.1,(x_3.2.1.1,x_3.2.1.2.1,x_3.2.1.2.2.1,x9 IntKind.i64 100 x_3.2.2),0)) fun(o:bJ×bJ⊕bJ)=>
       J9 o (fun(y:bJ×bJ)=>some (Out.nx (y.1,y.2,x9 IntKind.i64 x_3.2.2 1))) fun(r:bJ)=>some (Out.rt r))) (some (Out.ex x_3.1)))
  (s:=((0,0,0,0),(0,1,(i:Int),0),0))
  (fun x=>∃(B:Int×Int×Int×Int) (j:Nat),x=((0,0,0,0),B,(j:Int))∧B.2.1=1∧B.2.2.1=i∧j≤e.2.length∧(List.range j).findSome? (QF e.2)=none)
  (fun _=>(List.range e.2.length).findSome? (QF e.2)=none) (fun r=>∃c,(List.range e.2.length).findSome? (QF e.2)=some c∧r=(c.1,1,(i:Int),c.2)∧c.1≠0)
  (fun x=>e.2.length -x.2.2.toNat) ⟨_,0,rfl,rfl,rfl,by omega,rfl⟩ (by simp;omega) ?_
 ·rcases key with⟨x,k1,k2⟩ | ⟨r,k1,c,k2,k3,k4⟩
  ·refine(dh k1 _).trans ?_
   rw[k2];rfl
  ·refine(dh k1 _).trans ?_
   rw[k2,k3]
   simp only[H7,FV]
   rw[F5 k4];rfl
 ·rintro x ⟨B,j,rfl,b1,b2,hj,hn⟩
  by_cases hl:j<e.2.length
  ·have e' :=Y5 hl
   simp only[H6 e',o6,E9,e',o7,fE (h2 _ (List.getElem_mem hl)),a0i (show j≤1000000 by omega)]
   cases hid:wV e.2[j]
   ·refine .inr (.inr ⟨_,rfl,(2,((100+j:Nat):Int)),IE hn (by simp only[QF,e',hid];rfl) hl,?_,(by show(2:Int)≠0;decide)⟩)
    rw[b1,b2]
   ·simp only[x8,o5]
    rw[a1S e.2 (fun x=>seq e.2[j] x) j (by omega) (by omega) (0,0,0,0) (B.1,B.2.1,B.2.2.1,((100+j:Nat):Int)) (7,B.2.1,B.2.2.1,((100+j:Nat):Int)) ((0,0,0,0),(B.1,B.2.1,B.2.2.1,((100+j:Nat):Int)))
     (fun k x hk hx=>by
      simp only[F6 (show(k:Int)<(j:Int) by omega),o6,E9,hx,o7,e']
      rw[a6y]
      cases seq e.2[j] x <;> rfl)
     (by simp only[E8 (show(j:Int)≤(j:Int) by omega)];rfl)]
    cases hd:(e.2.take j).any fun x=>seq e.2[j] x
    ·refine .inl ⟨((0,0,0,0),(B.1,B.2.1,B.2.2.1,((100+j:Nat):Int)),((j+1:Nat):Int)),by rw[O8 (by omega)];rfl,⟨_,j+1,rfl,b1,b2,hl,a0g hn (by simp only[QF,e',hid,hd];rfl)⟩,by simp;omega⟩
    ·refine .inr (.inr ⟨_,rfl,(7,((100+j:Nat):Int)),IE hn (by simp only[QF,e',hid,hd];rfl) hl,?_,(by show(7:Int)≠0;decide)⟩)
     rw[b1,b2]
  ·have:j=e.2.length:=by omega
   subst this
   exact .inr (.inl ⟨_,by simp only[H5];rfl,hn⟩)
def O9 {ρ:Type} (n:Nat) (p:Nat→Option ρ):Option ρ:=(List.range n).findSome? p
theorem iH {σ ε ρ:Type} {p:Nat→Option ρ} (n:Nat) (hn:n≤1000000) (a:σ) (e:ε) {f:σ×Int→Option (Out (σ×Int) ε ρ)}
  (h1:∀i,i<n→f (a,(i:Int))=some (match p i with | some r=> .rt r | none=> .nx (a,x9 .i64 (i:Int) 1))) (h2:f (a,(n:Int))=some (.ex e)):
  J7 f (a,0)=some (match O9 n p with | some r=> .inr r | none=> .inl e):=by
 have key:=lM (f:=f) (s:=(a,0)) (fun x=>∃i:Nat,x=(a,(i:Int))∧i≤n∧O9 i p=none) (fun x=>x=e∧O9 n p=none) (fun r=>O9 n p=some r) (fun x=>n -x.2.toNat) ⟨0,rfl,by omega,rfl⟩ (by simp;omega) ?_
 ·rcases key with⟨x,k1,rfl,k2⟩ | ⟨r,k1,k2⟩
  ·rw[k1,k2]
  ·rw[k1,k2]
 ·rintro x ⟨i,rfl,hi,hnone⟩
  by_cases h:i<n
  ·rw[h1 i h]
   cases hp:p i with
   | some r=>exact .inr (.inr ⟨_,rfl,IE hnone hp h⟩)
   | none=>exact .inl ⟨(a,((i+1:Nat):Int)),by rw[O8 (by omega)],⟨i+1,rfl,h,a0g hnone hp⟩,by simp;omega⟩
  ·have:i=n:=by omega
   subst this
   exact .inr (.inl ⟨_,h2,rfl,hnone⟩)
def Iy (kind i:Int) (r:Int×Int):Option (Int×Int×Int×Int):=l7 (ieq r.1 0) none (some (r.1,kind,i,r.2))
def Lh (l:L8) (i:Nat):Option (Int×Int×Int×Int):=match l.1[i]? with | some e=>Iy 1 i (Om l i e) | none=>none
def Ea (l:L8):Int×Int×Int×Int:=l7 (ilt 8 (o8 l.1)) (4,1,8,0) (match O9 l.1.length (Lh l)with | some r=>r | none=>(0,0,0,0))
def ZK (l:L8):Prop:=∀e∈l.1,e.1.length≤1000000∧∀m∈e.2,m.length≤1000000
theorem Qy {l:L8} (h:Few l) (hE:ZK l):uf l=some (Ea l):=by
 unfold uf Ea
 cases ilt 8 (o8 l.1)
 case true=>rfl
 simp only[o5]
 refine J5 (iH (p:=Lh l) l.1.length (by have:=h.1;omega) _ (0,0,0,0) (fun i hi=>?_) ?_) ?_
 rotate_left 2
 ·cases O9 l.1.length (Lh l) <;> rfl
 ·have e:=Y5 hi
  have hm:=hE _ (List.getElem_mem hi)
  simp only[H6 e,o6,E9,e,o7,TC h (show i≤l.1.length by omega) _ hm.1 hm.2,Lh,Iy]
  cases ieq (Om l i l.1[i]).1 0 <;> rfl
 ·rw[H5];rfl
theorem bn {ρ:Type} {n:Nat} {p:Nat→Option ρ} {r:ρ} (h:O9 n p=some r):∃i,i<n∧p i=some r:=by
 unfold O9 at h
 obtain⟨i,hi,hp⟩:=List.exists_of_findSome?_eq_some h
 exact⟨i,List.mem_range.1 hi,hp⟩
theorem a7N (t:Y1) (en:List bT):(Gg t en).1=-1∨0≤(Gg t en).1:=by
 unfold Gg
 cases ilt 64 (o8 t.2.2.2)
 case true=>right;simp only[o6];decide
 cases vty t.2.1 en
 ·left;rfl
 cases vty t.2.2.1 en
 ·left;rfl
 right
 simp only[o6,o5]
 cases hf:(List.range t.2.2.2.length).findSome? (QQ t en)with
 | none=>exact Int.le_refl _
 | some r=>
  obtain⟨i,hi,hp⟩:=bn (p:=QQ t en) hf
  unfold QQ at hp
  split at hp
  ·rename_i x hx
   cases hw:KZ x (bnd t.2.1 en) (bnd t.2.2.1 en) <;> rw[hw]at hp
   ·cases ha:(t.2.2.2.take i).any fun y=>ql y x <;> rw[ha]at hp
    ·cases hp
    ·cases hp;show(0:Int)≤(i:Int);omega
   ·cases hp;show(0:Int)≤(i:Int);omega
  ·cases hp
def Qj (l:L8) (i:Nat) (t:Y1):Int×Int:=
 l7 (wV t.1) (l7 (xm l 2 i t.1) (7,0) (l7 (ieq (Gg t l.1).2 0) (0,0) ((Gg t l.1).2,l7 (ile 0 (Gg t l.1).1) (x9 .i64 100 (Gg t l.1).1) 0))) (2,0)
def EU (l:L8) (i:Nat):Option (Int×Int×Int×Int):=match l.2.1[i]? with | some t=>Iy 2 i (Qj l i t) | none=>none
def Ac (l:L8):Int×Int×Int×Int:=l7 (ilt 8 (o8 l.2.1)) (4,2,8,0) (match O9 l.2.1.length (EU l)with | some r=>r | none=>(0,0,0,0))
def Vj (l:L8):Prop:=∀t∈l.2.1,t.1.length≤1000000
theorem PK {l:L8} (h:Few l) {i:Nat} {t:Y1} (he:l.2.1[i]? =some t) (h1:t.1.length≤1000000):pR l (i:Int)=some (FV 2 i (Qj l i t)):=by
 unfold pR Qj
 rw[E9,he,o7,fE h1,o7,a3p h,o7,a3f,o7]
 cases wV t.1
 ·rfl
 cases xm l 2 i t.1
 case true=>rfl
 simp only[x8,o5,o6]
 cases hz:ieq (Gg t l.1).2 0
 case true=>rfl
 simp only[o5,FV,hz]
 cases ile 0 (Gg t l.1).1 <;> rfl
theorem NY {l:L8} (h:Few l) (hT:Vj l):qQ l=some (Ac l):=by
 unfold qQ Ac
 cases ilt 8 (o8 l.2.1)
 case true=>rfl
 simp only[o5]
 refine J5 (iH (p:=EU l) l.2.1.length (by have:=h.2.1;omega) _ (0,0,0,0) (fun i hi=>?_) ?_) ?_
 rotate_left 2
 ·cases O9 l.2.1.length (EU l) <;> rfl
 ·have e:=Y5 hi
  have hm:=hT _ (List.getElem_mem hi)
  simp only[H6 e,o6,E9,e,o7,a7O,jm hm,GX _ (show l.1.length≤1000000 by have:=h.1;omega),sF (show i≤l.2.1.length by omega),
   Ls _ (show(l.2.1.take i).length≤1000000 by have:=h.2.1;simp;omega),EU,Qj,xm]
  cases wV l.2.1[i].1
  ·rfl
  cases l.1.any fun x=>seq x.1 l.2.1[i].1
  case true=>rfl
  cases (l.2.1.take i).any fun x=>seq x.1 l.2.1[i].1
  case true=>rfl
  simp only[x8,o5,o6,o7,Bool.or_false]
  cases hz:ieq (Gg l.2.1[i] l.1).2 0
  case true=>rfl
  simp only[E5,o6,o5,Iy,hz]
  rcases a7N l.2.1[i] l.1 with hr | hr
  ·rw[F8 hr,G8 (show(Gg l.2.1[i] l.1).1<0 by omega)]
   simp only[x8,o5,o7,hz,E5,o6]
  ·rw[F5 (show(Gg l.2.1[i] l.1).1≠-1 by omega),G7 hr]
   simp only[E5,o6,o7,hz]
 ·rw[H5];rfl
theorem a4j {α β ε:Type} (l:List α) (g:α→β) (hl:l.length≤1000000) {f:List β×Int→Option ((List β×Int)⊕ε)} {F:List β→ε}
  (hin:∀(i:Nat) (a:α) (acc:List β),l[i]? =some a→acc.length=i→f (acc,(i:Int))=some (.inl (acc++[g a],x9 .i64 (i:Int) 1))) (hend:∀acc,f (acc,(l.length:Int))=some (.inr (F acc))):
  P5 f ([],0)=some (F (l.map g)):=by
 obtain⟨e,h1,h2⟩:=Z5 (f:=f) (s:=([],0)) (fun x=>∃i:Nat,x=((l.take i).map g,(i:Int))∧i≤l.length) (fun e=>e=F (l.map g)) (fun x=>l.length -x.2.toNat) ⟨0,rfl,by omega⟩ (by simp;omega) (by
  rintro x ⟨i,rfl,hi⟩
  by_cases h:i<l.length
  ·have e:=Y5 h
   refine .inl ⟨((l.take (i+1)).map g,((i+1:Nat):Int)),?_,⟨i+1,rfl,h⟩,by simp;omega⟩
   rw[hin i _ _ e (by simp;omega),O8 (by omega),List.take_succ_eq_append_getElem h,List.map_append]
   rfl
  ·have:i=l.length:=by omega
   subst this
   refine .inr ⟨_,hend _,?_⟩
   rw[List.take_length])
 rw[h1,h2]
theorem Ak {l:List bg} (h:l.length≤1000000):kU l=some (l.map (·.2)):=by
 unfold kU
 rw[Y7]
 refine a4j (F:=id) l (fun x=>x.2) h (fun i a acc ha hacc=>?_) (fun acc=>?_)
 ·have hi:=(O5.1 ha).1
  simp only[H6 ha,o6,E9,ha,o7]
  rw[tX (by simp[hacc];omega)];rfl
 ·simp only[H5];rfl
def Ig (l:L8):Prop:=∀s∈l.2.2,s.1.length≤1000000∧s.2.2.1.length≤1000∧s.2.2.2.1.length≤1000∧s.2.2.2.2.length≤1000
def AC (l:L8) (s:D8):List bT×List Y1×List (Int×Int)×List (Int×Int)×List (Int×Int)×Bool:=
 match(if 0≤s.2.1 then l.2.2[s.2.1.toNat]? else none)with
 | some k=>(l.1,l.2.1,s.2.2.1.map (·.2),s.2.2.2.1.map (·.2),k.2.2.2.1.map (·.2),true)
 | none=>(l.1,l.2.1,s.2.2.1.map (·.2),s.2.2.2.1.map (·.2),[],false)
theorem yY {l:L8} (h:Ig l) {i:Nat} {s:D8} (hs:l.2.2[i]? =some s):iw l (i:Int)=some (AC l s):=by
 have hm:=h s (dN hs)
 unfold iw AC
 rw[E9,hs,o7,Ak (by omega),o7,Ak (by omega),o7]
 by_cases h0:0≤s.2.1
 ·rw[G7 h0,if_pos h0,o6]
  by_cases h1:s.2.1<o8 l.2.2
  ·obtain⟨k,hk,hkm⟩:=cZ h0 h1
   have hk' :l.2.2[s.2.1.toNat]? =some k:=(iK hk).2.2.2
   rw[F6 h1,o6,hk,o7,Ak (by have:=h k hkm;omega),o7,hk']
  ·have h1' :o8 l.2.2≤s.2.1:=Int.not_lt.1 h1
   rw[E8 h1',o5,List.getElem?_eq_none (by simp only[o8]at h1';exact Int.le_toNat h0 |>.2 h1')]
 ·have h0' :s.2.1<(0:Int):=Int.not_le.1 h0
  rw[G8 h0',if_neg h0];rfl
theorem QP {l:L8} (h:Ig l) {i:Nat} {s:D8} (hs:l.2.2[i]? =some s):qX l (i:Int)=some (AC l s):=by
 have hi:=(O5.1 hs).1
 rw[←yY h hs]
 unfold qX iw
 rw[E8 (by omega),G8 (by simp only[o8];omega)]
 rfl
abbrev SI (l:List Int):Prop:=l.Pairwise (·< ·)
theorem YW:∀{a b:List Int},SI a→SI b→(∀x,x∈a↔x∈b)→a=b
 | [],[],_,_,_=>rfl
 | [],y::b,_,_,h=>absurd ((h y).2 (by simp)) (by simp)
 | x::a,[],_,_,h=>absurd ((h x).1 (by simp)) (by simp)
 | x::a,y::b,ha,hb,h=>by
  have ha' :=List.pairwise_cons.1 ha
  have hb' :=List.pairwise_cons.1 hb
  have hxy:x=y:=by
   rcases List.mem_cons.1 ((h x).1 (by simp))with h1 | h1
   ·exact h1
   ·rcases List.mem_cons.1 ((h y).2 (by simp))with h2 | h2
    ·exact h2.symm
    ·have:=hb'.1 _ h1;have:=ha'.1 _ h2;omega
  subst hxy
  congr 1
  refine YW ha'.2 hb'.2 fun z=>⟨fun hz=>?_,fun hz=>?_⟩
  ·rcases List.mem_cons.1 ((h z).1 (by simp[hz]))with h1 | h1
   ·have:=ha'.1 _ hz;omega
   ·exact h1
  ·rcases List.mem_cons.1 ((h z).2 (by simp[hz]))with h1 | h1
   ·have:=hb'.1 _ hz;omega
   ·exact h1
def ins (n:Int):List Int→List Int
 | []=>[n]
 | a::l=>if n≤a then(if n<a then n::a::l else a::l)else a::ins n l
theorem IU (n x:Int):∀l,x∈ins n l↔x=n∨x∈l
 | []=>by simp[ins]
 | a::l=>by
  unfold ins
  by_cases h:n≤a
  ·rw[if_pos h]
   by_cases h2:n<a
   ·rw[if_pos h2];simp
   ·rw[if_neg h2]
    have:n=a:=by omega
    subst this;simp
  ·rw[if_neg h,List.mem_cons,IU n x l,List.mem_cons]
   constructor
   ·rintro(h | h | h) <;> simp[h]
   ·rintro(h | h | h) <;> simp[h]
theorem a6z (n:Int):∀{l},SI l→SI (ins n l)
 | [],_=>List.pairwise_singleton _ _
 | a::l,h=>by
  have h' :=List.pairwise_cons.1 h
  unfold ins
  by_cases h1:n≤a
  ·rw[if_pos h1]
   by_cases h2:n<a
   ·rw[if_pos h2]
    refine List.pairwise_cons.2 ⟨fun x hx=>?_,h⟩
    rcases List.mem_cons.1 hx with rfl | hx
    ·exact h2
    ·have:=h'.1 x hx;omega
   ·rw[if_neg h2];exact h
  ·rw[if_neg h1]
   refine List.pairwise_cons.2 ⟨fun x hx=>?_,a6z n h'.2⟩
   rcases(IU n x l).1 hx with rfl | hx
   ·omega
   ·exact h'.1 x hx
def wJ (ns:List Int) (l:List Int):List Int:=ns.foldl (fun acc n=>ins n acc) l
theorem IV (x:Int):∀ns l,x∈wJ ns l↔x∈ns∨x∈l
 | [],l=>by simp[wJ]
 | n::ns,l=>by
  show x∈wJ ns (ins n l)↔_
  rw[IV x ns,IU,List.mem_cons]
  constructor
  ·rintro(h | h | h) <;> simp[h]
  ·rintro((h | h) | h) <;> simp[h]
theorem Nz:∀ns {l},SI l→SI (wJ ns l)
 | [],_,h=>h
 | n::ns,_,h=>Nz ns (a6z n h)
theorem zF (a b l:List Int):wJ (a++b) l=wJ b (wJ a l):=List.foldl_append ..
def DK (l:List Int):List Int:=wJ l []
theorem Em (x:Int) (l:List Int):x∈DK l↔x∈l:=by unfold DK;rw[IV];simp
theorem a1B (l:List Int):SI (DK l):=Nz l List.Pairwise.nil
theorem lL (n:Int):∀l,(ins n l).length≤l.length+1
 | []=>by simp[ins]
 | a::l=>by
  unfold ins
  by_cases h1:n≤a
  ·rw[if_pos h1];by_cases h2:n<a
   ·rw[if_pos h2];simp
   ·rw[if_neg h2];simp
  ·rw[if_neg h1];have:=lL n l;simp only[List.length_cons];omega
theorem sD:∀ns l,(wJ ns l).length≤l.length+ns.length
 | [],l=>by simp[wJ]
 | n::ns,l=>by
  have h1:=sD ns (ins n l)
  have h2:=lL n l
  show(wJ ns (ins n l)).length≤_
  simp only[List.length_cons];omega
theorem Eh (l:List Int):(DK l).length≤l.length:=by have:=sD l [];unfold DK;simpa using this
theorem Qb {l:List Int} (n:Nat) (h:SI l) (h2:∀x∈l,0≤x∧x<n):l.length≤n:=by
 have key:∀(l:List Int) (lo:Int),SI l→(∀x∈l,lo≤x∧x<n)→lo≤n→(l.length:Int)≤n -lo:=by
  intro l
  induction l with
  | nil=>intro lo _ _ hlo;simp;omega
  | cons a l ih=>
   intro lo hs hb hlo
   have h' :=List.pairwise_cons.1 hs
   have ha:=hb a (by simp)
   have:=ih (a+1) h'.2 (fun x hx=>⟨by have:=h'.1 x hx;omega,(hb x (by simp[hx])).2⟩) (by omega)
   simp only[List.length_cons];omega
 have:=key l 0 h (fun x hx=>h2 x hx) (by omega)
 omega
theorem Oc (x:Int):∀(l:List Int) (p:Int),(p::l).Pairwise (·≤·)→SI (p::ddp p l)∧(x∈p::ddp p l↔x∈p::l)
 | [],p,_=>⟨List.pairwise_singleton _ _,Iff.rfl⟩
 | a::l,p,h=>by
  have h1:=List.pairwise_cons.1 h
  obtain⟨i1,i2⟩:=Oc x l a h1.2
  have h2:=List.pairwise_cons.1 h1.2
  have hpa:=h1.1 a (by simp)
  unfold ddp
  cases hq:ieq a p
  ·rw[qh]at hq
   simp only[cond_false]
   refine⟨List.pairwise_cons.2 ⟨fun y hy=>?_,i1⟩,?_⟩
   ·rcases List.mem_cons.1 hy with rfl | hy
    ·omega
    ·have:=(List.pairwise_cons.1 i1).1 y hy;omega
   ·rw[List.mem_cons,i2,List.mem_cons (a:=x) (b:=p)]
  ·rw[N8]at hq
   subst hq
   simp only[cond_true]
   refine⟨i1,?_⟩
   rw[i2];simp
theorem a3X (l:List Int):dd (Bl l)=DK l:=by
 have hs:=xy l
 have hp:=yI l
 refine YW ?_ (a1B l) fun x=>?_
 ·cases he:Bl l with
  | nil=>exact List.Pairwise.nil
  | cons a r=>rw[he]at hs;exact(Oc a r a hs).1
 ·rw[Em,←hp.mem_iff]
  cases he:Bl l with
  | nil=>exact Iff.rfl
  | cons a r=>rw[he]at hs;exact(Oc x r a hs).2
theorem a2r (l:List Int):(Bl l).length=l.length:=(yI l).length_eq
theorem a9Q {l:List Int} (h:l.length≤1000000):l9 (yz l) (fun x=>jD x)=some (DK l):=by
 unfold yz jD
 rw[show Nat.blt l.length 4611686018427387904=true from by simp[Nat.blt];omega]
 simp only[cond_true,o7]
 rw[show Nat.blt (Bl l).length 4611686018427387904=true from by rw[a2r];simp[Nat.blt];omega]
 rw[cond_true,a3X]
def hg (l:List Int) (i:Nat):Int:=l.getD i 0
def swp (l:List Int) (i j:Nat):List Int:=(l.set i (hg l j)).set j (hg l i)
theorem oU {l:List Int} {i:Nat} (h:i<l.length):l[i]? =some (hg l i):=by
 unfold hg;rw[qp,Y5 h];rfl
theorem Dp (l:List Int) (i j:Nat):(swp l i j).length=l.length:=by simp[swp]
theorem TU {l:List Int} {i j:Nat} (hi:i<l.length) (hj:j<l.length) (k:Nat):hg (swp l i j) k=if k=j then hg l i else if k=i then hg l j else hg l k:=by
 unfold hg swp
 simp only[qp,List.getElem?_set,List.length_set]
 by_cases h1:k=j
 ·subst h1;simp[hj,hg,qp]
 ·rw[if_neg (fun h=>h1 h.symm),if_neg h1]
  by_cases h2:k=i
  ·subst h2;simp[hi,hg,qp]
  ·rw[if_neg (fun h=>h2 h.symm),if_neg h2]
theorem ET {l:List Int} {i j:Nat} (hi:i<l.length) (hj:j<l.length):(swp l i j).Perm l:=by
 have e1:hg l i=l[i]:=by have:=oU hi;rw[Y5 hi]at this;exact(Option.some.inj this).symm
 have e2:hg l j=l[j]:=by have:=oU hj;rw[Y5 hj]at this;exact(Option.some.inj this).symm
 unfold swp
 rw[e1,e2]
 exact List.set_set_perm hi hj
def DL (l:List Int) (n:Nat):Prop:=∀k,0<k→k<n→hg l ((k -1) / 2)≤hg l k
def Jz (l:List Int) (j:Nat):Prop:=(∀k,0<k→k<l.length→k≠j→hg l ((k -1) / 2)≤hg l k)∧(0<j→∀k,0<k→k<l.length→(k -1) / 2=j→hg l ((j -1) / 2)≤hg l k)
def AO (l:List Int) (n i:Nat):Prop:=(∀k,0<k→k<n→(k -1) / 2≠i→hg l ((k -1) / 2)≤hg l k)∧(0<i→∀k,0<k→k<n→(k -1) / 2=i→hg l ((i -1) / 2)≤hg l k)
theorem VQ {l:List Int} {j:Nat} (h:Jz l j) (h0:0<j) (hj:j<l.length) (hlt:hg l j<hg l ((j -1) / 2)):Jz (swp l ((j -1) / 2) j) ((j -1) / 2):=by
 have hi:(j -1) / 2<l.length:=by omega
 have hij:(j -1) / 2<j:=by omega
 generalize hp:(j -1) / 2=i at*
 have G:=TU hi hj
 refine⟨fun k k0 k1 k2=>?_,fun i0 k k0 k1 k2=>?_⟩
 ·rw[Dp]at k1
  rw[G k,G]
  by_cases a:k=j
  ·subst a
   rw[if_pos rfl,hp,if_neg (by omega),if_pos rfl];omega
  rw[if_neg a,if_neg k2]
  by_cases b:(k -1) / 2=j
  ·rw[if_pos b]
   have:=h.2 h0 k k0 k1 b
   rw[hp]at this;exact this
  rw[if_neg b]
  by_cases c:(k -1) / 2=i
  ·rw[if_pos c]
   have:=h.1 k k0 k1 a
   rw[c]at this;omega
  rw[if_neg c]
  exact h.1 k k0 k1 a
 ·rw[Dp]at k1
  rw[G,G,if_neg (by omega),if_neg (by omega)]
  have e1:=h.1 i i0 hi (by omega)
  by_cases a:k=j
  ·rw[if_pos a];exact e1
  ·rw[if_neg a,if_neg (by omega)]
   have:=h.1 k k0 k1 a
   rw[k2]at this;omega
theorem OG {l:List Int} {j:Nat} (h:Jz l j) (he:j=0∨hg l ((j -1) / 2)≤hg l j):DL l l.length:=fun k k0 k1=>by
 by_cases a:k=j
 ·subst a
  rcases he with he | he
  ·omega
  ·exact he
 ·exact h.1 k k0 k1 a
theorem Am {l:List Int} {n i j:Nat} (h:AO l n i) (hn:n≤l.length) (hj:(j -1) / 2=i) (hj0:0<j) (hjn:j<n) (hmin:∀k,0<k→k<n→(k -1) / 2=i→hg l j≤hg l k) (hlt:hg l j<hg l i):AO (swp l i j) n j:=by
 have G:=TU (l:=l) (i:=i) (j:=j) (by omega) (by omega)
 refine⟨fun k k0 k1 k2=>?_,fun j0 k k0 k1 k2=>?_⟩
 ·rw[G k,G,if_neg k2]
  by_cases a:k=j
  ·rw[if_pos a,if_pos (by omega)];omega
  rw[if_neg a]
  by_cases b:k=i
  ·rw[if_pos b,if_neg (by omega)]
   rw[b]
   exact h.2 (by omega) j hj0 hjn hj
  rw[if_neg b]
  by_cases c:(k -1) / 2=i
  ·rw[if_pos c];exact hmin k k0 k1 c
  ·rw[if_neg c];exact h.1 k k0 k1 c
 ·rw[G,G,if_neg (by omega),if_pos hj,if_neg (by omega),if_neg (by omega)]
  have:=h.1 k k0 k1 (by omega)
  rw[k2]at this;exact this
theorem xx {l:List Int} {n i:Nat} (h:AO l n i) (he:∀k,0<k→k<n→(k -1) / 2=i→hg l i≤hg l k):DL l n:=fun k k0 k1=>by
 by_cases a:(k -1) / 2=i
 ·rw[a];exact he k k0 k1 a
 ·exact h.1 k k0 k1 a
theorem a4m {l:List Int} {n:Nat} (h:DL l n):∀k,k<n→hg l 0≤hg l k:=by
 intro k
 induction k using Nat.strongRecOn with
 | ind k ih=>
  intro hk
  by_cases h0:k=0
  ·subst h0;exact Int.le_refl _
  ·have h1:=h k (by omega) hk
   have h2:=ih ((k -1) / 2) (by omega) (by omega)
   omega
theorem Yj {l:List Int} {n:Nat} (h:DL l l.length) (hn:n+1=l.length):AO (swp l 0 n) n 0:=by
 have G:=TU (l:=l) (i:=0) (j:=n) (by omega) (by omega)
 refine⟨fun k k0 k1 k2=>?_,fun h0=>by omega⟩
 rw[G k,G,if_neg (by omega),if_neg k2,if_neg (by omega),if_neg (by omega)]
 exact h k k0 (by omega)
theorem Jt {α:Type} {l:List α} {n i:Nat} {a:α} (h:(l.take n)[i]? =some a):i<n∧l[i]? =some a:=by
 rw[List.getElem?_take]at h
 split at h
 ·exact⟨by assumption,h⟩
 ·cases h
theorem CV {l:List bg} (hl:l.length≤1000000) (n:Nat) (nm:List UInt8):lg l (n:Int) nm=some ((l.take n).any fun x=>seq x.1 nm):=by
 unfold lg
 refine J5 (oM (l.take n) (fun x=>seq x.1 nm) true PUnit.unit (by simp;omega) (fun i a ha=>?_) ?_) ?_
 rotate_left 2
 ·cases (l.take n).any fun x=>seq x.1 nm <;> rfl
 ·obtain⟨h1,h2⟩:=Jt ha
  rw[F6 (show(i:Int)<n by omega),H6 h2,E9,h2]
  simp only[o6,o7]
  cases seq a.1 nm <;> rfl
 ·by_cases h:n<l.length
  ·have e:(l.take n).length=n:=by simp;omega
   rw[e,E8 (by omega)];rfl
  ·have e:(l.take n).length=l.length:=by simp;omega
   rw[e,H5]
   cases ilt (l.length:Int) (n:Int) <;> rfl
def Ed (en:List bT) (f:bg) (a b:List bg):Int:=
 l7 (wV f.1) (l7 (a.any fun x=>seq x.1 f.1) 7 (l7 (b.any fun x=>seq x.1 f.1) 7 (l7 (vty f.2 en) 0 8))) 2
theorem Gm {l:L8} {f:bg} {a b:List bg} (h:f.1.length≤1000000) (ha:a.length≤1000000) (hb:b.length≤1000000):og l f a b=some (Ed l.1 f a b):=by
 unfold og Ed
 rw[jm h,o7,Lr _ ha,o7,Lr _ hb,o7,qc,o7]
 cases wV f.1
 ·rfl
 cases a.any fun x=>seq x.1 f.1
 case true=>rfl
 cases b.any fun x=>seq x.1 f.1
 case true=>rfl
 cases vty f.2 l.1 <;> rfl
def MV (c e:Int):Option (Int×Int):=l7 (ieq c 0) none (some (c,e))
def inP (l:L8) (s:D8) (i:Nat):Option (Int×Int):=match s.2.2.1[i]? with | some f=>MV (Ed l.1 f (s.2.2.1.take i) []) (100+i:Nat) | none=>none
def Vz (l:L8) (s:D8) (i:Nat):Option (Int×Int):=match s.2.2.2.1[i]? with | some f=>MV (Ed l.1 f s.2.2.1 (s.2.2.2.1.take i)) (200+i:Nat) | none=>none
def Vg (s:D8):Prop:=(∀f∈s.2.2.1,f.1.length≤1000000)∧(∀f∈s.2.2.2.1,f.1.length≤1000000)
theorem Lu {c i:Nat} (hc:c≤1000) (h:i≤1000000):x9 .i64 (c:Int) (i:Int)=((c+i:Nat):Int):=by
 rw[J6 (by unfold I64;omega)];omega
def MQ (i:Int) (r:Int×Int):Int×Int×Int×Int:=(r.1,3,i,r.2)
theorem zD {ρ ρ' :Type} (g:ρ→ρ') (n:Nat) (p:Nat→Option ρ):O9 n (fun i=>(p i).map g)=(O9 n p).map g:=by
 unfold O9
 induction n with
 | zero=>rfl
 | succ n ih=>
  rw[List.range_succ,List.findSome?_append,List.findSome?_append,ih]
  cases (List.range n).findSome? p <;> simp
def zC (l:L8) (s:D8):Option (Int×Int):=match O9 s.2.2.1.length (inP l s)with | some r=>some r | none=>O9 s.2.2.2.1.length (Vz l s)
theorem PE {l:L8} {i:Nat} {s:D8} (hs:l.2.2[i]? =some s) (h1:s.2.2.1.length≤1000) (h2:s.2.2.2.1.length≤1000) (hf:Vg s):
  pK l (i:Int)=some (match zC l s with | some r=>MQ i r | none=>(0,0,0,0)):=by
 unfold pK zC
 rw[E9,hs,o7]
 refine J5 (iH (p:=fun k=>(inP l s k).map (MQ i)) s.2.2.1.length (by omega) _ (0,0,0,0) (fun k hk=>?_) ?_) ?_
 rotate_left 2
 ·rw[zD]
  cases O9 s.2.2.1.length (inP l s)
  case some r=>rfl
  simp only[Option.map_none,D5]
  refine J5 (iH (p:=fun k=>(Vz l s k).map (MQ i)) s.2.2.2.1.length (by omega) _ (0,0,0,0) (fun k hk=>?_) ?_) ?_
  rotate_left 2
  ·rw[zD]
   cases O9 s.2.2.2.1.length (Vz l s) <;> rfl
  ·have e:=Y5 hk
   have hm:=hf.2 _ (List.getElem_mem hk)
   simp only[H6 e,o6,E9,e,o7,fE hm,show o8 s.2.2.1=((s.2.2.1.length:Nat):Int)from rfl,CV (show s.2.2.1.length≤1000000 by omega),CV (show s.2.2.2.1.length≤1000000 by omega),aZ,Vz,Ed,MV,List.take_length]
   rw[show(200:Int)=((200:Nat):Int)from rfl,Lu (by omega) (by omega)]
   cases wV s.2.2.2.1[k].1
   ·rfl
   cases s.2.2.1.any fun x=>seq x.1 s.2.2.2.1[k].1
   case true=>rfl
   cases (s.2.2.2.1.take k).any fun x=>seq x.1 s.2.2.2.1[k].1
   case true=>rfl
   cases vty s.2.2.2.1[k].2 l.1 <;> rfl
  ·simp only[H5];rfl
 ·have e:=Y5 hk
  have hm:=hf.1 _ (List.getElem_mem hk)
  simp only[H6 e,o6,E9,e,o7,fE hm,CV (show s.2.2.1.length≤1000000 by omega),aZ,inP,Ed,MV]
  rw[show(100:Int)=((100:Nat):Int)from rfl,Lu (by omega) (by omega)]
  cases wV s.2.2.1[k].1
  ·rfl
  cases (s.2.2.1.take k).any fun x=>seq x.1 s.2.2.1[k].1
  case true=>rfl
  cases vty s.2.2.1[k].2 l.1 <;> rfl
 ·simp only[H5];rfl
def arF (op:Int):Int:=(aJ op).getD 0
theorem b9c {op:Int} (h:1≤op∧op≤39):∃k:Fin 40,op=(k.val:Int):=⟨⟨op.toNat,by omega⟩,by simp;omega⟩
theorem c6K:∀k:Fin 40,1≤k.val→(gV (k.val:Int)=aJ (k.val:Int))∧(aJ (k.val:Int)=some 0∨aJ (k.val:Int)=some 1∨aJ (k.val:Int)=some 2∨aJ (k.val:Int)=some 3):=by decide+kernel
theorem TW {op:Int} (h:¬(1≤op∧op≤39)) (k:Int) (h1:1≤k) (h2:k≤39):ieq op k=false:=F5 (by omega)
theorem a1a {op:Int} (h:¬(1≤op∧op≤39)):aJ op=some (-1):=by
 unfold aJ
 by_cases h1:1≤op
 ·rw[G7 h1,o6,G8 (show(9:Int)<op by omega),o5,G8 (show(39:Int)<op by omega),G8 (show(30:Int)<op by omega)]
  simp[TW h]
  cases ile 35 op <;> cases ile 11 op <;> rfl
 ·rw[G8 (show op<1 by omega),o5,G8 (show op<35 by omega),G8 (show op<11 by omega)]
  simp[TW h]
theorem b8w {op:Int} (h:¬(1≤op∧op≤39)):gV op=some (-1):=by
 unfold gV
 simp[TW h]
theorem AQ (op:Int):gV op=some (arF op)∧aJ op=some (arF op)∧(arF op=-1∨arF op=0∨arF op=1∨arF op=2∨arF op=3):=by
 unfold arF
 by_cases h:1≤op∧op≤39
 ·obtain⟨k,rfl⟩:=b9c h
  obtain⟨h1,h2⟩:=c6K k (by omega)
  rcases h2 with h2 | h2 | h2 | h2 <;> rw[h1,h2] <;> simp
 ·rw[b8w h,a1a h];simp
theorem NL (op:Int):gV op=some (arF op):=(AQ op).1
theorem PL (op:Int):aJ op=some (arF op):=(AQ op).2.1
inductive XT where
 | l0 (n:Int×Int) | l1 (n:Int×Int) (a:XT) | l2 (n:Int×Int) (a b:XT) | l3 (n:Int×Int) (a b c:XT)
def XT.size:XT→Nat
 | .l0 _=>1 | .l1 _ a=>a.size+1 | .l2 _ a b=>a.size+b.size+1 | .l3 _ a b c=>a.size+b.size+c.size+1
def XT.post:XT→List (Int×Int)
 | .l0 n=>[n] | .l1 n a=>a.post++[n] | .l2 n a b=>a.post++b.post++[n] | .l3 n a b c=>a.post++b.post++c.post++[n]
def XT.sts (o:Nat):XT→List Int
 | .l0 _=>[(o:Int)]
 | .l1 _ a=>a.sts o++[(o:Int)]
 | .l2 _ a b=>a.sts o++b.sts (o+a.size)++[(o:Int)]
 | .l3 _ a b c=>a.sts o++b.sts (o+a.size)++c.sts (o+a.size+b.size)++[(o:Int)]
theorem XT.size_pos (t:XT):0<t.size:=by cases t <;> simp[XT.size]
theorem XT.post_len (t:XT):t.post.length=t.size:=by
 induction t with
 | l0 n=>rfl
 | l1 n a ha=>simp[XT.post,XT.size,ha]
 | l2 n a b ha hb=>simp[XT.post,XT.size,ha,hb];try omega
 | l3 n a b c ha hb hc=>simp[XT.post,XT.size,ha,hb,hc];try omega
theorem XT.sts_len (t:XT):∀o,(t.sts o).length=t.size:=by
 induction t with
 | l0 n=>intro o;rfl
 | l1 n a ha=>intro o;simp[XT.sts,XT.size,ha]
 | l2 n a b ha hb=>intro o;simp[XT.sts,XT.size,ha,hb];try omega
 | l3 n a b c ha hb hc=>intro o;simp[XT.sts,XT.size,ha,hb,hc];try omega
def aQ:List XT→Nat
 | []=>0
 | t::r=>aQ r+t.size
def Dz:List XT→List (Int×Int)
 | []=>[]
 | t::r=>Dz r++t.post
def stR:List XT→List Int
 | []=>[]
 | t::r=>stR r++t.sts (aQ r)
def gI:List XT→List Int
 | []=>[]
 | t::r=>gI r++[(aQ r:Int)]
theorem gz:∀ts,(gI ts).length=ts.length
 | []=>rfl
 | t::r=>by simp[gI,gz r]
theorem xW:∀ts,(stR ts).length=aQ ts
 | []=>rfl
 | t::r=>by simp[stR,aQ,xW r,XT.sts_len]
theorem FK:∀ts,(Dz ts).length=aQ ts
 | []=>rfl
 | t::r=>by simp[Dz,aQ,FK r,XT.post_len]
def push (n:Int×Int) (ts:List XT):Int⊕List XT:=
 if arF n.1=0 then .inr (.l0 n::ts)
 else if arF n.1=1 then(match ts with | a::r=> .inr (.l1 n a::r) | _=> .inl 5)
 else if arF n.1=2 then(match ts with | b::a::r=> .inr (.l2 n a b::r) | _=> .inl 5)
 else if arF n.1=3 then(match ts with | c::b::a::r=> .inr (.l3 n a b c::r) | _=> .inl 5)
 else .inl 2
def mW:Nat→List (Int×Int)→List XT→(Int×Int)⊕List XT
 | _,[],ts=> .inr ts
 | i,n::es,ts=>match push n ts with
  | .inl c=> .inl ((i:Int),c)
  | .inr ts' =>if 12<ts'.length then .inl ((i:Int),16)else mW (i+1) es ts'
def eQ (e:List (Int×Int)):(Int×Int)⊕XT:=
 if 48<e.length then .inl (0,4)else if e.length=0 then .inl (0,5)else
  match mW 0 e []with
  | .inl x=> .inl x
  | .inr [t]=> .inr t
  | .inr _=> .inl ((e.length:Int),4)
theorem SL {n:Int×Int} {ts ts' :List XT} (h:push n ts= .inr ts'):Dz ts' =Dz ts++[n]∧ts' ≠[]:=by
 unfold push at h
 split at h
 ·cases h;exact⟨rfl,by simp⟩
 split at h
 ·split at h
  ·cases h;exact⟨by simp[Dz,XT.post],by simp⟩
  ·cases h
 split at h
 ·split at h
  ·cases h;exact⟨by simp[Dz,XT.post],by simp⟩
  ·cases h
 split at h
 ·split at h
  ·cases h;exact⟨by simp[Dz,XT.post],by simp⟩
  ·cases h
 ·cases h
theorem FM {n:Int×Int} {ts ts' :List XT} (h:push n ts= .inr ts'):aQ ts' =aQ ts+1:=by
 rw[←FK,←FK,(SL h).1];simp
theorem CQ:∀(es:List (Int×Int)) (i:Nat) (ts ts' :List XT),mW i es ts= .inr ts' →Dz ts' =Dz ts++es∧(ts≠[]∨es≠[]→ts' ≠[])
 | [],i,ts,ts',h=>by cases h;exact⟨by simp,by simp⟩
 | n::es,i,ts,ts',h=>by
  unfold mW at h
  cases hp:push n ts with
  | inl c=>rw[hp]at h;cases h
  | inr t2=>
   rw[hp]at h
   simp only at h
   split at h
   ·cases h
   ·obtain⟨h1,h2⟩:=CQ es (i+1) t2 ts' h
    obtain⟨h3,h4⟩:=SL hp
    exact⟨by rw[h1,h3];simp,fun _=>h2 (.inl h4)⟩
theorem Aa {e:List (Int×Int)} {t:XT} (h:eQ e= .inr t):e=t.post∧e.length≤48:=by
 unfold eQ at h
 split at h
 ·cases h
 split at h
 ·cases h
 split at h
 ·cases h
 ·rename_i t' hp
  cases h
  have:=(CQ e 0 [] [t] hp).1
  exact⟨by simpa[Dz]using this.symm,by omega⟩
 ·cases h
theorem MM {σ ε ρ:Type} (e:List (Int×Int)) (he:e.length≤48) (g:List XT→σ) (fin:List XT→ε) (rt:Int×Int→ρ) {f:σ→Option (Out σ ε ρ)}
  (hs:∀(i:Nat) (n:Int×Int) (ts:List XT),e[i]? =some n→i=aQ ts→ts.length≤12→f (g ts)=some (match push n ts with
   | .inl c=> .rt (rt ((i:Int),c))
   | .inr ts' =>if 12<ts'.length then .rt (rt ((i:Int),16))else .nx (g ts')))
  (hend:∀ts,aQ ts=e.length→f (g ts)=some (.ex (fin ts))):
  J7 f (g [])=some (match mW 0 e []with | .inl x=> .inr (rt x) | .inr ts=> .inl (fin ts)):=by
 have key:∀(es:List (Int×Int)) (i:Nat) (ts:List XT) (k:Nat),e.drop i=es→i=aQ ts→ts.length≤12→i≤e.length→es.length<k→
   dP f k (g ts)=some (match mW i es ts with | .inl x=> .inr (rt x) | .inr ts=> .inl (fin ts)):=by
  intro es
  induction es with
  | nil=>
   intro i ts k hd hi hl hle hk
   obtain⟨k,rfl⟩:∃k',k=k' +1:=⟨k -1,by omega⟩
   have:i=e.length:=by have:=congrArg List.length hd;simp at this;omega
   unfold dP
   rw[hend ts (by omega)];rfl
  | cons n es ih=>
   intro i ts k hd hi hl hle hk
   obtain⟨k,rfl⟩:∃k',k=k' +1:=⟨k -1,by omega⟩
   have hn:e[i]? =some n:=by
    have:(e.drop i)[0]? =some n:=by rw[hd];rfl
    simpa using this
   have hlt:=(O5.1 hn).1
   unfold dP
   rw[hs i n ts hn hi hl]
   unfold mW
   cases hp:push n ts with
   | inl c=>rfl
   | inr ts' =>
    simp only
    by_cases h12:12<ts'.length
    ·rw[if_pos h12,if_pos h12]
    ·rw[if_neg h12,if_neg h12]
     exact ih (i+1) ts' k (by rw[←List.drop_drop,hd];rfl) (by rw[FM hp,hi]) (by omega) (by omega) (by simp at hk;omega)
 exact key e 0 [] bK rfl rfl (by simp) (by omega) (by unfold bK;omega)
theorem WC:∀(p r:List XT),∃X,gI (p++r)=gI r++X∧X.length=p.length∧(p≠[]→X.head?=some (aQ r:Int))
 | [],r=>⟨[],by simp,rfl,fun h=>absurd rfl h⟩
 | a::p,r=>by
  obtain⟨X,h1,h2,h3⟩:=WC p r
  refine⟨X++[(aQ (p++r):Int)],?_,by simp[h2],fun _=>?_⟩
  ·show gI (p++r)++[(aQ (p++r):Int)]=_
   rw[h1,List.append_assoc]
  ·cases p with
   | nil=>simp at h2;subst h2;rfl
   | cons b p=>rw[List.head?_append,h3 (by simp)];rfl
theorem Kw (p r:List XT) (k:Int) (hk:k=(p.length:Int)) (h:p.length+r.length≤100) (hp:p≠[]):
  G5 .i64 (o8 (gI (p++r))) k=(r.length:Int)∧lat (gI (p++r)) (r.length:Int)=some (aQ r:Int)∧J4 (gI (p++r)) (toN (r.length:Int))=some (aQ r:Int)
  ∧ja 0 (r.length:Int) (o8 (gI (p++r)))=true∧gq (gI (p++r)) (toN 0) (toN (r.length:Int))=gI r:=by
 obtain⟨X,h1,h2,h3⟩:=WC p r
 have hl:(gI (p++r)).length=r.length+p.length:=by rw[gz];simp;omega
 have hg:(gI (p++r))[r.length]? =some (aQ r:Int):=by
  rw[h1,List.getElem?_append_right (by rw[gz];omega),gz,Nat.sub_self,←List.head?_eq_getElem?]
  exact h3 hp
 refine⟨?_,?_,?_,?_,?_⟩
 ·simp only[o8,hl]
  rw[I5 (by unfold I64;omega)];omega
 ·rw[E9];exact hg
 ·exact hg
 ·simp only[ja,o8,hl,decide_eq_true_eq];omega
 ·show((gI (p++r)).take r.length).drop 0=_
  rw[h1,List.drop_zero,List.take_append_of_le_length (by rw[gz];omega),List.take_of_length_le (by rw[gz];omega)]
theorem LC (ts:List XT):ilt 12 (o8 (gI ts))=decide (12<ts.length):=by
 rw[show o8 (gI ts)=((ts.length:Nat):Int) by simp[o8,gz]]
 exact IJ 12 ts.length
theorem aB {α:Type} {l:List α} (x:α) (h:l.length≤1000000):X9 l [x]=some (l++[x]):=tX (by simp;omega)
theorem Bi (ts:List XT) (k:Nat):ilt (o8 (gI ts)) (k:Int)=decide (ts.length<k):=by
 rw[show o8 (gI ts)=((ts.length:Nat):Int) by simp[o8,gz]]
 exact IJ _ _
def nG (e:List (Int×Int)):List Int×Int×Int:=match eQ e with | .inl x=>([],x) | .inr t=>(t.sts 0,0,0)
theorem SC {e:List (Int×Int)} (h0:e.length≠0) {K:List Int×Int×Int→List Int×Int×Int} (h48:¬48<e.length)
  {r:List Int×Int×Int} (h:∀ts,mW 0 e []= .inr ts→r=l7 (ilt 1 (o8 (gI ts))) ([],o8 e,4) (stR ts,0,0)) (hi:∀x,mW 0 e []= .inl x→r=([],x)):r=nG e:=by
 unfold nG eQ
 rw[if_neg h48,if_neg h0]
 cases hp:mW 0 e []with
 | inl x=>exact hi x hp
 | inr ts=>
  rw[h ts hp]
  have:=(CQ e 0 [] ts hp).2 (.inr (by intro he;subst he;exact h0 rfl))
  match ts,this with
  | [t],_=>simp[gI,o8,ilt,stR,aQ]
  | a::b::ts,_=>
   rw[F6 (by simp[o8,gz];omega)];rfl
theorem Az (e:List (Int×Int)):jB e=some (nG e):=by
 unfold jB
 by_cases h48:48<e.length
 ·rw[F6 (by simp[o8];omega),o6]
  unfold nG eQ
  rw[if_pos h48]
 by_cases h0:e.length=0
 ·rw[E8 (by simp[o8];omega),o5,F8 (by simp[o8,h0]),o6]
  unfold nG eQ
  rw[if_neg h48,if_pos h0]
 rw[E8 (by simp[o8];omega),o5,F5 (by simp[o8];intro h;exact h0 (by simp[h])),o5]
 refine J5 (MM e (by omega) (fun ts=>(stR ts,gI ts,(aQ ts:Int))) (fun ts=>(stR ts,gI ts)) (fun x=>(([]:List Int),x)) (fun i n ts hn hi hl=>?_) (fun ts hsz=>?_)) ?_
 rotate_left 2
 ·rw[←SC h0 h48 (K:=id) (r:=match mW 0 e []with | .inl x=>([],x) | .inr ts=>l7 (ilt 1 (o8 (gI ts))) ([],o8 e,4) (stR ts,0,0)) (fun ts h=>by rw[h]) (fun x h=>by rw[h])]
  cases mW 0 e []with
  | inl x=>rfl
  | inr ts=>simp only[o7,D5];cases ilt 1 (o8 (gI ts)) <;> rfl
 ·subst hi
  have hlt:=(O5.1 hn).1
  have hst:=xW ts
  have hof:=gz ts
  simp only[H6 hn,o6,E9,hn,o7,PL]
  rcases(AQ n.1).2.2 with h | h | h | h | h
  ·rw[show push n ts= .inl 2 by simp[push,h],h];rfl
  ·rw[show push n ts= .inr (.l0 n::ts) by simp[push,h],h,E8 (by omega),o5,E8 (LG _),o5,o5,aB _ (by omega),o7,aB _ (by omega),o7,O8 (by omega)]
   rw[show gI ts++[(aQ ts:Int)]=gI (.l0 n::ts)from rfl,LC]
   by_cases hc:12<(XT.l0 n::ts).length
   ·simp only[hc,decide_true,if_true,o6]
   ·simp only[hc,decide_false,if_false,o5];rfl
  ·match ts with
   | []=>rw[show push n []= .inl 5 by simp[push,h],h];rfl
   | a::r=>
    obtain⟨p1,p2,p3,p4,p5⟩:=Kw [a] r 1 rfl (by simp at hl ⊢;omega) (by simp)
    simp only[List.cons_append,List.nil_append]at p1 p2 p3 p4 p5
    have:=xW (a::r);have:=gz r
    simp only[List.length_cons]at hl
    rw[show push n (a::r)= .inr (.l1 n a::r) by simp[push,h],h,E8 (by omega),o5,show(1:Int)=((1:Nat):Int)from rfl,Bi,show decide ((a::r).length<1)=false by simp]
    simp only[Int.natCast_one]at p1 ⊢
    rw[o5,F6 (by omega),o6,p1,p2,o7,p3,o7,p4,o6,p5,aB _ (by omega),o7,aB _ (by omega),o7,O8 (by omega)]
    rw[show gI r++[(aQ r:Int)]=gI (.l1 n a::r)from rfl,LC]
    by_cases hc:12<(XT.l1 n a::r).length
    ·simp only[hc,decide_true,if_true,o6]
    ·simp only[hc,decide_false,if_false,o5,stR,XT.sts,List.append_assoc,aQ,XT.size,Nat.add_assoc]
  ·match ts with
   | []=>rw[show push n []= .inl 5 by simp[push,h],h];rfl
   | [a]=>rw[show push n [a]= .inl 5 by simp[push,h],h];rfl
   | b::a::r=>
    obtain⟨p1,p2,p3,p4,p5⟩:=Kw [b,a] r 2 rfl (by simp at hl ⊢;omega) (by simp)
    simp only[List.cons_append,List.nil_append]at p1 p2 p3 p4 p5
    have:=xW (b::a::r);have:=gz r
    simp only[List.length_cons]at hl
    rw[show push n (b::a::r)= .inr (.l2 n a b::r) by simp[push,h],h,E8 (by omega),o5,show(2:Int)=((2:Nat):Int)from rfl,Bi,show decide ((b::a::r).length<2)=false by simp]
    rw[o5,F6 (by omega),o6,show((2:Nat):Int)=2 from rfl,p1,p2,o7,p3,o7,p4,o6,p5,aB _ (by omega),o7,aB _ (by omega),o7,O8 (by omega)]
    rw[show gI r++[(aQ r:Int)]=gI (.l2 n a b::r)from rfl,LC]
    by_cases hc:12<(XT.l2 n a b::r).length
    ·simp only[hc,decide_true,if_true,o6]
    ·simp only[hc,decide_false,if_false,o5,stR,XT.sts,List.append_assoc,aQ,XT.size,Nat.add_assoc]
  ·match ts with
   | []=>rw[show push n []= .inl 5 by simp[push,h],h];rfl
   | [a]=>rw[show push n [a]= .inl 5 by simp[push,h],h];rfl
   | [b,a]=>rw[show push n [b,a]= .inl 5 by simp[push,h],h];rfl
   | c::b::a::r=>
    obtain⟨p1,p2,p3,p4,p5⟩:=Kw [c,b,a] r 3 rfl (by simp at hl ⊢;omega) (by simp)
    simp only[List.cons_append,List.nil_append]at p1 p2 p3 p4 p5
    have:=xW (c::b::a::r);have:=gz r
    simp only[List.length_cons]at hl
    rw[show push n (c::b::a::r)= .inr (.l3 n a b c::r) by simp[push,h],h,E8 (by omega),o5,show(3:Int)=((3:Nat):Int)from rfl,Bi,show decide ((c::b::a::r).length<3)=false by simp]
    rw[o5,F6 (by omega),o6,show((3:Nat):Int)=3 from rfl,p1,p2,o7,p3,o7,p4,o6,p5,aB _ (by omega),o7,aB _ (by omega),o7,O8 (by omega)]
    rw[show gI r++[(aQ r:Int)]=gI (.l3 n a b c::r)from rfl,LC]
    by_cases hc:12<(XT.l3 n a b c::r).length
    ·simp only[hc,decide_true,if_true,o6]
    ·simp only[hc,decide_false,if_false,o5,stR,XT.sts,List.append_assoc,aQ,XT.size,Nat.add_assoc]
 ·simp only[hsz,H5];rfl
def pd (l:List Int) (k:Nat):List Int:=l++List.replicate k 0
theorem Uk (l:List Int) (m:Nat):lat (pd l (m+1)) (l.length:Int)=some 0:=by
 rw[E9];unfold pd
 rw[List.getElem?_append_right (by omega),Nat.sub_self];rfl
theorem Ul (l:List Int) (m:Nat):J4 (pd l (m+1)) (toN (l.length:Int))=some 0:=by
 have:=Uk l m;rw[E9]at this;exact this
theorem YC (l:List Int) (m:Nat) (v:Int):P6 (pd l (m+1)) (toN (l.length:Int)) v=pd (l++[v]) m:=by
 show(l++List.replicate (m+1) 0).set l.length v=_
 rw[List.set_append_right _ _ (by omega),Nat.sub_self,List.replicate_succ]
 simp[pd]
theorem Jd (l:List Int) (m:Nat) (v w:Int):P6 (pd (l++[v]) m) (toN (l.length:Int)) w=pd (l++[w]) m:=by
 show(l++[v]++List.replicate m 0).set l.length w=_
 rw[List.append_assoc,List.set_append_right _ _ (by omega),Nat.sub_self]
 simp[pd]
theorem FH (l:List Int) (m:Nat) (v:Int):lat (pd (l++[v]) m) (l.length:Int)=some v:=by
 rw[E9];unfold pd
 rw[List.append_assoc,List.getElem?_append_right (by omega),Nat.sub_self];rfl
theorem Et (l:List Int) (m:Nat) (v:Int):J4 (pd (l++[v]) m) (toN (l.length:Int))=some v:=by
 have:=FH l m v;rw[E9]at this;exact this
theorem Js (e:List (Int×Int)):nV e=some (nG e):=by
 unfold nV
 by_cases h48:48<e.length
 ·rw[F6 (by simp[o8];omega),o6]
  unfold nG eQ
  rw[if_pos h48]
 by_cases h0:e.length=0
 ·rw[E8 (by simp[o8];omega),o5,F8 (by simp[o8,h0]),o6]
  unfold nG eQ
  rw[if_neg h48,if_pos h0]
 rw[E8 (by simp[o8];omega),o5,F5 (by simp[o8];intro h;exact h0 (by simp[h])),o5]
 rw[show iU (o8 e) (0:Int)=some (pd (stR []) (e.length -aQ [])) by simp[iU,o8,pd,stR,aQ];omega,o7]
 refine J5 (MM e (by omega) (fun ts=>(pd (stR ts) (e.length -aQ ts),gI ts,(aQ ts:Int))) (fun ts=>(pd (stR ts) (e.length -aQ ts),gI ts)) (fun x=>(([]:List Int),x)) (fun i n ts hn hi hl=>?_) (fun ts hsz=>?_)) ?_
 rotate_left 2
 ·rw[←SC h0 h48 (K:=id) (r:=match mW 0 e []with | .inl x=>([],x) | .inr ts=>l7 (ilt 1 (o8 (gI ts))) ([],o8 e,4) (stR ts,0,0)) (fun ts h=>by rw[h]) (fun x h=>by rw[h])]
  cases hp:mW 0 e []with
  | inl x=>rfl
  | inr ts=>
   have:=(CQ e 0 [] ts hp).1
   have hz:e.length -aQ ts=0:=by
    have:=congrArg List.length this
    rw[FK]at this
    simp[Dz]at this;omega
   simp only[o7,D5,hz,pd,List.replicate_zero,List.append_nil];cases ilt 1 (o8 (gI ts)) <;> rfl
 ·subst hi
  have hlt:=(O5.1 hn).1
  have hst:=xW ts
  have hof:=gz ts
  obtain⟨m,hm⟩:∃m,e.length -aQ ts=m+1:=⟨e.length -aQ ts -1,by omega⟩
  simp only[H6 hn,o6,E9 e,hn,o7,NL,hm]
  rw[←hst]
  simp only[Uk,Ul,o7,YC,FH,Et,Jd]
  rw[hst]
  rcases(AQ n.1).2.2 with h | h | h | h | h
  ·rw[show push n ts= .inl 2 by simp[push,h],h];rfl
  ·have e0:G5 .i64 (o8 (gI ts)) 0=((gI ts).length:Int):=by rw[I5 (by unfold I64 o8;omega)];simp[o8]
   rw[show push n ts= .inr (.l0 n::ts) by simp[push,h],h,E8 (by omega),o5,E8 (LG _),o5,o5,e0,show ja 0 ((gI ts).length:Int) (o8 (gI ts))=true by simp[ja,o8],o6,
    show gq (gI ts) (toN 0) (toN ((gI ts).length:Int))=gI ts by simp[gq,toN],aB _ (by omega),o7,O8 (by omega)]
   rw[show gI ts++[(aQ ts:Int)]=gI (.l0 n::ts)from rfl,LC]
   by_cases hc:12<(XT.l0 n::ts).length
   ·simp only[hc,decide_true,if_true,o6]
   ·simp only[hc,decide_false,if_false,o5,aQ,XT.size,stR,XT.sts,show e.length -(aQ ts+1)=m by omega]
  ·match ts with
   | []=>rw[show push n []= .inl 5 by simp[push,h],h];rfl
   | a::r=>
    obtain⟨p1,p2,p3,p4,p5⟩:=Kw [a] r 1 rfl (by simp at hl ⊢;omega) (by simp)
    simp only[List.cons_append,List.nil_append]at p1 p2 p3 p4 p5
    have:=xW (a::r);have:=gz r
    simp only[List.length_cons]at hl
    rw[show push n (a::r)= .inr (.l1 n a::r) by simp[push,h],h,E8 (by omega),o5,show(1:Int)=((1:Nat):Int)from rfl,Bi,show decide ((a::r).length<1)=false by simp]
    simp only[Int.natCast_one]at p1 ⊢
    rw[o5,F6 (by omega),o6,p1,p2,o7,p3,o7,p4,o6,p5]
    rw[←hst]
    try simp only[Jd,FH,Et,o7]
    rw[hst,aB _ (by omega),o7,O8 (by omega)]
    rw[show gI r++[(aQ r:Int)]=gI (.l1 n a::r)from rfl,LC]
    have hz:=FM (show push n (a::r)= .inr (.l1 n a::r) by simp[push,h])
    by_cases hc:12<(XT.l1 n a::r).length
    ·simp only[hc,decide_true,if_true,o6]
    ·simp only[hc,decide_false,if_false,o5,hz,show e.length -(aQ (a::r)+1)=m by omega,stR,XT.sts,List.append_assoc]
  ·match ts with
   | []=>rw[show push n []= .inl 5 by simp[push,h],h];rfl
   | [a]=>rw[show push n [a]= .inl 5 by simp[push,h],h];rfl
   | b::a::r=>
    obtain⟨p1,p2,p3,p4,p5⟩:=Kw [b,a] r 2 rfl (by simp at hl ⊢;omega) (by simp)
    simp only[List.cons_append,List.nil_append]at p1 p2 p3 p4 p5
    have:=xW (b::a::r);have:=gz r
    simp only[List.length_cons]at hl
    rw[show push n (b::a::r)= .inr (.l2 n a b::r) by simp[push,h],h,E8 (by omega),o5,show(2:Int)=((2:Nat):Int)from rfl,Bi,show decide ((b::a::r).length<2)=false by simp]
    rw[o5,F6 (by omega),o6,show((2:Nat):Int)=2 from rfl,p1,p2,o7,p3,o7,p4,o6,p5]
    rw[←hst]
    try simp only[Jd,FH,Et,o7]
    rw[hst,aB _ (by omega),o7,O8 (by omega)]
    rw[show gI r++[(aQ r:Int)]=gI (.l2 n a b::r)from rfl,LC]
    have hz:=FM (show push n (b::a::r)= .inr (.l2 n a b::r) by simp[push,h])
    by_cases hc:12<(XT.l2 n a b::r).length
    ·simp only[hc,decide_true,if_true,o6]
    ·rw[hz,show e.length -(aQ (b::a::r)+1)=m by omega,show stR (.l2 n a b::r)=stR (b::a::r)++[(aQ r:Int)] by simp only[stR,XT.sts,List.append_assoc,aQ]];simp only[hc,decide_false,if_false,o5]
  ·match ts with
   | []=>rw[show push n []= .inl 5 by simp[push,h],h];rfl
   | [a]=>rw[show push n [a]= .inl 5 by simp[push,h],h];rfl
   | [b,a]=>rw[show push n [b,a]= .inl 5 by simp[push,h],h];rfl
   | c::b::a::r=>
    obtain⟨p1,p2,p3,p4,p5⟩:=Kw [c,b,a] r 3 rfl (by simp at hl ⊢;omega) (by simp)
    simp only[List.cons_append,List.nil_append]at p1 p2 p3 p4 p5
    have:=xW (c::b::a::r);have:=gz r
    simp only[List.length_cons]at hl
    rw[show push n (c::b::a::r)= .inr (.l3 n a b c::r) by simp[push,h],h,E8 (by omega),o5,show(3:Int)=((3:Nat):Int)from rfl,Bi,show decide ((c::b::a::r).length<3)=false by simp]
    rw[o5,F6 (by omega),o6,show((3:Nat):Int)=3 from rfl,p1,p2,o7,p3,o7,p4,o6,p5]
    rw[←hst]
    try simp only[Jd,FH,Et,o7]
    rw[hst,aB _ (by omega),o7,O8 (by omega)]
    rw[show gI r++[(aQ r:Int)]=gI (.l3 n a b c::r)from rfl,LC]
    have hz:=FM (show push n (c::b::a::r)= .inr (.l3 n a b c::r) by simp[push,h])
    by_cases hc:12<(XT.l3 n a b c::r).length
    ·simp only[hc,decide_true,if_true,o6]
    ·rw[hz,show e.length -(aQ (c::b::a::r)+1)=m by omega,show stR (.l3 n a b c::r)=stR (c::b::a::r)++[(aQ r:Int)] by simp only[stR,XT.sts,List.append_assoc,aQ]];simp only[hc,decide_false,if_false,o5]
 ·simp only[hsz,H5];rfl
end Go.GP
namespace Go.GP
open Gt
set_option maxRecDepth 100000
def VT (t:Int×Int):Prop:=t=(1,0)∨t=(2,0)∨t=(3,0)∨t=(4,0)∨t=(5,0)∨∃e,t=(6,e)
theorem EY {t:Int×Int} {en:List bT} (h:vty t en=true):VT t:=by
 obtain⟨k,e⟩:=t
 unfold vty at h
 simp only at h
 cases h6:ieq k 6
 ·rw[h6,o5]at h
  cases h1:ile 1 k <;> rw[h1]at h
  ·cases h
  cases h5:ile k 5 <;> rw[h5]at h
  ·cases h
  simp only[o6,N8]at h
  rw[fM]at h1 h5
  subst h
  have:k=1∨k=2∨k=3∨k=4∨k=5:=by omega
  rcases this with rfl | rfl | rfl | rfl | rfl <;> simp[VT]
 ·rw[N8]at h6;subst h6
  exact .inr (.inr (.inr (.inr (.inr ⟨e,rfl⟩))))
def EN (n:Int×Int) (ops:List (Int×Int)) (sg:H8):Option ((Int×Int)×Int):=
 l7 (D6 (ieq n.2 0)) (l9 (dD n.1) fun u=>l7 (D6 u) (some ((0,0),2)) (U2 n ops sg)) (U2 n ops sg)
def lH (n:Int×Int) (ops:List (Int×Int)) (sg:H8):Prop:=∃r:(Int×Int)×Int,pg n ops sg=some r∧EN n ops sg=some r∧(r.2=0→VT r.1)
theorem VT.lit {k:Int} (h:1≤k∧k≤5):VT (k,0):=by
 have:k=1∨k=2∨k=3∨k=4∨k=5:=by omega
 rcases this with rfl | rfl | rfl | rfl | rfl <;> simp[VT]
theorem vW (a b:Int):ile a b= !ilt b a:=by
 simp only[ilt,ile];rw[←decide_not];congr 1;simp
theorem zU {α β:Type} (o:Option β) (f:α→Option β):l9 (l9 o fun x=>some (Sum.inr x)) (fun q=>J9 q f fun r=>some r)=o:=by cases o <;> rfl
theorem VT.enum (e:Int):VT (6,e):=.inr (.inr (.inr (.inr (.inr ⟨e,rfl⟩))))
theorem jI {R E:Option ((Int×Int)×Int)} {c:Int} (hc:c≠0) (h1:R=some ((0,0),c)) (h2:E=some ((0,0),c)):∃r:(Int×Int)×Int,R=some r∧E=some r∧(r.2=0→VT r.1):=⟨_,h1,h2,fun h=>absurd h hc⟩
theorem nok {R E:Option ((Int×Int)×Int)} {t:Int×Int} (hv:VT t) (h1:R=some (t,0)) (h2:E=some (t,0)):∃r:(Int×Int)×Int,R=some r∧E=some r∧(r.2=0→VT r.1):=⟨_,h1,h2,fun _=>hv⟩
def RR (a0:Int×Int) (a1:List (Int×Int)) (a2:H8):Option ((Int×Int)×Int):=
 l9 (jL a0 a2) fun(x:Bool)=>l7 (D6 x) (some ((0,0),3)) (l9 (lG a0 a2) fun(x:Bool)=>l7 (D6 x) (some ((0,0),6))
  (l7 (ieq (o8 a1) 0) (l9 (dW a0 a2) fun(x:nI×Bool)=>l7 (D6 x.2) (some ((0,0),8)) (some (x.1,0)))
  (l7 (ieq (o8 a1) 1) (l9 (lat a1 0) fun(x:nI)=>l9 (lQ a0 x a2) fun(x:nI×Bool)=>l7 (D6 x.2) (some ((0,0),8)) (some (x.1,0)))
  (l7 (ieq (o8 a1) 2) (l9 (lat a1 0) fun(x:nI)=>l9 (lat a1 1) fun(x_1:nI)=>l9 (pq a0.1 x x_1) fun(x:nI×Bool)=>l7 (D6 x.2) (some ((0,0),8)) (some (x.1,0)))
  (l9 (lat a1 1) fun(x:nI)=>l9 (lat a1 0) fun(x_1:nI)=>l7 (ieq x_1.1 1) (l9 (lat a1 1) fun(x_2:nI)=>l9 (lat a1 2) fun(x_3:nI)=>
   l7 (D6 (aK (ieq x_2.1 x_3.1) (ieq x_2.2 x_3.2))) (some ((0,0),8)) (some (x,0))) (l7 (D6 false) (some ((0,0),8)) (some (x,0))))))))
theorem b7U (n:Int×Int) (ops:List (Int×Int)) (sg:H8):pg n ops sg=l7 (D6 (ieq n.2 0)) (l9 (ah n.1) fun x=>l7 x (RR n ops sg) (some ((0,0),2))) (RR n ops sg):=by
 unfold pg
 cases ieq n.2 0
 ·simp only[E5,o6]
  cases ah n.1 with
  | none=>rfl
  | some b=>cases b <;> rfl
 ·rfl
theorem Eo {op N:Int} {ops:List (Int×Int)} {sg:H8} (h1:dD op=some true) (h2:ah op=some true)
  (h:∃r:(Int×Int)×Int,RR (op,N) ops sg=some r∧U2 (op,N) ops sg=some r∧(r.2=0→VT r.1)):lH (op,N) ops sg:=by
 unfold lH
 rw[b7U];unfold EN
 dsimp only
 rw[h1,h2]
 cases ieq N 0 <;> exact h
theorem Kr {op N:Int} {ops:List (Int×Int)} {sg:H8} (h1:dD op=some false) (h2:ah op=some false)
  (h:∃r:(Int×Int)×Int,RR (op,0) ops sg=some r∧U2 (op,0) ops sg=some r∧(r.2=0→VT r.1)):lH (op,N) ops sg:=by
 unfold lH
 rw[b7U];unfold EN
 dsimp only
 rw[h1,h2]
 cases hz:ieq N 0
 ·exact jI (c:=2) (by decide) rfl rfl
 ·rw[N8]at hz;subst hz;exact h
section
variable (N:Int) (sg:H8)
theorem a4P {k:Int} (hk:k=1∨k=2∨k=3∨k=4∨k=5):lH (k,N) [] sg:=by
 have hv:vty (k,0) sg.1=true:=by rcases hk with rfl | rfl | rfl | rfl | rfl <;> rfl
 have hm:dD k=some true∧ah k=some true:=by rcases hk with rfl | rfl | rfl | rfl | rfl <;> exact⟨rfl,rfl⟩
 refine Eo hm.1 hm.2 ?_
 have key:U2 (k,N) [] sg=dJ N k sg:=by rcases hk with rfl | rfl | rfl | rfl | rfl <;> exact zU _ _
 have key2:RR (k,N) [] sg=l9 (l9 (fU (k,0) sg.1) fun(x:nI)=>l7 (ile x.1 N) (some (ile N x.2)) (some false)) fun(x:Bool)=>l7 (D6 x) (some ((0,0),3)) (some ((k,0),0)):=by
  rcases hk with rfl | rfl | rfl | rfl | rfl <;> rfl
 rw[key,key2]
 unfold dJ
 rw[JE,Hr,o7,o7,iF,iF]
 cases ile (bnd (k,0) sg.1).1 N
 ·exact jI (c:=3) (by decide) rfl rfl
 cases ile N (bnd (k,0) sg.1).2
 ·exact jI (c:=3) (by decide) rfl rfl
 ·exact nok (EY hv) rfl rfl
theorem a2z (hN:I64 N):lH (6,N) [] sg:=by
 have hq:0≤N→V5 .i64 N 16=N / 16:=fun h=>by rw[tV (by rw[aC h];unfold I64 at*;omega),aC h]
 refine Eo rfl rfl ?_
 have hf:lG (6,N) sg=l7 (ilt (V5 .i64 N 16) (o8 sg.1)) (l9 (lat sg.1 (V5 .i64 N 16)) fun(x:bT)=>some (ilt (V6 N 16) (o8 x.2))) (some false):=rfl
 have hl:dW (6,N) sg=some ((6,V5 .i64 N 16),vty (6,V5 .i64 N 16) sg.1):=by
  unfold dW;simp only[aZ];rfl
 rw[show U2 (6,N) [] sg=vV N sg from zU _ _]
 unfold RR vV
 rw[hf,show jL (6,N) sg=some (ile 0 N)from rfl,hl]
 by_cases h0:0≤N
 ·rw[E8 h0,G7 h0,hq h0]
  by_cases h1:N / 16<o8 sg.1
  ·obtain⟨x,hx,_⟩:=cZ (show 0≤N / 16 by omega) h1
   rw[F6 h1,G8 h1,hx,show vty (6,N / 16) sg.1=true by unfold vty;simp only[G7 (show 0≤N / 16 by omega),F6 h1];rfl]
   simp only[o7,iF]
   cases ile (o8 x.2) (V6 N 16)
   ·exact nok (VT.enum (N / 16)) rfl rfl
   ·exact jI (c:=6) (by decide) rfl rfl
  ·have h1' :o8 sg.1≤N / 16:=by omega
   rw[E8 h1',G7 h1']
   exact jI (c:=6) (by decide) rfl rfl
 ·rw[F6 (show N<0 by omega),G8 (show N<0 by omega)]
  exact jI (c:=3) (by decide) rfl rfl
theorem uj (ts:List (Int×Int)) (en:H8):(∃x,lat ts N=some x∧ile 0 N=true∧ilt N (o8 ts)=true∧dA N ts en=some (l7 (vty x en.1) (x,0) ((0,0),8)))∨((ile 0 N=false∨ile 0 N=true∧ilt N (o8 ts)=false)∧dA N ts en=some ((0,0),6)):=by
 unfold dA
 rw[iF N 0,vW (o8 ts) N]
 cases h0:ile 0 N
 ·exact .inr ⟨.inl (by simp),rfl⟩
 cases h1:ilt N (o8 ts)
 ·exact .inr ⟨.inr (by simp),rfl⟩
 rw[fM]at h0;rw[Y4]at h1
 obtain⟨x,hx,_⟩:=cZ h0 h1
 rw[hx]
 simp only[Bool.not_true,Bool.not_false,o5,o6,o7,qc]
 exact .inl ⟨x,rfl,by simp,by simp,by cases vty x en.1 <;> rfl⟩
theorem a8O:lH (7,N) [] sg:=by
 refine Eo rfl rfl ?_
 rw[show U2 (7,N) [] sg=dA N sg.2.2.1 sg from zU _ _]
 have hf:lG (7,N) sg=l7 (ile 0 N) (some (ilt N (o8 sg.2.2.1))) (some false):=rfl
 unfold RR
 rw[hf,show jL (7,N) sg=some true from rfl]
 rcases uj N sg.2.2.1 sg with⟨x,h1,h2,h3,h4⟩ | ⟨h1 | ⟨h1,h2⟩,h4⟩
 ·have hl:dW (7,N) sg=some (x,vty x sg.1):=by
   unfold dW;dsimp only;rw[h1];simp only[aZ];rfl
  rw[h2,h3,h4,hl]
  cases hv:vty x sg.1
  ·exact jI (c:=8) (by decide) rfl rfl
  ·exact nok (EY hv) rfl rfl
 ·rw[h1,h4];exact jI (c:=6) (by decide) rfl rfl
 ·rw[h1,h2,h4];exact jI (c:=6) (by decide) rfl rfl
theorem a4N:lH (8,N) [] sg:=by
 refine Eo rfl rfl ?_
 rw[show U2 (8,N) [] sg=dA N sg.2.2.2.1 sg from zU _ _]
 have hf:lG (8,N) sg=l7 (ile 0 N) (some (ilt N (o8 sg.2.2.2.1))) (some false):=rfl
 unfold RR
 rw[hf,show jL (8,N) sg=some true from rfl]
 rcases uj N sg.2.2.2.1 sg with⟨x,h1,h2,h3,h4⟩ | ⟨h1 | ⟨h1,h2⟩,h4⟩
 ·have hl:dW (8,N) sg=some (x,vty x sg.1):=by
   unfold dW;dsimp only;rw[h1];simp only[aZ];rfl
  rw[h2,h3,h4,hl]
  cases hv:vty x sg.1
  ·exact jI (c:=8) (by decide) rfl rfl
  ·exact nok (EY hv) rfl rfl
 ·rw[h1,h4];exact jI (c:=6) (by decide) rfl rfl
 ·rw[h1,h2,h4];exact jI (c:=6) (by decide) rfl rfl
theorem a2y:lH (9,N) [] sg:=Kr rfl rfl (nok (VT.lit (k:=5) (by omega)) rfl rfl)
theorem Yv:lH (35,N) [] sg:=by
 refine Kr rfl rfl ?_
 rw[show U2 (35,0) [] sg=jv (35,0) sg from zU _ _]
 unfold RR jv
 simp only[jL,lG,dW,aZ,o7]
 cases sg.2.2.2.2.2
 ·exact jI (c:=6) (by decide) rfl rfl
 ·exact nok (VT.lit (k:=2) (by omega)) rfl rfl
theorem a4Q {k:Int} (hk:k=36∨k=37∨k=38∨k=39):lH (k,N) [] sg:=by
 have hm:dD k=some true∧ah k=some true∧ieq k 35=false:=by rcases hk with rfl | rfl | rfl | rfl <;> exact⟨rfl,rfl,rfl⟩
 refine Eo hm.1 hm.2.1 ?_
 rw[show U2 (k,N) [] sg=jv (k,N) sg by rcases hk with rfl | rfl | rfl | rfl <;> exact zU _ _]
 have hr:RR (k,N) [] sg=l9 (l7 sg.2.2.2.2.2 (l7 (ile 0 N) (some (ilt N (o8 sg.2.2.2.2.1))) (some false)) (some false)) fun(x:Bool)=>l7 (D6 x) (some ((0,0),6))
   (l9 (dW (k,N) sg) fun(x:nI×Bool)=>l7 (D6 x.2) (some ((0,0),8)) (some (x.1,0))):=by rcases hk with rfl | rfl | rfl | rfl <;> rfl
 rw[hr]
 unfold jv
 rw[hm.2.2,o5]
 cases sg.2.2.2.2.2
 ·exact jI (c:=6) (by decide) rfl rfl
 simp only[o6,x8,o5]
 rcases uj N sg.2.2.2.2.1 sg with⟨x,h1,h2,h3,h4⟩ | ⟨h1 | ⟨h1,h2⟩,h4⟩
 ·rw[h2,h3,h4]
  have hl:dW (k,N) sg=l9 (some (l7 (ieq k 36) (l7 (vty x sg.1) (l7 (ieq x.1 2) true (ieq x.1 3)) false) (l7 (ieq k 39) (l7 (vty x sg.1) (l7 (ieq x.1 2) true (l7 (ieq x.1 3) true (l7 (ieq x.1 4) true (ieq x.1 5)))) false) (l7 (vty x sg.1) (ieq x.1 1) false)))) fun b=>some (x,b):=by
   unfold dW
   simp only[aZ,kz,pz]
   rcases hk with rfl | rfl | rfl | rfl <;> (rw[h1];simp only[ieq,Int.reduceEq,decide_true,decide_false,o6,o5,o7];cases vty x sg.1 <;> cases decide (x.1=2) <;> cases decide (x.1=3) <;> cases decide (x.1=4) <;> rfl)
  rw[hl]
  simp only[o7,fK]
  cases hv:vty x sg.1
  ·rcases hk with rfl | rfl | rfl | rfl <;> exact jI (c:=8) (by decide) rfl rfl
  ·have hx:=EY hv
   rcases hk with rfl | rfl | rfl | rfl <;> rcases hx with rfl | rfl | rfl | rfl | rfl | ⟨e,rfl⟩ <;>
    first
    | exact nok (EY hv) rfl rfl
    | exact jI (c:=8) (by decide) rfl rfl
 ·rw[h1,h4];exact jI (c:=6) (by decide) rfl rfl
 ·rw[h1,h2,h4];exact jI (c:=6) (by decide) rfl rfl
end
end Go.GP
namespace Go.GP
open Gt
set_option maxRecDepth 100000
section
variable (N:Int) (sg:H8)
theorem a8P {k:Int} (hk:k=10∨k=25∨k=31∨k=32) {a:Int×Int} (ha:VT a):lH (k,N) [a] sg:=by
 have hm:dD k=some false∧ah k=some false:=by rcases hk with rfl | rfl | rfl | rfl <;> exact⟨rfl,rfl⟩
 refine Kr hm.1 hm.2 ?_
 rcases hk with rfl | rfl | rfl | rfl <;> rcases ha with rfl | rfl | rfl | rfl | rfl | ⟨e,rfl⟩ <;>
  first
  | exact nok (VT.lit (k:=1) (by omega)) rfl rfl
  | exact nok (VT.lit (k:=2) (by omega)) rfl rfl
  | exact nok (VT.lit (k:=3) (by omega)) rfl rfl
  | exact nok (VT.lit (k:=4) (by omega)) rfl rfl
  | exact jI (c:=8) (by decide) rfl rfl
theorem a4M {k:Int} (hk:k=13∨k=23∨k=24∨k=27∨k=28∨k=29∨k=30) {a b:Int×Int} (ha:VT a) (hb:VT b):lH (k,N) [a,b] sg:=by
 have hm:dD k=some false∧ah k=some false:=by rcases hk with rfl | rfl | rfl | rfl | rfl | rfl | rfl <;> exact⟨rfl,rfl⟩
 refine Kr hm.1 hm.2 ?_
 rcases hk with rfl | rfl | rfl | rfl | rfl | rfl | rfl <;> rcases ha with rfl | rfl | rfl | rfl | rfl | ⟨e,rfl⟩ <;> rcases hb with rfl | rfl | rfl | rfl | rfl | ⟨f,rfl⟩ <;>
  first
  | exact jI (c:=8) (by decide) rfl rfl
  | exact nok (VT.lit (k:=1) (by omega)) rfl rfl
  | exact nok (VT.lit (k:=2) (by omega)) rfl rfl
  | exact nok (VT.lit (k:=3) (by omega)) rfl rfl
  | exact nok (VT.lit (k:=4) (by omega)) rfl rfl
  | exact nok (VT.lit (k:=5) (by omega)) rfl rfl
theorem a2A {k:Int} (hk:k=14∨k=15∨k=16) {a b:Int×Int} (ha:VT a) (hb:VT b):lH (k,N) [a,b] sg:=by
 have hm:dD k=some true∧ah k=some true:=by rcases hk with rfl | rfl | rfl <;> exact⟨rfl,rfl⟩
 refine Eo hm.1 hm.2 ?_
 have hr:RR (k,N) [a,b] sg=l9 (l7 (ile 0 N) (some (ile N 5)) (some false)) fun x=>l7 (D6 x) (some ((0,0),3)) (l9 (pq k a b) fun x=>l7 (D6 x.2) (some ((0,0),8)) (some (x.1,0))):=by
  rcases hk with rfl | rfl | rfl <;> rfl
 have he:U2 (k,N) [a,b] sg=l9 (l7 (ile 0 N) (some (ile N 5)) (some false)) fun x=>l7 (D6 x) (some ((0,0),3)) (l9 (gX k [a,b]) fun x=>l7 (D6 x.2) (some ((0,0),8)) (some (x.1,0))):=by
  rcases hk with rfl | rfl | rfl <;>
   (show l9 (l9 (gm N) fun x=>l7 (D6 x) (some (Sum.inr (((0:Int),(0:Int)),(3:Int)))) (some (.inl ((0:Int),(0:Int))))) _=_
    unfold gm
    cases ile 0 N <;> cases ile N 5 <;> rfl)
 rw[hr,he]
 cases ile 0 N
 ·exact jI (c:=3) (by decide) rfl rfl
 cases ile N 5
 ·exact jI (c:=3) (by decide) rfl rfl
 rcases hk with rfl | rfl | rfl <;> rcases ha with rfl | rfl | rfl | rfl | rfl | ⟨e,rfl⟩ <;> rcases hb with rfl | rfl | rfl | rfl | rfl | ⟨f,rfl⟩ <;>
  first
  | exact jI (c:=8) (by decide) rfl rfl
  | exact nok (VT.lit (k:=2) (by omega)) rfl rfl
  | exact nok (VT.lit (k:=3) (by omega)) rfl rfl
  | exact nok (VT.lit (k:=4) (by omega)) rfl rfl
theorem a2B {k:Int} (hk:k=11∨k=12∨k=17∨k=18∨k=19∨k=20∨k=21∨k=22) {a b:Int×Int} (ha:VT a):lH (k,N) [a,b] sg:=by
 have hm:dD k=some false∧ah k=some false:=by rcases hk with rfl | rfl | rfl | rfl | rfl | rfl | rfl | rfl <;> exact⟨rfl,rfl⟩
 refine Kr hm.1 hm.2 ?_
 have hr:RR (k,0) [a,b] sg=l9 (pq k a b) fun x=>l7 (D6 x.2) (some ((0,0),8)) (some (x.1,0)):=by
  rcases hk with rfl | rfl | rfl | rfl | rfl | rfl | rfl | rfl <;> rfl
 have he:U2 (k,0) [a,b] sg=l9 (gX k [a,b]) fun x=>l7 (D6 x.2) (some ((0,0),8)) (some (x.1,0)):=by
  rcases hk with rfl | rfl | rfl | rfl | rfl | rfl | rfl | rfl <;> rfl
 rw[hr,he]
 unfold pq gX
 simp only[show lat [a,b] 0=some a from rfl,show lat [a,b] 1=some b from rfl,o7,pz,kz,aW,fK]
 cases h1:ieq a.1 b.1
 ·rcases hk with rfl | rfl | rfl | rfl | rfl | rfl | rfl | rfl <;> exact jI (c:=8) (by decide) rfl rfl
 cases h2:ieq a.2 b.2
 ·rcases hk with rfl | rfl | rfl | rfl | rfl | rfl | rfl | rfl <;> exact jI (c:=8) (by decide) rfl rfl
 have ha' :=ha
 rcases hk with rfl | rfl | rfl | rfl | rfl | rfl | rfl | rfl <;> rcases ha with rfl | rfl | rfl | rfl | rfl | ⟨e,rfl⟩ <;>
  first
  | exact nok ha' rfl rfl
  | exact nok (VT.lit (k:=1) (by omega)) rfl rfl
  | exact jI (c:=8) (by decide) rfl rfl
theorem a8N {a b c:Int×Int} (ha:VT a) (hb:VT b):lH (26,N) [a,b,c] sg:=by
 refine Kr rfl rfl ?_
 have hr:RR (26,0) [a,b,c] sg=l7 (ieq a.1 1) (l7 (D6 (aK (ieq b.1 c.1) (ieq b.2 c.2))) (some ((0,0),8)) (some (b,0))) (some ((0,0),8)):=rfl
 have he:U2 (26,0) [a,b,c] sg=l9 (gX 26 [a,b,c]) fun x=>l7 (D6 x.2) (some ((0,0),8)) (some (x.1,0)):=rfl
 have he2:gX 26 [a,b,c]=l9 (l7 (ieq a.1 1) (some (Sum.inr (b,aK (ieq b.1 c.1) (ieq b.2 c.2)))) (some (Sum.inr (b,false)))) fun(o:nI⊕nI×Bool)=>J9 o (fun(x:nI)=>some ((0,0),false)) fun(r:nI×Bool)=>some r:=rfl
 rw[hr,he,he2]
 cases ieq a.1 1
 ·exact jI (c:=8) (by decide) rfl rfl
 cases ieq b.1 c.1
 ·exact jI (c:=8) (by decide) rfl rfl
 cases ieq b.2 c.2
 ·exact jI (c:=8) (by decide) rfl rfl
 ·exact nok hb rfl rfl
theorem WA {a:Int×Int} (ha:VT a):lH (33,N) [a] sg:=by
 refine Eo rfl rfl ?_
 have he:U2 (33,N) [a] sg=kR (33,N) a sg:=zU _ _
 have hr:RR (33,N) [a] sg=l9 (l7 (ile 0 N) (some (ilt N (o8 sg.2.1))) (some false)) fun x=>l7 (D6 x) (some ((0,0),6)) (l9 (lQ (33,N) a sg) fun x=>l7 (D6 x.2) (some ((0,0),8)) (some (x.1,0))):=rfl
 have hs:lQ (33,N) a sg=l9 (lat sg.2.1 N) fun(x:Y1)=>l9 (V7 x.2.1 sg.1) fun(x_1:Bool)=>l7 x_1 (l9 (V7 x.2.2.1 sg.1) fun(x_2:Bool)=>l7 x_2 (some (x.2.2.1,aK (ieq a.1 x.2.1.1) (ieq a.2 x.2.1.2))) (some (x.2.2.1,false))) (some (x.2.2.1,false)):=rfl
 rw[he,hr,hs]
 unfold kR
 simp only[ieq,Int.reduceEq,decide_false,o5,o7,D5,iF N 0,vW (o8 sg.2.1) N]
 cases h0:ile 0 N
 ·exact jI (c:=6) (by decide) rfl rfl
 cases h1:ilt N (o8 sg.2.1)
 ·exact jI (c:=6) (by decide) rfl rfl
 rw[fM]at h0;rw[Y4]at h1
 obtain⟨x,hx,_⟩:=cZ h0 h1
 simp only[o7,D5,Bool.not_true,o5,hx,qc,aZ,E5,o6]
 cases vty x.2.1 sg.1
 ·exact jI (c:=8) (by decide) rfl rfl
 cases hv:vty x.2.2.1 sg.1
 ·exact jI (c:=8) (by decide) rfl rfl
 simp only[x8,o5,o6,o7]
 cases aK (decide (a.1=x.2.1.1)) (decide (a.2=x.2.1.2))
 ·exact jI (c:=8) (by decide) rfl rfl
 ·exact nok (EY hv) rfl rfl
theorem QI (hN:I64 N) {a:Int×Int} (ha:VT a):lH (34,N) [a] sg:=by
 refine Eo rfl rfl ?_
 have he:U2 (34,N) [a] sg=kR (34,N) a sg:=zU _ _
 have hr:RR (34,N) [a] sg=l9 (l7 (ile 0 N) (some (ile (V6 N 8) 5)) (some false)) fun x=>l7 (D6 x) (some ((0,0),3)) (l7 (D6 (ilt (V5 .i64 N 8) (o8 sg.2.1))) (some ((0,0),6)) (l9 (lQ (34,N) a sg) fun x=>l7 (D6 x.2) (some ((0,0),8)) (some (x.1,0)))):=rfl
 have hs:lQ (34,N) a sg=l9 (lat sg.2.1 (V5 .i64 N 8)) fun(x:Y1)=>l7 (ieq a.1 3) (l7 (aK (ieq x.2.1.1 3) (ieq x.2.1.2 0)) (some (a,aK (ieq x.2.2.1.1 4) (ieq x.2.2.1.2 0))) (some (a,false))) (some (a,false)):=rfl
 rw[he,hr,hs]
 unfold kR gm
 by_cases h0:0≤N
 case neg=>
  rw[G8 (show N<0 by omega),F6 (show N<0 by omega)]
  exact jI (c:=3) (by decide) rfl rfl
 have hq:V5 .i64 N 8=N / 8:=by rw[tV (by rw[aC h0];unfold I64 at*;omega),aC h0]
 rw[G7 h0,E8 h0,hq,qo h0]
 simp only[ieq,Int.reduceEq,decide_true,o6,o5,G7 (show 0≤N % 8 by omega),o7]
 cases ile (N % 8) 5
 ·exact jI (c:=3) (by decide) rfl rfl
 simp only[x8,o5,o7,D5,E8 (show 0≤N / 8 by omega),vW]
 cases h1:ilt (N / 8) (o8 sg.2.1)
 ·exact jI (c:=6) (by decide) rfl rfl
 rw[Y4]at h1
 obtain⟨x,hx,_⟩:=cZ (show 0≤N / 8 by omega) h1
 simp only[hx,Bool.not_true,o5,o7,D5,qc,x8]
 obtain⟨nm,⟨k1,k2⟩,⟨v1,v2⟩,rows⟩:=x
 dsimp only
 by_cases hK:k1=3∧k2=0
 ·obtain⟨rfl,rfl⟩:=hK
  by_cases hV:v1=4∧v2=0
  ·obtain⟨rfl,rfl⟩:=hV
   rcases ha with rfl | rfl | rfl | rfl | rfl | ⟨e,rfl⟩ <;>
    first
    | exact nok (VT.lit (k:=3) (by omega)) rfl rfl
    | exact jI (c:=8) (by decide) rfl rfl
  ·have hE:vty (v1,v2) sg.1=true→v1≠4:=fun hv h=>by
    subst h
    rcases EY hv with h | h | h | h | h | ⟨e,h⟩ <;> cases h
    exact hV ⟨rfl,rfl⟩
   have hR:aK (decide (v1=4)) (decide (v2=0))=false:=by
    by_cases h1:v1=4
    ·have:v2≠0:=fun h2=>hV ⟨h1,h2⟩
     simp[aK,h1,this]
    ·simp[aK,h1]
   rw[hR]
   cases hv:vty (v1,v2) sg.1
   ·rcases ha with rfl | rfl | rfl | rfl | rfl | ⟨e,rfl⟩ <;> exact jI (c:=8) (by decide) rfl rfl
   ·have h4:=hE hv
    rw[show decide (v1=4)=false by simp[h4]]
    rcases ha with rfl | rfl | rfl | rfl | rfl | ⟨e,rfl⟩ <;> exact jI (c:=8) (by decide) rfl rfl
 ·have hR:aK (decide (k1=3)) (decide (k2=0))=false:=by
   by_cases h1:k1=3
   ·have:k2≠0:=fun h2=>hK ⟨h1,h2⟩
    simp[aK,h1,this]
   ·simp[aK,h1]
  rw[hR]
  cases hv:vty (k1,k2) sg.1
  ·rcases ha with rfl | rfl | rfl | rfl | rfl | ⟨e,rfl⟩ <;> exact jI (c:=8) (by decide) rfl rfl
  cases hw:vty (v1,v2) sg.1
  ·rcases ha with rfl | rfl | rfl | rfl | rfl | ⟨e,rfl⟩ <;> exact jI (c:=8) (by decide) rfl rfl
  have h3:k1≠3:=fun h=>by
   subst h
   rcases EY hv with h | h | h | h | h | ⟨e,h⟩ <;> cases h
   exact hK ⟨rfl,rfl⟩
  simp only[show decide (k1=3)=false by simp[h3],x8,o5,o6,o7]
  cases aK (decide (a.1=k1)) (decide (a.2=k2))
  ·cases decide (a.1=3) <;> exact jI (c:=8) (by decide) rfl rfl
  ·cases decide (a.1=3) <;> exact jI (c:=8) (by decide) rfl rfl
theorem Ud (n:Int×Int) (hN:I64 n.2) (ops:List (Int×Int)) (hv:∀t∈ops,VT t) (hl:o8 ops=arF n.1):lH n ops sg:=by
 obtain⟨op,N⟩:=n
 dsimp only at hN hl
 have hr:1≤op∧op≤39:=by
  by_cases h:1≤op∧op≤39
  ·exact h
  ·have:arF op=-1:=by unfold arF;rw[a1a h];rfl
   rw[this]at hl;simp[o8]at hl
 have hc:op=1∨op=2∨op=3∨op=4∨op=5∨op=6∨op=7∨op=8∨op=9∨op=10∨op=11∨op=12∨op=13∨op=14∨op=15∨op=16∨op=17∨op=18∨op=19∨op=20∨op=21∨op=22∨op=23∨op=24∨op=25∨op=26∨op=27∨op=28∨op=29∨op=30∨op=31∨op=32∨op=33∨op=34∨op=35∨op=36∨op=37∨op=38∨op=39:=by omega
 have L0:arF op=0→ops=[]:=fun h=>by rw[h]at hl;simp only[o8]at hl;exact List.length_eq_zero_iff.1 (by omega)
 have L1:arF op=1→∃a,ops=[a]∧VT a:=fun h=>by
  rw[h]at hl;simp only[o8]at hl
  match ops,hl,hv with
  | [a],_,hv=>exact⟨a,rfl,hv a (by simp)⟩
  | [],hl,_=>simp at hl
  | a::b::r,hl,_=>simp at hl;omega
 have L2:arF op=2→∃a b,ops=[a,b]∧VT a∧VT b:=fun h=>by
  rw[h]at hl;simp only[o8]at hl
  match ops,hl,hv with
  | [a,b],_,hv=>exact⟨a,b,rfl,hv a (by simp),hv b (by simp)⟩
  | [],hl,_=>simp at hl
  | [a],hl,_=>simp at hl
  | a::b::c::r,hl,_=>simp at hl;omega
 have L3:arF op=3→∃a b c,ops=[a,b,c]∧VT a∧VT b:=fun h=>by
  rw[h]at hl;simp only[o8]at hl
  match ops,hl,hv with
  | [a,b,c],_,hv=>exact⟨a,b,c,rfl,hv a (by simp),hv b (by simp)⟩
  | [],hl,_=>simp at hl
  | [a],hl,_=>simp at hl
  | [a,b],hl,_=>simp at hl
  | a::b::c::d::r,hl,_=>simp at hl;omega
 rcases hc with rfl | rfl | rfl | rfl | rfl | rfl | rfl | rfl | rfl | rfl | rfl | rfl | rfl | rfl | rfl | rfl | rfl | rfl | rfl | rfl | rfl | rfl | rfl | rfl | rfl | rfl | rfl | rfl | rfl | rfl | rfl | rfl | rfl | rfl | rfl | rfl | rfl | rfl | rfl <;>
  first
  | (rw[L0 rfl];first | exact a4P N sg (by omega) | exact a2z N sg hN | exact a8O N sg | exact a4N N sg | exact a2y N sg | exact Yv N sg | exact a4Q N sg (by omega))
  | (obtain⟨a,rfl,ha⟩:=L1 rfl;first | exact a8P N sg (by omega) ha | exact WA N sg ha | exact QI N sg hN ha)
  | (obtain⟨a,b,rfl,ha,hb⟩:=L2 rfl;first | exact a4M N sg (by omega) ha hb | exact a2A N sg (by omega) ha hb | exact a2B N sg (by omega) ha)
  | (obtain⟨a,b,c,rfl,ha,hb⟩:=L3 rfl;exact a8N N sg ha hb)
end
end Go.GP
namespace Go.GP
open Gt
set_option maxRecDepth 100000
def XT.wf:XT→Prop
 | .l0 n=>arF n.1=0
 | .l1 n a=>arF n.1=1∧a.wf
 | .l2 n a b=>arF n.1=2∧a.wf∧b.wf
 | .l3 n a b c=>arF n.1=3∧a.wf∧b.wf∧c.wf
theorem a8U {n:Int×Int} {ts ts' :List XT} (h:push n ts= .inr ts') (hw:∀t∈ts,t.wf):∀t∈ts',t.wf:=by
 unfold push at h
 split at h
 ·cases h;intro t ht
  rcases List.mem_cons.1 ht with rfl | ht
  ·assumption
  ·exact hw t ht
 split at h
 ·split at h
  ·cases h;intro t ht
   rcases List.mem_cons.1 ht with rfl | ht
   ·exact⟨by assumption,hw _ (by simp)⟩
   ·exact hw t (by simp[ht])
  ·cases h
 split at h
 ·split at h
  ·cases h;intro t ht
   rcases List.mem_cons.1 ht with rfl | ht
   ·exact⟨by assumption,hw _ (by simp),hw _ (by simp)⟩
   ·exact hw t (by simp[ht])
  ·cases h
 split at h
 ·split at h
  ·cases h;intro t ht
   rcases List.mem_cons.1 ht with rfl | ht
   ·exact⟨by assumption,hw _ (by simp),hw _ (by simp),hw _ (by simp)⟩
   ·exact hw t (by simp[ht])
  ·cases h
 ·cases h
theorem WJ:∀(es:List (Int×Int)) (i:Nat) (ts ts' :List XT),mW i es ts= .inr ts' →(∀t∈ts,t.wf)→∀t∈ts',t.wf
 | [],i,ts,ts',h,hw=>by cases h;exact hw
 | n::es,i,ts,ts',h,hw=>by
  unfold mW at h
  cases hp:push n ts with
  | inl c=>rw[hp]at h;cases h
  | inr t2=>
   rw[hp]at h
   simp only at h
   split at h
   ·cases h
   ·exact WJ es (i+1) t2 ts' h (a8U hp hw)
theorem FU {e:List (Int×Int)} {t:XT} (h:eQ e= .inr t):t.wf:=by
 unfold eQ at h
 split at h
 ·cases h
 split at h
 ·cases h
 split at h
 ·cases h
 ·rename_i t' hp
  cases h
  exact WJ e 0 [] [t] hp (by simp) t (by simp)
 ·cases h
def KL (n:Int×Int) (ops:List (Int×Int)) (sg:H8):(Int×Int)×Int:=(pg n ops sg).getD ((0,0),0)
def yM (sg:H8) (n:Int×Int) (ops:List (Int×Int)) (i:Nat):(Int×Int)⊕(Int×Int):=if(KL n ops sg).2=0 then .inr (KL n ops sg).1 else .inl ((i:Int),(KL n ops sg).2)
def dM (sg:H8):XT→Nat→(Int×Int)⊕(Int×Int)
 | .l0 n,o=>yM sg n [] o
 | .l1 n a,o=>match dM sg a o with
  | .inl x=> .inl x
  | .inr ta=>yM sg n [ta] (o+a.size)
 | .l2 n a b,o=>match dM sg a o with
  | .inl x=> .inl x
  | .inr ta=>match dM sg b (o+a.size)with
   | .inl x=> .inl x
   | .inr tb=>yM sg n [ta,tb] (o+a.size+b.size)
 | .l3 n a b c,o=>match dM sg a o with
  | .inl x=> .inl x
  | .inr ta=>match dM sg b (o+a.size)with
   | .inl x=> .inl x
   | .inr tb=>match dM sg c (o+a.size+b.size)with
    | .inl x=> .inl x
    | .inr tc=>yM sg n [ta,tb,tc] (o+a.size+b.size+c.size)
theorem IY {sg:H8} {n:Int×Int} {ops:List (Int×Int)} {i:Nat} {t:Int×Int} (hN:I64 n.2) (hv:∀t∈ops,VT t) (hl:o8 ops=arF n.1) (h:yM sg n ops i= .inr t):VT t:=by
 obtain⟨r,h1,h2,h3⟩:=Ud sg n hN ops hv hl
 unfold yM at h
 split at h
 ·rename_i h0
  cases h
  have e:KL n ops sg=r:=by unfold KL;rw[h1];rfl
  rw[e]at h0 ⊢
  exact h3 h0
 ·cases h
section
variable (e:List (Int×Int)) (sg:H8) (z:Int×Int)
def a9Z (f:(Int×Int)×List (Int×Int)×Int→Option (Out ((Int×Int)×List (Int×Int)×Int) ((Int×Int)×List (Int×Int)) ((Int×Int)×Int×Int))):Prop:=
 ∀(i:Nat) (n:Int×Int) (s ops:List (Int×Int)),e[i]? =some n→i≤100→o8 ops=arF n.1→(∀t∈ops,VT t)→s.length+ops.length≤100→
  f (z,s++ops,(i:Int))=some (match yM sg n ops i with | .inl x=> .rt ((0,0),x) | .inr t=> .nx (z,s++[t],((i+1:Nat):Int)))
theorem a3u {f:(Int×Int)×List (Int×Int)×Int→Option (Out ((Int×Int)×List (Int×Int)×Int) ((Int×Int)×List (Int×Int)) ((Int×Int)×Int×Int))}
  (he:e.length≤48) (hI:∀n∈e,I64 n.2) (hs:a9Z e sg z f):∀(t:XT),t.wf→∀(pre suf s:List (Int×Int)) (k:Nat),e=pre++t.post++suf→s.length≤pre.length→
  dP f (k+t.size) (z,s,(pre.length:Int))=(match dM sg t pre.length with | .inl x=>some (.inr ((0,0),x)) | .inr r=>dP f k (z,s++[r],((pre.length+t.size:Nat):Int)))∧∀r,dM sg t pre.length= .inr r→VT r:=by
 intro t
 have step:∀(i k:Nat) (n:Int×Int) (s ops:List (Int×Int)),e[i]? =some n→o8 ops=arF n.1→(∀t∈ops,VT t)→s.length+ops.length≤100→
   dP f (k+1) (z,s++ops,(i:Int))=(match yM sg n ops i with | .inl x=>some (.inr ((0,0),x)) | .inr r=>dP f k (z,s++[r],((i+1:Nat):Int))):=by
  intro i k n s ops h1 h2 h3 h4
  rw[dP,hs i n s ops h1 (by have:=(O5.1 h1).1;omega) h2 h3 h4]
  cases yM sg n ops i <;> rfl
 have getn:∀(pre suf:List (Int×Int)) (n:Int×Int),e=pre++[n]++suf→e[pre.length]? =some n:=by
  intro pre suf n h
  rw[h,List.append_assoc,List.getElem?_append_right (by omega),Nat.sub_self];rfl
 have mem:∀(i:Nat) (n:Int×Int),e[i]? =some n→I64 n.2:=fun i n h=>hI n (dN h)
 induction t with
 | l0 n=>
  intro hw pre suf s k hd hl
  have hn:=getn pre suf n hd
  have hlen:pre.length<e.length:=(O5.1 hn).1
  have hz:o8 ([]:List (Int×Int))=arF n.1:=by rw[show arF n.1=0 from hw];rfl
  have h:=step pre.length k n s [] hn hz (by simp) (by simp;omega)
  rw[List.append_nil]at h
  exact⟨h,fun r hr=>IY (mem _ n hn) (by simp) hz hr⟩
 | l1 n a iha=>
  intro hw pre suf s k hd hl
  simp only[XT.post,List.append_assoc]at hd
  have hpa:(pre++a.post).length=pre.length+a.size:=by simp[XT.post_len]
  have hn:=getn (pre++a.post) suf n (by simpa using hd)
  rw[hpa]at hn
  have hlen:=(O5.1 hn).1
  obtain⟨i1,i2⟩:=iha hw.2 pre ([n]++suf) s (k+1) (by simpa using hd) hl
  simp only[XT.size,dM]
  rw[show k+(a.size+1)=(k+1)+a.size by omega,i1]
  cases ht:dM sg a pre.length with
  | inl x=>exact⟨rfl,fun r hr=>by cases hr⟩
  | inr ta=>
   have hz:o8 [ta]=arF n.1:=by rw[show arF n.1=1 from hw.1];rfl
   have hv:∀t∈[ta],VT t:=by simpa using i2 ta ht
   exact⟨step _ k n s [ta] hn hz hv (by simp;omega),fun r hr=>IY (mem _ n hn) hv hz hr⟩
 | l2 n a b iha ihb=>
  intro hw pre suf s k hd hl
  simp only[XT.post,List.append_assoc]at hd
  have hpa:(pre++a.post).length=pre.length+a.size:=by simp[XT.post_len]
  have hpb:(pre++a.post++b.post).length=pre.length+a.size+b.size:=by simp[XT.post_len];omega
  have hn:=getn (pre++a.post++b.post) suf n (by simpa using hd)
  rw[hpb]at hn
  have hlen:=(O5.1 hn).1
  obtain⟨i1,i2⟩:=iha hw.2.1 pre (b.post++[n]++suf) s (k+1+b.size) (by simpa using hd) hl
  simp only[XT.size,dM]
  rw[show k+(a.size+b.size+1)=(k+1+b.size)+a.size by omega,i1]
  cases ht:dM sg a pre.length with
  | inl x=>exact⟨rfl,fun r hr=>by cases hr⟩
  | inr ta=>
   have hsa:=a.size_pos
   obtain⟨j1,j2⟩:=ihb hw.2.2 (pre++a.post) ([n]++suf) (s++[ta]) (k+1) (by simpa using hd) (by simp[XT.post_len];omega)
   rw[hpa]at j1 j2
   simp only
   rw[j1]
   cases hu:dM sg b (pre.length+a.size)with
   | inl x=>exact⟨rfl,fun r hr=>by cases hr⟩
   | inr tb=>
    have hz:o8 [ta,tb]=arF n.1:=by rw[show arF n.1=2 from hw.1];rfl
    have hv:∀t∈[ta,tb],VT t:=by simpa using ⟨i2 ta ht,j2 tb hu⟩
    have:=step _ k n s [ta,tb] hn hz hv (by simp;omega)
    simp only[List.append_assoc,List.cons_append,List.nil_append]
    rw[show pre.length+(a.size+b.size+1)=pre.length+a.size+b.size+1 by omega]
    exact⟨this,fun r hr=>IY (mem _ n hn) hv hz hr⟩
 | l3 n a b c iha ihb ihc=>
  intro hw pre suf s k hd hl
  simp only[XT.post,List.append_assoc]at hd
  have hpa:(pre++a.post).length=pre.length+a.size:=by simp[XT.post_len]
  have hpb:(pre++a.post++b.post).length=pre.length+a.size+b.size:=by simp[XT.post_len];omega
  have hpc:(pre++a.post++b.post++c.post).length=pre.length+a.size+b.size+c.size:=by simp[XT.post_len];omega
  have hn:=getn (pre++a.post++b.post++c.post) suf n (by simpa using hd)
  rw[hpc]at hn
  have hlen:=(O5.1 hn).1
  obtain⟨i1,i2⟩:=iha hw.2.1 pre (b.post++(c.post++([n]++suf))) s (k+1+c.size+b.size) (by simpa using hd) hl
  simp only[XT.size,dM]
  rw[show k+(a.size+b.size+c.size+1)=(k+1+c.size+b.size)+a.size by omega,i1]
  have hsa:=a.size_pos
  have hsb:=b.size_pos
  cases ht:dM sg a pre.length with
  | inl x=>exact⟨rfl,fun r hr=>by cases hr⟩
  | inr ta=>
   obtain⟨j1,j2⟩:=ihb hw.2.2.1 (pre++a.post) (c.post++([n]++suf)) (s++[ta]) (k+1+c.size) (by simpa using hd) (by simp[XT.post_len];omega)
   rw[hpa]at j1 j2
   simp only
   rw[j1]
   cases hu:dM sg b (pre.length+a.size)with
   | inl x=>exact⟨rfl,fun r hr=>by cases hr⟩
   | inr tb=>
    obtain⟨q1,q2⟩:=ihc hw.2.2.2 (pre++a.post++b.post) ([n]++suf) (s++[ta]++[tb]) (k+1) (by simpa using hd) (by simp[XT.post_len];omega)
    rw[hpb]at q1 q2
    simp only
    rw[q1]
    cases hc:dM sg c (pre.length+a.size+b.size)with
    | inl x=>exact⟨rfl,fun r hr=>by cases hr⟩
    | inr tc=>
     have hz:o8 [ta,tb,tc]=arF n.1:=by rw[show arF n.1=3 from hw.1];rfl
     have hv:∀t∈[ta,tb,tc],VT t:=by simpa using ⟨i2 ta ht,j2 tb hu,q2 tc hc⟩
     have:=step _ k n s [ta,tb,tc] hn hz hv (by simp;omega)
     simp only[List.append_assoc,List.cons_append,List.nil_append]
     rw[show pre.length+(a.size+b.size+c.size+1)=pre.length+a.size+b.size+c.size+1 by omega]
     exact⟨this,fun r hr=>IY (mem _ n hn) hv hz hr⟩
end
def fV (e:List (Int×Int)) (sg:H8):(Int×Int)×Int×Int:=match eQ e with
 | .inl x=>((0,0),x)
 | .inr t=>match dM sg t 0 with
  | .inl x=>((0,0),x)
  | .inr r=>(r,0,0)
theorem Qo {α:Type} (s ops:List α) (k:Int) (hk:o8 ops=k) (h:s.length+ops.length≤100):
  G5 .i64 (o8 (s++ops)) k=(s.length:Int)∧ja (s.length:Int) (o8 (s++ops)) (o8 (s++ops))=true∧gq (s++ops) (toN (s.length:Int)) (toN (o8 (s++ops)))=ops
  ∧ja 0 (s.length:Int) (o8 (s++ops))=true∧gq (s++ops) (toN 0) (toN (s.length:Int))=s:=by
 subst hk
 refine⟨?_,?_,?_,?_,?_⟩
 ·rw[I5 (by unfold I64;simp[o8];omega)];simp[o8]
 ·simp[ja,o8];omega
 ·show((s++ops).take (((s++ops).length:Nat):Int).toNat).drop s.length=ops
  rw[Int.toNat_natCast,List.take_length,List.drop_left]
 ·simp[ja,o8];omega
 ·simp[gq,toN]
theorem Qn {e:List (Int×Int)} {sg:H8} {f:(Int×Int)×List (Int×Int)×Int→Option (Out ((Int×Int)×List (Int×Int)×Int) ((Int×Int)×List (Int×Int)) ((Int×Int)×Int×Int))}
  (hI:∀n∈e,I64 n.2) (hs:a9Z e sg (0,0) f) (hend:∀s,f ((0,0),s,(e.length:Int))=some (.ex ((0,0),s))) (hcode:∀x,eQ e= .inl x→x.2≠0):
  l7 (D6 (ieq (nG e).2.2 0)) (some ((((0:Int),(0:Int)),(nG e).2):(Int×Int)×Int×Int)) (l9 (J7 f (((0:Int),(0:Int)),([]:List (Int×Int)),(0:Int))) fun(o:(Int×Int)×List (Int×Int)⊕(Int×Int)×Int×Int)=>
   J9 o (fun(y:(Int×Int)×List (Int×Int))=>l9 (lat y.2 0) fun(x:Int×Int)=>l9 (J4 y.2 (toN 0)) fun(x:Int×Int)=>some (x,0,0)) fun(r:(Int×Int)×Int×Int)=>some r)=some (fV e sg):=by
 unfold nG fV
 cases h:eQ e with
 | inl x=>simp only[F5 (hcode x h),E5,o6]
 | inr t=>
  obtain⟨hp,h48⟩:=Aa h
  have hw:=FU h
  obtain⟨l1,_⟩:=a3u e sg (0,0) h48 hI hs t hw [] [] [] (bK -t.size) (by simpa using hp) (by simp)
  have hsz:e.length=t.size:=by rw[hp,XT.post_len]
  have hlo:J7 f (((0:Int),(0:Int)),([]:List (Int×Int)),(0:Int))=dP f (bK -t.size+t.size) ((0,0),[],(([]:List (Int×Int)).length:Int)):=by
   unfold J7
   rw[Nat.sub_add_cancel (by unfold bK;omega)];rfl
  simp only[F8 (rfl:(0:Int)=0),x8,o5]
  rw[hlo,l1]
  simp only[List.length_nil,Nat.zero_add]
  cases dM sg t 0 with
  | inl x=>rfl
  | inr r=>
   obtain⟨k,hk⟩:∃k,bK -t.size=k+1:=⟨bK -t.size -1,by unfold bK;omega⟩
   simp only[List.nil_append]
   rw[hk,dP,←hsz,hend]
   rfl
theorem wS {e:List (Int×Int)} {x:Int×Int} (h:eQ e= .inl x):x.2≠0:=by
 have key:∀(es:List (Int×Int)) (i:Nat) (ts:List XT) (x:Int×Int),mW i es ts= .inl x→x.2≠0:=by
  intro es
  induction es with
  | nil=>intro i ts x h;cases h
  | cons n es ih=>
   intro i ts x h
   unfold mW at h
   cases hp:push n ts with
   | inl c=>
    rw[hp]at h;cases h
    show c≠0
    unfold push at hp
    (repeat' split at hp) <;> first | (cases hp;done) | (cases hp;decide)
   | inr t2=>
    rw[hp]at h
    simp only at h
    split at h
    ·cases h;show(16:Int)≠0;decide
    ·exact ih _ _ _ h
 unfold eQ at h
 split at h
 ·cases h;show(4:Int)≠0;decide
 split at h
 ·cases h;show(5:Int)≠0;decide
 split at h
 ·rename_i y hp;cases h;exact key _ _ _ _ hp
 ·cases h
 ·cases h;show(4:Int)≠0;decide
theorem YM {e:List (Int×Int)} (sg:H8) (hI:∀n∈e,I64 n.2):xI e sg=some (fV e sg):=by
 unfold xI
 rw[Az,o7]
 refine Qn hI (fun i n s ops hn hi2 hl hv hlen=>?_) (fun s=>?_) (fun x h=>wS h)
 ·obtain⟨r,h1,h2,h3⟩:=Ud sg n (hI n (dN hn)) ops hv hl
  obtain⟨v1,v2,v3,v4,v5⟩:=Qo s ops _ hl hlen
  have e' :KL n ops sg=r:=by unfold KL;rw[h1];rfl
  have hi:=(O5.1 hn).1
  simp only[H6 hn,o6,E9,hn,o7,PL,v1,v2,v3,v4,v5,h1]
  unfold yM
  rw[e']
  by_cases h0:r.2=0
  ·rw[if_pos h0,F8 h0]
   simp only[x8,o5]
   rw[aB _ (by omega),o7,O8 (by omega)]
  ·rw[if_neg h0,F5 h0];rfl
 ·rw[H5];rfl
theorem a3t {e:List (Int×Int)} (sg:H8) (hI:∀n∈e,I64 n.2):zB e sg=some (fV e sg):=by
 unfold zB
 rw[Js,o7]
 refine Qn hI (fun i n s ops hn hi2 hl hv hlen=>?_) (fun s=>?_) (fun x h=>wS h)
 ·obtain⟨r,h1,h2,h3⟩:=Ud sg n (hI n (dN hn)) ops hv hl
  obtain⟨v1,v2,v3,v4,v5⟩:=Qo s ops _ hl hlen
  have e' :KL n ops sg=r:=by unfold KL;rw[h1];rfl
  have hi:=(O5.1 hn).1
  simp only[H6 hn,o6,E9,hn,o7,NL,v1,v2,v3,v4,v5]
  unfold yM
  rw[e']
  unfold EN at h2
  have fin:U2 n ops sg=some r→(l9 (U2 n ops sg) fun(x_3:nI×Int)=>l7 (D6 (ieq x_3.2 0)) (some (Out.rt ((((0:Int),(0:Int)),((i:Int),x_3.2)):(Int×Int)×Int×Int)))
    (l9 (X9 s [x_3.1]) fun(x_4:List nI)=>some (Out.nx (((0:Int),(0:Int)),x_4,x9 .i64 (i:Int) 1))))=
    some (match if r.2=0 then(.inr r.1:(Int×Int)⊕(Int×Int))else .inl ((i:Int),r.2)with | .inl x=>Out.rt ((0,0),x) | .inr t=>(Out.nx ((0,0),s++[t],((i+1:Nat):Int)):Out ((Int×Int)×List (Int×Int)×Int) ((Int×Int)×List (Int×Int)) ((Int×Int)×Int×Int))):=by
   intro hr
   rw[hr,o7]
   by_cases h0:r.2=0
   ·rw[if_pos h0,F8 h0]
    simp only[x8,o5]
    rw[aB _ (by omega),o7,O8 (by omega)]
   ·rw[if_neg h0,F5 h0];rfl
  cases hz:ieq n.2 0
  ·rw[hz]at h2
   simp only[E5,o6]at h2 ⊢
   cases hu:dD n.1 with
   | none=>rw[hu]at h2;cases h2
   | some u=>
    rw[hu]at h2
    simp only[o7]at h2 ⊢
    cases u
    ·simp only[E5,o6]at h2 ⊢
     cases h2
     rfl
    ·exact fin h2
  ·rw[hz]at h2
   exact fin h2
 ·rw[H5];rfl
section
variable {α β σ ε ρ:Type}
theorem dU (l:List α) (G:β→α→β) (mk:β→Int→σ) (fin:β→ε) (Inv:Nat→β→Prop) {f:σ→Option (σ⊕ε)} {b:β} (hl:l.length≤1000000) (h0:Inv 0 b)
  (hin:∀(i:Nat) (a:α) (b:β),l[i]? =some a→i≤1000000→Inv i b→f (mk b (i:Int))=some (.inl (mk (G b a) ((i+1:Nat):Int)))∧Inv (i+1) (G b a))
  (hend:∀b,Inv l.length b→f (mk b (l.length:Int))=some (.inr (fin b))):
  P5 f (mk b 0)=some (fin (l.foldl G b))∧Inv l.length (l.foldl G b):=by
 have key:∀(n i:Nat) (b:β),i≤l.length→l.length -i<n→Inv i b→ku f n (mk b (i:Int))=some (fin ((l.drop i).foldl G b))∧Inv l.length ((l.drop i).foldl G b):=by
  intro n
  induction n with
  | zero=>intro i b _ h _;omega
  | succ n ih=>
   intro i b hi hn hI
   unfold ku
   by_cases h:i<l.length
   ·have e:=Y5 h
    obtain⟨h1,h2⟩:=hin i _ b e (by omega) hI
    rw[h1,List.drop_eq_getElem_cons h]
    exact ih (i+1) _ (by omega) (by omega) h2
   ·have:i=l.length:=by omega
    subst this
    rw[hend b hI,List.drop_length]
    exact⟨rfl,hI⟩
 have:=key bK 0 b (by omega) (by unfold bK;omega) h0
 exact this
theorem fB {γ:Type} (l:List α) (G:β→α→β) (mk:β→Int→σ) (fin:β→ε) (Inv:Nat→β→Prop) (b:β) {f:σ→Option (σ⊕ε)} {K:ε→Option γ} {r:Option γ} (hl:l.length≤1000000) (h0:Inv 0 b)
  (hin:∀(i:Nat) (a:α) (b:β),l[i]? =some a→i≤1000000→Inv i b→f (mk b (i:Int))=some (.inl (mk (G b a) ((i+1:Nat):Int)))∧Inv (i+1) (G b a))
  (hend:∀b,Inv l.length b→f (mk b (l.length:Int))=some (.inr (fin b))) (hk:Inv l.length (l.foldl G b)→K (fin (l.foldl G b))=r):l9 (P5 f (mk b 0)) K=r:=by
 obtain⟨h1,h2⟩:=dU l G mk fin Inv hl h0 hin hend
 rw[h1];exact hk h2
def az (G:β→α→β⊕ρ):List α→β→β⊕ρ
 | [],b=> .inl b
 | a::l,b=>match G b a with | .inl b' =>az G l b' | .inr r=> .inr r
theorem GZ (l:List α) (G:β→α→β⊕ρ) (mk:β→Int→σ) (fin:β→ε) (Inv:Nat→β→Prop) {f:σ→Option (Out σ ε ρ)} {b:β} (hl:l.length≤1000000) (h0:Inv 0 b)
  (hin:∀(i:Nat) (a:α) (b:β),l[i]? =some a→i≤1000000→Inv i b→f (mk b (i:Int))=some (match G b a with | .inl b' => .nx (mk b' ((i+1:Nat):Int)) | .inr r=> .rt r)∧∀b',G b a= .inl b' →Inv (i+1) b')
  (hend:∀b,Inv l.length b→f (mk b (l.length:Int))=some (.ex (fin b))):
  J7 f (mk b 0)=some (match az G l b with | .inl b' => .inl (fin b') | .inr r=> .inr r)∧∀b',az G l b= .inl b' →Inv l.length b' :=by
 have key:∀(n i:Nat) (b:β),i≤l.length→l.length -i<n→Inv i b→dP f n (mk b (i:Int))=some (match az G (l.drop i) b with | .inl b' => .inl (fin b') | .inr r=> .inr r)∧∀b',az G (l.drop i) b= .inl b' →Inv l.length b' :=by
  intro n
  induction n with
  | zero=>intro i b _ h _;omega
  | succ n ih=>
   intro i b hi hn hI
   unfold dP
   by_cases h:i<l.length
   ·have e:=Y5 h
    obtain⟨h1,h2⟩:=hin i _ b e (by omega) hI
    rw[h1,List.drop_eq_getElem_cons h]
    unfold az
    cases hg:G b l[i]with
    | inr r=>exact⟨rfl,fun b' hb=>by cases hb⟩
    | inl b' =>exact ih (i+1) _ (by omega) (by omega) (h2 b' hg)
   ·have:i=l.length:=by omega
    subst this
    rw[hend b hI,List.drop_length]
    exact⟨rfl,fun b' hb=>by cases hb;exact hI⟩
 have:=key bK 0 b (by omega) (by unfold bK;omega) h0
 exact this
theorem fC {γ:Type} (l:List α) (G:β→α→β⊕ρ) (mk:β→Int→σ) (fin:β→ε) (Inv:Nat→β→Prop) (b:β) {f:σ→Option (Out σ ε ρ)} {K:ε⊕ρ→Option γ} {r:Option γ} (hl:l.length≤1000000) (h0:Inv 0 b)
  (hin:∀(i:Nat) (a:α) (b:β),l[i]? =some a→i≤1000000→Inv i b→f (mk b (i:Int))=some (match G b a with | .inl b' => .nx (mk b' ((i+1:Nat):Int)) | .inr r=> .rt r)∧∀b',G b a= .inl b' →Inv (i+1) b')
  (hend:∀b,Inv l.length b→f (mk b (l.length:Int))=some (.ex (fin b)))
  (hk:(∀b',az G l b= .inl b' →Inv l.length b')→K (match az G l b with | .inl b' => .inl (fin b') | .inr r=> .inr r)=r):l9 (J7 f (mk b 0)) K=r:=by
 obtain⟨h1,h2⟩:=GZ l G mk fin Inv hl h0 hin hend
 rw[h1];exact hk h2
end
def KU (c:UInt8):Bool:=decide (32≤c.toNat)&&decide (c.toNat≤126)&&decide (c.toNat≠34)
def UZ (s:List UInt8):Bool:=decide (s.length≤64)&&s.all KU
theorem a0k (c:UInt8):∀s:List UInt8,decide (0≤Lib.indexByte s c)=s.any fun x=>decide (x.toNat=c.toNat)
 | []=>by simp[Lib.indexByte]
 | b::l=>by
  have ih:=a0k c l
  have hge:=Lib.indexByte_ge l c
  rw[List.any_cons,←ih]
  have e:Lib.indexByte (b::l) c=if b=c then 0 else if Lib.indexByte l c=-1 then -1 else Lib.indexByte l c+1:=by
   rw[Lib.indexByte];simp
  rw[e]
  by_cases h:b=c
  ·subst h;simp
  ·have h2:b.toNat≠c.toNat:=fun hh=>h (UInt8.toNat_inj.1 hh)
   rw[if_neg h,show decide (b.toNat=c.toNat)=false by simp[h2],Bool.false_or]
   by_cases h3:Lib.indexByte l c=-1
   ·rw[h3];rfl
   ·rw[if_neg h3];simp;omega
theorem Xv (c:UInt8):KU c=(!ilt (c.toNat:Int) 32&&!ilt 126 (c.toNat:Int)&&!ieq (c.toNat:Int) 34):=by
 unfold KU ilt ieq
 rw[Bool.eq_iff_iff];simp;omega
theorem Nc (s:List UInt8) (p:UInt8→Bool):(∀(i:Nat) (a:UInt8),s[i]? =some a→p a=true)↔s.all p=true:=by
 rw[List.all_eq_true]
 exact⟨fun h x hx=>by obtain⟨i,hi,rfl⟩:=List.getElem_of_mem hx;exact h i _ (Y5 hi),fun h i a hi=>h a (dN hi)⟩
theorem Um {s:List UInt8} (h:s.length≤1000000):qZ s=some (UZ s):=by
 unfold qZ
 refine J5 (vF s (fun i a=>KU a) false PUnit.unit _ (by omega) (fun i x hx=>?_) ?_) ?_
 rotate_left 2
 ·have h5:ile (o8 s) 64=decide (s.length≤64):=by simp only[ile,o8];congr 1;simp;omega
  unfold UZ
  by_cases hw:s.all KU=true
  ·rw[if_pos ((Nc s KU).2 hw),hw,o7,D5,h5,Bool.and_true]
  ·rw[if_neg (fun h=>hw ((Nc s KU).1 h))]
   simp only[Bool.not_eq_true]at hw
   rw[hw,Bool.and_false];rfl
 ·have hi:=(O5.1 hx).1
  simp only[H6 hx,o6,Nw,hx,Option.map_some,o7]
  rw[O8 (by omega),Xv]
  cases ilt (x.toNat:Int) 32 <;> cases ilt 126 (x.toNat:Int) <;> cases ieq (x.toNat:Int) 34 <;> rfl
 ·rw[H5];rfl
theorem Qp {s:List UInt8} (h:s.length≤1000000):qR s=some (UZ s):=by
 unfold qR
 have h5:ilt 64 (o8 s)= !decide (s.length≤64):=by simp only[ilt,o8];rw[←decide_not];congr 1;simp;omega
 rw[h5,show qj s [34]=some (s.any fun x=>decide (x.toNat=(34:UInt8).toNat))from congrArg some (a0k 34 s)]
 unfold UZ
 cases decide (s.length≤64)
 ·rfl
 simp only[Bool.not_true,o5,o7,Bool.true_and]
 cases h34:s.any fun x=>decide (x.toNat=(34:UInt8).toNat)
 case true=>
  obtain⟨x,hx,hx2⟩:=List.any_eq_true.1 h34
  simp only[decide_eq_true_eq]at hx2
  have:s.all KU=false:=by
   rw[List.all_eq_false]
   refine⟨x,hx,?_⟩
   unfold KU;rw[hx2];decide
  rw[this];rfl
 simp only[o5]
 refine J5 (vF s (fun i a=>KU a) false PUnit.unit _ (by omega) (fun i x hx=>?_) ?_) ?_
 rotate_left 2
 ·by_cases hw:s.all KU=true
  ·rw[if_pos ((Nc s KU).2 hw),hw];rfl
  ·rw[if_neg (fun h=>hw ((Nc s KU).1 h))]
   simp only[Bool.not_eq_true]at hw
   rw[hw];rfl
 ·have hi:=(O5.1 hx).1
  have hne:ieq (x.toNat:Int) 34=false:=by
   have:=(List.any_eq_false.1 h34) x (dN hx)
   simp only[decide_eq_true_eq]at this
   exact F5 (by
     have h:(34:UInt8).toNat=34:=rfl
     omega)
  simp only[H6 hx,o6,Nw,hx,Option.map_some,o7]
  rw[O8 (by omega),Xv,hne]
  cases ilt (x.toNat:Int) 32 <;> cases ilt 126 (x.toNat:Int) <;> rfl
 ·rw[H5];rfl
def zf (e:List (Int×Int)) (sg:H8) (t:Int×Int):Int:=l7 (ieq (fV e sg).2.2 0) (l7 (aK (ieq (fV e sg).1.1 t.1) (ieq (fV e sg).1.2 t.2)) 0 8) (fV e sg).2.2
theorem Ir {e:List (Int×Int)} (sg:H8) (t:Int×Int) (hI:∀n∈e,I64 n.2):mJ e sg t=some (zf e sg t):=by
 unfold mJ zf
 rw[a3t sg hI,o7]
 cases ieq (fV e sg).2.2 0
 ·rfl
 simp only[x8,o5,o6]
 cases aK (ieq (fV e sg).1.1 t.1) (ieq (fV e sg).1.2 t.2) <;> rfl
theorem IA {e:List (Int×Int)} (sg:H8) (t:Int×Int) (hI:∀n∈e,I64 n.2):jC e sg t=some (zf e sg t):=by
 unfold jC zf
 rw[YM sg hI,o7]
 cases ieq (fV e sg).2.2 0
 ·rfl
 simp only[x8,o5,o6]
 cases aK (ieq (fV e sg).1.1 t.1) (ieq (fV e sg).1.2 t.2) <;> rfl
def XE (r:V9):Prop:=r.1.length≤1000000∧r.2.2.2.2.2.2.2.length≤1000000∧(∀n∈r.2.2.2.2.2.1,I64 n.2)∧(∀n∈r.2.2.2.2.2.2.1,I64 n.2)
def JH (rs:List V9) (d:Int):Nat:=rs.countP fun o=>ieq o.2.1 d
def JO (r:V9) (sg:H8) (t:Int×Int):Int:=
 l7 (ilt 0 (o8 r.2.2.2.2.2.1)) (l7 (ieq (zf r.2.2.2.2.2.1 sg (1,0)) 0) (zf r.2.2.2.2.2.2.1 sg t) (zf r.2.2.2.2.2.1 sg (1,0))) (zf r.2.2.2.2.2.2.1 sg t)
def BH (s:D8) (sg:H8) (k:Nat) (r:V9):Int:=
 l7 (wV r.1) (l7 ((s.2.2.2.2.take k).any fun x=>seq x.1 r.1) 7 (match lat s.2.2.2.1 r.2.1 with
  | none=>6
  | some d=>l7 (l7 (ieq r.2.2.1 (-1)) false (l7 (ilt r.2.2.1 0) true (l7 (ile k r.2.2.1) true (match lat s.2.2.2.2 r.2.2.1 with | some q=>D6 (ieq q.2.1 r.2.1) | none=>true)))) 9
   (l7 (ilt r.2.2.2.1 0) 3 (l7 (ilt 9 r.2.2.2.1) 3 (l7 (zg r.2.2.2.2.1) (l7 (ieq r.2.2.2.2.1.1 r.2.2.2.2.1.2) 3
    (l7 (ile 8 (JH (s.2.2.2.2.take k) r.2.1)) 4 (l7 (UZ r.2.2.2.2.2.2.2) (JO r sg d.2) 2))) 3))))) 2
theorem iq {α:Type} {l:List α} {i:Int} (h:ile 0 i=false∨ilt i (o8 l)=false):lat l i=none:=by
 unfold lat
 split
 ·rename_i h0
  rcases h with h | h
  ·rw[tN]at h;omega
  ·rw[X6]at h;simp only[o8]at h
   exact List.getElem?_eq_none (by omega)
 ·rfl
theorem TE {s:D8} (sg:H8) {k:Nat} {r:V9} (hr:s.2.2.2.2[k]? =some r) (hl:s.2.2.2.2.length≤1000) (h:XE r):vY s (k:Int) sg=some (BH s sg k r):=by
 have hk:=(O5.1 hr).1
 have hcnt:JH (s.2.2.2.2.take k) r.2.1≤1000:=by
  have:=List.countP_le_length (l:=s.2.2.2.2.take k) (p:=fun(o:V9)=>ieq o.2.1 r.2.1)
  unfold JH;simp at this;omega
 unfold vY
 rw[E9,hr,o7,sF (by omega),o7]
 refine J5 (dU (s.2.2.2.2.take k) (fun(c:Nat) (o:V9)=>l7 (ieq o.2.1 r.2.1) (c+1) c) (fun c i=>((c:Int),i)) (fun c=>(c:Int)) (fun i c=>c≤i) (b:=0) (by simp;omega) (by omega) (fun i a c ha hi hc=>?_) (fun c hc=>?_)).1 ?_
 rotate_left 2
 ·have hf:∀(l:List V9) (c:Nat),l.foldl (fun(c:Nat) (o:V9)=>l7 (ieq o.2.1 r.2.1) (c+1) c) c=c+JH l r.2.1:=by
   intro l
   induction l with
   | nil=>intro c;rfl
   | cons a l ih=>
    intro c
    rw[List.foldl_cons,ih]
    unfold JH
    rw[List.countP_cons]
    cases ieq a.2.1 r.2.1 <;> simp <;> omega
  rw[hf,Nat.zero_add,o7,jm h.1,o7,o7,Yh _ (by simp;omega),o7]
  unfold BH
  cases wV r.1
  ·rfl
  simp only[x8,o5,o6,o7]
  cases (s.2.2.2.2.take k).any fun x=>seq x.1 r.1
  case true=>rfl
  simp only[o5]
  rw[iF r.2.1 0,vW (o8 s.2.2.2.1) r.2.1]
  cases h0:ile 0 r.2.1
  ·rw[iq (.inl h0)];rfl
  cases h1:ilt r.2.1 (o8 s.2.2.2.1)
  ·rw[iq (.inr h1)];rfl
  obtain⟨d,hd,_⟩:=cZ (fM.1 h0) (Y4.1 h1)
  rw[hd]
  simp only[Bool.not_true,o5,o7,Qp h.2.1]
  have hpar:(l7 (D6 (ieq r.2.2.1 (-1))) (l7 (ilt r.2.2.1 0) (some true) (l7 (ile (k:Int) r.2.2.1) (some true) (l9 (lat s.2.2.2.2 r.2.2.1) fun(x_6:V9)=>some (D6 (ieq x_6.2.1 r.2.1))))) (some false))=
    some (l7 (ieq r.2.2.1 (-1)) false (l7 (ilt r.2.2.1 0) true (l7 (ile k r.2.2.1) true (match lat s.2.2.2.2 r.2.2.1 with | some q=>D6 (ieq q.2.1 r.2.1) | none=>true)))):=by
   cases ieq r.2.2.1 (-1)
   case true=>rfl
   simp only[E5,o6,o5]
   cases hp0:ilt r.2.2.1 0
   case true=>rfl
   cases hp1:ile (k:Int) r.2.2.1
   case true=>rfl
   rw[X6]at hp0;rw[tN]at hp1
   obtain⟨q,hq,_⟩:=cZ (l:=s.2.2.2.2) hp0 (by simp only[o8];omega)
   rw[hq];rfl
  rw[hpar,o7]
  cases (l7 (ieq r.2.2.1 (-1)) false (l7 (ilt r.2.2.1 0) true (l7 (ile k r.2.2.1) true (match lat s.2.2.2.2 r.2.2.1 with | some q=>D6 (ieq q.2.1 r.2.1) | none=>true))))
  case true=>rfl
  simp only[o5]
  cases ilt r.2.2.2.1 0
  case true=>rfl
  simp only[o5,o7]
  cases ilt 9 r.2.2.2.1
  case true=>rfl
  simp only[o5]
  have hval:∀(A B:Option (V9⊕Int)),l7 (ilt r.2.2.2.2.1.1 0) A (l7 (ile r.2.2.2.2.1.2 r.2.2.2.2.1.1) A (l7 (ilt 109573 r.2.2.2.2.1.2) A B))=l7 (zg r.2.2.2.2.1) (l7 (ieq r.2.2.2.2.1.1 r.2.2.2.2.1.2) A B) A:=by
   intro A B
   unfold zg
   by_cases v0:r.2.2.2.2.1.1<(0:Int)
   ·rw[F6 v0,G8 (show r.2.2.2.2.1.1<(0:Int)from v0)];rfl
   rw[E8 (Int.not_lt.1 v0),G7 (Int.not_lt.1 v0)]
   by_cases v1:(r.2.2.2.2.1.2:Int)≤r.2.2.2.2.1.1
   ·rw[G7 v1]
    by_cases v2:(r.2.2.2.2.1.1:Int)≤r.2.2.2.2.1.2
    ·rw[G7 v2,F8 (Int.le_antisymm v2 v1)]
     cases ile r.2.2.2.2.1.2 109573 <;> rfl
    ·rw[G8 (Int.not_le.1 v2)];rfl
   ·have v1' :=Int.not_le.1 v1
    rw[G8 v1',G7 (Int.le_of_lt v1'),F5 (fun hh=>by rw[hh]at v1';exact Int.lt_irrefl _ v1'),iF]
    cases ile r.2.2.2.2.1.2 109573 <;> rfl
  rw[hval]
  cases zg r.2.2.2.2.1
  ·rfl
  cases ieq r.2.2.2.2.1.1 r.2.2.2.2.1.2
  case true=>rfl
  simp only[o6,o5]
  cases ile 8 ((JH (s.2.2.2.2.take k) r.2.1:Nat):Int)
  case true=>rfl
  cases UZ r.2.2.2.2.2.2.2
  ·rfl
  simp only[x8,o5,o6,o7,D5,JO,hd,Ir sg _ h.2.2.1,Ir sg _ h.2.2.2]
  cases ilt 0 (o8 r.2.2.2.2.2.1)
  ·rfl
  simp only[o6]
  cases ieq (zf r.2.2.2.2.2.1 sg (1,0)) 0 <;> rfl
 ·have hc' :c≤1000000:=by omega
  obtain⟨ha1,ha2⟩:=Jt ha
  simp only[H6 ha,o6,E9,ha,o7]
  rw[O8 (show i≤9000000000000000000 by omega),O8 (show c≤9000000000000000000 by omega)]
  cases ieq a.2.1 r.2.1
  ·exact⟨rfl,by show c≤i+1;omega⟩
  ·exact⟨rfl,by show c+1≤i+1;omega⟩
 ·simp only[H5];rfl
theorem YG (s:D8) (d:Int):wP s d=some (l7 (ile 0 d) (ilt d (o8 s.2.2.2.1)) false):=by
 unfold wP;cases ile 0 d <;> rfl
theorem RD (r:V9):∀(l:List V9) (c:Nat),az (fun(c:Nat) (o:V9)=>l7 (seq o.1 r.1) (.inr (7:Int)) (.inl (l7 (ieq o.2.1 r.2.1) (c+1) c))) l c=l7 (l.any fun x=>seq x.1 r.1) (.inr 7) (.inl (c+JH l r.2.1))
 | [],c=>rfl
 | a::l,c=>by
  unfold az
  rw[List.any_cons]
  cases seq a.1 r.1
  case true=>rfl
  simp only[o5,Bool.false_or]
  rw[RD r l]
  unfold JH
  rw[List.countP_cons]
  cases ieq a.2.1 r.2.1
  ·simp only[o5,Bool.false_eq_true,if_false,Nat.add_zero]
  ·simp only[o6,if_true]
   rw[show c+1+List.countP (fun o=>ieq o.2.1 r.2.1) l=c+(List.countP (fun o=>ieq o.2.1 r.2.1) l+1) by omega]
theorem QO {l:L8} {i k:Nat} {s:D8} {r:V9} (hL:Ig l) (hs:l.2.2[i]? =some s) (hr:s.2.2.2.2[k]? =some r) (h:XE r):rf l (i:Int) (k:Int)=some (BH s (AC l s) k r):=by
 have hk:=(O5.1 hr).1
 have hl:=(hL s (dN hs)).2.2.2
 have hcnt:JH (s.2.2.2.2.take k) r.2.1≤1000:=by
  have:=List.countP_le_length (l:=s.2.2.2.2.take k) (p:=fun(o:V9)=>ieq o.2.1 r.2.1)
  unfold JH;simp at this;omega
 unfold rf BH
 rw[E9,hs,o7,E9,hr,o7,fE h.1,o7]
 cases wV r.1
 ·rfl
 simp only[x8,o5,o6]
 refine J5 (GZ (s.2.2.2.2.take k) (fun(c:Nat) (o:V9)=>l7 (seq o.1 r.1) (.inr (7:Int)) (.inl (l7 (ieq o.2.1 r.2.1) (c+1) c))) (fun c i=>((c:Int),i)) (fun c=>(c:Int)) (fun i c=>c≤i) (b:=0) (by simp;omega) (by omega) (fun j a c ha hi hc=>?_) (fun c hc=>?_)).1 ?_
 rotate_left 2
 ·rw[RD]
  cases (s.2.2.2.2.take k).any fun x=>seq x.1 r.1
  case true=>rfl
  simp only[o5,Nat.zero_add,o7,D5]
  rw[iF r.2.1 0,vW (o8 s.2.2.2.1) r.2.1]
  cases h0:ile 0 r.2.1
  ·rw[iq (.inl h0)];rfl
  cases h1:ilt r.2.1 (o8 s.2.2.2.1)
  ·rw[iq (.inr h1)];rfl
  obtain⟨d,hd,_⟩:=cZ (fM.1 h0) (Y4.1 h1)
  rw[hd]
  simp only[Bool.not_true,o5,o7,D5]
  have hpar:(l7 (D6 (ieq r.2.2.1 (-1))) (l7 (ilt r.2.2.1 0) (some (Sum.inr (9:Int))) (l7 (ile (k:Int) r.2.2.1) (some (.inr 9)) (l9 (lat s.2.2.2.2 r.2.2.1) fun(x:V9)=>l7 (D6 (ieq x.2.1 r.2.1)) (some (.inr 9)) (some (.inl PUnit.unit))))) (some (.inl PUnit.unit)))=
    some (l7 (l7 (ieq r.2.2.1 (-1)) false (l7 (ilt r.2.2.1 0) true (l7 (ile k r.2.2.1) true (match lat s.2.2.2.2 r.2.2.1 with | some q=>D6 (ieq q.2.1 r.2.1) | none=>true)))) (.inr 9) (.inl PUnit.unit)):=by
   cases ieq r.2.2.1 (-1)
   case true=>rfl
   simp only[E5,o6,o5]
   cases hp0:ilt r.2.2.1 0
   case true=>rfl
   cases hp1:ile (k:Int) r.2.2.1
   case true=>rfl
   rw[X6]at hp0;rw[tN]at hp1
   obtain⟨q,hq,_⟩:=cZ (l:=s.2.2.2.2) hp0 (by simp only[o8];omega)
   rw[hq]
   simp only[o7,o5]
   cases ieq q.2.1 r.2.1 <;> rfl
  rw[hpar,o7]
  cases (l7 (ieq r.2.2.1 (-1)) false (l7 (ilt r.2.2.1 0) true (l7 (ile k r.2.2.1) true (match lat s.2.2.2.2 r.2.2.1 with | some q=>D6 (ieq q.2.1 r.2.1) | none=>true))))
  case true=>rfl
  simp only[o5,D5]
  cases ilt r.2.2.2.1 0
  case true=>rfl
  cases ilt 9 r.2.2.2.1
  case true=>rfl
  simp only[o5,CW,o7]
  cases zg r.2.2.2.2.1
  ·rfl
  cases ieq r.2.2.2.2.1.1 r.2.2.2.2.1.2
  case true=>rfl
  simp only[x8,o6,o5,o7,D5]
  cases ile 8 ((JH (s.2.2.2.2.take k) r.2.1:Nat):Int)
  case true=>rfl
  simp only[o5,Um h.2.1,o7]
  cases UZ r.2.2.2.2.2.2.2
  ·rfl
  simp only[x8,o5,o6,o7,QP hL hs,JO,hd,IA (AC l s) _ h.2.2.1,IA (AC l s) _ h.2.2.2]
  cases ilt 0 (o8 r.2.2.2.2.2.1)
  ·rfl
  simp only[o6]
  cases ieq (zf r.2.2.2.2.2.1 (AC l s) (1,0)) 0 <;> rfl
 ·obtain⟨ha1,ha2⟩:=Jt ha
  simp only[F6 (show(j:Int)<(k:Int) by omega),o6,E9,ha2,o7]
  rw[O8 (show j≤9000000000000000000 by omega),O8 (show c≤9000000000000000000 by omega)]
  cases seq a.1 r.1
  ·cases ieq a.2.1 r.2.1
   ·exact⟨rfl,fun b' hb=>by cases hb;show c≤j+1;omega⟩
   ·exact⟨rfl,fun b' hb=>by cases hb;show c+1≤j+1;omega⟩
  ·exact⟨rfl,fun b' hb=>by cases hb⟩
 ·have e:(s.2.2.2.2.take k).length=k:=by simp;omega
  simp only[e,E8 (show(k:Int)≤(k:Int) by omega)];rfl
structure SmS (s:D8):Prop where
 nm:s.1.length≤1000000
 ni:s.2.2.1.length≤14
 nd:s.2.2.2.1.length≤14
 nr:s.2.2.2.2.length≤60
 fo:Vg s
 ro:∀r∈s.2.2.2.2,XE r∧r.2.2.2.2.2.1.length≤50∧r.2.2.2.2.2.2.1.length≤50
theorem Uy:iG=dB:=rfl
def GY (n:Int) (b:List Int×Bool) (a:Int):List Int×Bool:=l7 b.2 (b.1++[a],true) (l7 (ile n a) (l7 (ilt n a) (b.1++[n]++[a],true) (b.1++[a],true)) (b.1++[a],false))
theorem Yl (n:Int):∀(l p:List Int),l.foldl (GY n) (p,true)=(p++l,true)
 | [],p=>by simp
 | a::l,p=>by rw[List.foldl_cons,show GY n (p,true) a=(p++[a],true)from rfl,Yl n l];simp
theorem a4q (n:Int):∀(l p:List Int),(l7 (l.foldl (GY n) (p,false)).2 (l.foldl (GY n) (p,false)).1 ((l.foldl (GY n) (p,false)).1++[n]))=p++ins n l
 | [],p=>rfl
 | a::l,p=>by
  rw[List.foldl_cons]
  unfold ins
  by_cases h1:n≤a
  ·rw[if_pos h1]
   by_cases h2:n<a
   ·rw[if_pos h2,show GY n (p,false) a=(p++[n]++[a],true) by simp[GY,G7 h1,F6 h2],Yl];simp
   ·rw[if_neg h2,show GY n (p,false) a=(p++[a],true) by simp[GY,G7 h1,E8 (show a≤n by omega)],Yl];simp
  ·rw[if_neg h1,show GY n (p,false) a=(p++[a],false) by simp[GY,G8 (show a<n by omega)],a4q n l];simp
theorem rP {l:List Int} (n:Int) (hl:l.length≤1000000):dB l n=some (ins n l):=by
 unfold dB
 refine fB l (GY n) (fun b i=>(b.1,b.2,i)) (fun b=>b) (fun i b=>b.1.length≤i+1∧(b.2=false→b.1.length≤i)) (([],false):List Int×Bool) hl (by simp) (fun i a b ha hi hI=>?_) (fun b hI=>?_) (fun h2=>?_)
 ·obtain⟨o,d⟩:=b
  simp only at hI
  simp only[H6 ha,o6,E9,ha,o7]
  rw[O8 (by omega)]
  cases d
  ·simp only[E5,o6,GY,o5]
   have:=hI.2 rfl
   cases ile n a
   ·rw[o5,aB a (show o.length≤1000000 by omega)]
    exact⟨rfl,by simp <;> omega,by simp <;> omega⟩
   ·rw[o6]
    cases ilt n a
    ·rw[o5,aB a (show o.length≤1000000 by omega)]
     exact⟨rfl,by simp <;> omega,by simp⟩
    ·rw[o6,aB n (show o.length≤1000000 by omega),o7,tX (by simp;omega)]
     exact⟨rfl,by simp <;> omega,by simp⟩
  ·simp only[x8,o5,GY,o6]
   rw[tX (by simp;omega)]
   exact⟨rfl,by simp <;> omega,by simp⟩
 ·simp only[H5];rfl
 ·have hf:=a4q n l []
  generalize l.foldl (GY n) ([],false)=b at*
  obtain⟨o,d⟩:=b
  cases d
  ·simp only[o5,List.nil_append]at hf
   simp only[E5,o6]
   rw[aB _ (by simp at h2;omega),hf];rfl
  ·simp only[o6,List.nil_append]at hf
   simp only[x8,o5,hf]
def isM (op:Int):Bool:=l7 (ile 36 op) (ile op 39) false
theorem b8R (op:Int):isM op=l7 (ieq op 36) true (l7 (ieq op 37) true (l7 (ieq op 38) true (ieq op 39))):=by
 unfold isM
 by_cases h1:36≤op
 ·rw[G7 h1,o6]
  by_cases h2:op≤39
  ·rw[G7 h2]
   have:op=36∨op=37∨op=38∨op=39:=by omega
   rcases this with rfl | rfl | rfl | rfl <;> rfl
  ·rw[G8 (by omega),F5 (by omega),F5 (by omega),F5 (by omega),F5 (by omega)];rfl
 ·rw[G8 (by omega),F5 (by omega),F5 (by omega),F5 (by omega),F5 (by omega)];rfl
def IZ (p:Int→Bool) (e:List (Int×Int)):List Int:=(e.filter fun n=>p n.1).map (·.2)
def ji (e:List (Int×Int)):List Int×List Int×List Int:=(DK (IZ (fun o=>ieq o 7) e),DK (IZ (fun o=>ieq o 8) e),DK (IZ isM e))
def a2Y (g:List Int→Int→List Int) (b:List Int×List Int×List Int) (n:Int×Int):List Int×List Int×List Int:=
 (l7 (ieq n.1 7) (g b.1 n.2) b.1,l7 (ieq n.1 8) (g b.2.1 n.2) b.2.1,l7 (isM n.1) (g b.2.2 n.2) b.2.2)
theorem KE (g:List Int→Int→List Int):∀(e:List (Int×Int)) (b:List Int×List Int×List Int),e.foldl (a2Y g) b=((IZ (fun o=>ieq o 7) e).foldl g b.1,(IZ (fun o=>ieq o 8) e).foldl g b.2.1,(IZ isM e).foldl g b.2.2)
 | [],b=>rfl
 | n::e,b=>by
  have hn:∀p:Int→Bool,IZ p (n::e)=l7 (p n.1) (n.2::IZ p e) (IZ p e):=fun p=>by
   unfold IZ;rw[List.filter_cons];cases p n.1 <;> rfl
  rw[List.foldl_cons,KE g e,hn,hn,hn]
  unfold a2Y
  simp only
  cases ieq n.1 7 <;> cases ieq n.1 8 <;> cases isM n.1 <;> rfl
theorem RG:∀(l b:List Int),l.foldl (fun acc n=>acc++[n]) b=b++l
 | [],b=>by simp
 | a::l,b=>by rw[List.foldl_cons,RG l];simp
theorem Ap {a k:Int} (h:a=k) (m:Int) (hm:k≠m):ieq a m=false:=F5 (by omega)
theorem zu {l:List Int} (hl:l.length≤1000000):mF l=some (DK l):=by
 unfold mF
 have:=a9Q (l:=l) hl
 rw[show(fun x=>l9 (jD x) fun(x:List Int)=>some x)=fun x=>jD x from funext fun x=>Y7 _]
 exact this
theorem wF {e:List (Int×Int)} (h:e.length≤1000000):gW e=some (ji e):=by
 unfold gW
 refine fB e (a2Y (fun acc n=>acc++[n])) (fun b i=>(b.1,b.2.1,b.2.2,i)) (fun b=>b) (fun i b=>b.1.length≤i∧b.2.1.length≤i∧b.2.2.length≤i) (([],[],[]):List Int×List Int×List Int) h (by simp) (fun i a b ha hi hI=>?_) (fun b hI=>?_) (fun h2=>?_)
 ·obtain⟨b1,b2,b3⟩:=b
  simp only at hI
  simp only[H6 ha,o6,E9,ha,o7,aB a.2 (show b1.length≤1000000 by omega),aB a.2 (show b2.length≤1000000 by omega),aB a.2 (show b3.length≤1000000 by omega),a2Y,b8R]
  rw[O8 (by omega)]
  by_cases h7:a.1=7
  ·rw[F8 h7,Ap h7 8 (by decide),Ap h7 36 (by decide),Ap h7 37 (by decide),Ap h7 38 (by decide),Ap h7 39 (by decide)]
   exact⟨rfl,by simp <;> omega,by simp <;> omega,by simp <;> omega⟩
  rw[F5 h7]
  by_cases h8:a.1=8
  ·rw[F8 h8,Ap h8 36 (by decide),Ap h8 37 (by decide),Ap h8 38 (by decide),Ap h8 39 (by decide)]
   exact⟨rfl,by simp <;> omega,by simp <;> omega,by simp <;> omega⟩
  rw[F5 h8]
  cases ieq a.1 36 <;> cases ieq a.1 37 <;> cases ieq a.1 38 <;> cases ieq a.1 39 <;> exact⟨rfl,by simp <;> omega,by simp <;> omega,by simp <;> omega⟩
 ·simp only[H5];rfl
 ·rw[KE]at h2 ⊢
  simp only[RG,List.nil_append]at h2 ⊢
  rw[zu (by omega),o7,zu (by omega),o7,zu (by omega)]
  rfl
theorem ut {e:List (Int×Int)} (h:e.length≤500000):fF e=some (ji e):=by
 unfold fF
 refine fB e (a2Y (fun acc n=>ins n acc)) (fun b i=>(b.1,b.2.1,b.2.2,i)) (fun b=>b) (fun i b=>b.1.length≤i∧b.2.1.length≤i∧b.2.2.length≤i) (([],[],[]):List Int×List Int×List Int) (by omega) (by simp) (fun i a b ha hi hI=>?_) (fun b hI=>?_) (fun h2=>?_)
 ·obtain⟨b1,b2,b3⟩:=b
  simp only at hI
  have l1:=lL a.2 b1;have l2:=lL a.2 b2;have l3:=lL a.2 b3
  rw[Uy]
  simp only[H6 ha,o6,E9,ha,o7,rP a.2 (show b1.length≤1000000 by omega),rP a.2 (show b2.length≤1000000 by omega),rP a.2 (show b3.length≤1000000 by omega),a2Y,isM]
  rw[O8 (by omega)]
  by_cases h7:a.1=7
  ·rw[F8 h7,Ap h7 8 (by decide),G8 (show a.1<36 by omega)]
   exact⟨rfl,by simp <;> omega,by simp <;> omega,by simp <;> omega⟩
  rw[F5 h7]
  cases ieq a.1 8 <;> cases ile 36 a.1 <;> cases ile a.1 39 <;> exact⟨rfl,by simp <;> omega,by simp <;> omega,by simp <;> omega⟩
 ·simp only[H5];rfl
 ·rw[KE];rfl
theorem WB (p:Int→Bool) (e:List (Int×Int)):(IZ p e).length≤e.length:=by
 unfold IZ;rw[List.length_map];exact List.length_filter_le _ _
theorem yj (e:List (Int×Int)):(ji e).2.1.length≤e.length:=Nat.le_trans (Eh _) (WB _ e)
theorem yl (e:List (Int×Int)):(ji e).2.2.length≤e.length:=Nat.le_trans (Eh _) (WB _ e)
def inD (n d:Int):Bool:=l7 (ile 0 d) (ilt d n) false
def xh (n:Int) (r:V9):List Int:=(ji r.2.2.2.2.2.1).2.1.filter (inD n)++(ji r.2.2.2.2.2.2.1).2.1.filter (inD n)
theorem OA (p:Int→Bool):∀(l b:List Int),l.foldl (fun acc x=>l7 (p x) (acc++[x]) acc) b=b++l.filter p
 | [],b=>by simp
 | a::l,b=>by
  rw[List.foldl_cons,OA p l,List.filter_cons]
  cases p a <;> simp
theorem Rz {f:List Int×Int→Option ((List Int×Int)⊕List Int)} (l b:List Int) (n:Int) (hl:l.length≤1000) (hb:b.length≤1000)
  (hin:∀(i:Nat) (a:Int) (acc:List Int),l[i]? =some a→i≤1000000→f (acc,(i:Int))=l7 (ile 0 a) (l7 (ilt a n) (l9 (X9 acc [a]) fun x=>some (.inl (x,x9 .i64 (i:Int) 1))) (some (.inl (acc,x9 .i64 (i:Int) 1)))) (some (.inl (acc,x9 .i64 (i:Int) 1))))
  (hend:∀acc,f (acc,(l.length:Int))=some (.inr acc)):P5 f (b,0)=some (b++l.filter (inD n)):=by
 have key:=dU l (fun(acc:List Int) x=>l7 (inD n x) (acc++[x]) acc) (fun b i=>(b,i)) (fun b=>b) (fun i acc=>acc.length≤1000+i) (f:=f) (b:=b) (by omega) (by omega) ?_ ?_
 ·rw[key.1,OA]
 ·intro i a acc ha hi hI
  have:=(O5.1 ha).1
  rw[hin i a acc ha hi,O8 (by omega),aB _ (by omega)]
  unfold inD
  cases ile 0 a
  ·exact⟨rfl,by show acc.length≤_;omega⟩
  cases ilt a n
  ·exact⟨rfl,by show acc.length≤_;omega⟩
  ·exact⟨rfl,by simp;omega⟩
 ·intro acc hI
  rw[hend]
theorem JK {r:V9} (n:Int) (h1:r.2.2.2.2.2.1.length≤50) (h2:r.2.2.2.2.2.2.1.length≤50):lI r n=some (xh n r):=by
 have g1:=yj r.2.2.2.2.2.1
 have g2:=yj r.2.2.2.2.2.2.1
 unfold lI xh
 rw[wF (by omega),o7,wF (by omega),o7]
 refine J5 (Rz (ji r.2.2.2.2.2.1).2.1 [] n (by omega) (by simp) (fun i a acc ha hi=>?_) (fun acc=>?_)) ?_
 rotate_left 2
 ·rw[o7,Y7,List.nil_append]
  have:=List.length_filter_le (inD n) (ji r.2.2.2.2.2.1).2.1
  refine Rz (ji r.2.2.2.2.2.2.1).2.1 _ n (by omega) (by omega) (fun i a acc ha hi=>?_) (fun acc=>?_)
  ·simp only[H6 ha,o6,E9,ha,o7]
   rw[show J4 (ji r.2.2.2.2.2.2.1).2.1 (toN (i:Int))=some a from ha,o7]
  ·simp only[H5];rfl
 ·simp only[H6 ha,o6,E9,ha,o7]
  rw[show J4 (ji r.2.2.2.2.2.1).2.1 (toN (i:Int))=some a from ha,o7]
 ·simp only[H5];rfl
def nD (s:D8):Int:=o8 s.2.2.2.1
def dl (n:Int) (rs:List V9) (d:Int):List Int:=rs.flatMap fun r=>l7 (ieq r.2.1 d) (xh n r) []
def I7 (s:D8) (d:Int):List Int:=l7 (inD (nD s) d) (DK (dl (nD s) s.2.2.2.2 d)) []
theorem KC {s:D8} (h:SmS s) {r:V9} (hr:r∈s.2.2.2.2) (n:Int):(xh n r).length≤100:=by
 obtain⟨_,h1,h2⟩:=h.ro r hr
 have a1:=yj r.2.2.2.2.2.1
 have a2:=yj r.2.2.2.2.2.2.1
 have b1:=List.length_filter_le (inD n) (ji r.2.2.2.2.2.1).2.1
 have b2:=List.length_filter_le (inD n) (ji r.2.2.2.2.2.2.1).2.1
 unfold xh;rw[List.length_append];omega
theorem a0e (n:Int) (rs:List V9) (r:V9) (d:Int):dl n (rs++[r]) d=dl n rs d++l7 (ieq r.2.1 d) (xh n r) []:=by
 unfold dl;rw[List.flatMap_append];simp
theorem a0d (n:Int) (rs:List V9) (r:V9) (d:Int):dl n (r::rs) d=l7 (ieq r.2.1 d) (xh n r) []++dl n rs d:=rfl
theorem XR {s:D8} (h:SmS s) (n d:Int):∀(rs:List V9),(∀r∈rs,r∈s.2.2.2.2)→(dl n rs d).length≤100*rs.length
 | [],_=>by simp[dl]
 | r::rs,hm=>by
  have ih:=XR h n d rs fun r hr=>hm r (by simp[hr])
  have h1:=KC h (hm r (by simp)) n
  rw[a0d,List.length_append,List.length_cons]
  cases ieq r.2.1 d
  ·simp only[o5,List.length_nil];omega
  ·simp only[o6];omega
theorem b8U {n:Int} {rs:List V9} {d x:Int} :x∈dl n rs d↔∃r∈rs,r.2.1=d∧x∈xh n r:=by
 unfold dl
 rw[List.mem_flatMap]
 constructor
 ·rintro⟨r,hr,hx⟩
  cases hq:ieq r.2.1 d <;> rw[hq]at hx
  ·simp at hx
  ·exact⟨r,hr,N8.1 hq,hx⟩
 ·rintro⟨r,hr,hq,hx⟩
  exact⟨r,hr,by rw[F8 hq];exact hx⟩
theorem a5D {n:Int} {r:V9} {x:Int} (h:x∈xh n r):0≤x∧x<n:=by
 have key:inD n x=true:=by
  unfold xh at h
  rcases List.mem_append.1 h with h | h <;> exact(List.mem_filter.1 h).2
 unfold inD at key
 cases h0:ile 0 x <;> rw[h0]at key
 ·cases key
 ·exact⟨fM.1 h0,Y4.1 key⟩
theorem rW (s:D8) (d:Int):SI (I7 s d):=by
 unfold I7;cases inD (nD s) d
 ·exact List.Pairwise.nil
 ·exact a1B _
theorem oO {s:D8} {d x:Int} (h:x∈I7 s d):0≤x∧x<nD s:=by
 unfold I7 at h
 cases hq:inD (nD s) d <;> rw[hq]at h
 ·simp at h
 ·obtain⟨r,_,_,hx⟩:=b8U.1 ((Em _ _).1 h)
  exact a5D hx
theorem VV {f:List Int×Int→Option ((List Int×Int)⊕List Int)} (s:D8) (l b:List Int) (hl:l.length≤1000) (hb:b.length≤100000)
  (hin:∀(i:Nat) (a:Int) (acc:List Int),l[i]? =some a→i≤1000000→f (acc,(i:Int))=l9 (wP s a) fun x=>l7 x (l9 (dB acc a) fun x=>some (.inl (x,x9 .i64 (i:Int) 1))) (some (.inl (acc,x9 .i64 (i:Int) 1))))
  (hend:∀acc,f (acc,(l.length:Int))=some (.inr acc)):P5 f (b,0)=some (wJ (l.filter (inD (nD s))) b):=by
 have key:=dU l (fun(acc:List Int) x=>l7 (inD (nD s) x) (ins x acc) acc) (fun b i=>(b,i)) (fun b=>b) (fun i acc=>acc.length≤100000+i) (f:=f) (b:=b) (by omega) (by omega) ?_ ?_
 ·have hf:∀(l b:List Int),l.foldl (fun(acc:List Int) x=>l7 (inD (nD s) x) (ins x acc) acc) b=wJ (l.filter (inD (nD s))) b:=by
   intro l
   induction l with
   | nil=>intro b;rfl
   | cons a l ih=>
    intro b
    rw[List.foldl_cons,ih,List.filter_cons]
    cases inD (nD s) a <;> rfl
  rw[key.1,hf]
 ·intro i a acc ha hi hI
  have hlt:=(O5.1 ha).1
  have h2:=lL a acc
  rw[hin i a acc ha hi,YG,o7,O8 (by omega),rP _ (by omega)]
  change l7 (inD (nD s) a) _ _=_∧_
  cases inD (nD s) a
  ·exact⟨rfl,by show acc.length≤_;omega⟩
  ·exact⟨rfl,by show(ins a acc).length≤_;omega⟩
 ·intro acc hI
  rw[hend]
theorem Hq {s:D8} (h:SmS s) (d:Int):pI s d=some (I7 s d):=by
 have hnr:=h.nr
 unfold pI I7
 rw[YG,o7]
 change l7 (D6 (inD (nD s) d)) _ _=_
 cases inD (nD s) d
 ·rfl
 simp only[x8,o5,o6]
 refine fB s.2.2.2.2 (fun(acc:List Int) r=>l7 (ieq r.2.1 d) (wJ (xh (nD s) r) acc) acc) (fun b i=>(b,i)) (fun b=>b) (fun i acc=>acc.length≤100*i) [] (by omega) (by simp) (fun i r acc ha hi hI=>?_) (fun acc hI=>?_) (fun h2=>?_)
 ·have hlt:=(O5.1 ha).1
  obtain⟨_,h1,h2⟩:=h.ro r (dN ha)
  have a1:=yj r.2.2.2.2.2.1
  have a2:=yj r.2.2.2.2.2.2.1
  have hlen:=sD (xh (nD s) r) acc
  have hrl:=KC h (dN ha) (nD s)
  simp only[H6 ha,o6,E9,ha,o7]
  rw[O8 (by omega)]
  cases ieq r.2.1 d
  ·exact⟨rfl,by show acc.length≤_;omega⟩
  simp only[x8,o5,o6,ut (show r.2.2.2.2.2.1.length≤500000 by omega),ut (show r.2.2.2.2.2.2.1.length≤500000 by omega),o7]
  refine⟨?_,by show(wJ (xh (nD s) r) acc).length≤_;omega⟩
  refine J5 (VV s (ji r.2.2.2.2.2.1).2.1 acc (by omega) (by omega) (fun i a acc ha hi=>?_) (fun acc=>?_)) ?_
  rotate_left 2
  ·rw[o7]
   have hl2:=sD ((ji r.2.2.2.2.2.1).2.1.filter (inD (nD s))) acc
   have hl3:=List.length_filter_le (inD (nD s)) (ji r.2.2.2.2.2.1).2.1
   refine J5 (VV s (ji r.2.2.2.2.2.2.1).2.1 _ (by omega) (by omega) (fun i a acc ha hi=>?_) (fun acc=>?_)) ?_
   rotate_left 2
   ·rw[o7];unfold xh;rw[zF]
   ·simp only[H6 ha,o6,E9,ha,o7]
    rw[show J4 (ji r.2.2.2.2.2.2.1).2.1 (toN (i:Int))=some a from ha];rfl
   ·simp only[H5];rfl
  ·simp only[H6 ha,o6,E9,ha,o7]
   rw[show J4 (ji r.2.2.2.2.2.1).2.1 (toN (i:Int))=some a from ha];rfl
  ·simp only[H5];rfl
 ·simp only[H5];rfl
 ·have hf:∀(l:List V9) (b:List Int),l.foldl (fun(acc:List Int) r=>l7 (ieq r.2.1 d) (wJ (xh (nD s) r) acc) acc) b=wJ (dl (nD s) l d) b:=by
   intro l
   induction l with
   | nil=>intro b;rfl
   | cons a l ih=>
    intro b
    rw[List.foldl_cons,ih,a0d,zF]
    cases ieq a.2.1 d <;> rfl
  rw[hf];rfl
theorem Nj {α:Type} (m k:Nat) (f:Nat→α) (v:α):((List.range m).map f).set k v=(List.range m).map fun d=>if d=k then v else f d:=by
 apply List.ext_getElem?
 intro i
 rw[List.getElem?_set,List.getElem?_map,List.getElem?_map,List.length_map,List.length_range]
 by_cases hi:i<m
 ·rw[List.getElem?_range hi]
  by_cases h:k=i
  ·subst h;simp[hi]
  ·simp[h,Ne.symm h]
 ·have:(List.range m)[i]? =none:=by simp;omega
  rw[this]
  by_cases h:k=i
  ·subst h;simp[hi]
  ·simp[h]
def NM (m:Nat) (rs:List V9):List (List Int):=(List.range m).map fun(d:Nat)=>dl (m:Int) rs (d:Int)
theorem Jr {l:List Int} (hl:l.length≤1000000):tu l=some (DK l):=zu hl
theorem xB {α:Type} (m:Nat) (f:Nat→α) {k:Nat} (h:k<m):((List.range m).map f)[k]? =some (f k):=by
 rw[List.getElem?_map,List.getElem?_range h];rfl
theorem BQ {s:D8} (h:SmS s):kP s=some ((List.range s.2.2.2.1.length).map fun(d:Nat)=>I7 s (d:Int)):=by
 have hnr:=h.nr
 have hnd:=h.nd
 unfold kP
 generalize hm:s.2.2.2.1.length=m at*
 have hn:nD s=(m:Int):=by unfold nD o8;rw[hm]
 rw[show o8 s.2.2.2.1=(m:Int)from hn,show iU (m:Int) ([]:List Int)=some (NM m []) by unfold iU NM dl;rw[if_pos (by omega)];simp[List.map_const'],o7]
 refine fB s.2.2.2.2 (fun(b:List (List Int)) r=>l7 (inD m r.2.1) (b.set r.2.1.toNat ((b.getD r.2.1.toNat [])++xh m r)) b) (fun b i=>(b,i)) (fun b=>b) (fun i b=>b=NM m (s.2.2.2.2.take i)) (NM m []) (by omega) (by simp) (fun i r b ha hi hI=>?_) (fun b hI=>?_) (fun h2=>?_)
 ·have hlt:=(O5.1 ha).1
  obtain⟨_,h1,h2⟩:=h.ro r (dN ha)
  have hst:s.2.2.2.2.take (i+1)=s.2.2.2.2.take i++[r]:=by
   rw[List.take_succ_eq_append_getElem hlt,(O5.1 ha).2]
  have hlb:o8 b=(m:Int):=by rw[hI];simp[o8,NM]
  obtain⟨rd,hrd⟩:∃rd:Int,r.2.1=rd:=⟨r.2.1,rfl⟩
  simp only[H6 ha,o6,E9,ha,o7,hlb,hrd]
  rw[O8 (by omega),hst]
  by_cases hd:0≤rd∧rd<(m:Int)
  ·obtain⟨d0,d1⟩:=hd
   have hk:rd.toNat<m:=by omega
   have hkk:((rd.toNat:Nat):Int)=rd:=by omega
   have hg:b[rd.toNat]? =some (dl m (s.2.2.2.2.take i) rd):=by rw[hI];unfold NM;rw[xB m _ hk,hkk]
   have hll:=XR h m rd (s.2.2.2.2.take i) fun r hr=>List.mem_of_mem_take hr
   have hrl:=KC h (dN ha) m
   have htl:(s.2.2.2.2.take i).length≤60:=by simp;omega
   rw[G7 d0,F6 d1,show inb rd (m:Int)=true by unfold inb;simp;omega,show J4 b (toN rd)=some (dl m (s.2.2.2.2.take i) rd)from hg,JK _ h1 h2]
   simp only[o6,o7]
   rw[tX (by omega),show FZ (toN rd) (toN rd)=true by simp[FZ]]
   simp only[o6,o7]
   have hin:inD m rd=true:=by unfold inD;rw[G7 d0,F6 d1];rfl
   rw[hin,show b.getD rd.toNat []=dl m (s.2.2.2.2.take i) rd by rw[qp,hg];rfl]
   refine⟨rfl,?_⟩
   show b.set rd.toNat _=_
   rw[hI];unfold NM
   rw[Nj]
   apply List.map_congr_left
   intro d hdm
   rw[a0e,hrd]
   by_cases hq:d=rd.toNat
   ·subst hq;rw[if_pos rfl,hkk,F8 rfl];rfl
   ·rw[if_neg hq,F5 (by omega)];simp
  ·have hin:inD m rd=false:=by
    unfold inD
    by_cases d0:0≤rd
    ·rw[G7 d0,E8 (by omega)];rfl
    ·rw[G8 (by omega)];rfl
   rw[hin]
   refine⟨?_,?_⟩
   ·unfold inD at hin
    cases q0:ile 0 rd
    ·rfl
    ·rw[q0]at hin;simp only[o6]at hin ⊢;rw[hin];rfl
   ·show b=_
    rw[hI];unfold NM
    apply List.map_congr_left
    intro d hdm
    have:=List.mem_range.1 hdm
    rw[a0e,hrd,F5 (by omega)];simp
 ·simp only[H5];rfl
 ·rw[List.take_length]at h2
  rw[h2]
  generalize hA:NM m s.2.2.2.2=A
  have hAl:o8 A=(m:Int):=by rw[←hA];simp[o8,NM]
  refine fB (List.range m) (fun(b:List (List Int)) d=>b.set d (DK (b.getD d []))) (fun b i=>(b,i)) (fun b=>b) (fun i b=>b=(List.range m).map fun(d:Nat)=>if d<i then DK (dl m s.2.2.2.2 (d:Int))else dl m s.2.2.2.2 (d:Int)) A (by simp;omega) (by rw[←hA];unfold NM;simp) (fun i d b ha hi hI=>?_) (fun b hI=>?_) (fun h3=>?_)
  ·have hlt:=(O5.1 ha).1
   simp only[List.length_range]at hlt
   have hdi:d=i:=by rw[List.getElem?_range hlt]at ha;exact(Option.some.inj ha).symm
   subst hdi
   have hlb:o8 b=(m:Int):=by rw[hI];simp[o8]
   have hg:b[d]? =some (dl m s.2.2.2.2 (d:Int)):=by rw[hI,xB m _ hlt,if_neg (by omega)]
   have hll:=XR h m d s.2.2.2.2 fun r hr=>hr
   simp only[hAl,hlb]
   rw[F6 (show(d:Int)<(m:Int) by omega),show inb (d:Int) (m:Int)=true by unfold inb;simp;omega,show J4 b (toN (d:Int))=some (dl m s.2.2.2.2 (d:Int))from hg]
   simp only[o6,o7]
   rw[Jr (by omega),show FZ (toN (d:Int)) (toN (d:Int))=true by simp[FZ],O8 (by omega)]
   simp only[o6,o7]
   rw[show b.getD d []=dl m s.2.2.2.2 (d:Int) by rw[qp,hg];rfl]
   refine⟨rfl,?_⟩
   rw[hI,Nj]
   apply List.map_congr_left
   intro e he
   by_cases hq:e=d
   ·subst hq;rw[if_pos rfl,if_pos (by omega)]
   ·rw[if_neg hq]
    by_cases hq2:e<d
    ·rw[if_pos hq2,if_pos (by omega)]
    ·rw[if_neg hq2,if_neg (by omega)]
  ·simp only[List.length_range,hAl,E8 (show(m:Int)≤(m:Int) by omega)];rfl
  ·rw[h3]
   apply congrArg some
   apply List.map_congr_left
   intro d hd
   have:=List.mem_range.1 hd
   simp only[List.length_range]
   rw[if_pos this]
   unfold I7
   rw[hn,show inD (m:Int) (d:Int)=true by unfold inD;rw[G7 (by omega),F6 (by omega)];rfl];rfl
def Rch (D:Int→List Int) (d:Int) (L:List Int):Prop:=SI L∧(∀x∈D d,x∈L)∧(∀x∈L,∀y∈D x,y∈L)∧∀C:Int→Prop,(∀x∈D d,C x)→(∀x,C x→∀y∈D x,C y)→∀x∈L,C x
theorem Rch.unique {D:Int→List Int} {d:Int} {L M:List Int} (h:Rch D d L) (k:Rch D d M):L=M:=
 YW h.1 k.1 fun x=>⟨fun hx=>h.2.2.2 (fun y=>y∈M) k.2.1 k.2.2.1 x hx,fun hx=>k.2.2.2 (fun y=>y∈L) h.2.1 h.2.2.1 x hx⟩
theorem Vb:∀{B A:List Int},SI A→SI B→(∀x∈A,x∈B)→A=B∨A.length<B.length
 | [],A,_,_,h=>by
  cases A with
  | nil=>exact .inl rfl
  | cons a A=>exact absurd (h a (by simp)) (by simp)
 | b::B,[],_,_,_=> .inr (by simp)
 | b::B,a::A,hA,hB,h=>by
  have hA' :=List.pairwise_cons.1 hA
  have hB' :=List.pairwise_cons.1 hB
  rcases List.mem_cons.1 (h a (by simp))with hab | hab
  ·subst hab
   rcases Vb (B:=B) (A:=A) hA'.2 hB'.2 (fun x hx=>by
    rcases List.mem_cons.1 (h x (by simp[hx]))with h1 | h1
    ·have:=hA'.1 x hx;omega
    ·exact h1)with h1 | h1
   ·exact .inl (by rw[h1])
   ·exact .inr (by simp only[List.length_cons];omega)
  ·have hab2:=hB'.1 a hab
   rcases Vb (B:=B) (A:=a::A) hA hB'.2 (fun x hx=>by
    rcases List.mem_cons.1 (h x hx)with h1 | h1
    ·rcases List.mem_cons.1 hx with h2 | h2
     ·omega
     ·have:=hA'.1 x h2;omega
    ·exact h1)with h1 | h1
   ·exact .inr (by rw[h1];simp)
   ·exact .inr (by simp only[List.length_cons]at*;omega)
def BA (D:Int→List Int) (L:List Int):List Int:=L.foldl (fun acc x=>wJ (D x) acc) L
theorem BC (D:Int→List Int) (x:Int):∀(l acc:List Int),x∈l.foldl (fun acc x=>wJ (D x) acc) acc↔x∈acc∨∃y∈l,x∈D y
 | [],acc=>by simp
 | a::l,acc=>by
  rw[List.foldl_cons,BC D x l,IV]
  constructor
  ·rintro((h | h) | ⟨y,hy,h⟩)
   ·exact .inr ⟨a,by simp,h⟩
   ·exact .inl h
   ·exact .inr ⟨y,by simp[hy],h⟩
  ·rintro(h | ⟨y,hy,h⟩)
   ·exact .inl (.inr h)
   ·rcases List.mem_cons.1 hy with rfl | hy
    ·exact .inl (.inl h)
    ·exact .inr ⟨y,hy,h⟩
theorem a0z (D:Int→List Int):∀(l:List Int) {acc:List Int},SI acc→SI (l.foldl (fun acc x=>wJ (D x) acc) acc)
 | [],_,h=>h
 | a::l,_,h=>by rw[List.foldl_cons];exact a0z D l (Nz _ h)
theorem Pj (D:Int→List Int) {L:List Int} (h:SI L):SI (BA D L):=a0z D L h
def itS (D:Int→List Int) (d:Int):Nat→List Int
 | 0=>D d
 | k+1=>BA D (itS D d k)
section
variable {D:Int→List Int} {n:Nat} (hsi:∀x,SI (D x)) (hin:∀x,∀y∈D x,0≤y∧y<(n:Int))
include hsi hin
theorem RV (d:Int):∀k,SI (itS D d k)
 | 0=>hsi d
 | k+1=>Pj D (RV d k)
theorem a0n (d:Int):∀k,∀x∈itS D d k,0≤x∧x<(n:Int)
 | 0,x,hx=>hin d x hx
 | k+1,x,hx=>by
  rcases(BC D x _ _).1 hx with h | ⟨y,_,h⟩
  ·exact a0n d k x h
  ·exact hin y x h
theorem a0m (d:Int) (k:Nat):BA D (itS D d k)=itS D d k∨(itS D d k).length<(BA D (itS D d k)).length:=by
 rcases Vb (RV hsi hin d k) (Pj D (RV hsi hin d k)) (fun x hx=>(BC D x _ _).2 (.inl hx))with h | h
 ·exact .inl h.symm
 ·exact .inr h
theorem RX (d:Int):∀k,BA D (itS D d k)=itS D d k∨k<(BA D (itS D d k)).length
 | 0=>by
  rcases a0m hsi hin d 0 with h | h
  ·exact .inl h
  ·exact .inr (by omega)
 | k+1=>by
  rcases RX d k with h | h
  ·exact .inl (by show BA D (BA D (itS D d k))=BA D (itS D d k);rw[h,h])
  ·rcases a0m hsi hin d (k+1)with h2 | h2
   ·exact .inl h2
   ·exact .inr (by
     have:(itS D d (k+1)).length=(BA D (itS D d k)).length:=rfl
     omega)
theorem b8S (d:Int):Rch D d (itS D d n):=by
 have hst:BA D (itS D d n)=itS D d n:=by
  rcases RX hsi hin d n with h | h
  ·exact h
  ·have:=Qb n (Pj D (RV hsi hin d n)) (a0n hsi hin d (n+1))
   omega
 refine⟨RV hsi hin d n,?_,?_,?_⟩
 ·intro x hx
  have:∀k,x∈itS D d k:=by
   intro k
   induction k with
   | zero=>exact hx
   | succ k ih=>exact(BC D x _ _).2 (.inl ih)
  exact this n
 ·intro x hx y hy
  rw[←hst]
  exact(BC D y _ _).2 (.inr ⟨x,hx,hy⟩)
 ·intro C h1 h2
  have:∀k,∀x∈itS D d k,C x:=by
   intro k
   induction k with
   | zero=>exact h1
   | succ k ih=>
    intro x hx
    rcases(BC D x _ _).1 hx with h | ⟨y,hy,h⟩
    ·exact ih x h
    ·exact h2 y (ih y hy) x h
  exact this n
end
def Z4 (s:D8) (d:Int):List Int:=itS (I7 s) d s.2.2.2.1.length
theorem BO (s:D8) (d:Int):Rch (I7 s) d (Z4 s d):=
 b8S (n:=s.2.2.2.1.length) (rW s) (fun x y hy=>oO hy) d
theorem uN {s:D8} {d x:Int} (h:x∈Z4 s d):0≤x∧x<nD s:=a0n (n:=s.2.2.2.1.length) (rW s) (fun x y hy=>oO hy) d _ x h
theorem BZ {s:D8} (h:SmS s) (d:Int):(I7 s d).length≤14:=
 Nat.le_trans (Qb s.2.2.2.1.length (rW s d) (fun x hx=>oO hx)) h.nd
theorem vg {s:D8} (h:SmS s) {l:List Int} (hs:SI l) (hi:∀x∈l,0≤x∧x<nD s):l.length≤14:=Nat.le_trans (Qb s.2.2.2.1.length hs hi) h.nd
theorem yP {s:D8} (h:SmS s) (d:Int):iM s d=some (Z4 s d):=by
 have hnd:=h.nd
 unfold iM
 rw[Hq h,o7]
 have hsi:=rW s
 have hin:∀x,∀y∈I7 s x,0≤y∧y<((s.2.2.2.1.length:Nat):Int):=fun x y hy=>oO hy
 refine fB s.2.2.2.1 (fun(b:List Int) (_:bg)=>BA (I7 s) b) (fun b i=>(b,i)) (fun b=>b) (fun i b=>b=itS (I7 s) d i) (I7 s d) (by omega) rfl (fun i f b ha hi hI=>?_) (fun b hI=>?_) (fun h2=>?_)
 ·simp only[H6 ha,o6]
  refine⟨?_,by show BA _ b=_;rw[hI];rfl⟩
  have hb1:SI b:=by rw[hI];exact RV hsi hin d i
  have hb2:∀x∈b,0≤x∧x<nD s:=by rw[hI];exact a0n hsi hin d i
  have hbl:=vg h hb1 hb2
  rw[O8 (by omega)]
  refine fB b (fun(acc:List Int) x=>wJ (I7 s x) acc) (fun b i=>(b,i)) (fun b=>b) (fun i acc=>SI acc∧∀x∈acc,0≤x∧x<nD s) b (by omega) ⟨hb1,hb2⟩ (fun j x acc hx hj hJ=>?_) (fun acc hJ=>?_) (fun h3=>?_)
  ·have hal:=vg h hJ.1 hJ.2
   have hdl:=BZ h x
   simp only[H6 hx,o6,E9,hx,o7,Hq h x]
   rw[O8 (by omega)]
   refine⟨?_,Nz _ hJ.1,fun y hy=>?_⟩
   ·refine fB (I7 s x) (fun(acc:List Int) y=>ins y acc) (fun b i=>(b,i)) (fun b=>b) (fun i a=>a.length≤acc.length+i) acc (by omega) (by omega) (fun k y a hy hk hK=>?_) (fun a hK=>?_) (fun h4=>?_)
    ·have hlt:=(O5.1 hy).1
     have hli:=lL y a
     simp only[H6 hy,o6,E9,hy,o7]
     rw[show J4 (I7 s x) (toN (k:Int))=some y from hy,o7,rP _ (by omega),o7,O8 (by omega)]
     exact⟨rfl,by show(ins y a).length≤_;omega⟩
    ·simp only[H5];rfl
    ·rfl
   ·rcases(IV y _ _).1 hy with h4 | h4
    ·exact oO h4
    ·exact hJ.2 y h4
  ·simp only[H5];rfl
  ·rfl
 ·simp only[H5];rfl
 ·rw[h2];rfl
def mk (S:List Bool) (x:Int):Bool:=if 0≤x then S.getD x.toNat false else false
def unm (S:List Bool):Nat:=S.count false
def rG (b:List Bool×List Int) (e:Int):List Bool×List Int:=l7 (mk b.1 e) b (b.1.set e.toNat true,b.2++[e])
theorem Yq {S:List Bool} {x:Int} (h0:0≤x) (h1:x<o8 S):S[x.toNat]? =some (mk S x):=by
 unfold mk;rw[if_pos h0,qp]
 have:x.toNat<S.length:=by simp only[o8]at h1;omega
 rw[Y5 this];rfl
theorem Uc {S:List Bool} {e:Int} (h0:0≤e) (h1:e<o8 S) (x:Int):mk (S.set e.toNat true) x=l7 (ieq x e) true (mk S x):=by
 unfold mk
 have hl:e.toNat<S.length:=by simp only[o8]at h1;omega
 by_cases hx:0≤x
 ·rw[if_pos hx,if_pos hx,qp,qp,List.getElem?_set]
  by_cases hq:x=e
  ·subst hq;rw[if_pos rfl,if_pos hl,F8 rfl];rfl
  ·rw[if_neg (by omega),F5 hq];rfl
 ·rw[if_neg hx,if_neg hx,F5 (by omega)];rfl
theorem a9R {S:List Bool} {e:Int} (h0:0≤e) (h1:e<o8 S) (hm:mk S e=false):unm (S.set e.toNat true)+1=unm S:=by
 have hl:e.toNat<S.length:=by simp only[o8]at h1;omega
 have hg:=Yq h0 h1
 rw[hm,Y5 hl]at hg
 have hg' :S[e.toNat]=false:=Option.some.inj hg
 unfold unm
 rw[List.count_set hl,hg']
 have:0<S.count false:=List.count_pos_iff.2 (by rw[←hg'];exact List.getElem_mem hl)
 simp;omega
structure RInv (n:Nat) (S:List Bool) (Q:List Int) (l:List Int) (S' :List Bool) (Q' :List Int):Prop where
 len:S'.length=n
 seen:∀x:Int,0≤x→x<(n:Int)→(mk S' x=true↔mk S x=true∨x∈l)
 sum:Q'.length+unm S' =Q.length+unm S
 le:unm S' ≤unm S
 old:∀x∈Q,x∈Q'
 new:∀x∈Q',x∈Q∨x∈l
 got:∀x,mk S' x=true→mk S x=true∨x∈Q'
theorem a5J {n:Nat} :∀(l:List Int) (S:List Bool) (Q:List Int),S.length=n→(∀x∈l,0≤x∧x<(n:Int))→RInv n S Q l (l.foldl rG (S,Q)).1 (l.foldl rG (S,Q)).2
 | [],S,Q,hl,_=>⟨hl,fun x _ _=>by simp,rfl,Nat.le_refl _,fun x hx=>hx,fun x hx=> .inl hx,fun x hx=> .inl hx⟩
 | e::l,S,Q,hl,hi=>by
  have he:=hi e (by simp)
  have hel:e<o8 S:=by simp only[o8];omega
  rw[List.foldl_cons]
  cases hm:mk S e with
  | true=>
   rw[show rG (S,Q) e=(S,Q) by unfold rG;rw[hm];rfl]
   have ih:=a5J l S Q hl fun x hx=>hi x (by simp[hx])
   refine⟨ih.len,fun x h0 h1=>?_,ih.sum,ih.le,ih.old,fun x hx=>?_,ih.got⟩
   ·rw[ih.seen x h0 h1,List.mem_cons]
    constructor
    ·rintro(h | h)
     ·exact .inl h
     ·exact .inr (.inr h)
    ·rintro(h | h | h)
     ·exact .inl h
     ·subst h;exact .inl hm
     ·exact .inr h
   ·rcases ih.new x hx with h | h
    ·exact .inl h
    ·exact .inr (by simp[h])
  | false=>
   rw[show rG (S,Q) e=(S.set e.toNat true,Q++[e]) by unfold rG;rw[hm];rfl]
   have ih:=a5J l (S.set e.toNat true) (Q++[e]) (by simp[hl]) fun x hx=>hi x (by simp[hx])
   have hu:=a9R he.1 hel hm
   refine⟨ih.len,fun x h0 h1=>?_,?_,?_,fun x hx=>ih.old x (by simp[hx]),fun x hx=>?_,fun x hx=>?_⟩
   ·rw[ih.seen x h0 h1,Uc he.1 hel,List.mem_cons]
    cases hq:ieq x e
    ·rw[qh]at hq;simp[hq]
    ·rw[N8]at hq;simp[hq]
   ·have:=ih.sum;simp only[List.length_append,List.length_cons,List.length_nil]at this;omega
   ·have:=ih.le;omega
   ·rcases ih.new x hx with h | h
    ·rcases List.mem_append.1 h with h | h
     ·exact .inl h
     ·exact .inr (by simp at h;simp[h])
    ·exact .inr (by simp[h])
   ·rcases ih.got x hx with h | h
    ·rw[Uc he.1 hel]at h
     cases hq:ieq x e
     ·rw[hq]at h;exact .inl h
     ·rw[N8]at hq;subst hq
      exact .inr (ih.old _ (by simp))
    ·exact .inr h
def LK (S:List Bool):List Int:=((List.range S.length).filter fun i=>S.getD i false).map fun(i:Nat)=>(i:Int)
theorem FD {S:List Bool} (x:Int):x∈LK S↔mk S x=true:=by
 unfold LK mk
 rw[List.mem_map]
 constructor
 ·rintro⟨i,hi,rfl⟩
  rw[if_pos (by omega)]
  exact(List.mem_filter.1 hi).2
 ·intro h
  split at h
  ·refine⟨x.toNat,List.mem_filter.2 ⟨List.mem_range.2 ?_,h⟩,by omega⟩
   rw[qp]at h
   cases hg:S[x.toNat]? with
   | none=>rw[hg]at h;cases h
   | some b=>exact(O5.1 hg).1
  ·cases h
theorem a4E (S:List Bool):SI (LK S):=by
 unfold LK
 refine List.Pairwise.map _ (R:=(·< ·)) (fun a b h=>by omega) (List.Pairwise.filter _ List.pairwise_lt_range)
theorem Yp {f:List Int×Int→Option ((List Int×Int)⊕List Int)} (S:List Bool) (hS:S.length≤100)
  (hin:∀(i:Nat) (a:Bool) (acc:List Int),S[i]? =some a→i≤1000000→acc.length≤i→f (acc,(i:Int))=l7 a (l9 (X9 acc [(i:Int)]) fun x=>some (.inl (x,x9 .i64 (i:Int) 1))) (some (.inl (acc,x9 .i64 (i:Int) 1))))
  (hend:∀acc,f (acc,(S.length:Int))=some (.inr acc)):P5 f ([],0)=some (LK S):=by
 have mk2:∀i,i≤S.length→((List.range i).filter fun i=>S.getD i false).length≤i:=fun i _=>by
  have:=List.length_filter_le (fun i=>S.getD i false) (List.range i);simpa using this
 obtain⟨e,h1,h2⟩:=Z5 (f:=f) (s:=([],0)) (fun x=>∃i:Nat,x=(((List.range i).filter fun i=>S.getD i false).map fun(i:Nat)=>(i:Int),(i:Int))∧i≤S.length) (fun e=>e=LK S) (fun x=>S.length -x.2.toNat) ⟨0,rfl,by omega⟩ (by simp;omega) (by
  rintro x ⟨i,rfl,hi⟩
  by_cases h:i<S.length
  ·have e:=Y5 h
   have hst:(List.range (i+1)).filter (fun i=>S.getD i false)=(List.range i).filter (fun i=>S.getD i false)++l7 S[i] [i] []:=by
    rw[List.range_succ,List.filter_append]
    congr 1
    rw[List.filter_cons,qp,e]
    cases S[i] <;> rfl
   have hl:=mk2 i hi
   refine .inl ⟨(((List.range (i+1)).filter fun i=>S.getD i false).map fun(i:Nat)=>(i:Int),((i+1:Nat):Int)),?_,⟨i+1,rfl,h⟩,by simp;omega⟩
   rw[hin i _ _ e (by omega) (by simpa using hl),O8 (by omega),hst,List.map_append,aB _ (by rw[List.length_map];omega)]
   cases S[i]
   ·simp
   ·rfl
  ·have:i=S.length:=by omega
   subst this
   exact .inr ⟨_,hend _,rfl⟩)
 rw[h1,h2]
theorem PN {D:Int→List Int} {n:Nat} (hn:n≤14) (hsi:∀x,SI (D x)) (hin:∀x,∀y∈D x,0≤y∧y<(n:Int)) {d:Int} (h0:0≤d) (h1:d<(n:Int)):
  ∃L,oN ((List.range n).map fun(x:Nat)=>D (x:Int)) d=some L∧Rch D d L:=by
 have hA:o8 ((List.range n).map fun(x:Nat)=>D (x:Int))=(n:Int):=by simp[o8]
 have hget:∀x:Int,0≤x→x<n→lat ((List.range n).map fun(x:Nat)=>D (x:Int)) x=some (D x):=fun x a b=>by
  have:x.toNat<n:=by omega
  unfold lat
  rw[if_pos a,xB n _ this,Int.toNat_of_nonneg a]
 unfold oN
 generalize (List.range n).map (fun(x:Nat)=>D (x:Int))=A at*
 rw[hA,show iU (n:Int) false=some (List.replicate n false) by unfold iU;rw[if_pos (by omega)];simp,o7]
 have hD14:∀x,(D x).length≤14:=fun x=>Nat.le_trans (Qb n (hsi x) (hin x)) hn
 have key:=Z5 (f:=fun(x:List Bool×List Int)=>l7 (ilt 0 (o8 x.2)) (l9 (lat x.2 0) fun(x_1:Int)=>l9 (J4 x.2 (toN 0)) fun(x_2:Int)=>l7 (ja 1 (o8 x.2) (o8 x.2)) (l9 (lat A x_2) fun(x_3:List Int)=>
   l9 (P5 (fun(x:List Bool×List Int×Int)=>l7 (ilt x.2.2 (o8 x_3)) (l9 (lat x_3 x.2.2) fun(x_4:Int)=>l9 (lat x.1 x_4) fun(x_5:Bool)=>l9 (J4 x.1 (toN x_4)) fun(x_6:Bool)=>
     l7 (D6 x_6) (l9 (lat x.1 x_4) fun(x_7:Bool)=>l9 (J4 x.1 (toN x_4)) fun(x_8:Bool)=>l9 (X9 x.2.1 [x_4]) fun(x_9:List Int)=>some (.inl (P6 x.1 (toN x_4) true,x_9,x9 .i64 x.2.2 1)))
      (some (.inl (x.1,x.2.1,x9 .i64 x.2.2 1)))) (some (.inr (x.1,x.2.1)))) (x.1,gq x.2 (toN 1) (toN (o8 x.2)),0)) fun(y:List Bool×List Int)=>some (.inl y)) none) (some (.inr x.1)))
  (s:=(List.replicate n false,[d]))
  (fun x=>x.1.length=n∧(∀q∈x.2,0≤q∧q<(n:Int))∧x.2.length+unm x.1≤n+1∧(∀q∈x.2,q=d∨mk x.1 q=true)∧(∀v,v=d∨mk x.1 v=true→v∈x.2∨∀y∈D v,mk x.1 y=true)∧
   (∀C:Int→Prop,(∀x∈D d,C x)→(∀x,C x→∀y∈D x,C y)→∀v,mk x.1 v=true→C v)∧(∀v,mk x.1 v=true→0≤v∧v<(n:Int)))
  (fun S=>S.length=n∧Rch D d (LK S)) (fun x=>2*unm x.1+x.2.length) ?_ ?_ ?_
 ·obtain⟨S,k1,k2,k3⟩:=key
  refine⟨LK S,?_,k3⟩
  refine(dh k1 _).trans ?_
  rw[Y7]
  refine Yp S (by omega) (fun i a acc ha hi hacc=>?_) (fun acc=>?_)
  ·simp only[H6 ha,o6,E9,ha,o7]
   rw[show J4 S (toN (i:Int))=some a from ha,o7]
  ·simp only[H5];rfl
 ·have hnone:∀v,mk (List.replicate n false) v=false:=fun v=>by
   unfold mk
   split
   ·rw[qp,List.getElem?_replicate];split <;> rfl
   ·rfl
  refine⟨by simp,fun q hq=>by simp at hq;omega,?_,fun q hq=> .inl (by simpa using hq),fun v hv=>?_,fun C _ _ v hv=>(by rw[hnone]at hv;cases hv),fun v hv=>(by rw[hnone]at hv;cases hv)⟩
  ·simp[unm,List.count_replicate];omega
  ·rcases hv with rfl | hv
   ·exact .inl (by simp)
   ·rw[hnone]at hv;cases hv
 ·simp[unm,List.count_replicate];omega
 ·rintro⟨S,Q⟩ ⟨i1,i2,i3,i4,i5,i6,i7⟩
  simp only at i1 i2 i3 i4 i5 i6 i7
  cases Q with
  | nil=>
   right
   refine⟨S,rfl,i1,a4E S,fun x hx=>?_,fun x hx y hy=>?_,fun C c1 c2 x hx=>i6 C c1 c2 x ((FD x).1 hx)⟩
   ·rcases i5 d (.inl rfl)with h | h
    ·cases h
    ·exact(FD x).2 (h x hx)
   ·rcases i5 x (.inr ((FD x).1 hx))with h | h
    ·cases h
    ·exact(FD y).2 (h y hy)
  | cons q Q=>
   left
   have hq:=i2 q (by simp)
   have hfold:=a5J (n:=n) (D q) S Q i1 (fun x hx=>hin q x hx)
   refine⟨(D q).foldl rG (S,Q),?_,?_,?_⟩
   ·simp only[F6 (show(0:Int)<o8 (q::Q) by simp[o8] <;> omega),o6,show lat (q::Q) 0=some q from rfl,show J4 (q::Q) (toN 0)=some q from rfl,o7,hget q hq.1 hq.2,
     show ja 1 (o8 (q::Q)) (o8 (q::Q))=true by simp[ja,o8] <;> omega,show gq (q::Q) (toN 1) (toN (o8 (q::Q)))=Q by simp[gq,toN,o8]]
    refine fB (D q) rG (fun b i=>(b.1,b.2,i)) (fun b=>b) (fun i b=>b.1.length=n∧b.2.length≤100+i) (S,Q) (by have:=hD14 q;omega) ⟨i1,by simp at i3;show Q.length≤100+0;omega⟩ (fun i e b he hi hI=>?_) (fun b hI=>?_) (fun h2=>rfl)
    ·obtain⟨S1,Q1⟩:=b
     simp only at hI
     have hee:=hin q e (dN he)
     have hlt:=(O5.1 he).1
     have hdl:=hD14 q
     have hg:=Yq (S:=S1) hee.1 (by simp only[o8];omega)
     have hla:lat S1 e=some (mk S1 e):=by unfold lat;rw[if_pos hee.1];exact hg
     have hlg:J4 S1 (toN e)=some (mk S1 e):=hg
     simp only[H6 he,o6,E9 (D q),he,o7,hla,hlg]
     rw[O8 (by omega),aB _ (by omega)]
     unfold rG
     simp only
     cases mk S1 e
     ·exact⟨rfl,by simp[hI.1],by simp <;> omega⟩
     ·exact⟨rfl,hI.1,by show Q1.length≤_;omega⟩
    ·simp only[H5];rfl
   ·obtain⟨j1,j2,j3,j4,j5,j6,j7⟩:=hfold
    generalize (D q).foldl rG (S,Q)=b at*
    obtain⟨S',Q'⟩:=b
    simp only at j1 j2 j3 j4 j5 j6 j7 ⊢
    have hrange:∀v,mk S' v=true→0≤v∧v<(n:Int):=fun v hv=>by
     rcases j7 v hv with h | h
     ·exact i7 v h
     ·rcases j6 v h with h | h
      ·exact i2 v (by simp[h])
      ·exact hin q v h
    refine⟨j1,fun x hx=>?_,?_,fun x hx=>?_,fun v hv=>?_,fun C c1 c2 v hv=>?_,hrange⟩
    ·rcases j6 x hx with h | h
     ·exact i2 x (by simp[h])
     ·exact hin q x h
    ·simp only[List.length_cons]at i3;omega
    ·rcases j6 x hx with h | h
     ·rcases i4 x (by simp[h])with h2 | h2
      ·exact .inl h2
      ·have hr:=i7 x h2
       exact .inr ((j2 x hr.1 hr.2).2 (.inl h2))
     ·have hr:=hin q x h
      exact .inr ((j2 x hr.1 hr.2).2 (.inr h))
    ·have up:∀y,mk S y=true→mk S' y=true:=fun y hy=>by
      have hr:=i7 y hy
      exact(j2 y hr.1 hr.2).2 (.inl hy)
     by_cases hvq:v=q
     ·subst hvq
      right
      intro y hy
      have hr:=hin v y hy
      exact(j2 y hr.1 hr.2).2 (.inr hy)
     ·by_cases hold:v=d∨mk S v=true
      ·rcases i5 v hold with h | h
       ·rcases List.mem_cons.1 h with h | h
        ·exact absurd h hvq
        ·exact .inl (j5 v h)
       ·exact .inr fun y hy=>up y (h y hy)
      ·rcases hv with h | h
       ·exact absurd (.inl h) hold
       ·rcases j7 v h with h2 | h2
        ·exact absurd (.inr h2) hold
        ·exact .inl h2
    ·by_cases hS:mk S v=true
     ·exact i6 C c1 c2 v hS
     ·have hr:=hrange v hv
      rcases(j2 v hr.1 hr.2).1 hv with h | h
      ·exact absurd h hS
      ·rcases i4 q (by simp)with h2 | h2
       ·subst h2;exact c1 v h
       ·exact c2 q (i6 C c1 c2 q h2) v h
   ·have:=hfold.sum;have:=hfold.le
    simp only[List.length_cons];omega
theorem AL {s:D8} (h:SmS s) {d:Int} (h0:0≤d) (h1:d<nD s):jq s d=some (Z4 s d):=by
 have hn:nD s=((s.2.2.2.1.length:Nat):Int):=rfl
 unfold jq
 change l7 (ilt d 0) _ (l7 (ile (nD s) d) _ _)=_
 rw[E8 h0,o5,G8 h1,o5,BQ h,o7,Y7]
 obtain⟨L,k1,k2⟩:=PN (D:=I7 s) h.nd (rW s) (fun x y hy=>oO hy) h0 (show d<((s.2.2.2.1.length:Nat):Int) by omega)
 rw[k1,Rch.unique k2 (BO s d)]
structure SmL (l:L8):Prop where
 few:Few l
 en:ZK l
 tb:Vj l
 sc:∀s∈l.2.2,SmS s
theorem SmL.scopes {l:L8} (h:SmL l):Ig l:=fun s hs=>by
 have hm:=h.sc s hs
 exact⟨hm.nm,by have:=hm.ni;omega,by have:=hm.nd;omega,by have:=hm.nr;omega⟩
theorem jw {ε ρ:Type} {p:Nat→Option ρ} (n:Nat) (hn:n≤1000000) (e:ε) {f:Int→Option (Out Int ε ρ)}
  (h1:∀i,i<n→f (i:Int)=some (match p i with | some r=> .rt r | none=> .nx (x9 .i64 (i:Int) 1))) (h2:f (n:Int)=some (.ex e)):
  J7 f 0=some (match O9 n p with | some r=> .inr r | none=> .inl e):=
 zG n (by omega) e (fun i hi=>by rw[h1 i hi,O8 (by omega)] <;> cases p i <;> rfl) h2
def EM (l:L8) (s:D8) (k:Nat):Option (Int×Int):=match s.2.2.2.2[k]? with | some r=>MV (BH s (AC l s) k r) (300+k:Nat) | none=>none
def Vy (s:D8) (d:Nat):Option (Int×Int):=l7 ((Z4 s d).any fun x=>ieq (d:Int) x) (some (9,((200+d:Nat):Int))) none
def yL (l:L8) (i:Nat) (m:Int):Bool:=l7 (ieq m (-1)) false (l7 (ilt m 0) true (l7 (ile (i:Int) m) true (match lat l.2.2 m with | some q=>D6 (ieq q.2.1 (-1)) | none=>true)))
def Pv (l:L8) (s:D8):Int×Int:=match zC l s with
 | some r=>r
 | none=>match O9 s.2.2.2.2.length (EM l s)with
  | some r=>r
  | none=>match O9 s.2.2.2.1.length (Vy s)with
   | some r=>r
   | none=>(0,0)
def vO (l:L8) (i:Nat) (s:D8):Int×Int:=
 l7 (wV s.1) (l7 (xm l 3 i s.1) (7,0) (l7 (yL l i s.2.1) (6,0) (l7 (ilt 12 (o8 s.2.2.1)) (4,112) (l7 (ilt 12 (o8 s.2.2.2.1)) (4,212) (Pv l s))))) (2,0)
theorem Qz {l:L8} (hL:SmL l) {i:Nat} {s:D8} (hs:l.2.2[i]? =some s):ug l (i:Int)=some (vO l i s):=by
 have hi:=(O5.1 hs).1
 have hS:=hL.sc s (dN hs)
 have hf:=hL.few
 have hf1:=hf.1;have hf2:=hf.2.1;have hf3:=hf.2.2
 have n1:=hS.ni;have n2:=hS.nd;have n3:=hS.nr
 unfold ug vO xm
 rw[E9,hs,o7,sF (by omega),o7,GX _ (by omega),o7,Ls _ (by omega),o7,VP _ (by simp;omega),o7]
 have hb:(l7 (l.1.any fun x=>seq x.1 s.1) (some (s,true)) (l7 (l.2.1.any fun x=>seq x.1 s.1) (some (s,true)) (some (s,(l.2.2.take i).any fun x=>seq x.1 s.1))))=
   some (s,(l.1.any fun x=>seq x.1 s.1) || (l.2.1.any fun x=>seq x.1 s.1) || (l.2.2.take i).any fun x=>seq x.1 s.1):=by
  cases l.1.any fun x=>seq x.1 s.1
  ·cases l.2.1.any fun x=>seq x.1 s.1 <;> rfl
  ·rfl
 rw[hb,o7]
 simp only
 rw[jm hS.nm,o7]
 cases wV s.1
 ·rfl
 simp only[x8,o5,o6]
 cases (l.1.any fun x=>seq x.1 s.1) || (l.2.1.any fun x=>seq x.1 s.1) || (l.2.2.take i).any fun x=>seq x.1 s.1
 case true=>rfl
 simp only[o5]
 have hm:(l7 (D6 (ieq s.2.1 (-1))) (l7 (ilt s.2.1 0) (some true) (l7 (ile (i:Int) s.2.1) (some true) (l9 (lat (l.2.2.take i) s.2.1) fun(x:D8)=>some (D6 (ieq x.2.1 (-1)))))) (some false))=some (yL l i s.2.1):=by
  unfold yL
  cases ieq s.2.1 (-1)
  case true=>rfl
  simp only[E5,o6,o5]
  cases h0:ilt s.2.1 0
  case true=>rfl
  cases h1:ile (i:Int) s.2.1
  case true=>rfl
  rw[X6]at h0;rw[tN]at h1
  obtain⟨q,hq,_⟩:=cZ (l:=l.2.2.take i) h0 (by simp only[o8,List.length_take];omega)
  have hq2:lat l.2.2 s.2.1=some q:=by
   have:=(iK hq).2.2.2
   unfold lat;rw[if_pos h0];exact(Jt this).2
  rw[hq,hq2];rfl
 rw[hm,o7]
 cases yL l i s.2.1
 case true=>rfl
 simp only[o5]
 cases ilt 12 (o8 s.2.2.1)
 case true=>rfl
 cases ilt 12 (o8 s.2.2.2.1)
 case true=>rfl
 simp only[o5,o7,D5]
 unfold Pv zC
 refine J5 (jw (p:=inP l s) s.2.2.1.length (by omega) PUnit.unit (fun k hk=>?_) ?_) ?_
 rotate_left 2
 ·cases O9 s.2.2.1.length (inP l s)
  case some r=>rfl
  simp only[o7,D5]
  refine J5 (jw (p:=Vz l s) s.2.2.2.1.length (by omega) PUnit.unit (fun k hk=>?_) ?_) ?_
  rotate_left 2
  ·cases O9 s.2.2.2.1.length (Vz l s)
   case some r=>rfl
   simp only[o7,D5]
   rw[yY hL.scopes hs,o7]
   refine J5 (jw (p:=EM l s) s.2.2.2.2.length (by omega) PUnit.unit (fun k hk=>?_) ?_) ?_
   rotate_left 2
   ·cases O9 s.2.2.2.2.length (EM l s)
    case some r=>rfl
    simp only[o7,D5]
    refine J5 (jw (p:=Vy s) s.2.2.2.1.length (by omega) PUnit.unit (fun k hk=>?_) ?_) ?_
    rotate_left 2
    ·cases O9 s.2.2.2.1.length (Vy s) <;> rfl
    ·have e:=Y5 hk
     simp only[H6 e,o6]
     rw[AL hS (by omega) (by show(k:Int)<o8 s.2.2.2.1;simp only[o8];omega),o7,a2m _ (by
      have:=vg hS (BO s (k:Int)).1 (fun x hx=>uN hx)
      omega),o7,show(200:Int)=((200:Nat):Int)from rfl,Lu (by omega) (by omega)]
     unfold Vy
     cases (Z4 s (k:Int)).any fun x=>ieq (k:Int) x <;> rfl
    ·rw[H5];rfl
   ·have e:=Y5 hk
    have hr:=(hS.ro _ (List.getElem_mem hk)).1
    simp only[H6 e,o6]
    rw[TE _ e (by omega) hr,o7,show(300:Int)=((300:Nat):Int)from rfl,Lu (by omega) (by omega)]
    simp only[EM,e,MV]
    cases ieq (BH s (AC l s) k s.2.2.2.2[k]) 0 <;> rfl
   ·rw[H5];rfl
  ·have e:=Y5 hk
   have hm:=hS.fo.2 _ (List.getElem_mem hk)
   simp only[H6 e,o6,E9,e,o7]
   rw[sF (by omega),o7,Gm hm (by omega) (by simp;omega),o7,show(200:Int)=((200:Nat):Int)from rfl,Lu (by omega) (by omega)]
   simp only[Vz,e,MV]
   cases ieq (Ed l.1 s.2.2.2.1[k] s.2.2.1 (s.2.2.2.1.take k)) 0 <;> rfl
  ·rw[H5];rfl
 ·have e:=Y5 hk
  have hm:=hS.fo.1 _ (List.getElem_mem hk)
  simp only[H6 e,o6,E9,e,o7]
  rw[sF (by omega),o7,Gm hm (by simp;omega) (by simp),o7,show(100:Int)=((100:Nat):Int)from rfl,Lu (by omega) (by omega)]
  simp only[inP,e,MV]
  cases ieq (Ed l.1 s.2.2.1[k] (s.2.2.1.take k) []) 0 <;> rfl
 ·rw[H5];rfl
theorem Fv {c e:Int} {r:Int×Int} (h:MV c e=some r):r.1≠0:=by
 unfold MV at h
 cases hc:ieq c 0 <;> rw[hc]at h
 ·cases h;exact qh.1 hc
 ·cases h
theorem Lm {l:L8} {s:D8} {r:Int×Int} (h:zC l s=some r):r.1≠0:=by
 unfold zC at h
 split at h
 ·rename_i q hq
  cases h
  obtain⟨k,_,hk⟩:=bn hq
  unfold inP at hk
  split at hk
  ·exact Fv hk
  ·cases hk
 ·obtain⟨k,_,hk⟩:=bn h
  unfold Vz at hk
  split at hk
  ·exact Fv hk
  ·cases hk
theorem PI {l:L8} (hL:SmL l) {i:Nat} {s:D8} (hs:l.2.2[i]? =some s):pO l (i:Int)=some (l7 (ieq (vO l i s).1 0) (0,0,0,0) (MQ i (vO l i s))):=by
 have hi:=(O5.1 hs).1
 have hS:=hL.sc s (dN hs)
 have hf:=hL.few
 have hf1:=hf.1;have hf2:=hf.2.1;have hf3:=hf.2.2
 have n1:=hS.ni;have n2:=hS.nd;have n3:=hS.nr
 unfold pO vO
 rw[E9,hs,o7,fE hS.nm,o7]
 cases wV s.1
 ·rfl
 simp only[x8,o5,o6]
 rw[a3q hf,o7]
 cases xm l 3 i s.1
 case true=>rfl
 simp only[o5]
 have hm:(l7 (D6 (ieq s.2.1 (-1))) (l7 (ilt s.2.1 0) (some (Sum.inr ((6:Int),(3:Int),(i:Int),(0:Int)))) (l7 (ile (i:Int) s.2.1) (some (.inr (6,3,(i:Int),0))) (l9 (lat l.2.2 s.2.1) fun(x:D8)=>l7 (D6 (ieq x.2.1 (-1))) (some (.inr (6,3,(i:Int),0))) (some (.inl (((0:Int),(0:Int),(0:Int),(0:Int)),(0:Int),(3:Int),(i:Int),(0:Int))))))) (some (.inl ((0,0,0,0),0,3,(i:Int),0))))=
   some (l7 (yL l i s.2.1) (.inr (6,3,(i:Int),0)) (.inl ((0,0,0,0),0,3,(i:Int),0))):=by
  unfold yL
  cases ieq s.2.1 (-1)
  case true=>rfl
  simp only[E5,o6,o5]
  cases h0:ilt s.2.1 0
  case true=>rfl
  cases h1:ile (i:Int) s.2.1
  case true=>rfl
  rw[X6]at h0;rw[tN]at h1
  obtain⟨q,hq,_⟩:=cZ (l:=l.2.2) h0 (by simp only[o8];omega)
  rw[hq]
  simp only[o5,o7]
  cases ieq q.2.1 (-1) <;> rfl
 rw[hm,o7]
 cases yL l i s.2.1
 case true=>rfl
 simp only[o5,D5]
 cases ilt 12 (o8 s.2.2.1)
 case true=>rfl
 cases ilt 12 (o8 s.2.2.2.1)
 case true=>rfl
 simp only[o5]
 rw[PE hs (by omega) (by omega) hS.fo,o7]
 unfold Pv
 cases hfs:zC l s with
 | some r=>
  have hc:=Lm hfs
  simp only[MQ]
  rw[F5 hc];rfl
 | none=>
  simp only[F8 (rfl:(0:Int)=0),x8,o5]
  refine J5 (iH (p:=fun k=>(EM l s k).map (MQ i)) s.2.2.2.2.length (by omega) _ (0,0,0,0) (fun k hk=>?_) ?_) ?_
  rotate_left 2
  ·rw[zD]
   cases hfr:O9 s.2.2.2.2.length (EM l s)with
   | some r=>
    obtain⟨k,_,hk⟩:=bn hfr
    have hc:r.1≠0:=by
     unfold EM at hk
     split at hk
     ·exact Fv hk
     ·cases hk
    simp only[Option.map_some,o7,H7]
    rw[F5 hc];rfl
   | none=>
    simp only[Option.map_none,o7,D5]
    refine J5 (iH (p:=fun k=>(Vy s k).map (MQ i)) s.2.2.2.1.length (by omega) _ (0,0,0,0) (fun k hk=>?_) ?_) ?_
    rotate_left 2
    ·rw[zD]
     cases hfc:O9 s.2.2.2.1.length (Vy s)with
     | some r=>
      obtain⟨k,_,hk⟩:=bn hfc
      have hc:r.1≠0:=by
       unfold Vy at hk
       cases hq:(Z4 s (k:Int)).any fun x=>ieq (k:Int) x <;> rw[hq]at hk
       ·cases hk
       ·cases hk;show(9:Int)≠0;decide
      simp only[Option.map_some,o7,H7]
      rw[F5 hc];rfl
     | none=>rfl
    ·have e:=Y5 hk
     have htl:=vg hS (BO s (k:Int)).1 (fun x hx=>uN hx)
     simp only[H6 e,o6]
     rw[yP hS,o7,show(200:Int)=((200:Nat):Int)from rfl,Lu (by omega) (by omega)]
     have hcy:J7 (fun(x_6:bJ×Int)=>l7 (ilt x_6.2 (o8 (Z4 s (k:Int)))) (l9 (lat (Z4 s (k:Int)) x_6.2) fun(x:Int)=>l7 (ieq x (k:Int)) (some (Out.rt ((9:Int),(3:Int),(i:Int),((200+k:Nat):Int)))) (some (.nx (x_6.1,x9 .i64 x_6.2 1)))) (some (.ex x_6.1))) (((0:Int),(0:Int),(0:Int),(0:Int)),(0:Int))=
       some (l7 ((Z4 s (k:Int)).any fun x=>ieq (k:Int) x) (.inr (9,3,(i:Int),((200+k:Nat):Int))) (.inl (0,0,0,0))):=by
      have h1:=GZ (Z4 s (k:Int)) (fun(b:Int×Int×Int×Int) x=>l7 (ieq x (k:Int)) (.inr ((9:Int),(3:Int),(i:Int),((200+k:Nat):Int))) (.inl b)) (fun b i=>(b,i)) (fun b=>b) (fun _ _=>True) (b:=((0,0,0,0):Int×Int×Int×Int)) (f:=fun(x_6:bJ×Int)=>l7 (ilt x_6.2 (o8 (Z4 s (k:Int)))) (l9 (lat (Z4 s (k:Int)) x_6.2) fun(x:Int)=>l7 (ieq x (k:Int)) (some (Out.rt ((9:Int),(3:Int),(i:Int),((200+k:Nat):Int)))) (some (.nx (x_6.1,x9 .i64 x_6.2 1)))) (some (.ex x_6.1))) (by omega) trivial (fun j x b hx hj _=>by
       refine⟨?_,fun _ _=>trivial⟩
       simp only[H6 hx,o6,E9,hx,o7]
       rw[O8 (by omega)]
       cases ieq x (k:Int) <;> rfl) (fun b _=>by simp only[H5];rfl)
      refine h1.1.trans ?_
      have hfo:∀(l:List Int) (b:Int×Int×Int×Int),az (fun(b:Int×Int×Int×Int) x=>l7 (ieq x (k:Int)) (.inr ((9:Int),(3:Int),(i:Int),((200+k:Nat):Int))) (.inl b)) l b=l7 (l.any fun x=>ieq (k:Int) x) (.inr (9,3,(i:Int),((200+k:Nat):Int))) (.inl b):=by
       intro l
       induction l with
       | nil=>intro b;rfl
       | cons a l ih=>
        intro b
        unfold az
        rw[List.any_cons,show ieq (k:Int) a=ieq a (k:Int) by unfold ieq;by_cases h:a=(k:Int) <;> simp[h,eq_comm]]
        cases ieq a (k:Int)
        ·simp only[o5,Bool.false_or];exact ih b
        ·rfl
      rw[hfo]
      cases (Z4 s (k:Int)).any fun x=>ieq (k:Int) x <;> rfl
     refine J5 hcy ?_
     unfold Vy
     cases (Z4 s (k:Int)).any fun x=>ieq (k:Int) x <;> rfl
    ·simp only[H5];rfl
  ·have e:=Y5 hk
   have hr:=(hS.ro _ (List.getElem_mem hk)).1
   simp only[H6 e,o6]
   rw[QO hL.scopes hs e hr,o7,show(300:Int)=((300:Nat):Int)from rfl,Lu (by omega) (by omega)]
   simp only[EM,e,MV]
   cases ieq (BH s (AC l s) k s.2.2.2.2[k]) 0 <;> rfl
  ·simp only[H5];rfl
def wZ (l:L8) (i:Nat):Option (Int×Int×Int×Int):=match l.2.2[i]? with | some s=>Iy 3 i (vO l i s) | none=>none
def FT (l:L8):Int×Int×Int×Int:=l7 (ilt 4 (o8 l.2.2)) (4,3,4,0) (match O9 l.2.2.length (wZ l)with | some r=>r | none=>(0,0,0,0))
def dn (l:L8):Int×Int×Int×Int:=l7 (ieq (Ea l).1 0) (l7 (ieq (Ac l).1 0) (FT l) (Ac l)) (Ea l)
theorem NW {l:L8} (hL:SmL l):qP l=some (FT l):=by
 have hf:=hL.few.2.2
 unfold qP FT
 cases ilt 4 (o8 l.2.2)
 case true=>rfl
 simp only[o5]
 refine J5 (iH (p:=wZ l) l.2.2.length (by omega) _ (0,0,0,0) (fun i hi=>?_) ?_) ?_
 rotate_left 2
 ·cases O9 l.2.2.length (wZ l) <;> rfl
 ·have e:=Y5 hi
  simp only[H6 e,o6,Qz hL e,o7,wZ,e,Iy]
  cases ieq (vO l i l.2.2[i]).1 0 <;> rfl
 ·rw[H5];rfl
theorem MO {l:L8} (hL:SmL l):tZ l=some (dn l):=by
 unfold tZ dn
 rw[Qy hL.few hL.en,o7]
 cases ieq (Ea l).1 0
 ·rfl
 simp only[x8,o5,o6]
 rw[NY hL.few hL.tb,o7]
 cases ieq (Ac l).1 0
 ·rfl
 simp only[x8,o5,o6]
 rw[NW hL];rfl
theorem Rw {k i:Int} {c:Int×Int} {r:Int×Int×Int×Int} (h:Iy k i c=some r):r.1≠0:=by
 unfold Iy at h
 cases hc:ieq c.1 0 <;> rw[hc]at h
 ·cases h;exact qh.1 hc
 ·cases h
theorem UA {l:L8} (hL:SmL l):uD l=some (dn l):=by
 have hf1:=hL.few.1;have hf2:=hL.few.2.1;have hf3:=hL.few.2.2
 unfold uD dn Ea
 cases ilt 8 (o8 l.1)
 case true=>rfl
 simp only[o5]
 refine J5 (iH (p:=Lh l) l.1.length (by omega) _ (0,0,0,0) (fun i hi=>?_) ?_) ?_
 rotate_left 2
 ·cases hfe:O9 l.1.length (Lh l)with
  | some r=>
   obtain⟨k,_,hk⟩:=bn hfe
   have hc:r.1≠0:=by
    unfold Lh at hk
    split at hk
    ·exact Rw hk
    ·cases hk
   simp only[o7,H7,F5 hc,o5]
  | none=>
   simp only[o7,D5,F8 (rfl:(0:Int)=0),o6]
   unfold Ac
   cases ilt 8 (o8 l.2.1)
   case true=>rfl
   simp only[o5]
   refine J5 (iH (p:=EU l) l.2.1.length (by omega) _ (0,0,0,0) (fun i hi=>?_) ?_) ?_
   rotate_left 2
   ·cases hft:O9 l.2.1.length (EU l)with
    | some r=>
     obtain⟨k,_,hk⟩:=bn hft
     have hc:r.1≠0:=by
      unfold EU at hk
      split at hk
      ·exact Rw hk
      ·cases hk
     simp only[o7,H7,F5 hc,o5]
    | none=>
     simp only[o7,D5,F8 (rfl:(0:Int)=0),o6]
     unfold FT
     cases ilt 4 (o8 l.2.2)
     case true=>rfl
     simp only[o5]
     refine J5 (iH (p:=wZ l) l.2.2.length (by omega) _ (0,0,0,0) (fun i hi=>?_) ?_) ?_
     rotate_left 2
     ·cases O9 l.2.2.length (wZ l) <;> rfl
     ·have e:=Y5 hi
      simp only[H6 e,o6,PI hL e,o7,wZ,e,Iy]
      cases hc:ieq (vO l i l.2.2[i]).1 0
      ·simp only[o5,MQ,hc];rfl
      ·simp only[o6,F8 (rfl:(0:Int)=0)];rfl
     ·simp only[H5];rfl
   ·have e:=Y5 hi
    simp only[H6 e,o6,PK hL.few e (hL.tb _ (List.getElem_mem hi)),o7,EU,e,Iy,FV]
    cases hc:ieq (Qj l i l.2.1[i]).1 0
    ·simp only[o5,hc];rfl
    ·simp only[o6,F8 (rfl:(0:Int)=0)];rfl
   ·simp only[H5];rfl
 ·have e:=Y5 hi
  have hm:=hL.en _ (List.getElem_mem hi)
  simp only[H6 e,o6,QM hL.few e hm.1 hm.2,o7,Lh,e,Iy,FV]
  cases hc:ieq (Om l i l.1[i]).1 0
  ·simp only[o5,hc];rfl
  ·simp only[o6,F8 (rfl:(0:Int)=0)];rfl
 ·simp only[H5];rfl
structure SmC (c:U0):Prop where
 ni:c.2.1.length≤1000
 nm:c.2.2.length≤1000
 nv:∀v∈c.2.2,v.length≤1000
def ZB (en:List bT) (fs:List bg) (vs:List DN) (i:Nat):Option (Int×Int):=match vs[i]?,fs[i]? with
 | some v,some f=>l7 (ieq v.1 f.2.1) (l7 (ieq v.2.1 f.2.2) (l7 (inB v.2.2 (bnd f.2 en)) none (some ((i:Int),3))) (some ((i:Int),8))) (some ((i:Int),8))
 | _,_=>none
def DF (en:List bT) (fs:List bg) (vs:List DN):Int×Int:=
 l7 (ilt (o8 vs) (o8 fs)) (o8 vs,5) (l7 (ilt (o8 fs) (o8 vs)) (o8 fs,4) (match O9 vs.length (ZB en fs vs)with | some r=>r | none=>(0,0)))
theorem DX (l:L8) {vs:List DN} {fs:List bg} (hv:vs.length≤1000000):fZ l vs fs=some (DF l.1 fs vs):=by
 unfold fZ DF
 cases h1:ilt (o8 vs) (o8 fs)
 case true=>rfl
 cases h2:ilt (o8 fs) (o8 vs)
 case true=>rfl
 simp only[o5]
 have hl:vs.length=fs.length:=by rw[X6]at h1 h2;simp only[o8]at h1 h2;omega
 refine J5 (jw (p:=ZB l.1 fs vs) vs.length hv PUnit.unit (fun k hk=>?_) ?_) ?_
 rotate_left 2
 ·cases O9 vs.length (ZB l.1 fs vs) <;> rfl
 ·have e:=Y5 hk
  have e2:=Y5 (show k<fs.length by omega)
  simp only[H6 e,o6,E9,e,e2,o7,JE,ZB,inB,iF]
  cases ieq vs[k].1 fs[k].2.1
  ·rfl
  cases ieq vs[k].2.1 fs[k].2.2
  ·rfl
  cases ile (bnd fs[k].2 l.1).1 vs[k].2.2
  ·rfl
  cases ile vs[k].2.2 (bnd fs[k].2 l.1).2 <;> rfl
 ·rw[H5];rfl
theorem PG (l:L8) {vs:List DN} {fs:List bg} (hv:vs.length≤1000000):pU l fs vs=some (DF l.1 fs vs):=by
 unfold pU DF
 cases h1:ilt (o8 vs) (o8 fs)
 case true=>rfl
 cases h2:ilt (o8 fs) (o8 vs)
 case true=>rfl
 simp only[o5]
 have hl:vs.length=fs.length:=by rw[X6]at h1 h2;simp only[o8]at h1 h2;omega
 refine J5 (jw (p:=ZB l.1 fs vs) vs.length hv PUnit.unit (fun k hk=>?_) ?_) ?_
 rotate_left 2
 ·cases O9 vs.length (ZB l.1 fs vs) <;> rfl
 ·have e:=Y5 hk
  have e2:=Y5 (show k<fs.length by omega)
  simp only[H6 e,o6,E9,e,e2,o7,Ux,ZB,Hu]
  cases ieq vs[k].1 fs[k].2.1
  ·rfl
  cases ieq vs[k].2.1 fs[k].2.2
  ·rfl
  cases inB vs[k].2.2 (bnd fs[k].2 l.1) <;> rfl
 ·rw[H5];rfl
def Au (l:L8) (s:D8):List bg×Int:=match lat l.2.2 s.2.1 with | some q=>(q.2.2.1,8) | none=>([],0)
def Wl (en:List bT) (fs:List bg) (ms:List (List DN)) (i:Nat):Option (Int×Int×Int):=match ms[i]? with
 | some vs=>l7 (ieq (DF en fs vs).2 0) none (some ((i:Int),DF en fs vs))
 | none=>none
def rV (l:L8) (k:Int) (c:U0):Int×Int×Int:=match lat l.2.2 k with
 | none=>(-1,-1,6)
 | some s=>l7 (ilt c.1 0) (-1,-1,3) (l7 (ilt 109572 c.1) (-1,-1,3) (l7 (ieq (DF l.1 s.2.2.1 c.2.1).2 0)
   (l7 (ilt (Au l s).2 (o8 c.2.2)) ((Au l s).2,-1,4) (match O9 c.2.2.length (Wl l.1 (Au l s).1 c.2.2)with | some r=>r | none=>(0,0,0))) (-1,DF l.1 s.2.2.1 c.2.1)))
theorem Xk {l:L8} {k:Int} {A B:Option (PUnit⊕(Int×Int×Int))} :(∃s,lat l.2.2 k=some s∧l7 (ilt k 0) A (l7 (ile (o8 l.2.2) k) A B)=B∧s∈l.2.2)∨(lat l.2.2 k=none∧l7 (ilt k 0) A (l7 (ile (o8 l.2.2) k) A B)=A):=by
 rw[iF k 0,vW (o8 l.2.2) k]
 cases h0:ile 0 k
 ·exact .inr ⟨iq (.inl h0),rfl⟩
 cases h1:ilt k (o8 l.2.2)
 ·exact .inr ⟨iq (.inr h1),rfl⟩
 obtain⟨s,hs,hm⟩:=cZ (fM.1 h0) (Y4.1 h1)
 exact .inl ⟨s,hs,rfl,hm⟩
theorem a8x (l:L8) (k:Int) {c:U0} (hc:SmC c):mX l k c=some (rV l k c):=by
 unfold mX rV
 rcases Xk (l:=l) (k:=k) (A:=some (.inr ((-1:Int),(-1:Int),(6:Int)))) (B:=some (.inl PUnit.unit))with⟨s,hs,hb,_⟩ | ⟨hs,hb⟩
 ·rw[hb,hs]
  simp only[o7,D5]
  cases ilt c.1 0
  case true=>rfl
  cases ilt 109572 c.1
  case true=>rfl
  simp only[o5,o7,D5]
  rw[DX l (by have:=hc.ni;omega),o7]
  cases ieq (DF l.1 s.2.2.1 c.2.1).2 0
  ·rfl
  simp only[x8,o5,o6]
  have hm:je l k=some (Au l s):=by
   unfold je Au
   rw[hs,o7,iF s.2.1 0,vW (o8 l.2.2) s.2.1]
   cases h0:ile 0 s.2.1
   ·rw[iq (.inl h0)];rfl
   cases h1:ilt s.2.1 (o8 l.2.2)
   ·rw[iq (.inr h1)];rfl
   obtain⟨q,hq,_⟩:=cZ (fM.1 h0) (Y4.1 h1)
   rw[hq];rfl
  rw[hm,o7]
  cases ilt (Au l s).2 (o8 c.2.2)
  case true=>rfl
  simp only[o5]
  refine J5 (jw (p:=Wl l.1 (Au l s).1 c.2.2) c.2.2.length (by have:=hc.nm;omega) PUnit.unit (fun j hj=>?_) ?_) ?_
  rotate_left 2
  ·cases O9 c.2.2.length (Wl l.1 (Au l s).1 c.2.2) <;> rfl
  ·have e:=Y5 hj
   simp only[H6 e,o6,E9,e,o7]
   rw[DX l (by have:=hc.nv _ (List.getElem_mem hj);omega),o7]
   simp only[Wl,e]
   cases ieq (DF l.1 (Au l s).1 c.2.2[j]).2 0 <;> rfl
  ·rw[H5];rfl
 ·rw[hb,hs];rfl
theorem a5x (l:L8) (k:Int) {c:U0} (hc:SmC c):lh l k c=some (rV l k c):=by
 unfold lh rV
 rcases Xk (l:=l) (k:=k) (A:=some (.inr ((-1:Int),(-1:Int),(6:Int)))) (B:=some (.inl PUnit.unit))with⟨s,hs,hb,_⟩ | ⟨hs,hb⟩
 ·rw[hb,hs]
  simp only[o7,D5]
  cases ilt c.1 0
  case true=>rfl
  cases ilt 109572 c.1
  case true=>rfl
  simp only[o5,o7,D5]
  rw[PG l (by have:=hc.ni;omega),o7]
  cases ieq (DF l.1 s.2.2.1 c.2.1).2 0
  ·rfl
  simp only[x8,o5,o6]
  have hm:wC l k=some (l7 (ile 0 s.2.1) (l7 (ilt s.2.1 (o8 l.2.2)) (s.2.1,8) (-1,0)) (-1,0)):=by
   unfold wC
   rw[hs,o7,iF s.2.1 0,vW (o8 l.2.2) s.2.1]
   cases ile 0 s.2.1
   ·rfl
   cases ilt s.2.1 (o8 l.2.2) <;> rfl
  rw[hm,o7]
  unfold Au
  have hz:∀(m:Int) (fs:List bg),l7 (ilt (0:Int) (o8 c.2.2)) (some (((0:Int),(-1:Int),(4:Int)):Int×Int×Int)) (l9 (J7 (fun(x_1:Int)=>l7 (ilt x_1 (o8 c.2.2)) (l9 (lat l.2.2 m) fun(x:D8)=>l9 (lat c.2.2 x_1) fun(x_2:List DN)=>l9 (pU l x.2.2.1 x_2) fun(x:nI)=>l7 (D6 (ieq x.2 0)) (some (Out.rt ((x_1,x):Int×Int×Int))) (some (.nx (x9 .i64 x_1 1)))) (some (.ex PUnit.unit))) 0) fun(o:PUnit⊕DN)=>J9 o (fun(y:PUnit)=>some (0,0,0)) fun(r:DN)=>some r)=
    some (l7 (ilt 0 (o8 c.2.2)) (0,-1,4) (match O9 c.2.2.length (Wl l.1 fs c.2.2)with | some r=>r | none=>(0,0,0))):=by
   intro m fs
   cases h0:ilt 0 (o8 c.2.2)
   case true=>rfl
   have:c.2.2.length=0:=by rw[X6]at h0;simp only[o8]at h0;omega
   have hnil:c.2.2=[]:=List.length_eq_zero_iff.1 this
   rw[hnil];rfl
  cases h0:ile 0 s.2.1
  ·rw[iq (.inl h0)];exact hz _ _
  cases h1:ilt s.2.1 (o8 l.2.2)
  ·rw[iq (.inr h1)];exact hz _ _
  obtain⟨q,hq,_⟩:=cZ (fM.1 h0) (Y4.1 h1)
  rw[hq]
  simp only[o6]
  cases ilt 8 (o8 c.2.2)
  case true=>rfl
  simp only[o5]
  refine J5 (jw (p:=Wl l.1 q.2.2.1 c.2.2) c.2.2.length (by have:=hc.nm;omega) PUnit.unit (fun j hj=>?_) ?_) ?_
  rotate_left 2
  ·cases O9 c.2.2.length (Wl l.1 q.2.2.1 c.2.2) <;> rfl
  ·have e:=Y5 hj
   simp only[H6 e,o6,E9,e,o7,hq]
   rw[PG l (by have:=hc.nv _ (List.getElem_mem hj);omega),o7]
   simp only[Wl,e]
   cases ieq (DF l.1 q.2.2.1 c.2.2[j]).2 0 <;> rfl
  ·rw[H5];rfl
 ·rw[hb,hs];rfl
def GR (r:Int×Int) (t:Int):Bool:=l7 (zg r) (l7 (ile r.1 t) (ilt t r.2) false) false
theorem zo (r:Int×Int) (t:Int):fA r t=some (GR r t):=by
 unfold fA GR
 rw[AY,o7]
 cases zg r
 ·rfl
 cases ile r.1 t <;> rfl
theorem CU (r:Int×Int) (t:Int):kY r t=some (GR r t):=zo r t
section
variable (on:Nat→Bool) (par:Nat→Int)
def DY (i:Nat):Nat:=((List.range i).filter on).length
def xE (i:Nat):Int:=if on i=true then(DY on i:Int)else if h:0≤par i∧par i<(i:Int)then xE (par i).toNat else -1
termination_by i
decreasing_by omega
def anc (i:Nat):Int:=if 0≤par i∧par i<(i:Int)then xE on par (par i).toNat else -1
theorem a0y (i:Nat):xE on par i=if on i=true then(DY on i:Int)else anc on par i:=by
 rw[xE];unfold anc
 by_cases h:on i=true
 ·rw[if_pos h,if_pos h]
 ·rw[if_neg h,if_neg h]
  by_cases h2:0≤par i∧par i<(i:Int)
  ·rw[dif_pos h2,if_pos h2]
  ·rw[dif_neg h2,if_neg h2]
def onL (n:Nat):List Nat:=(List.range n).filter on
theorem Es (i:Nat):onL on (i+1)=onL on i++(bif on i then[i]else[]):=by
 unfold onL;rw[List.range_succ,List.filter_append]
 rw[show List.filter on [i]=bif on i then[i]else[] by rw[List.filter_cons];cases on i <;> rfl]
theorem vZ (i:Nat):(onL on i).length≤i:=by
 have:=List.length_filter_le on (List.range i);unfold onL;simpa using this
theorem a0C {n p:Nat} (hp:p<n) (h:on p=true):(onL on n)[DY on p]? =some p:=by
 induction n with
 | zero=>omega
 | succ n ih=>
  rw[Es]
  by_cases hq:p=n
  ·subst hq
   rw[h,List.getElem?_append_right (by unfold DY onL;omega)]
   unfold DY onL;simp
  ·have:=ih (by omega)
   rw[List.getElem?_append_left (O5.1 this).1]
   exact this
theorem Ue {n i:Nat} (h:i∈onL on n):i<n∧on i=true:=by
 unfold onL at h
 obtain⟨h1,h2⟩:=List.mem_filter.1 h
 exact⟨List.mem_range.1 h1,h2⟩
end
def castL (l:List Nat):List Int:=l.map fun(i:Nat)=>(i:Int)
theorem a1Y {l:List Nat} {i a:Nat} (h:l[i]? =some a):(castL l)[i]? =some (a:Int):=by unfold castL;rw[List.getElem?_map,h];rfl
theorem a3a {rs:List V9} {on:Nat→Bool} {f:List Int×List Int×List Int×Int→Option ((List Int×List Int×List Int×Int)⊕(List Int×List Int))} (hl:rs.length≤1000)
  (hin:∀(i:Nat) (r:V9) (A B C:List Int),rs[i]? =some r→f (A,B,C,(i:Int))=l9 (l7 (ile 0 r.2.2.1) (l7 (ilt r.2.2.1 (i:Int)) (l9 (lat C r.2.2.1) fun(x_2:Int)=>l9 (J4 C (toN r.2.2.1)) fun(x:Int)=>some x) (some (-1))) (some (-1))) fun(x_2:Int)=>
   l9 (lat C (i:Int)) fun(x_3:Int)=>l9 (J4 C (toN (i:Int))) fun(x_4:Int)=>l7 (on i) (l9 (lat (P6 C (toN (i:Int)) x_2) (i:Int)) fun(x_6:Int)=>l9 (J4 (P6 C (toN (i:Int)) x_2) (toN (i:Int))) fun(x_7:Int)=>l9 (X9 A [(i:Int)]) fun(x_8:List Int)=>l9 (X9 B [x_2]) fun(x_9:List Int)=>
     some (.inl (x_8,x_9,P6 (P6 C (toN (i:Int)) x_2) (toN (i:Int)) (o8 A),x9 .i64 (i:Int) 1))) (some (.inl (A,B,P6 C (toN (i:Int)) x_2,x9 .i64 (i:Int) 1))))
  (hend:∀(A B C:List Int),f (A,B,C,(rs.length:Int))=some (.inr (A,B))):
  P5 f ([],[],List.replicate rs.length 0,0)=some (castL (onL on rs.length),(onL on rs.length).map (anc on fun i=>match rs[i]? with | some r=>r.2.2.1 | none=>-1)):=by
 obtain⟨par,hpar⟩:∃par:Nat→Int,par=fun i=>match rs[i]? with | some r=>r.2.2.1 | none=>-1:=⟨_,rfl⟩
 rw[←hpar]
 obtain⟨e,h1,h2⟩:=Z5 (f:=f) (s:=([],[],List.replicate rs.length 0,0)) (fun x=>∃i:Nat,x=(castL (onL on i),(onL on i).map (anc on par),pd ((List.range i).map (xE on par)) (rs.length -i),(i:Int))∧i≤rs.length)
  (fun e=>e=(castL (onL on rs.length),(onL on rs.length).map (anc on par))) (fun x=>rs.length -x.2.2.2.toNat) ⟨0,by simp[onL,castL,pd],by omega⟩ (by simp;omega) (by
  rintro x ⟨i,rfl,hi⟩
  by_cases h:i<rs.length
  ·left
   have e:=Y5 h
   have hp:par i=rs[i].2.2.1:=by rw[hpar];simp only[e]
   obtain⟨p,hpp⟩:∃p:Int,p=par i:=⟨_,rfl⟩
   have hp' :rs[i].2.2.1=p:=by rw[hpp,hp]
   have hlen:((List.range i).map (xE on par)).length=i:=by simp
   have hol:=vZ on i
   obtain⟨m,hm⟩:∃m,rs.length -i=m+1:=⟨rs.length -i -1,by omega⟩
   have hanc:l9 (l7 (ile 0 p) (l7 (ilt p (i:Int)) (l9 (lat (pd ((List.range i).map (xE on par)) (m+1)) p) fun(x_2:Int)=>l9 (J4 (pd ((List.range i).map (xE on par)) (m+1)) (toN p)) fun(x:Int)=>some x) (some (-1))) (some (-1))) (fun x=>some x)=some (anc on par i):=by
    unfold anc
    rw[←hpp]
    by_cases h0:0≤p
    ·rw[G7 h0]
     by_cases h1:p<(i:Int)
     ·have hk:p.toNat<i:=by omega
      have hg:(pd ((List.range i).map (xE on par)) (m+1))[p.toNat]? =some (xE on par p.toNat):=by
       unfold pd
       rw[List.getElem?_append_left (by simp;omega),xB _ _ hk]
      rw[F6 h1,if_pos ⟨h0,h1⟩]
      simp only[o6]
      rw[show lat (pd ((List.range i).map (xE on par)) (m+1)) p=some (xE on par p.toNat) by unfold lat;rw[if_pos h0];exact hg,o7,show J4 (pd ((List.range i).map (xE on par)) (m+1)) (toN p)=some (xE on par p.toNat)from hg];rfl
     ·rw[E8 (by omega),if_neg (by omega)];rfl
    ·rw[G8 (by omega),if_neg (by omega)];rfl
   rw[Y7]at hanc
   refine⟨(castL (onL on (i+1)),(onL on (i+1)).map (anc on par),pd ((List.range (i+1)).map (xE on par)) (rs.length -(i+1)),((i+1:Nat):Int)),?_,⟨i+1,rfl,h⟩,by simp;omega⟩
   rw[hin i _ _ _ _ e,hm,hp',hanc,o7,O8 (by omega),show rs.length -(i+1)=m by omega,Es,List.range_succ,List.map_append]
   have q1:=Uk ((List.range i).map (xE on par)) m
   have q2:=Ul ((List.range i).map (xE on par)) m
   have q3:=YC ((List.range i).map (xE on par)) m (anc on par i)
   have q4:=FH ((List.range i).map (xE on par)) m (anc on par i)
   have q5:=Et ((List.range i).map (xE on par)) m (anc on par i)
   have q6:=Jd ((List.range i).map (xE on par)) m (anc on par i) (o8 (castL (onL on i)))
   rw[hlen]at q1 q2 q3 q4 q5 q6
   rw[q1,o7,q2,o7,q3]
   have hna:(List.map (xE on par) (List.range i++[i]))=(List.range i).map (xE on par)++[if on i=true then(DY on i:Int)else anc on par i]:=by rw[List.map_append,List.map_singleton,a0y]
   rw[hna]
   cases hon:on i
   ·simp[castL]
   ·simp only[o6,cond_true]
    rw[q4,o7,q5,o7,aB _ (by simp[castL];omega),o7,aB _ (by simp;omega),o7,q6]
    simp[castL,o8,DY,onL]
  ·right
   have:i=rs.length:=by omega
   subst this
   exact⟨_,hend _ _ _,rfl⟩)
 rw[h1,h2]
def onR (s:D8) (d t:Int) (i:Nat):Bool:=match s.2.2.2.2[i]? with | some r=>l7 (ieq r.2.1 d) (GR r.2.2.2.2.1 t) false | none=>false
def Aw (s:D8) (i:Nat):Int:=match s.2.2.2.2[i]? with | some r=>r.2.2.1 | none=>-1
def gZ (s:D8) (d t:Int):List Nat:=onL (onR s d t) s.2.2.2.2.length
def Py (s:D8) (i:Nat):Int:=match s.2.2.2.2[i]? with | some r=>r.2.2.2.1 | none=>0
def ai (s:D8) (d t:Int):List Int×List Int×List Int:=(castL (gZ s d t),(gZ s d t).map (anc (onR s d t) (Aw s)),(gZ s d t).map (Py s))
theorem b8Z {s:D8} {i:Nat} {r:V9} (h:s.2.2.2.2[i]? =some r) (d t:Int):lJ r d t=some (onR s d t i):=by
 unfold lJ onR
 rw[h,zo]
 simp only
 cases ieq r.2.1 d <;> rfl
theorem UK {s:D8} (h:s.2.2.2.2.length≤1000) (d t:Int):kJ s.2.2.2.2 (d,t)=some (castL (gZ s d t),(gZ s d t).map (anc (onR s d t) (Aw s))):=by
 unfold kJ
 rw[show iU (o8 s.2.2.2.2) (0:Int)=some (List.replicate s.2.2.2.2.length 0) by unfold iU;rw[if_pos (by simp[o8];omega)];simp[o8],o7,Y7]
 refine a3a h (fun i r A B C hr=>?_) (fun A B C=>?_)
 ·simp only[H6 hr,o6,E9,hr,o7]
  rw[b8Z hr];rfl
 ·simp only[H5];rfl
theorem KN {s:D8} {d t:Int} {i:Nat} (h:i∈gZ s d t):i<s.2.2.2.2.length∧onR s d t i=true:=Ue _ h
theorem a3s {s:D8} (h:s.2.2.2.2.length≤1000) (d t:Int):oP s d t=some (ai s d t):=by
 have hl:=vZ (onR s d t) s.2.2.2.2.length
 unfold oP
 rw[UK h,o7]
 refine J5 (a4j (castL (gZ s d t)) (fun(k:Int)=>Py s k.toNat) (F:=id) (by unfold castL gZ;simp;omega) (fun i a acc ha hacc=>?_) (fun acc=>?_)) ?_
 rotate_left 2
 ·rw[o7];unfold ai castL;rw[List.map_map];rfl
 ·simp only[H6 ha,o6,E9 (castL (gZ s d t)),ha,o7]
  rw[show J4 (castL (gZ s d t)) (toN (i:Int))=some a from ha,o7]
  obtain⟨k,hk,rfl⟩:∃k,k∈gZ s d t∧(k:Int)=a:=by
   have:=dN ha
   unfold castL at this
   exact List.mem_map.1 this
  have hlt:=KN hk
  have e:=Y5 hlt.1
  have hil:=(O5.1 ha).1
  simp only[castL,List.length_map]at hil
  rw[E9,e,o7,aB _ (by unfold gZ at hil;omega),o7]
  simp only[Py,Int.toNat_natCast,e]
 ·simp only[H5];rfl
theorem WV {s:D8} (h:s.2.2.2.2.length≤1000) (d t:Int):wB s d t=some (castL (gZ s d t)):=by
 unfold wB
 rw[Y7]
 obtain⟨e,h1,h2⟩:=Z5 (f:=fun(x:List Int×Int)=>l7 (ilt x.2 (o8 s.2.2.2.2)) (l9 (lat s.2.2.2.2 x.2) fun(x_1:V9)=>l7 (ieq x_1.2.1 d) (l9 (lat s.2.2.2.2 x.2) fun(x_2:V9)=>l9 (kY x_2.2.2.2.2.1 t) fun(x_3:Bool)=>
   l7 x_3 (l9 (X9 x.1 [x.2]) fun(x_4:List Int)=>some (.inl (x_4,x9 .i64 x.2 1))) (some (.inl (x.1,x9 .i64 x.2 1)))) (some (.inl (x.1,x9 .i64 x.2 1)))) (some (.inr x.1)))
  (s:=([],0)) (fun x=>∃i:Nat,x=(castL (onL (onR s d t) i),(i:Int))∧i≤s.2.2.2.2.length) (fun e=>e=castL (gZ s d t)) (fun x=>s.2.2.2.2.length -x.2.toNat) ⟨0,rfl,by omega⟩ (by simp;omega) (by
  rintro x ⟨i,rfl,hi⟩
  by_cases hlt:i<s.2.2.2.2.length
  ·left
   have e:=Y5 hlt
   have hol:=vZ (onR s d t) i
   refine⟨(castL (onL (onR s d t) (i+1)),((i+1:Nat):Int)),?_,⟨i+1,rfl,hlt⟩,by simp;omega⟩
   simp only[H6 e,o6,E9,e,o7,CU]
   rw[O8 (by omega),aB _ (by simp[castL];omega),Es]
   have hon:onR s d t i=l7 (ieq s.2.2.2.2[i].2.1 d) (GR s.2.2.2.2[i].2.2.2.2.1 t) false:=by unfold onR;rw[e]
   rw[hon]
   cases ieq s.2.2.2.2[i].2.1 d
   ·simp[castL]
   simp only[o6]
   cases GR s.2.2.2.2[i].2.2.2.2.1 t <;> simp[castL]
  ·right
   have:i=s.2.2.2.2.length:=by omega
   subst this
   exact⟨_,by rw[H5];rfl,rfl⟩)
 rw[h1,h2]
theorem a2D {l:List Nat} (hl:l.Pairwise (·< ·)) {i j a:Nat} (hi:l[i]? =some a) (hj:l[j]? =some a):i=j:=by
 obtain⟨h1,h2⟩:=O5.1 hi
 obtain⟨h3,h4⟩:=O5.1 hj
 rcases Nat.lt_trichotomy i j with h | h | h
 ·have:=List.pairwise_iff_getElem.1 hl i j h1 h3 h;omega
 ·exact h
 ·have:=List.pairwise_iff_getElem.1 hl j i h3 h1 h;omega
theorem Yx (on:Nat→Bool) (n:Nat):(onL on n).Pairwise (·< ·):=List.Pairwise.filter _ List.pairwise_lt_range
theorem a2T (on:Nat→Bool) {n p:Nat} (hn:n≤1000) (hp:p<n):wO (castL (onL on n)) (p:Int)=some (if on p=true then(DY on p:Int)else -1):=by
 have hl:=vZ on n
 unfold wO
 have key:=lM (f:=fun(x:Int)=>l7 (ilt x (o8 (castL (onL on n)))) (l9 (lat (castL (onL on n)) x) fun(x_1:Int)=>l7 (ieq x_1 (p:Int)) (some (.rt x)) (some (.nx (x9 .i64 x 1)))) (some (.ex PUnit.unit)))
  (s:=0) (fun x=>∃i:Nat,x=i∧i≤(onL on n).length∧∀j,j<i→(onL on n)[j]?≠some p) (fun _=>∀j,j<(onL on n).length→(onL on n)[j]?≠some p) (fun r=>∃i:Nat,r=(i:Int)∧(onL on n)[i]? =some p) (fun x=>(onL on n).length -x.toNat) ⟨0,rfl,by omega,fun j hj=>by omega⟩ (by simp;omega) (by
  rintro x ⟨i,rfl,hi,hno⟩
  by_cases hlt:i<(onL on n).length
  ·have e:=Y5 hlt
   have e2:=a1Y e
   have e3:ilt (i:Int) (o8 (castL (onL on n)))=true:=H6 e2
   rw[e3,o6,E9,e2,o7]
   by_cases hq:(onL on n)[i]=p
   ·right;right
    exact⟨_,by rw[F8 (by omega)];rfl,i,rfl,by rw[e,hq]⟩
   ·left
    refine⟨((i+1:Nat):Int),by rw[F5 (by omega),O8 (by omega)];rfl,⟨i+1,rfl,hlt,fun j hj=>?_⟩,by simp;omega⟩
    by_cases hji:j=i
    ·subst hji;rw[e];intro h;exact hq (Option.some.inj h)
    ·exact hno j (by omega)
  ·right;left
   have hil:i=(onL on n).length:=by omega
   subst hil
   have e3:ilt ((onL on n).length:Int) (o8 (castL (onL on n)))=false:=by
    have:=H5 (castL (onL on n));rw[show(castL (onL on n)).length=(onL on n).length by simp[castL]]at this;exact this
   exact⟨_,by rw[e3];rfl,hno⟩)
 rcases key with⟨e,k1,k2⟩ | ⟨r,k1,i,k2,k3⟩
 ·refine(dh k1 _).trans ?_
  by_cases ho:on p=true
  ·have:=a0C on hp ho
   exact absurd this (k2 _ (O5.1 this).1)
  ·rw[if_neg ho];rfl
 ·refine(dh k1 _).trans ?_
  have hm:=Ue on (dN k3)
  have:=a0C on hp hm.2
  rw[if_pos hm.2,k2,a2D (Yx on n) k3 this];rfl
theorem b8g (on:Nat→Bool) (par:Nat→Int):∀i:Nat,anc on par i=if h:0≤par i∧par i<(i:Int)then(if on (par i).toNat=true then(DY on (par i).toNat:Int)else anc on par (par i).toNat)else -1:=by
 intro i
 by_cases h:0≤par i∧par i<(i:Int)
 ·rw[dif_pos h]
  rw[show anc on par i=xE on par (par i).toNat by unfold anc;rw[if_pos h],a0y]
 ·rw[dif_neg h];unfold anc;rw[if_neg h]
theorem YJ {s:D8} (h:s.2.2.2.2.length≤1000) (on:Nat→Bool) {i:Nat} (hi:i<s.2.2.2.2.length):xN s (castL (onL on s.2.2.2.2.length)) (i:Int)=some (anc on (Aw s) i):=by
 unfold xN
 have hp:∀k:Nat,(hk:k<s.2.2.2.2.length)→∃r,s.2.2.2.2[k]? =some r∧(Aw s k=r.2.2.1):=fun k hk=>⟨_,Y5 hk,by unfold Aw;rw[Y5 hk]⟩
 obtain⟨r,hr,hpr⟩:=hp i hi
 rw[E9,hr,o7]
 have key:=lM (f:=fun(x:Int×Int)=>l7 (ile 0 x.2) (l7 (ilt x.2 x.1) (l9 (wO (castL (onL on s.2.2.2.2.length)) x.2) fun(x_1:Int)=>l7 (ile 0 x_1) (some (.rt x_1)) (l9 (lat s.2.2.2.2 x.2) fun(x_2:V9)=>some (.nx (x.2,x_2.2.2.1)))) (some (.ex PUnit.unit))) (some (.ex PUnit.unit)))
  (s:=((i:Int),r.2.2.1)) (fun x=>∃k:Nat,x=((k:Int),Aw s k)∧k<s.2.2.2.2.length∧anc on (Aw s) k=anc on (Aw s) i) (fun _=>anc on (Aw s) i=-1) (fun q=>q=anc on (Aw s) i) (fun x=>x.1.toNat) ⟨i,by rw[hpr],hi,rfl⟩ (by simp;omega) (by
  rintro x ⟨k,rfl,hk,ha⟩
  simp only
  rw[←ha,b8g on (Aw s) k]
  by_cases hc:0≤Aw s k∧Aw s k<(k:Int)
  ·rw[G7 hc.1,F6 hc.2,dif_pos hc]
   simp only[o6]
   obtain⟨p,hpp⟩:∃p:Nat,Aw s k=(p:Int):=⟨(Aw s k).toNat,by omega⟩
   rw[hpp,a2T on h (show p<s.2.2.2.2.length by omega),o7,Int.toNat_natCast]
   by_cases ho:on p=true
   ·rw[if_pos ho,if_pos ho]
    exact .inr (.inr ⟨_,by rw[G7 (by omega)];rfl,rfl⟩)
   ·rw[if_neg ho,if_neg ho]
    left
    obtain⟨q,hq1,hq2⟩:=hp p (by omega)
    refine⟨((p:Int),Aw s p),by rw[G8 (by omega),o5,E9,hq1,o7,hq2],⟨p,rfl,by omega,?_⟩,by simp;omega⟩
    rfl
  ·rw[dif_neg hc]
   right;left
   refine⟨PUnit.unit,?_,rfl⟩
   by_cases h0:0≤Aw s k
   ·rw[G7 h0,E8 (by omega)];rfl
   ·rw[G8 (by omega)];rfl)
 rcases key with⟨e,k1,k2⟩ | ⟨q,k1,k2⟩
 ·refine(dh k1 _).trans ?_
  rw[k2];rfl
 ·refine(dh k1 _).trans ?_
  rw[k2];rfl
theorem YL {s:D8} (h:s.2.2.2.2.length≤1000) (d t:Int):xM s d t=some (ai s d t):=by
 have hl:=vZ (onR s d t) s.2.2.2.2.length
 unfold xM
 rw[WV h,o7]
 refine fB (castL (gZ s d t)) (fun(b:List Int×List Int) (k:Int)=>(b.1++[anc (onR s d t) (Aw s) k.toNat],b.2++[Py s k.toNat])) (fun b i=>(b.1,b.2,i)) (fun b=>b) (fun i b=>b.1.length=i∧b.2.length=i) (([],[]):List Int×List Int) (by unfold castL gZ;simp;omega) (by simp) (fun i a b ha hi hI=>?_) (fun b hI=>?_) (fun h2=>?_)
 ·obtain⟨b1,b2⟩:=b
  simp only at hI
  simp only[H6 ha,o6,E9 (castL (gZ s d t)),ha,o7]
  rw[show J4 (castL (gZ s d t)) (toN (i:Int))=some a from ha,o7]
  obtain⟨k,hk,rfl⟩:∃k,k∈gZ s d t∧(k:Int)=a:=by
   have:=dN ha
   unfold castL at this
   exact List.mem_map.1 this
  have hlt:=KN hk
  have e:=Y5 hlt.1
  have hil:=(O5.1 ha).1
  simp only[castL,List.length_map]at hil
  unfold gZ at hil
  rw[show castL (gZ s d t)=castL (onL (onR s d t) s.2.2.2.2.length)from rfl,YJ h _ hlt.1,o7,aB _ (by omega),o7,o7,E9,e,o7,aB _ (by omega),o7,O8 (by omega)]
  refine⟨?_,by simp[hI.1],by simp[hI.2]⟩
  simp only[Py,Int.toNat_natCast,e]
 ·simp only[H5];rfl
 ·have hf:∀(l:List Nat) (b:List Int×List Int),(castL l).foldl (fun(b:List Int×List Int) (k:Int)=>(b.1++[anc (onR s d t) (Aw s) k.toNat],b.2++[Py s k.toNat])) b=(b.1++l.map (anc (onR s d t) (Aw s)),b.2++l.map (Py s)):=by
   intro l
   induction l with
   | nil=>intro b;simp[castL]
   | cons a l ih=>intro b;rw[show castL (a::l)=(a:Int)::castL l from rfl,List.foldl_cons,ih];simp
  rw[hf];rfl
end Go.GP
namespace Go.GP
open Gt
set_option maxRecDepth 100000
def GH (par prio:List Int) (i:Nat):Option Int:=match par[i]?,prio[i]? with
 | some p,some q=>l7 (ilt p (-1)) (some 9) (l7 (ile (i:Int) p) (some 9) (l7 (ilt q 0) (some 3) (l7 (ilt 9 q) (some 3) none)))
 | _,_=>none
def Af (par prio:List Int):Int:=l7 (D6 (ieq (o8 par) (o8 prio))) 2 (l7 (ilt 8 (o8 par)) 4 (match O9 par.length (GH par prio)with | some r=>r | none=>0))
theorem a7U (par prio:List Int):ny par prio=some (Af par prio):=by
 unfold ny Af
 cases h1:ieq (o8 par) (o8 prio)
 ·rfl
 simp only[x8,o5]
 cases h2:ilt 8 (o8 par)
 case true=>rfl
 simp only[o5]
 have hl:par.length=prio.length:=by rw[N8]at h1;simp only[o8]at h1;omega
 refine J5 (jw (p:=GH par prio) par.length (by rw[X6]at h2;simp only[o8]at h2;omega) PUnit.unit (fun k hk=>?_) ?_) ?_
 rotate_left 2
 ·cases O9 par.length (GH par prio) <;> rfl
 ·have e:=Y5 hk
  have e2:=Y5 (show k<prio.length by omega)
  simp only[H6 e,o6,E9,e,e2,o7,GH]
  cases ilt par[k] (-1)
  case true=>rfl
  cases ile (k:Int) par[k]
  case true=>rfl
  cases ilt prio[k] 0
  case true=>rfl
  cases ilt 9 prio[k] <;> rfl
 ·rw[H5];rfl
theorem a2W (par prio:List Int):uC par prio=some (Af par prio):=by
 unfold uC Af
 cases h1:ieq (o8 par) (o8 prio)
 ·rfl
 simp only[x8,o5]
 cases h2:ilt 8 (o8 par)
 case true=>rfl
 simp only[o5]
 have hl:par.length=prio.length:=by rw[N8]at h1;simp only[o8]at h1;omega
 refine J5 (jw (p:=GH par prio) par.length (by rw[X6]at h2;simp only[o8]at h2;omega) PUnit.unit (fun k hk=>?_) ?_) ?_
 rotate_left 2
 ·cases O9 par.length (GH par prio) <;> rfl
 ·have e:=Y5 hk
  have e2:=Y5 (show k<prio.length by omega)
  simp only[H6 e,o6,E9,e,e2,o7,GH]
  cases ilt par[k] (-1)
  case true=>rfl
  cases ile (k:Int) par[k]
  case true=>rfl
  cases ilt prio[k] 0
  case true=>rfl
  cases ilt 9 prio[k] <;> rfl
 ·rw[H5];rfl
theorem Cm {ρ:Type} {n:Nat} {p:Nat→Option ρ} (h:O9 n p=none):∀i,i<n→p i=none:=by
 unfold O9 at h
 intro i hi
 exact List.findSome?_eq_none_iff.1 h i (List.mem_range.2 hi)
theorem vP {par prio:List Int} (h:Af par prio=0):par.length=prio.length∧par.length≤8∧∀(i:Nat) (p:Int),par[i]? =some p→-1≤p∧p<(i:Int):=by
 unfold Af at h
 cases h1:ieq (o8 par) (o8 prio) <;> rw[h1]at h
 ·cases h
 simp only[x8,o5]at h
 cases h2:ilt 8 (o8 par) <;> rw[h2]at h
 case true=>cases h
 simp only[o5]at h
 have hl:par.length=prio.length:=by rw[N8]at h1;simp only[o8]at h1;omega
 refine⟨hl,by rw[X6]at h2;simp only[o8]at h2;omega,fun i p hp=>?_⟩
 have hi:=(O5.1 hp).1
 cases hf:O9 par.length (GH par prio)with
 | some r=>
  rw[hf]at h
  simp only at h
  obtain⟨k,hk,hr⟩:=bn hf
  unfold GH at hr
  split at hr
  ·subst h
   rename_i a b _ _
   cases c1:ilt a (-1) <;> rw[c1]at hr <;> try (cases hr;done)
   cases c2:ile (k:Int) a <;> rw[c2]at hr <;> try (cases hr;done)
   cases c3:ilt b 0 <;> rw[c3]at hr <;> try (cases hr;done)
   cases c4:ilt 9 b <;> rw[c4]at hr <;> cases hr
  ·cases hr
 | none=>
  have:=Cm hf i hi
  unfold GH at this
  rw[hp,Y5 (show i<prio.length by omega)]at this
  simp only at this
  cases c1:ilt p (-1) <;> rw[c1]at this
  case true=>cases this
  cases c2:ile (i:Int) p <;> rw[c2]at this
  case true=>cases this
  rw[X6]at c1;rw[tN]at c2
  exact⟨c1,c2⟩
def VW (par:List Int) (at' :Int) (i:Nat):Bool:=match par[i]? with | some p=>ieq p at' | none=>false
def rJ (par:List Int) (at' :Int):List Nat:=onL (VW par at') par.length
theorem Lc {par:List Int} (h:par.length≤1000) (at' :Int):jQ par at' =some (castL (rJ par at')):=by
 unfold jQ
 rw[Y7]
 obtain⟨e,h1,h2⟩:=Z5 (f:=fun(x:List Int×Int)=>l7 (ilt x.2 (o8 par)) (l9 (lat par x.2) fun(x_1:Int)=>l7 (ieq x_1 at') (l9 (X9 x.1 [x.2]) fun(x_2:List Int)=>some (.inl (x_2,x9 .i64 x.2 1))) (some (.inl (x.1,x9 .i64 x.2 1)))) (some (.inr x.1)))
  (s:=([],0)) (fun x=>∃i:Nat,x=(castL (onL (VW par at') i),(i:Int))∧i≤par.length) (fun e=>e=castL (rJ par at')) (fun x=>par.length -x.2.toNat) ⟨0,rfl,by omega⟩ (by simp;omega) (by
  rintro x ⟨i,rfl,hi⟩
  by_cases hlt:i<par.length
  ·left
   have e:=Y5 hlt
   have hol:=vZ (VW par at') i
   refine⟨(castL (onL (VW par at') (i+1)),((i+1:Nat):Int)),?_,⟨i+1,rfl,hlt⟩,by simp;omega⟩
   simp only[H6 e,o6,E9,e,o7]
   rw[O8 (by omega),aB _ (by simp[castL];omega),Es]
   have hon:VW par at' i=ieq par[i] at' :=by unfold VW;rw[e]
   rw[hon]
   cases ieq par[i] at' <;> simp[castL]
  ·right
   have:i=par.length:=by omega
   subst this
   exact⟨_,by rw[H5];rfl,rfl⟩)
 rw[h1,h2]
theorem Us:yT=jQ:=rfl
theorem TY {par:List Int} {at' :Int} {i:Nat} (h:i∈rJ par at'):i<par.length∧par[i]? =some at' :=by
 obtain⟨h1,h2⟩:=Ue _ h
 refine⟨h1,?_⟩
 unfold VW at h2
 rw[Y5 h1]at h2 ⊢
 simp only[N8]at h2
 rw[h2]
def bG (oc pr:Int→Int) (acc:List Int) (a:Int):List Int:=l7 (ieq (oc a) (-1)) acc (match acc with
 | []=>[a]
 | b::r=>l7 (ilt (pr b) (pr a)) [a] (l7 (ieq (pr a) (pr b)) (b::r++[a]) (b::r)))
theorem a3M (oc pr:Int→Int) {acc:List Int} {a x:Int} (h:x∈bG oc pr acc a):x∈acc∨x=a:=by
 unfold bG at h
 cases h1:ieq (oc a) (-1) <;> rw[h1]at h
 case true=>exact .inl h
 simp only[o5]at h
 cases acc with
 | nil=>exact .inr (by simpa using h)
 | cons b r=>
  simp only at h
  cases h2:ilt (pr b) (pr a) <;> rw[h2]at h
  ·simp only[o5]at h
   cases h3:ieq (pr a) (pr b) <;> rw[h3]at h
   ·exact .inl h
   ·simp only[o6]at h
    rcases List.mem_append.1 h with h | h
    ·exact .inl h
    ·exact .inr (by simpa using h)
  ·exact .inr (by simpa using h)
theorem b8x (oc pr:Int→Int) (acc:List Int) (a:Int):(bG oc pr acc a).length≤acc.length+1:=by
 unfold bG
 cases ieq (oc a) (-1)
 case true=>simp
 simp only[o5]
 cases acc with
 | nil=>simp
 | cons b r=>
  simp only
  cases ilt (pr b) (pr a)
  ·cases ieq (pr a) (pr b) <;> simp
  ·simp
def zn (oc pr:Int→Int) (l:List Int):List Int:=l.foldl (bG oc pr) []
theorem Vs (oc pr:Int→Int):∀(l acc:List Int) (x:Int),x∈l.foldl (bG oc pr) acc→x∈acc∨x∈l
 | [],acc,x,h=> .inl h
 | a::l,acc,x,h=>by
  rcases Vs oc pr l _ x h with h | h
  ·rcases a3M oc pr h with h | h
   ·exact .inl h
   ·exact .inr (by simp[h])
  ·exact .inr (by simp[h])
theorem AU {oc pr:Int→Int} {l:List Int} {x:Int} (h:x∈zn oc pr l):x∈l:=by
 rcases Vs oc pr l [] x h with h | h
 ·cases h
 ·exact h
theorem NP {oc oc' pr:Int→Int} :∀(l acc:List Int),(∀x∈l,oc x=oc' x)→l.foldl (bG oc pr) acc=l.foldl (bG oc' pr) acc
 | [],acc,_=>rfl
 | a::l,acc,h=>by
  rw[List.foldl_cons,List.foldl_cons,NP l _ fun x hx=>h x (by simp[hx])]
  congr 1
  unfold bG;rw[h a (by simp)]
def chF (oc pr:Int→Int) (l:List Int):Int:=match zn oc pr l with | []=>-1 | [b]=>oc b | _=>-2
theorem Ro {oc oc' pr:Int→Int} {l:List Int} (h:∀x∈l,oc x=oc' x):chF oc pr l=chF oc' pr l:=by
 have e:zn oc pr l=zn oc' pr l:=NP l [] h
 unfold chF
 rw[e]
 cases hb:zn oc' pr l with
 | nil=>rfl
 | cons b r=>
  cases r with
  | nil=>exact h b (AU (oc:=oc') (pr:=pr) (by rw[hb];simp))
  | cons c r=>rfl
section
variable (par prio:List Int) (ap:List Bool)
def prF (i:Int):Int:=prio.getD i.toNat 0
def apF (i:Int):Bool:=ap.getD i.toNat false
def ocF:Nat→Int→Int
 | 0,_=>-1
 | k+1,i=>l7 (ieq (chF (ocF k) (prF prio) (castL (rJ par i))) (-1)) (l7 (apF ap i) i (-1)) (chF (ocF k) (prF prio) (castL (rJ par i)))
variable (hv:Af par prio=0)
include hv
theorem JQ {i x:Int} (h:x∈castL (rJ par i)):i<x∧x<(par.length:Int)∧0≤x:=by
 unfold castL at h
 obtain⟨k,hk,rfl⟩:=List.mem_map.1 h
 obtain⟨h1,h2⟩:=TY hk
 have:=(vP hv).2.2 k i h2
 omega
theorem Su:∀(k k' :Nat) (i:Int),(par.length:Int) -i≤k→(par.length:Int) -i≤k' →i<par.length→ocF par prio ap k i=ocF par prio ap k' i
 | 0,_,i,h,_,h2=>by omega
 | _+1,0,i,_,h,h2=>by omega
 | k+1,k' +1,i,h,h',h2=>by
  unfold ocF
  have:chF (ocF par prio ap k) (prF prio) (castL (rJ par i))=chF (ocF par prio ap k') (prF prio) (castL (rJ par i)):=
   Ro fun x hx=>by
    have:=JQ par prio hv hx
    exact Su k k' x (by omega) (by omega) (by omega)
  rw[this]
end
end Go.GP
namespace Go.GP
open Gt
set_option maxRecDepth 100000
theorem CS {prio:List Int} {i:Int} (h0:0≤i) (h:i<o8 prio):lat prio i=some (prF prio i):=by
 obtain⟨x,hx,_⟩:=cZ h0 h
 rw[hx]
 have:=(iK hx).2.2.2
 unfold prF;rw[qp,this];rfl
theorem Rj {f:List Int×Int→Option ((List Int×Int)⊕List Int)} (oc:Int→Int) (prio:List Int) (l:List Int) (hl:l.length≤1000) (hr:∀x∈l,0≤x∧x<o8 prio)
  (hin:∀(i:Nat) (a:Int) (acc:List Int),l[i]? =some a→acc.length≤1000→(∀x∈acc,0≤x∧x<o8 prio)→0≤a→a<o8 prio→f (acc,(i:Int))=some (.inl (bG oc (prF prio) acc a,x9 .i64 (i:Int) 1)))
  (hend:∀acc,f (acc,(l.length:Int))=some (.inr acc)):P5 f ([],0)=some (zn oc (prF prio) l):=by
 refine(dU l (bG oc (prF prio)) (fun b i=>(b,i)) (fun b=>b) (fun i acc=>acc.length≤i∧∀x∈acc,0≤x∧x<o8 prio) (b:=[]) (by omega) ⟨by simp,by simp⟩ (fun i a acc ha hi hI=>?_) (fun acc hI=>hend acc)).1
 have hlt:=(O5.1 ha).1
 have ham:=hr a (dN ha)
 rw[hin i a acc ha (by omega) hI.2 ham.1 ham.2,O8 (by omega)]
 refine⟨rfl,by have:=b8x oc (prF prio) acc a;omega,fun x hx=>?_⟩
 rcases a3M _ _ hx with h | h
 ·exact hI.2 x h
 ·rw[h];exact ham
section
variable (par prio:List Int) (ap:List Bool) (hv:Af par prio=0) (hap:ap.length=par.length)
def OC (i:Int):Int:=ocF par prio ap (par.length+1) i
def chS (at' :Int):Int:=chF (OC par prio ap) (prF prio) (castL (rJ par at'))
include hv in
theorem a9Y {i:Int} (h0:-1≤i) (h:i<par.length):OC par prio ap i=l7 (ieq (chS par prio ap i) (-1)) (l7 (apF ap i) i (-1)) (chS par prio ap i):=by
 unfold OC chS
 rw[ocF]
 have:chF (ocF par prio ap par.length) (prF prio) (castL (rJ par i))=chF (OC par prio ap) (prF prio) (castL (rJ par i)):=
  Ro fun x hx=>by
   have:=JQ par prio hv hx
   exact Su par prio ap hv _ _ x (by omega) (by omega) (by omega)
 rw[this]
include hv in
theorem VX (i:Int):(castL (rJ par i)).length≤8:=by
 have h1:=vZ (VW par i) par.length
 have h2:=(vP hv).2.1
 unfold castL rJ;rw[List.length_map];omega
include hv in
theorem RY {i x:Int} (h:x∈castL (rJ par i)):0≤x∧x<o8 prio:=by
 have:=JQ par prio hv h
 have h2:=(vP hv).1
 simp only[o8];omega
include hv in
theorem a7P (arr:List Int) (i:Int) (hA:∀x∈castL (rJ par i),lat arr x=some (OC par prio ap x)):lV (par,prio,arr) i=some (zn (OC par prio ap) (prF prio) (castL (rJ par i))):=by
 unfold lV
 rw[Lc (by have:=(vP hv).2.1;simp only;omega),o7,Y7]
 refine Rj (OC par prio ap) prio _ (by have:=VX par prio hv i;omega) (fun x hx=>RY par prio hv hx) (fun k a acc ha hl hacc h0 h1=>?_) (fun acc=>?_)
 ·simp only[H6 ha,o6,E9 (castL (rJ par i)),ha,o7]
  rw[show J4 (castL (rJ par i)) (toN (k:Int))=some a from ha,o7,hA a (dN ha),o7]
  unfold bG
  cases ieq (OC par prio ap a) (-1)
  case true=>rfl
  simp only[o5,CS h0 h1,o7]
  cases acc with
  | nil=>simp only[E8 (show o8 ([]:List Int)≤0 by simp[o8]),o5,o7,F8 (show o8 ([]:List Int)=0 from rfl),o6,aB a (show([]:List Int).length≤1000000 by simp)];rfl
  | cons b r=>
   have hb:=hacc b (by simp)
   simp only[F6 (show(0:Int)<o8 (b::r) by simp[o8] <;> omega),o6,show lat (b::r) 0=some b from rfl,show J4 (b::r) (toN 0)=some b from rfl,o7,CS hb.1 hb.2]
   cases ilt (prF prio b) (prF prio a)
   ·simp only[o5,o7,F5 (show o8 (b::r)≠0 by simp[o8] <;> omega),show lat (b::r) 0=some b from rfl,show J4 (b::r) (toN 0)=some b from rfl,CS hb.1 hb.2]
    cases ieq (prF prio a) (prF prio b)
    ·rfl
    ·rw[o6,o6,aB _ (by omega)];rfl
   ·simp only[o6,show ja 0 0 (o8 (b::r))=true by simp[ja,o8] <;> omega,show gq (b::r) (toN 0) (toN 0)=[]from rfl,o7,F8 (show o8 ([]:List Int)=0 from rfl),aB a (show([]:List Int).length≤1000000 by simp)];rfl
 ·simp only[H5];rfl
include hv in
theorem a0B (arr:List Int) (i:Int) (hA:∀x∈castL (rJ par i),lat arr x=some (OC par prio ap x)):aI (par,prio,arr) i=some (chS par prio ap i):=by
 unfold aI chS chF
 rw[a7P par prio ap hv arr i hA,o7]
 have hsub:∀x∈zn (OC par prio ap) (prF prio) (castL (rJ par i)),lat arr x=some (OC par prio ap x):=fun x hx=>hA x (AU hx)
 generalize zn (OC par prio ap) (prF prio) (castL (rJ par i))=b at*
 match b,hsub with
 | [],_=>rfl
 | [x],hsub=>
  simp only[F5 (show o8 [x]≠0 by simp[o8]),F8 (show o8 [x]=1 from rfl),o5,o6,show lat [x] 0=some x from rfl,show J4 [x] (toN 0)=some x from rfl,o7,hsub x (by simp)]
 | x::y::r,_=>
  rw[F5 (by simp[o8];omega),F5 (by simp[o8];omega)];rfl
include hv hap in
theorem WI:∃arr,nz par prio ap=some arr∧∀x,0≤x→x<(par.length:Int)→lat arr x=some (OC par prio ap x):=by
 have h8:=(vP hv).2.1
 unfold nz
 rw[show iU (o8 par) (0:Int)=some (List.replicate par.length 0) by unfold iU;rw[if_pos (by simp[o8];omega)];simp[o8],o7]
 have key:=Z5 (f:=fun(x:X3×Int)=>l7 (ile 0 x.2) (l9 (aI x.1 x.2) fun(x_1:Int)=>l9 (lat x.1.2.2 x.2) fun(x_2:Int)=>l9 (J4 x.1.2.2 (toN x.2)) fun(x_3:Int)=>
   l9 (lat (P6 x.1.2.2 (toN x.2) x_1) x.2) fun(x_4:Int)=>l9 (J4 (P6 x.1.2.2 (toN x.2) x_1) (toN x.2)) fun(x_5:Int)=>l7 (ieq x_5 (-1)) (l9 (lat ap x.2) fun(x_6:Bool)=>l7 x_6 (l9 (lat (P6 x.1.2.2 (toN x.2) x_1) x.2) fun(x_7:Int)=>
    l9 (J4 (P6 x.1.2.2 (toN x.2) x_1) (toN x.2)) fun(x_8:Int)=>some (.inl ((x.1.1,x.1.2.1,P6 (P6 x.1.2.2 (toN x.2) x_1) (toN x.2) x.2),G5 .i64 x.2 1))) (some (.inl ((x.1.1,x.1.2.1,P6 x.1.2.2 (toN x.2) x_1),G5 .i64 x.2 1))))
     (some (.inl ((x.1.1,x.1.2.1,P6 x.1.2.2 (toN x.2) x_1),G5 .i64 x.2 1)))) (some (.inr x.1)))
  (s:=((par,prio,List.replicate par.length 0),G5 .i64 (o8 par) 1)) (fun x=>∃(arr:List Int) (i:Int),x=((par,prio,arr),i)∧-1≤i∧i<par.length∧arr.length=par.length∧∀x,i<x→x<(par.length:Int)→lat arr x=some (OC par prio ap x))
  (fun y=>∃arr:List Int,y=(par,prio,arr)∧∀x,0≤x→x<(par.length:Int)→lat arr x=some (OC par prio ap x)) (fun x=>(x.2+1).toNat) ?_ ?_ ?_
 ·obtain⟨y,k1,arr,rfl,k3⟩:=key
  refine⟨arr,(dh k1 _).trans rfl,k3⟩
 ·exact⟨_,_,rfl,by rw[I5 (by unfold I64 o8;omega)];simp[o8];omega,by rw[I5 (by unfold I64 o8;omega)];simp only[o8];omega,by simp,fun x h1 h2=>by
   rw[I5 (by unfold I64 o8;omega)]at h1;simp only[o8]at h1;omega⟩
 ·rw[I5 (by unfold I64 o8;omega)];simp[o8];omega
 ·rintro x ⟨arr,i,rfl,h1,h2,hlen,hA⟩
  by_cases h0:0≤i
  ·left
   obtain⟨k,rfl⟩:∃k:Nat,i=(k:Int):=⟨i.toNat,by omega⟩
   have hk:k<arr.length:=by omega
   have hka:k<ap.length:=by omega
   have e:=Y5 hk
   have ea:=Y5 hka
   have hch:=a0B par prio ap hv arr (k:Int) (fun x hx=>by
    have:=JQ par prio hv hx
    exact hA x this.1 this.2.1)
   have hs:∀v:Int,lat (P6 arr (toN (k:Int)) v) (k:Int)=some v:=fun v=>by
    rw[E9];show(arr.set k v)[k]? =some v
    rw[List.getElem?_set_self hk]
   have hs2:∀v:Int,J4 (P6 arr (toN (k:Int)) v) (toN (k:Int))=some v:=fun v=>by
    have:=hs v;rw[E9]at this;exact this
   have hsub:G5 .i64 (k:Int) 1=(k:Int) -1:=I5 (by unfold I64;omega)
   have hoc:=a9Y par prio ap hv (i:=(k:Int)) (by omega) (by omega)
   have hapk:apF ap (k:Int)=ap[k]:=by unfold apF;rw[Int.toNat_natCast,qp,ea];rfl
   rw[hapk]at hoc
   refine⟨((par,prio,arr.set k (OC par prio ap (k:Int))),(k:Int) -1),?_,⟨_,_,rfl,by omega,by omega,by simp[hlen],fun x hx1 hx2=>?_⟩,by simp <;> omega⟩
   ·simp only[G7 h0,o6,hch,o7,E9 arr,e,show J4 arr (toN (k:Int))=some arr[k]from e,hs,hs2,E9 ap,ea,hsub]
    rw[hoc]
    cases hq:ieq (chS par prio ap (k:Int)) (-1)
    ·simp only[o5];rfl
    ·simp only[o6]
     cases ap[k]
     ·rw[N8.1 hq];rfl
     ·simp only[o6]
      show some (Sum.inl ((par,prio,(arr.set k _).set k _),_))=_
      rw[List.set_set]
   ·unfold lat
    rw[if_pos (by omega)]
    by_cases hxk:x=(k:Int)
    ·rw[hxk,Int.toNat_natCast,List.getElem?_set_self hk]
    ·have:=hA x (by omega) hx2
     unfold lat at this
     rw[if_pos (by omega)]at this
     rw[List.getElem?_set,if_neg (by omega)]
     exact this
  ·right
   exact⟨(par,prio,arr),by rw[G8 (by omega)];rfl,arr,rfl,fun x hx1 hx2=>hA x (by omega) hx2⟩
end
def BI (par prio:List Int) (ap:List Bool):Int:=l7 (ieq (Af par prio) 0) (l7 (ieq (o8 ap) (o8 par)) (chS par prio ap (-1)) (-1)) (-1)
theorem a3l (par prio:List Int) (ap:List Bool):rq par prio ap=some (BI par prio ap):=by
 unfold rq BI
 rw[a7U,o7]
 cases hv:ieq (Af par prio) 0
 ·rfl
 simp only[x8,o5,o6]
 cases hl:ieq (o8 ap) (o8 par)
 ·rfl
 simp only[x8,o5,o6]
 have hv' :=N8.1 hv
 have hl' :ap.length=par.length:=by rw[N8]at hl;simp only[o8]at hl;omega
 obtain⟨arr,h1,h2⟩:=WI par prio ap hv' hl'
 rw[h1,o7,Y7]
 exact a0B par prio ap hv' arr (-1) fun x hx=>by
  have:=JQ par prio hv' hx
  exact h2 x this.2.2 this.2.1
section
variable (par prio:List Int) (ap:List Bool) (hv:Af par prio=0) (hap:ap.length=par.length)
include hv hap in
theorem Uz:∀(f:Nat) (i:Int),-1≤i→i<par.length→
  (3*((par.length:Int) -i) -1≤f→(F9 f).1 par prio ap i=some (chS par prio ap i))∧
  (3*((par.length:Int) -i) -2≤f→(F9 f).2.1 par prio ap i=some (zn (OC par prio ap) (prF prio) (castL (rJ par i))))∧
  (0≤i→3*((par.length:Int) -i)≤f→(F9 f).2.2 par prio ap i=some (OC par prio ap i))
 | 0,i,h1,h2=>⟨fun h=>by omega,fun h=>by omega,fun _ h=>by omega⟩
 | f+1,i,h1,h2=>by
  obtain⟨ih1,ih2,ih3⟩:=Uz f i h1 h2
  have hkid:∀x∈castL (rJ par i),3*((par.length:Int) -i) -3≤f→(F9 f).2.2 par prio ap x=some (OC par prio ap x):=fun x hx hf=>by
   have hk:=JQ par prio hv hx
   exact(Uz f x (by omega) (by omega)).2.2 hk.2.2 (by omega)
  refine⟨fun h=>?_,fun h=>?_,fun h0 h=>?_⟩
  ·show qi (F9 f).1 (F9 f).2.1 (F9 f).2.2 par prio ap i=_
   unfold qi
   rw[ih2 (by omega),o7]
   unfold chS chF
   have hsub:∀x∈zn (OC par prio ap) (prF prio) (castL (rJ par i)),(F9 f).2.2 par prio ap x=some (OC par prio ap x):=fun x hx=>hkid x (AU hx) (by omega)
   generalize zn (OC par prio ap) (prF prio) (castL (rJ par i))=b at*
   match b,hsub with
   | [],_=>rfl
   | [x],hsub=>
    simp only[F5 (show o8 [x]≠0 by simp[o8]),E8 (show o8 [x]≤1 by simp[o8]),o5,show lat [x] 0=some x from rfl,o7,hsub x (by simp)]
   | x::y::r,_=>
    rw[F5 (by simp[o8];omega),F6 (by simp[o8];omega)];rfl
  ·show wX (F9 f).1 (F9 f).2.1 (F9 f).2.2 par prio ap i=_
   unfold wX
   rw[Us,Lc (by have:=(vP hv).2.1;omega),o7,Y7]
   refine Rj (OC par prio ap) prio _ (by have:=VX par prio hv i;omega) (fun x hx=>RY par prio hv hx) (fun k a acc ha hl hacc g0 g1=>?_) (fun acc=>?_)
   ·simp only[H6 ha,o6,E9 (castL (rJ par i)),ha,o7]
    rw[show J4 (castL (rJ par i)) (toN (k:Int))=some a from ha,o7,hkid a (dN ha) (by omega),o7]
    unfold bG
    cases ieq (OC par prio ap a) (-1)
    case true=>rfl
    simp only[o5,o7,CS g0 g1]
    cases acc with
    | nil=>simp only[E8 (show o8 ([]:List Int)≤0 by simp[o8]),o5,o7,F8 (show o8 ([]:List Int)=0 from rfl),o6,aB a (show([]:List Int).length≤1000000 by simp)];rfl
    | cons b r=>
     have hb:=hacc b (by simp)
     simp only[F6 (show(0:Int)<o8 (b::r) by simp[o8] <;> omega),o6,show lat (b::r) 0=some b from rfl,show J4 (b::r) (toN 0)=some b from rfl,o7,CS hb.1 hb.2]
     cases ilt (prF prio b) (prF prio a)
     ·simp only[o5,o7,F5 (show o8 (b::r)≠0 by simp[o8] <;> omega),show lat (b::r) 0=some b from rfl,show J4 (b::r) (toN 0)=some b from rfl,CS hb.1 hb.2]
      cases ieq (prF prio a) (prF prio b)
      ·rfl
      ·rw[o6,o6,aB _ (by omega)];rfl
     ·simp only[o6,o7,F8 (show o8 ([]:List Int)=0 from rfl),aB a (show([]:List Int).length≤1000000 by simp)];rfl
   ·simp only[H5];rfl
  ·show rQ (F9 f).1 (F9 f).2.1 (F9 f).2.2 par prio ap i=_
   unfold rQ
   rw[ih1 (by omega),o7,a9Y par prio ap hv h1 h2]
   obtain⟨k,rfl⟩:∃k:Nat,i=(k:Int):=⟨i.toNat,by omega⟩
   have ea:=Y5 (show k<ap.length by omega)
   have hapk:apF ap (k:Int)=ap[k]:=by unfold apF;rw[Int.toNat_natCast,qp,ea];rfl
   rw[hapk,E9,ea,o7]
   cases hq:ieq (chS par prio ap (k:Int)) (-1)
   ·rfl
   ·simp only[o6]
    rw[N8.1 hq]
    cases ap[k] <;> rfl
end
theorem YK (par prio:List Int) (ap:List Bool):xK par prio ap=some (BI par prio ap):=by
 unfold xK BI
 rw[a2W,o7]
 cases hv:ieq (Af par prio) 0
 ·rfl
 simp only[x8,o5,o6]
 cases hl:ieq (o8 ap) (o8 par)
 ·rfl
 simp only[x8,o5,o6]
 have hv' :=N8.1 hv
 have hl' :ap.length=par.length:=by rw[N8]at hl;simp only[o8]at hl;omega
 have h8:=(vP hv').2.1
 have:=(Uz par prio ap hv' hl' bK (-1) (by omega) (by omega)).1 (by unfold bK;omega)
 rw[show yU par prio ap (-1)=(F9 bK).1 par prio ap (-1)from rfl,this];rfl
theorem a2o {l:List Int} {i:Nat} (h:i<l.length):lat l (i:Int)=some (hg l i):=by rw[E9];exact oU h
theorem VR {l:List Int} {i j:Nat} (hi:i<l.length) (hj:j<l.length):V4 l (i:Int) (j:Int)=some (ilt (hg l i) (hg l j)):=by
 unfold V4
 rw[a2o hi,o7,a2o hj,o7]
theorem VS {l:List Int} {i j:Nat} (hi:i<l.length) (hj:j<l.length):W9 l (i:Int) (j:Int)=some (swp l i j):=by
 unfold W9
 have e1:J4 l (toN (i:Int))=some (hg l i):=oU hi
 have e2:J4 l (toN (j:Int))=some (hg l j):=oU hj
 have hj2:j<(P6 l (toN (i:Int)) (hg l j)).length:=by show j<(l.set i (hg l j)).length;simp[hj]
 have e3:J4 (P6 l (toN (i:Int)) (hg l j)) (toN (j:Int))=some (hg (P6 l (toN (i:Int)) (hg l j)) j):=oU hj2
 rw[a2o hj,o7,e2,o7,a2o hi,o7,e1,o7,o7,o7,a2o hj2,o7,e3,o7];rfl
theorem Px {l m:List Int} (h:l.Perm m):l.length=m.length:=h.length_eq
theorem d3U {l:List Int} {j:Nat} (hl:l.length≤100000) (hj:j<l.length) (h:Jz l j):∃l',mY l (j:Int)=some l' ∧DL l' l'.length∧l'.Perm l:=by
 unfold mY
 have key:=Z5 (f:=fun(x:List Int×Int)=>l7 (ieq (V5 .i64 (G5 .i64 x.2 1) 2) x.2) (some (.inr x.1)) (l9 (V4 x.1 x.2 (V5 .i64 (G5 .i64 x.2 1) 2)) fun(x_1:Bool)=>l7 (D6 x_1) (some (.inr x.1))
   (l9 (W9 x.1 (V5 .i64 (G5 .i64 x.2 1) 2) x.2) fun(x_2:List Int)=>some (.inl (x_2,V5 .i64 (G5 .i64 x.2 1) 2)))))
  (s:=(l,(j:Int))) (fun x=>∃(m:List Int) (k:Nat),x=(m,(k:Int))∧k<m.length∧Jz m k∧m.Perm l) (fun m=>DL m m.length∧m.Perm l) (fun x=>x.2.toNat) ⟨l,j,rfl,hj,h,List.Perm.refl _⟩ (by simp;omega) (by
  rintro x ⟨m,k,rfl,hk,hu,hp⟩
  have hm:=Px hp
  by_cases h0:k=0
  ·subst h0
   exact .inr ⟨m,rfl,OG hu (.inl rfl),hp⟩
  have hpar:V5 .i64 (G5 .i64 (k:Int) 1) 2=(((k -1) / 2:Nat):Int):=by
   rw[I5 (by unfold I64;omega),tV (by rw[aC (by omega)];unfold I64;omega),aC (by omega)];omega
  simp only[hpar]
  rw[F5 (by omega),o5,VR hk (by omega),o7]
  cases hc:ilt (hg m k) (hg m ((k -1) / 2))
  ·exact .inr ⟨m,rfl,OG hu (.inr (by rw[X6]at hc;exact hc)),hp⟩
  ·rw[x8,o5,VS (by omega) hk]
   exact .inl ⟨(swp m ((k -1) / 2) k,(((k -1) / 2:Nat):Int)),rfl,⟨_,_,rfl,by rw[Dp];omega,VQ hu (by omega) hk (Y4.1 hc),(ET (by omega) hk).trans hp⟩,by simp;omega⟩)
 obtain⟨m,k1,k2,k3⟩:=key
 exact⟨m,(dh k1 _).trans rfl,k2,k3⟩
theorem RI {l:List Int} (hl:l.length≤1000) (h:DL l l.length) (x:Int):∃l',ae l x=some l' ∧DL l' l'.length∧l'.Perm (l++[x]):=by
 unfold ae tq dH
 rw[aB _ (by omega),o7,o7,o7]
 have hlen:(l++[x]).length=l.length+1:=by simp
 have hu:Jz (l++[x]) l.length:=by
  refine⟨fun k k0 k1 k2=>?_,fun h0 k k0 k1 k2=>by omega⟩
  have hk:k<l.length:=by omega
  have hga:∀i,i<l.length→hg (l++[x]) i=hg l i:=fun i hi=>by unfold hg;rw[qp,qp,List.getElem?_append_left hi]
  rw[hga k hk,hga _ (by omega)]
  exact h k k0 hk
 obtain⟨m,k1,k2,k3⟩:=d3U (l:=l++[x]) (j:=l.length) (by omega) (by omega) hu
 refine⟨m,?_,k2,k3⟩
 rw[show G5 .i64 (o8 (l++[x])) 1=((l.length:Nat):Int) by rw[I5 (by unfold I64 o8;omega)];simp[o8],k1];rfl
theorem a8A {l:List Int} {n i:Nat} (hl:l.length≤100000) (hn:n≤l.length) (hi:i<l.length) (h:AO l n i):∃b l',kF l (i:Int) (n:Int)=some (b,l')∧DL l' n∧l'.Perm l∧l'.drop n=l.drop n:=by
 unfold kF
 have key:=Z5 (f:=fun(x:List Int×Int)=>l7 (ile (n:Int) (x9 .i64 (L9 .i64 2 x.2) 1)) (some (.inr x)) (l7 (ilt (x9 .i64 (L9 .i64 2 x.2) 1) 0) (some (.inr x)) (l7 (ilt (x9 .i64 (x9 .i64 (L9 .i64 2 x.2) 1) 1) (n:Int))
   (l9 (V4 x.1 (x9 .i64 (x9 .i64 (L9 .i64 2 x.2) 1) 1) (x9 .i64 (L9 .i64 2 x.2) 1)) fun(x_1:Bool)=>l7 x_1 (l9 (V4 x.1 (x9 .i64 (x9 .i64 (L9 .i64 2 x.2) 1) 1) x.2) fun(x_2:Bool)=>l7 (D6 x_2) (some (.inr x))
     (l9 (W9 x.1 x.2 (x9 .i64 (x9 .i64 (L9 .i64 2 x.2) 1) 1)) fun(x_3:List Int)=>some (.inl (x_3,x9 .i64 (x9 .i64 (L9 .i64 2 x.2) 1) 1)))) (l9 (V4 x.1 (x9 .i64 (L9 .i64 2 x.2) 1) x.2) fun(x_2:Bool)=>l7 (D6 x_2) (some (.inr x))
     (l9 (W9 x.1 x.2 (x9 .i64 (L9 .i64 2 x.2) 1)) fun(x_3:List Int)=>some (.inl (x_3,x9 .i64 (L9 .i64 2 x.2) 1)))))
   (l9 (V4 x.1 (x9 .i64 (L9 .i64 2 x.2) 1) x.2) fun(x_1:Bool)=>l7 (D6 x_1) (some (.inr x)) (l9 (W9 x.1 x.2 (x9 .i64 (L9 .i64 2 x.2) 1)) fun(x_2:List Int)=>some (.inl (x_2,x9 .i64 (L9 .i64 2 x.2) 1)))))))
  (s:=(l,(i:Int))) (fun x=>∃(m:List Int) (k:Nat),x=(m,(k:Int))∧k<m.length∧AO m n k∧m.Perm l∧m.drop n=l.drop n) (fun y=>DL y.1 n∧y.1.Perm l∧y.1.drop n=l.drop n) (fun x=>l.length -x.2.toNat) ⟨l,i,rfl,hi,h,List.Perm.refl _,rfl⟩ (by simp;omega) (by
  rintro x ⟨m,k,rfl,hk,hd,hp,hdr⟩
  have hm:=Px hp
  have hc1:x9 .i64 (L9 .i64 2 (k:Int)) 1=((2*k+1:Nat):Int):=by rw[dL (by unfold I64;omega),J6 (by unfold I64;omega)];omega
  have hc2:x9 .i64 (((2*k+1:Nat):Int)) 1=((2*k+2:Nat):Int):=by rw[J6 (by unfold I64;omega)];omega
  have dswp:∀a b,a<n→b<n→(swp m a b).drop n=l.drop n:=fun a b ha hb=>by
   unfold swp
   rw[List.drop_set_of_lt hb,List.drop_set_of_lt ha,hdr]
  simp only[hc1,hc2]
  by_cases h1:n≤2*k+1
  ·rw[G7 (by omega),o6]
   exact .inr ⟨_,rfl,xx hd (fun j j0 j1 j2=>by omega),hp,hdr⟩
  rw[G8 (by omega),o5,E8 (by omega),o5]
  by_cases h2:2*k+2<n
  ·rw[F6 (by omega),o6,VR (by omega) (by omega),o7]
   cases hc:ilt (hg m (2*k+2)) (hg m (2*k+1))
   ·rw[X6]at hc
    rw[o5,VR (by omega) hk,o7]
    cases hq:ilt (hg m (2*k+1)) (hg m k)
    ·rw[X6]at hq
     exact .inr ⟨_,rfl,xx hd (fun j j0 j1 j2=>by
      have:j=2*k+1∨j=2*k+2:=by omega
      rcases this with rfl | rfl <;> (dsimp only;omega)),hp,hdr⟩
    ·rw[x8,o5,VS hk (by omega)]
     exact .inl ⟨(swp m k (2*k+1),((2*k+1:Nat):Int)),rfl,⟨_,_,rfl,by rw[Dp];omega,Am hd (by omega) (by omega) (by omega) (by omega) (fun j j0 j1 j2=>by
      have:j=2*k+1∨j=2*k+2:=by omega
      rcases this with rfl | rfl
      ·exact Int.le_refl _
      ·exact hc) (Y4.1 hq),(ET hk (by omega)).trans hp,dswp _ _ (by omega) (by omega)⟩,by simp;omega⟩
   ·rw[Y4]at hc
    rw[o6,VR (by omega) hk,o7]
    cases hq:ilt (hg m (2*k+2)) (hg m k)
    ·rw[X6]at hq
     exact .inr ⟨_,rfl,xx hd (fun j j0 j1 j2=>by
      have:j=2*k+1∨j=2*k+2:=by omega
      rcases this with rfl | rfl <;> (dsimp only;omega)),hp,hdr⟩
    ·rw[x8,o5,VS hk (by omega)]
     exact .inl ⟨(swp m k (2*k+2),((2*k+2:Nat):Int)),rfl,⟨_,_,rfl,by rw[Dp];omega,Am hd (by omega) (by omega) (by omega) (by omega) (fun j j0 j1 j2=>by
      have:j=2*k+1∨j=2*k+2:=by omega
      rcases this with rfl | rfl
      ·omega
      ·exact Int.le_refl _) (Y4.1 hq),(ET hk (by omega)).trans hp,dswp _ _ (by omega) (by omega)⟩,by simp;omega⟩
  ·rw[E8 (by omega),o5,VR (by omega) hk,o7]
   cases hq:ilt (hg m (2*k+1)) (hg m k)
   ·rw[X6]at hq
    exact .inr ⟨_,rfl,xx hd (fun j j0 j1 j2=>by
     have:j=2*k+1:=by omega
     subst this;omega),hp,hdr⟩
   ·rw[x8,o5,VS hk (by omega)]
    exact .inl ⟨(swp m k (2*k+1),((2*k+1:Nat):Int)),rfl,⟨_,_,rfl,by rw[Dp];omega,Am hd (by omega) (by omega) (by omega) (by omega) (fun j j0 j1 j2=>by
     have:j=2*k+1:=by omega
     subst this;exact Int.le_refl _) (Y4.1 hq),(ET hk (by omega)).trans hp,dswp _ _ (by omega) (by omega)⟩,by simp;omega⟩)
 obtain⟨y,k1,k2,k3,k4⟩:=key
 exact⟨ilt (i:Int) y.2,y.1,(dh k1 _).trans rfl,k2,k3,k4⟩
theorem a4n {l:List Int} (hl:l.length≤1000) (h:DL l l.length) (h0:0<l.length):∃l',iQ l=some (hg l 0,l')∧DL l' l'.length∧(l' ++[hg l 0]).Perm l:=by
 obtain⟨n,hn⟩:∃n,l.length=n+1:=⟨l.length -1,by omega⟩
 have hsub:G5 .i64 ((l.length:Nat):Int) 1=((n:Nat):Int):=by rw[I5 (by unfold I64;omega)];omega
 unfold iQ dH
 rw[o7,show o8 l=((l.length:Nat):Int)from rfl,hsub,show(0:Int)=((0:Nat):Int)from rfl,VS (by omega) (by omega),o7]
 have hlen:(swp l 0 n).length=n+1:=by rw[Dp,hn]
 obtain⟨b,m,k1,k2,k3,k4⟩:=a8A (l:=swp l 0 n) (n:=n) (i:=0) (by omega) (by omega) (by omega) (Yj h (by omega))
 rw[k1,o7]
 have hml:=Px k3
 have hmn:m.length=n+1:=by omega
 have hlast:hg m n=hg l 0:=by
  have e1:(m.drop n)[0]? =((swp l 0 n).drop n)[0]?:=by rw[k4]
  rw[List.getElem?_drop,List.getElem?_drop,Nat.add_zero,oU (by omega),oU (by omega)]at e1
  rw[Option.some.inj e1,TU (by omega) (by omega),if_pos rfl]
 unfold uV
 dsimp only
 have hs2:G5 .i64 (o8 m) 1=((n:Nat):Int):=by rw[show o8 m=((m.length:Nat):Int)from rfl,hmn,I5 (by unfold I64;omega)];omega
 rw[hs2,a2o (by omega),o7,show J4 m (toN (n:Int))=some (hg m n)from oU (i:=n) (by omega),o7,show ja 0 (n:Int) (o8 m)=true by simp[ja,o8];omega,o6,show gq m (toN 0) (toN (n:Int))=m.take n by simp[gq,toN],hlast]
 refine⟨m.take n,rfl,?_,?_⟩
 ·have:(m.take n).length=n:=by simp;omega
  rw[this]
  intro k k0 k1'
  have hga:∀i,i<n→hg (m.take n) i=hg m i:=fun i hi=>by unfold hg;rw[qp,qp,List.getElem?_take_of_lt hi]
  rw[hga k k1',hga _ (by omega)]
  exact k2 k k0 k1'
 ·have hcat:m.take n++[hg l 0]=m:=by
   rw[←hlast]
   have e:m.drop n=[hg m n]:=by
    apply List.ext_getElem?
    intro i
    rw[List.getElem?_drop]
    cases i with
    | zero=>rw[Nat.add_zero,oU (by omega)];rfl
    | succ i=>rw[List.getElem?_eq_none (by omega)];rfl
   rw[←e,List.take_append_drop]
  rw[hcat]
  exact k3.trans (ET (by omega) (by omega))
def ik (O:List Int) (x:Int):Bool:=O.any fun y=>ieq y x
theorem wI {O:List Int} {x:Int} :ik O x=true↔x∈O:=by
 unfold ik
 rw[List.any_eq_true]
 constructor
 ·rintro⟨y,hy,h⟩;rw[N8]at h;exact h▸hy
 ·exact fun h=>⟨x,h,F8 rfl⟩
theorem Uw {O:List Int} (h:O.length≤1000000) (x:Int):sK O x=some (ik O x):=by
 unfold sK
 refine J5 (oM O (fun y=>ieq y x) true PUnit.unit h (fun i a ha=>?_) ?_) ?_
 rotate_left 2
 ·unfold ik;cases O.any fun y=>ieq y x <;> rfl
 ·simp only[H6 ha,o6,E9,ha,o7]
  cases ieq a x <;> rfl
 ·rw[H5];rfl
def KD (s:D8) (d:Int) (O:List Int):Bool:=(I7 s d).all fun x=>ik O x
theorem a2V {s:D8} (h:SmS s) {O:List Int} (hO:O.length≤1000000) (d:Int):sN s d O=some (KD s d O):=by
 unfold sN
 rw[Hq h,o7]
 have hdl:=BZ h d
 refine J5 (oM (I7 s d) (fun y=> !ik O y) false PUnit.unit (by omega) (fun i a ha=>?_) ?_) ?_
 rotate_left 2
 ·unfold KD
  have:((I7 s d).any fun y=> !ik O y)= !(I7 s d).all fun x=>ik O x:=by rw[List.not_all_eq_any_not]
  rw[this]
  cases (I7 s d).all fun x=>ik O x <;> rfl
 ·simp only[H6 ha,o6,E9,ha,o7]
  rw[show J4 (I7 s d) (toN (i:Int))=some a from ha,o7,Uw hO,o7]
  cases ik O a <;> rfl
 ·rw[H5];rfl
def okN (s:D8) (O:List Int) (d:Nat):Bool:=l7 (ik O (d:Int)) false (KD s (d:Int) O)
def Ph (s:D8) (O:List Int) (d:Nat):Option Nat:=l7 (okN s O d) (some d) none
def En (s:D8) (O:List Int):Option Nat:=O9 s.2.2.2.1.length (Ph s O)
theorem a4K {s:D8} {O:List Int} {d r:Nat} (h:Ph s O d=some r):r=d∧okN s O d=true:=by
 unfold Ph at h
 cases hq:okN s O d <;> rw[hq]at h
 ·cases h
 ·cases h;exact⟨rfl,rfl⟩
theorem Yt {s:D8} {O:List Int} {d:Nat} (h:En s O=some d):d<s.2.2.2.1.length∧okN s O d=true:=by
 obtain⟨i,hi,hp⟩:=bn h
 obtain⟨rfl,ho⟩:=a4K hp
 exact⟨hi,ho⟩
theorem LP {s:D8} {O:List Int} {d:Nat} (hd:d<s.2.2.2.1.length) (ho:okN s O d=true) (hn:∀j,j<d→okN s O j=false):En s O=some d:=by
 unfold En
 exact IE (p:=Ph s O) (List.findSome?_eq_none_iff.2 fun j hj=>by unfold Ph;rw[hn j (List.mem_range.1 hj)];rfl) (by unfold Ph;rw[ho];rfl) hd
theorem Pi {s:D8} {O:List Int} (hn:∀j,j<s.2.2.2.1.length→okN s O j=false):En s O=none:=by
 unfold En O9
 exact List.findSome?_eq_none_iff.2 fun j hj=>by unfold Ph;rw[hn j (List.mem_range.1 hj)];rfl
def MZ (s:D8):Nat→List Int→List Int⊕(List Int×Int)
 | 0,O=> .inl O
 | k+1,O=>if O.length<s.2.2.2.1.length then(match En s O with | none=> .inr ([],9) | some d=>MZ s k (O++[(d:Int)]))else .inl O
def mV (s:D8):List Int×Int:=match MZ s 100 []with | .inl O=>(O,0) | .inr x=>x
theorem a2U {s:D8} (h:SmS s):jg s=some (mV s):=by
 have hnd:=h.nd
 unfold jg
 have hn:o8 s.2.2.2.1=((s.2.2.2.1.length:Nat):Int):=rfl
 generalize hfd:(fun(x:List Int)=>l7 (ilt (o8 x) (o8 s.2.2.2.1)) (l9 (P5 (fun(x_1:Int)=>l7 (ilt x_1 (o8 s.2.2.2.1)) (l9 (sK x x_1) fun(x_2:Bool)=>l7 x_2 (some (.inl (x9 .i64 x_1 1))) (l9 (sN s x_1 x) fun(x:Bool)=>l7 (D6 x) (some (.inl (x9 .i64 x_1 1))) (some (.inr x_1)))) (some (.inr x_1))) 0) fun(y:Int)=>
   l7 (ieq y (o8 s.2.2.2.1)) (some (Out.rt ((([],9):List Int×Int)))) (l9 (X9 x [y]) fun(x:List Int)=>some (.nx x))) (some (.ex x)))=f
 have step:∀O:List Int,O.length≤100→f O=some (if O.length<s.2.2.2.1.length then(match En s O with | none=> .rt ([],9) | some d=> .nx (O++[(d:Int)]))else .ex O):=by
  intro O hO
  rw[←hfd]
  simp only
  by_cases hlt:O.length<s.2.2.2.1.length
  ·rw[F6 (by simp only[o8];omega),if_pos hlt,o6]
   have key:=Z5 (f:=fun(x_1:Int)=>l7 (ilt x_1 (o8 s.2.2.2.1)) (l9 (sK O x_1) fun(x_2:Bool)=>l7 x_2 (some (.inl (x9 .i64 x_1 1))) (l9 (sN s x_1 O) fun(x:Bool)=>l7 (D6 x) (some (.inl (x9 .i64 x_1 1))) (some (.inr x_1)))) (some (.inr x_1)))
    (s:=0) (fun x=>∃i:Nat,x=i∧i≤s.2.2.2.1.length∧∀j,j<i→okN s O j=false) (fun y=>∃i:Nat,y=i∧i≤s.2.2.2.1.length∧(∀j,j<i→okN s O j=false)∧(i<s.2.2.2.1.length→okN s O i=true)) (fun x=>s.2.2.2.1.length -x.toNat) ⟨0,rfl,by omega,fun j hj=>by omega⟩ (by simp;omega) (by
    rintro x ⟨i,rfl,hi,hno⟩
    by_cases hl:i<s.2.2.2.1.length
    ·rw[F6 (by rw[hn];omega),o6,Uw (by omega),o7,a2V h (by omega),o7,O8 (by omega)]
     have hok:okN s O i=l7 (ik O (i:Int)) false (KD s (i:Int) O):=rfl
     cases h1:ik O (i:Int)
     ·cases h2:KD s (i:Int) O
      ·exact .inl ⟨_,rfl,⟨i+1,rfl,hl,fun j hj=>by
        by_cases hji:j=i
        ·subst hji;rw[hok,h1,h2];rfl
        ·exact hno j (by omega)⟩,by simp;omega⟩
      ·exact .inr ⟨_,rfl,i,rfl,hi,hno,fun _=>by rw[hok,h1,h2];rfl⟩
     ·exact .inl ⟨_,rfl,⟨i+1,rfl,hl,fun j hj=>by
       by_cases hji:j=i
       ·subst hji;rw[hok,h1];rfl
       ·exact hno j (by omega)⟩,by simp;omega⟩
    ·have:i=s.2.2.2.1.length:=by omega
     subst this
     exact .inr ⟨_,by rw[E8 (by rw[hn];omega)];rfl,_,rfl,Nat.le_refl _,hno,fun hh=>by omega⟩)
   obtain⟨y,k1,i,rfl,hi,hno,hyes⟩:=key
   rw[k1,o7]
   by_cases hl:i<s.2.2.2.1.length
   ·rw[F5 (by rw[hn];omega),o5,aB _ (by omega),o7,LP hl (hyes hl) hno]
   ·rw[F8 (by rw[hn];omega),o6,Pi fun j hj=>hno j (by omega)]
  ·rw[E8 (by simp only[o8];omega),if_neg hlt];rfl
 have key:∀(k j:Nat) (O:List Int),s.2.2.2.1.length -O.length<k→k≤j→O.length≤s.2.2.2.1.length→dP f j O=some (match MZ s k O with | .inl O=> .inl O | .inr x=> .inr x):=by
  intro k
  induction k with
  | zero=>intro j O hk;omega
  | succ k ih=>
   intro j O hk hj hO
   obtain⟨j,rfl⟩:∃j',j=j' +1:=⟨j -1,by omega⟩
   rw[dP,step O (by omega)]
   unfold MZ
   by_cases hlt:O.length<s.2.2.2.1.length
   ·rw[if_pos hlt,if_pos hlt]
    cases En s O with
    | none=>rfl
    | some d=>exact ih j (O++[(d:Int)]) (by simp;omega) (by omega) (by simp;omega)
   ·rw[if_neg hlt,if_neg hlt]
 have:=key 100 bK [] (by simp;omega) (by unfold bK;omega) (by simp)
 refine(dh this _).trans ?_
 unfold mV
 cases MZ s 100 [] <;> rfl
def gG (s:D8) (e:Int) (i:Nat):List Nat:=onL (fun d=>decide (e∈I7 s (d:Int))) i
def LD (s:D8) (O:List Int) (d:Int):List Int:=(I7 s d).filter fun x=> !ik O x
def hw (W:List Int) (d:Int):Int:=W.getD d.toNat 0
theorem a4o {W:List Int} {d:Int} (h0:0≤d) (h:d<o8 W):lat W d=some (hw W d)∧J4 W (toN d)=some (hw W d):=by
 have:=CS h0 h
 refine⟨this,?_⟩
 unfold lat at this;rw[if_pos h0]at this;exact this
theorem a4p {W:List Int} {d:Int} (h0:0≤d) (h:d<o8 W) (v x:Int) (hx:0≤x):hw (P6 W (toN d) v) x=if x=d then v else hw W x:=by
 unfold hw
 have hl:d.toNat<W.length:=by simp only[o8]at h;omega
 show(W.set d.toNat v).getD x.toNat 0=_
 rw[qp,qp,List.getElem?_set]
 by_cases hq:x=d
 ·subst hq;rw[if_pos rfl,if_pos hl,if_pos rfl];rfl
 ·rw[if_neg (by omega),if_neg hq]
theorem OV (W:List Int) (i:Nat) (v:Int):(P6 W i v).length=W.length:=by show(W.set i v).length=_;simp
theorem Sr {l:List Int} {n:Nat} (hd:l.Nodup) (hr:∀x∈l,0≤x∧x<(n:Int)):l.length≤n:=by
 have hp:=yI l
 have hs:=xy l
 have hnd:(Bl l).Nodup:=hp.nodup_iff.2 hd
 have hsi:SI (Bl l):=by
  have:=List.Pairwise.and hs hnd
  exact this.imp fun {a b} ⟨h1,h2⟩=>by omega
 have:=Qb n hsi fun x hx=>hr x (hp.mem_iff.1 hx)
 rw[hp.length_eq]at this;exact this
theorem VL {l:List Int} (h:SI l) {O:List Int} {m:Int} (hm:m∉O):((l.filter fun x=> !ik (O++[m]) x).length:Int)=((l.filter fun x=> !ik O x).length:Int) -(if m∈l then 1 else 0):=by
 have hh:∀x,ik (O++[m]) x=(ik O x || ieq m x):=fun x=>by unfold ik;rw[List.any_append];simp
 induction l with
 | nil=>simp
 | cons a l ih=>
  have h' :=List.pairwise_cons.1 h
  have ih' :=ih h'.2
  rw[List.filter_cons,List.filter_cons,hh]
  by_cases hma:m=a
  ·subst hma
   have hno:m∉l:=fun hx=>by have:=h'.1 m hx;omega
   rw[if_neg hno]at ih'
   have h1:ik O m=false:=by
    cases hq:ik O m
    ·rfl
    ·exact absurd (wI.1 hq) hm
   have hA:(!(ik O m || ieq m m))=false:=by rw[F8 rfl];simp
   have hB:(!ik O m)=true:=by rw[h1];rfl
   rw[hA,hB,if_pos (show m∈m::l by simp)]
   simp only[Bool.false_eq_true,if_false,if_true,List.length_cons];omega
  ·rw[F5 hma,Bool.or_false]
   have:(if m∈a::l then(1:Int)else 0)=if m∈l then 1 else 0:=by simp[hma]
   rw[this]
   cases ik O a
   ·simp only[Bool.not_false,if_true,List.length_cons];omega
   ·simp only[Bool.not_true,Bool.false_eq_true,if_false];exact ih'
structure KInv (s:D8) (O W H:List Int):Prop where
 nd:O.Nodup
 rng:∀x∈O,0≤x∧x<nD s
 cl:∀u∈O,∀x∈I7 s u,x∈O
 wl:W.length=s.2.2.2.1.length
 w:∀d,0≤d→d<nD s→hw W d=((LD s O d).length:Int)
 hp:DL H H.length
 hnd:H.Nodup
 hm:∀d,d∈H↔0≤d∧d<nD s∧d∉O∧hw W d=0
theorem b8Y {s:D8} {O:List Int} {d:Nat} :okN s O d=true↔(d:Int)∉O∧LD s O (d:Int)=[]:=by
 unfold okN KD LD
 cases hq:ik O (d:Int)
 ·have h1:(d:Int)∉O:=fun h=>by rw[wI.2 h]at hq;cases hq
  simp only[o5,List.all_eq_true,List.filter_eq_nil_iff,Bool.not_eq_true,Bool.not_eq_false']
  exact⟨fun h=>⟨h1,fun a ha=>by rw[h a ha]⟩,fun h a ha=>h.2 a ha⟩
 ·have h1:=wI.1 hq
  simp only[o6]
  exact⟨fun h=>(by cases h),fun h=>absurd h1 h.1⟩
theorem KInv.ready {s:D8} {O W H:List Int} (h:KInv s O W H) {d:Nat} (hd:d<s.2.2.2.1.length):okN s O d=true↔(d:Int)∈H:=by
 have hn:nD s=((s.2.2.2.1.length:Nat):Int):=rfl
 rw[b8Y,h.hm]
 have:=h.w (d:Int) (by omega) (by omega)
 constructor
 ·rintro⟨h1,h2⟩;exact⟨by omega,by omega,h1,by rw[this,h2];rfl⟩
 ·rintro⟨_,_,h1,h2⟩
  refine⟨h1,List.length_eq_zero_iff.1 ?_⟩
  rw[this]at h2;omega
theorem KInv.next_none {s:D8} {O W:List Int} (h:KInv s O W []):En s O=none:=
 Pi fun j hj=>by
  cases hq:okN s O j
  ·rfl
  ·have:=(h.ready hj).1 hq;cases this
theorem KInv.next_some {s:D8} {O W H:List Int} (h:KInv s O W H) (h0:0<H.length):∃m:Nat,hg H 0=(m:Int)∧En s O=some m∧m<s.2.2.2.1.length∧O.length<s.2.2.2.1.length:=by
 have hn:nD s=((s.2.2.2.1.length:Nat):Int):=rfl
 have hmem:hg H 0∈H:=by have:=oU h0;exact dN this
 have hmm:=(h.hm _).1 hmem
 obtain⟨m,hm⟩:∃m:Nat,hg H 0=(m:Int):=⟨(hg H 0).toNat,by omega⟩
 rw[hm]at hmem hmm
 have hlt:m<s.2.2.2.1.length:=by omega
 refine⟨m,hm,LP hlt ((h.ready hlt).2 hmem) fun j hj=>?_,hlt,?_⟩
 ·cases hq:okN s O j
  ·rfl
  ·have hjH:=(h.ready (by omega)).1 hq
   obtain⟨i,hi,he⟩:=List.getElem_of_mem hjH
   have:=a4m h.hp i hi
   have e:=oU hi
   rw[Y5 hi,he]at e
   have:=Option.some.inj e
   omega
 ·have hnd:(O++[(m:Int)]).Nodup:=List.nodup_append.2 ⟨h.nd,by simp,fun a ha b hb=>by simp at hb;subst hb;intro hq;subst hq;exact hmm.2.2.1 ha⟩
  have:=Sr (n:=s.2.2.2.1.length) hnd fun x hx=>by
   rcases List.mem_append.1 hx with hx | hx
   ·exact h.rng x hx
   ·simp at hx;subst hx;omega
  simp at this;omega
structure UInv (s:D8) (W H0:List Int) (us:List Int) (W' H' :List Int):Prop where
 wl:W'.length=s.2.2.2.1.length
 w:∀d,0≤d→d<nD s→hw W' d=hw W d -(if d∈us then 1 else 0)
 hp:DL H' H'.length
 pm:∃P:List Int,H'.Perm (H0++P)∧P.Sublist us∧∀d,d∈P↔d∈us∧hw W d=1
theorem Zz {s:D8} (hs:SmS s) {W H0 us:List Int} (hW:W.length=s.2.2.2.1.length) (hW2:∀d,0≤d→d<nD s→-1000≤hw W d∧hw W d≤1000) (hH:DL H0 H0.length) (hHl:H0.length≤100) (hus:SI us) (hur:∀u∈us,0≤u∧u<nD s)
  {f:List Int×List Int×Int→Option ((List Int×List Int×Int)⊕(List Int×List Int))}
  (hin:∀(i:Nat) (u:Int) (A B:List Int),us[i]? =some u→f (A,B,(i:Int))=l9 (lat A u) fun(x_8:Int)=>l9 (J4 A (toN u)) fun(x_9:Int)=>l9 (lat A u) fun(x_10:Int)=>l9 (J4 A (toN u)) fun(x_11:Int)=>
   l9 (lat (P6 A (toN u) (G5 .i64 x_9 1)) u) fun(x_12:Int)=>l9 (J4 (P6 A (toN u) (G5 .i64 x_9 1)) (toN u)) fun(x_13:Int)=>l7 (ieq x_13 0) (l9 (ae B u) fun(x_14:List Int)=>some (.inl (P6 A (toN u) (G5 .i64 x_9 1),x_14,x9 .i64 (i:Int) 1)))
    (some (.inl (P6 A (toN u) (G5 .i64 x_9 1),B,x9 .i64 (i:Int) 1))))
  (hend:∀(A B:List Int),f (A,B,(us.length:Int))=some (.inr (A,B))):∃W' H',P5 f (W,H0,0)=some (W',H')∧UInv s W H0 us W' H' :=by
 have hn:nD s=((s.2.2.2.1.length:Nat):Int):=rfl
 have hul:us.length≤14:=vg hs hus hur
 obtain⟨e,h1,h2⟩:=Z5 (f:=f) (s:=(W,H0,0)) (fun x=>∃(i:Nat) (A B:List Int),x=(A,B,(i:Int))∧i≤us.length∧UInv s W H0 (us.take i) A B∧B.length≤H0.length+i) (fun e=>UInv s W H0 us e.1 e.2) (fun x=>us.length -x.2.2.toNat)
  ⟨0,W,H0,rfl,by omega,⟨hW,fun d _ _=>by simp,hH,[],by simp,by simp,fun d=>by simp⟩,by omega⟩ (by simp;omega) (by
  rintro x ⟨i,A,B,rfl,hi,hU,hBl⟩
  by_cases hlt:i<us.length
  ·left
   have e:=Y5 hlt
   generalize us[i]=u at e
   have hu:=hur u (dN e)
   have hst:us.take (i+1)=us.take i++[u]:=by rw[List.take_succ_eq_append_getElem hlt,(O5.1 e).2]
   have hnot:u∉us.take i:=fun hx=>by
    obtain⟨j,hj,hq⟩:=List.getElem_of_mem hx
    simp only[List.length_take]at hj
    have h3:=List.pairwise_iff_getElem.1 hus j i (by omega) hlt (by omega)
    rw[List.getElem_take]at hq
    have h4:=(O5.1 e).2
    omega
   have hAl:=hU.wl
   have hAu:=hU.w u hu.1 hu.2
   rw[if_neg hnot]at hAu
   have hbd:=hW2 u hu.1 hu.2
   obtain⟨q1,q2⟩:=a4o (W:=A) hu.1 (by simp only[o8];omega)
   have hsub:G5 .i64 (hw A u) 1=hw A u -1:=I5 (by unfold I64;omega)
   have hA2:∀d,0≤d→d<nD s→hw (P6 A (toN u) (hw A u -1)) d=hw W d -(if d∈us.take (i+1)then 1 else 0):=fun d d0 d1=>by
    rw[a4p hu.1 (by simp only[o8];omega) _ _ d0,hst]
    have:=hU.w d d0 d1
    by_cases hq:d=u
    ·subst hq;rw[if_pos rfl,if_pos (by simp)];omega
    ·rw[if_neg hq,this];simp[hq]
   obtain⟨q3,q4⟩:=a4o (W:=P6 A (toN u) (hw A u -1)) (d:=u) hu.1 (by simp only[o8,OV];omega)
   have hv:hw (P6 A (toN u) (hw A u -1)) u=hw A u -1:=by rw[a4p hu.1 (by simp only[o8];omega) _ _ hu.1,if_pos rfl]
   rw[hv]at q3 q4
   obtain⟨P,p1,p2,p3⟩:=hU.pm
   rw[hin i u A B e,q1,o7,q2,o7,o7,o7,hsub,q3,o7,q4,o7,O8 (by omega)]
   by_cases hz:hw A u -1=0
   ·obtain⟨B',b1,b2,b3⟩:=RI (l:=B) (by omega) hU.hp u
    rw[F8 hz,o6,b1,o7]
    have hB'l:B'.length=B.length+1:=by rw[b3.length_eq];simp
    refine⟨_,rfl,⟨i+1,_,_,rfl,hlt,⟨by rw[OV];exact hAl,hA2,b2,P++[u],?_,?_,fun d=>?_⟩,by omega⟩,by simp;omega⟩
    ·rw[←List.append_assoc]
     exact b3.trans (p1.append_right [u])
    ·rw[hst];exact p2.append (List.Sublist.refl _)
    ·rw[List.mem_append,p3,hst,List.mem_append]
     constructor
     ·rintro(⟨h,h'⟩ | h)
      ·exact⟨.inl h,h'⟩
      ·simp at h;subst h;exact⟨.inr (by simp),by omega⟩
     ·rintro⟨h | h,h'⟩
      ·exact .inl ⟨h,h'⟩
      ·exact .inr h
   ·rw[F5 hz,o5]
    refine⟨_,rfl,⟨i+1,_,_,rfl,hlt,⟨by rw[OV];exact hAl,hA2,hU.hp,P,p1,?_,fun d=>?_⟩,by omega⟩,by simp;omega⟩
    ·rw[hst];exact p2.trans (List.sublist_append_left _ _)
    ·rw[p3,hst,List.mem_append]
     constructor
     ·rintro⟨h,h'⟩;exact⟨.inl h,h'⟩
     ·rintro⟨h | h,h'⟩
      ·exact⟨h,h'⟩
      ·simp at h;subst h;omega
  ·right
   have:i=us.length:=by omega
   subst this
   rw[List.take_length]at hU
   exact⟨_,hend _ _,hU⟩)
 exact⟨e.1,e.2,h1,h2⟩
theorem Dt {s:D8} {m:Int} {d:Int} :d∈castL (gG s m s.2.2.2.1.length)↔0≤d∧d<nD s∧m∈I7 s d:=by
 have hn:nD s=((s.2.2.2.1.length:Nat):Int):=rfl
 unfold castL
 rw[List.mem_map]
 constructor
 ·rintro⟨k,hk,rfl⟩
  obtain⟨h1,h2⟩:=Ue _ hk
  exact⟨by omega,by omega,by simpa using h2⟩
 ·rintro⟨h1,h2,h3⟩
  refine⟨d.toNat,?_,by omega⟩
  unfold gG onL
  rw[List.mem_filter,List.mem_range]
  exact⟨by omega,by rw[Int.toNat_of_nonneg h1];simpa using h3⟩
theorem Vu {l:List Nat} (h:l.Pairwise (·< ·)):SI (castL l):=List.Pairwise.map _ (fun a b h=>by omega) h
theorem KInv.step {s:D8} {O W H:List Int} (h:KInv s O W H) (h0:0<H.length) {m:Nat} (hm:hg H 0=(m:Int)) {R:List Int} (hR:DL R R.length) (hRp:(R++[(m:Int)]).Perm H) {W' H' :List Int} (hU:UInv s W R (castL (gG s (m:Int) s.2.2.2.1.length)) W' H'):KInv s (O++[(m:Int)]) W' H' :=by
 have hn:nD s=((s.2.2.2.1.length:Nat):Int):=rfl
 have hmem:(m:Int)∈H:=by rw[←hm];have:=oU h0;exact dN this
 have hmm:=(h.hm _).1 hmem
 have hleft:LD s O (m:Int)=[]:=by
  have:=h.w (m:Int) hmm.1 hmm.2.1
  rw[hmm.2.2.2]at this
  exact List.length_eq_zero_iff.1 (by omega)
 have hdeps:∀x∈I7 s (m:Int),x∈O:=fun x hx=>by
  have hnil:=List.filter_eq_nil_iff.1 hleft x hx
  simp only[Bool.not_eq_true,Bool.not_eq_false']at hnil
  exact wI.1 hnil
 have hndR:(R++[(m:Int)]).Nodup:=hRp.nodup_iff.2 h.hnd
 have hmR:(m:Int)∉R:=fun hx=>by
  have:=(List.nodup_append.1 hndR).2.2 _ hx _ (List.mem_singleton.2 rfl)
  exact this rfl
 have hRm:∀d,d∈R↔d∈H∧d≠(m:Int):=fun d=>by
  rw[←hRp.mem_iff,List.mem_append,List.mem_singleton]
  constructor
  ·intro hx;exact⟨.inl hx,fun hq=>hmR (hq▸hx)⟩
  ·rintro⟨hx | hx,hq⟩
   ·exact hx
   ·exact absurd hx hq
 obtain⟨P,p1,p2,p3⟩:=hU.pm
 have huO:∀u,(m:Int)∈I7 s u→u∉O:=fun u hu hx=>hmm.2.2.1 (h.cl u hx _ hu)
 refine⟨?_,?_,?_,hU.wl,fun d d0 d1=>?_,hU.hp,?_,fun d=>?_⟩
 ·exact List.nodup_append.2 ⟨h.nd,by simp,fun a ha b hb=>by simp at hb;subst hb;intro hq;subst hq;exact hmm.2.2.1 ha⟩
 ·intro x hx
  rcases List.mem_append.1 hx with hx | hx
  ·exact h.rng x hx
  ·simp at hx;subst hx;exact⟨hmm.1,hmm.2.1⟩
 ·intro u hu x hx
  rcases List.mem_append.1 hu with hu | hu
  ·exact List.mem_append_left _ (h.cl u hu x hx)
  ·simp at hu;subst hu;exact List.mem_append_left _ (hdeps x hx)
 ·rw[hU.w d d0 d1,h.w d d0 d1]
  unfold LD
  rw[VL (rW s d) hmm.2.2.1]
  congr 1
  have:(d∈castL (gG s (m:Int) s.2.2.2.1.length))↔((m:Int)∈I7 s d):=by rw[Dt];exact⟨fun h=>h.2.2,fun h=>⟨d0,d1,h⟩⟩
  by_cases hq:(m:Int)∈I7 s d
  ·rw[if_pos (this.2 hq),if_pos hq]
  ·rw[if_neg (fun hx=>hq (this.1 hx)),if_neg hq]
 ·rw[p1.nodup_iff]
  refine List.nodup_append.2 ⟨(List.nodup_append.1 hndR).1,?_,fun a ha b hb hq=>?_⟩
  ·have:(castL (gG s (m:Int) s.2.2.2.1.length)).Nodup:=(Vu (Yx _ _)).imp fun {a b} h=>by omega
   exact p2.nodup this
  ·subst hq
   have h1:=(h.hm a).1 ((hRm a).1 ha).1
   have h2:=(p3 a).1 hb
   omega
 ·rw[p1.mem_iff,List.mem_append,hRm,p3,Dt,h.hm]
  have hw' :=fun d0 d1=>hU.w d d0 d1
  have hmemU:d∈castL (gG s (m:Int) s.2.2.2.1.length)↔0≤d∧d<nD s∧(m:Int)∈I7 s d:=Dt
  constructor
  ·rintro(⟨⟨d0,d1,dO,dw⟩,dm⟩ | ⟨⟨d0,d1,dd⟩,dw⟩)
   ·refine⟨d0,d1,fun hx=>?_,?_⟩
    ·rcases List.mem_append.1 hx with hx | hx
     ·exact dO hx
     ·simp at hx;exact dm hx
    ·have hnot:(m:Int)∉I7 s d:=fun hx=>by
      have h1:=h.w d d0 d1
      rw[dw]at h1
      have h2:LD s O d=[]:=List.length_eq_zero_iff.1 (by omega)
      have h3:=List.filter_eq_nil_iff.1 h2 _ hx
      simp only[Bool.not_eq_true,Bool.not_eq_false']at h3
      exact hmm.2.2.1 (wI.1 h3)
     rw[hw' d0 d1,dw,if_neg (fun hx=>hnot (hmemU.1 hx).2.2)];rfl
   ·refine⟨d0,d1,fun hx=>?_,?_⟩
    ·rcases List.mem_append.1 hx with hx | hx
     ·exact huO d dd hx
     ·simp at hx
      rw[hx]at dd
      exact hmm.2.2.1 (hdeps _ dd)
    ·rw[hw' d0 d1,if_pos (hmemU.2 ⟨d0,d1,dd⟩)];omega
  ·rintro⟨d0,d1,dO,dw⟩
   rw[hw' d0 d1]at dw
   have dO1:d∉O:=fun hx=>dO (List.mem_append_left _ hx)
   have dm:d≠(m:Int):=fun hx=>dO (by rw[hx];simp)
   by_cases hq:(m:Int)∈I7 s d
   ·rw[if_pos (hmemU.2 ⟨d0,d1,hq⟩)]at dw
    exact .inr ⟨⟨d0,d1,hq⟩,by omega⟩
   ·rw[if_neg (fun hx=>hq (hmemU.1 hx).2.2)]at dw
    exact .inl ⟨⟨d0,d1,dO1,by omega⟩,dm⟩
def vT (s:D8) (i:Nat):List (List Int):=(List.range s.2.2.2.1.length).map fun(e:Nat)=>castL (gG s (e:Int) i)
theorem Fp (l:List Nat):(castL l).length=l.length:=by unfold castL;rw[List.length_map]
theorem ZA (s:D8) (e:Int) (i:Nat):castL (gG s e (i+1))=castL (gG s e i)++(if e∈I7 s (i:Int)then[(i:Int)]else[]):=by
 unfold gG
 rw[Es]
 by_cases h:e∈I7 s (i:Int) <;> simp[castL,h]
theorem Zy {s:D8} (hs:SmS s) (i:Nat) (hi:i<s.2.2.2.1.length) {f:List (List Int)×Int→Option ((List (List Int)×Int)⊕List (List Int))}
  (hin:∀(k:Nat) (e:Int) (A:List (List Int)),(I7 s (i:Int))[k]? =some e→f (A,(k:Int))=l7 (inb e (o8 A)) (l9 (J4 A (toN e)) fun(x_7:List Int)=>l9 (X9 x_7 [(i:Int)]) fun(x_8:List Int)=>l7 (inb e (o8 A)) (l7 (FZ (toN e) (toN e)) (l9 (J4 A (toN e)) fun(x_9:List Int)=>some (.inl (P6 A (toN e) x_8,x9 .i64 (k:Int) 1))) none) none) none)
  (hend:∀A,f (A,((I7 s (i:Int)).length:Int))=some (.inr A)):P5 f (vT s i,0)=some (vT s (i+1)):=by
 have hn:nD s=((s.2.2.2.1.length:Nat):Int):=rfl
 have hdl:=BZ hs (i:Int)
 have hnd:=hs.nd
 have hsi:=rW s (i:Int)
 refine(dU (I7 s (i:Int)) (fun(A:List (List Int)) e=>A.set e.toNat (A.getD e.toNat []++[(i:Int)])) (fun b k=>(b,k)) (fun b=>b) (fun k A=>A=(List.range s.2.2.2.1.length).map fun(e:Nat)=>castL (gG s (e:Int) i)++(if(e:Int)∈(I7 s (i:Int)).take k then[(i:Int)]else[])) (b:=vT s i) (by omega) (by simp[vT]) (fun k e A he hk hA=>?_) (fun A hA=>hend A)).1.trans ?_
 ·have hlt:=(O5.1 he).1
  have her:=oO (dN he)
  have hst:(I7 s (i:Int)).take (k+1)=(I7 s (i:Int)).take k++[e]:=by rw[List.take_succ_eq_append_getElem hlt,(O5.1 he).2]
  have hnot:e∉(I7 s (i:Int)).take k:=fun hx=>by
   obtain⟨j,hj,hq⟩:=List.getElem_of_mem hx
   simp only[List.length_take]at hj
   have h3:=List.pairwise_iff_getElem.1 hsi j k (by omega) hlt (by omega)
   rw[List.getElem_take]at hq
   have h4:=(O5.1 he).2
   omega
  have hlA:A.length=s.2.2.2.1.length:=by rw[hA];simp
  have hg:A[e.toNat]? =some (castL (gG s e i)):=by
   rw[hA,xB _ _ (show e.toNat<s.2.2.2.1.length by omega),Int.toNat_of_nonneg her.1,if_neg hnot,List.append_nil]
  have hul:(castL (gG s e i)).length≤i:=by rw[Fp];exact vZ _ _
  rw[hin k e A he,show inb e (o8 A)=true from decide_eq_true ⟨her.1,by simp only[o8];omega⟩,o6,show J4 A (toN e)=some (castL (gG s e i))from hg,o7,aB _ (by omega),o7,o6,show FZ (toN e) (toN e)=true by simp[FZ],o6,o7,O8 (by omega)]
  rw[show A.getD e.toNat []=castL (gG s e i) by rw[qp,hg];rfl]
  refine⟨rfl,?_⟩
  rw[hA,Nj]
  apply List.map_congr_left
  intro d hd
  rw[hst]
  by_cases hq:d=e.toNat
  ·subst hq
   rw[if_pos rfl,Int.toNat_of_nonneg her.1,if_pos (by simp)]
  ·rw[if_neg hq]
   have:(if(d:Int)∈(I7 s (i:Int)).take k++[e]then[(i:Int)]else[])=if(d:Int)∈(I7 s (i:Int)).take k then[(i:Int)]else[]:=by
    have:(d:Int)≠e:=by omega
    simp[this]
   rw[this]
 ·have h2:=(dU (I7 s (i:Int)) (fun(A:List (List Int)) e=>A.set e.toNat (A.getD e.toNat []++[(i:Int)])) (fun b k=>(b,k)) (fun b=>b) (fun k A=>A=(List.range s.2.2.2.1.length).map fun(e:Nat)=>castL (gG s (e:Int) i)++(if(e:Int)∈(I7 s (i:Int)).take k then[(i:Int)]else[])) (f:=f) (b:=vT s i) (by omega) (by simp[vT]) (fun k e A he hk hA=>by
   have hlt:=(O5.1 he).1
   have her:=oO (dN he)
   have hst:(I7 s (i:Int)).take (k+1)=(I7 s (i:Int)).take k++[e]:=by rw[List.take_succ_eq_append_getElem hlt,(O5.1 he).2]
   have hnot:e∉(I7 s (i:Int)).take k:=fun hx=>by
    obtain⟨j,hj,hq⟩:=List.getElem_of_mem hx
    simp only[List.length_take]at hj
    have h3:=List.pairwise_iff_getElem.1 hsi j k (by omega) hlt (by omega)
    rw[List.getElem_take]at hq
    have h4:=(O5.1 he).2
    omega
   have hlA:A.length=s.2.2.2.1.length:=by rw[hA];simp
   have hg:A[e.toNat]? =some (castL (gG s e i)):=by
    rw[hA,xB _ _ (show e.toNat<s.2.2.2.1.length by omega),Int.toNat_of_nonneg her.1,if_neg hnot,List.append_nil]
   have hul:(castL (gG s e i)).length≤i:=by rw[Fp];exact vZ _ _
   rw[hin k e A he,show inb e (o8 A)=true from decide_eq_true ⟨her.1,by simp only[o8];omega⟩,o6,show J4 A (toN e)=some (castL (gG s e i))from hg,o7,aB _ (by omega),o7,o6,show FZ (toN e) (toN e)=true by simp[FZ],o6,o7,O8 (by omega)]
   rw[show A.getD e.toNat []=castL (gG s e i) by rw[qp,hg];rfl]
   refine⟨rfl,?_⟩
   rw[hA,Nj]
   apply List.map_congr_left
   intro d hd
   rw[hst]
   by_cases hq:d=e.toNat
   ·subst hq
    rw[if_pos rfl,Int.toNat_of_nonneg her.1,if_pos (by simp)]
   ·rw[if_neg hq]
    have:(if(d:Int)∈(I7 s (i:Int)).take k++[e]then[(i:Int)]else[])=if(d:Int)∈(I7 s (i:Int)).take k then[(i:Int)]else[]:=by
     have:(d:Int)≠e:=by omega
     simp[this]
    rw[this]) (fun A hA=>hend A)).2
  rw[h2]
  unfold vT
  apply congrArg some
  apply List.map_congr_left
  intro d hd
  rw[ZA,List.take_length]
theorem a4f {α β σ:Type} {o:Option α} {x:α} {K:α→Option (σ⊕β)} {Q:σ→Prop} (h:o=some x) (hk:∃s',K x=some (.inl s')∧Q s'):∃s',l9 o K=some (.inl s')∧Q s' :=by
 rw[h];exact hk
structure IInv (s:D8) (i:Nat) (U:List (List Int)) (W H:List Int):Prop where
 u:U=vT s i
 w:W=pd ((List.range i).map fun(d:Nat)=>((I7 s (d:Int)).length:Int)) (s.2.2.2.1.length -i)
 hp:DL H H.length
 hnd:H.Nodup
 hm:∀d,d∈H↔0≤d∧d<(i:Int)∧I7 s d=[]
 hl:H.length≤i
theorem a5c {s:D8} (hs:SmS s):jF s=some (mV s):=by
 have hn:nD s=((s.2.2.2.1.length:Nat):Int):=rfl
 have hnd:=hs.nd
 unfold jF
 rw[BQ hs,o7]
 have hAl:o8 ((List.range s.2.2.2.1.length).map fun(d:Nat)=>I7 s (d:Int))=((s.2.2.2.1.length:Nat):Int):=by simp[o8]
 have hAg:∀i,i<s.2.2.2.1.length→((List.range s.2.2.2.1.length).map fun(d:Nat)=>I7 s (d:Int))[i]? =some (I7 s (i:Int)):=fun i hi=>xB _ _ hi
 generalize (List.range s.2.2.2.1.length).map (fun(d:Nat)=>I7 s (d:Int))=A at*
 rw[hAl,show iU ((s.2.2.2.1.length:Nat):Int) ([]:List Int)=some (vT s 0) by
  unfold iU vT gG onL castL;rw[if_pos (by omega)];simp[List.map_const'],o7,show iU ((s.2.2.2.1.length:Nat):Int) (0:Int)=some (pd ((List.range 0).map fun(d:Nat)=>((I7 s (d:Int)).length:Int)) (s.2.2.2.1.length -0)) by
  unfold iU pd;rw[if_pos (by omega)];simp,o7]
 obtain⟨e,k1,k2⟩:=Z5 (f:=fun(x_3:List (List Int)×List Int×List Int×Int)=>l7 (ilt x_3.2.2.2 ((s.2.2.2.1.length:Nat):Int)) (l9 (lat A x_3.2.2.2) fun(x:List Int)=>l9 (lat x_3.2.1 x_3.2.2.2) fun(x_4:Int)=>l9 (J4 x_3.2.1 (toN x_3.2.2.2)) fun(x_5:Int)=>
   l9 (P5 (fun(x_6:List (List Int)×Int)=>l7 (ilt x_6.2 (o8 x)) (l9 (lat x x_6.2) fun(x:Int)=>l7 (inb x (o8 x_6.1)) (l9 (J4 x_6.1 (toN x)) fun(x_7:List Int)=>l9 (X9 x_7 [x_3.2.2.2]) fun(x_8:List Int)=>l7 (inb x (o8 x_6.1)) (l7 (FZ (toN x) (toN x)) (l9 (J4 x_6.1 (toN x)) fun(x_9:List Int)=>some (.inl (P6 x_6.1 (toN x) x_8,x9 .i64 x_6.2 1))) none) none) none) (some (.inr x_6.1))) (x_3.1,0)) fun(y:List (List Int))=>
   l7 (ieq (o8 x) 0) (l9 (ae x_3.2.2.1 x_3.2.2.2) fun(x_6:List Int)=>some (.inl (y,P6 x_3.2.1 (toN x_3.2.2.2) (o8 x),x_6,x9 .i64 x_3.2.2.2 1))) (some (.inl (y,P6 x_3.2.1 (toN x_3.2.2.2) (o8 x),x_3.2.2.1,x9 .i64 x_3.2.2.2 1)))) (some (.inr (x_3.1,x_3.2.1,x_3.2.2.1))))
  (s:=(vT s 0,pd ((List.range 0).map fun(d:Nat)=>((I7 s (d:Int)).length:Int)) (s.2.2.2.1.length -0),[],0)) (fun x=>∃(i:Nat) (U:List (List Int)) (W H:List Int),x=(U,W,H,(i:Int))∧i≤s.2.2.2.1.length∧IInv s i U W H) (fun y=>IInv s s.2.2.2.1.length y.1 y.2.1 y.2.2) (fun x=>s.2.2.2.1.length -x.2.2.2.toNat)
  ⟨0,_,_,_,rfl,by omega,rfl,rfl,fun k k0 k1=>by simp at k1,by simp,fun d=>by simp;omega,by simp⟩ (by simp;omega) (by
  rintro x ⟨i,U,W,H,rfl,hi,hI⟩
  by_cases hlt:i<s.2.2.2.1.length
  ·left
   obtain⟨m,hm⟩:∃m,s.2.2.2.1.length -i=m+1:=⟨s.2.2.2.1.length -i -1,by omega⟩
   have hlen:((List.range i).map fun(d:Nat)=>((I7 s (d:Int)).length:Int)).length=i:=by simp
   have q1:=Uk ((List.range i).map fun(d:Nat)=>((I7 s (d:Int)).length:Int)) m
   have q2:=Ul ((List.range i).map fun(d:Nat)=>((I7 s (d:Int)).length:Int)) m
   have q3:=YC ((List.range i).map fun(d:Nat)=>((I7 s (d:Int)).length:Int)) m (o8 (I7 s (i:Int)))
   rw[hlen]at q1 q2 q3
   have hW:=hI.w
   rw[hm]at hW
   have hl14:=hI.hl
   have hus:=Zy hs i hlt (f:=fun(x_6:List (List Int)×Int)=>l7 (ilt x_6.2 (o8 (I7 s (i:Int)))) (l9 (lat (I7 s (i:Int)) x_6.2) fun(x:Int)=>l7 (inb x (o8 x_6.1)) (l9 (J4 x_6.1 (toN x)) fun(x_7:List Int)=>l9 (X9 x_7 [(i:Int)]) fun(x_8:List Int)=>l7 (inb x (o8 x_6.1)) (l7 (FZ (toN x) (toN x)) (l9 (J4 x_6.1 (toN x)) fun(x_9:List Int)=>some (.inl (P6 x_6.1 (toN x) x_8,x9 .i64 x_6.2 1))) none) none) none) (some (.inr x_6.1)))
    (fun k e A he=>by simp only[H6 he,o6,E9,he,o7]) (fun A=>by simp only[H5];rfl)
   simp only
   rw[F6 (by omega),o6,E9,hAg i hlt,o7,hW,q1,o7,q2,o7,hI.u]
   refine a4f hus ?_
   rw[q3,O8 (by omega)]
   have hwn:pd ((List.range i).map (fun(d:Nat)=>((I7 s (d:Int)).length:Int))++[o8 (I7 s (i:Int))]) m=pd ((List.range (i+1)).map fun(d:Nat)=>((I7 s (d:Int)).length:Int)) (s.2.2.2.1.length -(i+1)):=by
    rw[List.range_succ,List.map_append,show s.2.2.2.1.length -(i+1)=m by omega];rfl
   rw[hwn]
   by_cases hz:(I7 s (i:Int)).length=0
   ·obtain⟨H',b1,b2,b3⟩:=RI (l:=H) (by omega) hI.hp (i:Int)
    have hnil:=List.length_eq_zero_iff.1 hz
    rw[F8 (by simp[o8,hz]),o6,b1,o7]
    have hni:(i:Int)∉H:=fun hx=>by have:=(hI.hm _).1 hx;omega
    refine⟨_,rfl,⟨i+1,_,_,_,rfl,hlt,rfl,rfl,b2,?_,fun d=>?_,by rw[b3.length_eq];simp;omega⟩,by simp;omega⟩
    ·rw[b3.nodup_iff]
     exact List.nodup_append.2 ⟨hI.hnd,by simp,fun a ha b hb=>by simp at hb;subst hb;intro hq;subst hq;exact hni ha⟩
    ·rw[b3.mem_iff,List.mem_append,hI.hm,List.mem_singleton]
     constructor
     ·rintro(⟨h1,h2,h3⟩ | h)
      ·exact⟨h1,by omega,h3⟩
      ·subst h;exact⟨by omega,by omega,hnil⟩
     ·rintro⟨h1,h2,h3⟩
      by_cases hq:d=(i:Int)
      ·exact .inr hq
      ·exact .inl ⟨h1,by omega,h3⟩
   ·rw[F5 (by simp only[o8];omega),o5]
    refine⟨_,rfl,⟨i+1,_,_,_,rfl,hlt,rfl,rfl,hI.hp,hI.hnd,fun d=>?_,by omega⟩,by simp;omega⟩
    rw[hI.hm]
    constructor
    ·rintro⟨h1,h2,h3⟩;exact⟨h1,by omega,h3⟩
    ·rintro⟨h1,h2,h3⟩
     refine⟨h1,?_,h3⟩
     by_cases hq:d=(i:Int)
     ·subst hq;rw[h3]at hz;exact absurd rfl hz
     ·omega
  ·right
   have:i=s.2.2.2.1.length:=by omega
   subst this
   exact⟨(U,W,H),by simp only[E8 (show((s.2.2.2.1.length:Nat):Int)≤((s.2.2.2.1.length:Nat):Int) by omega)];rfl,hI⟩)
 refine(dh k1 _).trans ?_
 obtain⟨U,W,H⟩:=e
 simp only at k2 ⊢
 have hwd:∀d,0≤d→d<nD s→hw W d=((I7 s d).length:Int):=fun d d0 d1=>by
  have hd:d.toNat<s.2.2.2.1.length:=by omega
  rw[k2.w,Nat.sub_self]
  unfold hw pd
  rw[qp,List.replicate_zero,List.append_nil,xB _ _ hd,Int.toNat_of_nonneg d0];rfl
 have hK:KInv s [] W H:=by
  refine⟨by simp,by simp,by simp,by rw[k2.w];simp[pd],fun d d0 d1=>?_,k2.hp,k2.hnd,fun d=>?_⟩
  ·rw[hwd d d0 d1]
   have:LD s [] d=I7 s d:=List.filter_eq_self.2 fun a _=>rfl
   rw[this]
  ·rw[k2.hm]
   constructor
   ·rintro⟨h1,h2,h3⟩;exact⟨h1,by omega,by simp,by rw[hwd d h1 (by omega),h3];rfl⟩
   ·rintro⟨h1,h2,_,h4⟩
    rw[hwd d h1 h2]at h4
    exact⟨h1,by omega,List.length_eq_zero_iff.1 (by omega)⟩
 have hU:=k2.u
 subst hU
 have hlatU:∀m:Nat,m<s.2.2.2.1.length→lat (vT s s.2.2.2.1.length) (m:Int)=some (castL (gG s (m:Int) s.2.2.2.1.length)):=fun m hm=>by
  rw[E9];exact xB _ _ hm
 have key:∀(k j:Nat) (O W H:List Int),KInv s O W H→s.2.2.2.1.length -O.length<k→k≤j→∃y,ku (fun(x:List (List Int)×X3)=>l9 (dH x.2.2.1) fun(x_3:Int)=>l7 (ilt 0 x_3) (l9 (iQ x.2.2.1) fun(x_4:Int×List Int)=>l9 (X9 x.2.2.2 [x_4.1]) fun(x_5:List Int)=>l9 (lat x.1 x_4.1) fun(x_6:List Int)=>
   l9 (P5 (fun(x:List Int×List Int×Int)=>l7 (ilt x.2.2 (o8 x_6)) (l9 (lat x_6 x.2.2) fun(x_7:Int)=>l9 (lat x.1 x_7) fun(x_8:Int)=>l9 (J4 x.1 (toN x_7)) fun(x_9:Int)=>l9 (lat x.1 x_7) fun(x_10:Int)=>l9 (J4 x.1 (toN x_7)) fun(x_11:Int)=>l9 (lat (P6 x.1 (toN x_7) (G5 .i64 x_9 1)) x_7) fun(x_12:Int)=>l9 (J4 (P6 x.1 (toN x_7) (G5 .i64 x_9 1)) (toN x_7)) fun(x_13:Int)=>
     l7 (ieq x_13 0) (l9 (ae x.2.1 x_7) fun(x_14:List Int)=>some (.inl (P6 x.1 (toN x_7) (G5 .i64 x_9 1),x_14,x9 .i64 x.2.2 1))) (some (.inl (P6 x.1 (toN x_7) (G5 .i64 x_9 1),x.2.1,x9 .i64 x.2.2 1)))) (some (.inr (x.1,x.2.1)))) (x.2.1,x_4.2,0)) fun(y:List Int×List Int)=>some (.inl (x.1,y.1,y.2,x_5))) (some (.inr x.2.2.2))) j (vT s s.2.2.2.1.length,W,H,O)=some y∧MZ s k O=(if y.length<s.2.2.2.1.length then .inr ([],9)else .inl y):=by
  intro k
  induction k with
  | zero=>intro j O W H hK hk;omega
  | succ k ih=>
   intro j O W H hK hk hj
   obtain⟨j,rfl⟩:∃j',j=j' +1:=⟨j -1,by omega⟩
   rw[ku]
   simp only[dH,o7]
   cases H with
   | nil=>
    refine⟨O,rfl,?_⟩
    unfold MZ
    rw[hK.next_none]
   | cons h0 H=>
    generalize hHH:h0::H=HH at*
    have hpos:0<HH.length:=by rw[←hHH];simp
    obtain⟨m,hm1,hm2,hm3,hm4⟩:=hK.next_some hpos
    have hHl:HH.length≤14:=Nat.le_trans (Sr (n:=s.2.2.2.1.length) hK.hnd fun x hx=>by have:=(hK.hm x).1 hx;omega) hnd
    obtain⟨R,r1,r2,r3⟩:=a4n (l:=HH) (by omega) hK.hp hpos
    rw[hm1]at r1 r3
    have hRl:R.length≤14:=by have:=r3.length_eq;simp at this;omega
    have hOl:O.length≤14:=by omega
    obtain⟨W',H',u1,u2⟩:=Zz hs (W:=W) (H0:=R) (us:=castL (gG s (m:Int) s.2.2.2.1.length)) hK.wl (fun d d0 d1=>by
      have h1:=hK.w d d0 d1
      have h2:=List.length_filter_le (fun x=> !ik O x) (I7 s d)
      have h3:=BZ hs d
      unfold LD at h1
      omega) r2 (by omega) (Vu (Yx _ _)) (fun u hu=>by have:=Dt.1 hu;omega)
     (f:=fun(x:List Int×List Int×Int)=>l7 (ilt x.2.2 (o8 (castL (gG s (m:Int) s.2.2.2.1.length)))) (l9 (lat (castL (gG s (m:Int) s.2.2.2.1.length)) x.2.2) fun(x_7:Int)=>l9 (lat x.1 x_7) fun(x_8:Int)=>l9 (J4 x.1 (toN x_7)) fun(x_9:Int)=>l9 (lat x.1 x_7) fun(x_10:Int)=>l9 (J4 x.1 (toN x_7)) fun(x_11:Int)=>l9 (lat (P6 x.1 (toN x_7) (G5 .i64 x_9 1)) x_7) fun(x_12:Int)=>l9 (J4 (P6 x.1 (toN x_7) (G5 .i64 x_9 1)) (toN x_7)) fun(x_13:Int)=>
     l7 (ieq x_13 0) (l9 (ae x.2.1 x_7) fun(x_14:List Int)=>some (.inl (P6 x.1 (toN x_7) (G5 .i64 x_9 1),x_14,x9 .i64 x.2.2 1))) (some (.inl (P6 x.1 (toN x_7) (G5 .i64 x_9 1),x.2.1,x9 .i64 x.2.2 1)))) (some (.inr (x.1,x.2.1))))
     (fun i u A B hu=>by simp only[H6 hu,o6,E9 (castL (gG s (m:Int) s.2.2.2.1.length)),hu,o7]) (fun A B=>by simp only[H5];rfl)
    have hK2:=hK.step hpos hm1 r2 r3 u2
    obtain⟨y,y1,y2⟩:=ih j (O++[(m:Int)]) W' H' hK2 (by simp;omega) (by omega)
    refine⟨y,?_,?_⟩
    ·rw[F6 (show(0:Int)<o8 HH by simp only[o8];omega),o6,r1,o7,aB _ (by omega),o7,hlatU m hm3,o7,u1,o7]
     exact y1
    ·unfold MZ
     rw[if_pos hm4,hm2]
     exact y2
 obtain⟨y,y1,y2⟩:=key 100 bK [] W H hK (by simp;omega) (by unfold bK;omega)
 refine(dh y1 _).trans ?_
 unfold mV
 rw[y2]
 by_cases hl:y.length<s.2.2.2.1.length
 ·rw[if_pos hl,F6 (by simp only[o8];omega)];rfl
 ·rw[if_neg hl,E8 (by simp only[o8];omega)];rfl
end Go.GP
