import Derived.Test.YtcfakchpmpajeaaGreatDoorT1
import Derived.Test.YtcfakchpmpajeaaGreatDoorT2
set_option linter.all false
namespace Go.GP
section
variable {α β σ ε ρ:Type}
@[simp] theorem Z5 (x:α) (f:α→Option β):l9 (some x) f=f x:=rfl
@[simp] theorem Zz (f:α→Option β):l9 none f=none:=rfl
theorem ER {o o' :Option α} (h:o=o') {K:α→Option β} {r:Option β} (h2:l9 o' K=r):l9 o K=r:=by rw[h];exact h2
theorem NW (o:Option α):l9 o (fun x=>some x)=o:=by cases o <;> rfl
@[simp] theorem F7 (x y:α):l7 true x y=x:=rfl
@[simp] theorem F5 (x y:α):l7 false x y=y:=rfl
theorem RQ {b:Bool} (h:b=true) (x y:α):l7 b x y=x:=by rw[h];rfl
theorem IW {b:Bool} (h:b=false) (x y:α):l7 b x y=y:=by rw[h];rfl
@[simp] theorem AL (s:σ) (f:σ→α) (g:ε→α):J3 (.inl s) f g=f s:=rfl
@[simp] theorem a8C (s:ε) (f:σ→α) (g:ε→α):J3 (.inr s) f g=g s:=rfl
@[simp] theorem lU:C9 true=false:=rfl
@[simp] theorem tC:C9 false=true:=rfl
theorem xM {a b:Int} (h:a<b):ilt a b=true:=by simp[ilt,h]
theorem zJ {a b:Int} (h:b≤a):ilt a b=false:=by simp[ilt];omega
theorem Jd {a b:Int} (h:a≤b):ile a b=true:=by simp[ile,h]
theorem Ez {a b:Int} (h:b<a):ile a b=false:=by simp[ile];omega
theorem Ey {a b:Int} (h:a=b):ieq a b=true:=by simp[ieq,h]
theorem BP {a b:Int} (h:a≠b):ieq a b=false:=by simp[ieq,h]
theorem RY {a b:Int} :ilt a b=true↔a<b:=by simp[ilt]
theorem RV {a b:Int} :ile a b=true↔a≤b:=by simp[ile]
theorem Y6 {a b:Int} :ieq a b=true↔a=b:=by simp[ieq]
theorem NK {a b:Int} :ilt a b=false↔b≤a:=by simp[ilt]
theorem Zu {a b:Int} :ieq a b=false↔a≠b:=by simp[ieq]
def I64 (n:Int):Prop:=-9223372036854775808≤n∧n≤9223372036854775807
theorem Gg {n:Int} (h:I64 n):IntKind.wrap .i64 n=n:=by
 unfold I64 at h
 unfold IntKind.wrap
 simp[IntKind.signed,IntKind.bits]
 omega
theorem zI {a b:Int} (h:I64 (a+b)):o8 .i64 a b=a+b:=Gg h
theorem ED {a b:Int} (h:I64 (a -b)):D5 .i64 a b=a -b:=Gg h
theorem a1B {n:Int} (h:(Lit.int .i64 n).wf=true):I64 n:=by
 simp[Lit.wf,IntKind.min,IntKind.max,IntKind.signed,IntKind.bits]at h
 unfold I64;omega
theorem jw (l:List α) (i:Nat):lat l (i:Int)=l[i]?:=by simp[lat]
theorem Zw {l:List α} {i:Int} (h0:0≤i) (h:i<o7 l):∃x,lat l i=some x∧x∈l:=by
 unfold o7 at h
 refine⟨l[i.toNat]'(by omega),?_,List.getElem_mem _⟩
 unfold lat
 rw[if_pos h0,qg]
theorem Dj {a b:List α} (h:a.length+b.length≤1073741824):Y2 a b=some (a++b):=by simp[Y2,h]
end
section
variable {σ ε ρ:Type}
end
section
variable {α β ε ρ:Type}
open Classical in
theorem LP (l:List α) (p:Nat→α→Bool) (r:ρ) (e:ε) (f:Int→Option (Out Int ε ρ)) (hl:l.length<18446744073709551616)
  (hin:∀(i:Nat) (a:α),l[i]? =some a→f (i:Int)=if p i a=true then some (.nx ((i+1:Nat):Int))else some (.rt r))
  (hend:f (l.length:Int)=some (.ex e)):
  N7 f 0=if(∀i a,l[i]? =some a→p i a=true)then some (.inl e)else some (.inr r):=by
 have key:∀(n i:Nat),i≤l.length→l.length -i<n→(∀j a,j<i→l[j]? =some a→p j a=true)→jZ f n (i:Int)=if(∀i a,l[i]? =some a→p i a=true)then some (.inl e)else some (.inr r):=by
  intro n
  induction n with
  | zero=>intro i _ h;omega
  | succ n ih=>
   intro i hi hn hp
   unfold jZ
   by_cases h:i<l.length
   ·have e' :=qg h
    rw[hin i _ e']
    by_cases hpi:p i l[i]=true
    ·rw[if_pos hpi]
     exact ih (i+1) (by omega) (by omega) fun j a hj ha=>by
      by_cases hji:j=i
      ·subst hji;rw[e']at ha;cases ha;exact hpi
      ·exact hp j a (by omega) ha
    ·rw[if_neg hpi,if_neg]
     intro hall
     exact hpi (hall i _ e')
   ·have:i=l.length:=by omega
    subst this
    rw[hend,if_pos]
    intro j a ha
    exact hp j a (ah.1 ha).1 ha
 exact key _ 0 (Nat.zero_le _) hl fun j a hj=>by omega
end
end Go.GP
namespace Go.GP
section
variable {α β α' β' σ τ ε ε' ρ ρ' :Type}
def Ag (R:α→β→Prop) (o:Option α) (p:Option β):Prop:=∃a b,o=some a∧p=some b∧R a b
theorem Ag.mk {R:α→β→Prop} {a:α} {b:β} (h:R a b):Ag R (some a) (some b):=⟨a,b,rfl,rfl,h⟩
theorem Ag.mono {R S:α→β→Prop} {o:Option α} {p:Option β} (h:Ag R o p) (hs:∀a b,o=some a→p=some b→R a b→S a b):Ag S o p:=by
 obtain⟨a,b,h1,h2,h3⟩:=h
 exact⟨a,b,h1,h2,hs a b h1 h2 h3⟩
theorem Ag.bind {R:α→β→Prop} {S:α' →β' →Prop} {o:Option α} {p:Option β} {f:α→Option α'} {g:β→Option β'} (h:Ag R o p)
  (hk:∀a b,o=some a→p=some b→R a b→Ag S (f a) (g b)):Ag S (l9 o f) (l9 p g):=by
 obtain⟨a,b,h1,h2,h3⟩:=h
 have:=hk a b h1 h2 h3
 rw[h1,h2];exact this
theorem Ag.left {S:α' →β→Prop} {o:Option α} {a:α} {f:α→Option α'} {p:Option β} (h:o=some a) (hk:Ag S (f a) p):Ag S (l9 o f) p:=by rw[h];exact hk
theorem Ag.right {S:α→β' →Prop} {p:Option β} {b:β} {g:β→Option β'} {o:Option α} (h:p=some b) (hk:Ag S o (g b)):Ag S o (l9 p g):=by rw[h];exact hk
theorem Ag.cond {S:α→β→Prop} {b c:Bool} {x y:Option α} {u v:Option β} (h:b=c) (h1:b=true→Ag S x u) (h2:b=false→Ag S y v):Ag S (l7 b x y) (l7 c u v):=by
 subst h
 cases b
 ·exact h2 rfl
 ·exact h1 rfl
theorem Ag.eq {o p:Option α} (h:Ag Eq o p):∃a,o=some a∧p=some a:=by
 obtain⟨a,b,h1,h2,rfl⟩:=h
 exact⟨a,h1,h2⟩
def a8H (E:ε→ε' →Prop) (Q:ρ→ρ' →Prop):ε⊕ρ→ε' ⊕ρ' →Prop
 | .inl a,.inl b=>E a b
 | .inr a,.inr b=>Q a b
 | _,_=>False
theorem Ag.sum {E:ε→ε' →Prop} {Q:ρ→ρ' →Prop} {S:α→β→Prop} {o:ε⊕ρ} {p:ε' ⊕ρ'} {f:ε→Option α} {g:ρ→Option α} {f' :ε' →Option β} {g' :ρ' →Option β} (h:a8H E Q o p)
  (h1:∀a b,E a b→Ag S (f a) (f' b)) (h2:∀a b,Q a b→Ag S (g a) (g' b)):Ag S (J3 o f g) (J3 p f' g'):=by
 cases o <;> cases p <;> first | exact h1 _ _ h | exact h2 _ _ h | exact h.elim
end
end Go.GP
namespace Go.GP
open Gt
set_option maxRecDepth 100000
theorem rZ {i:Nat} (h:i≤9000000000000000000):o8 .i64 (i:Int) 1=((i+1:Nat):Int):=by
 rw[zI (by unfold I64;omega)];omega
def a3T (c:UInt8):Bool:=decide (97≤c.toNat)&&decide (c.toNat≤122)
def a8G (c:UInt8):Bool:=a3T c || (decide (48≤c.toNat)&&decide (c.toNat≤57)) || decide (c.toNat=95)
def b1Z:List (List UInt8):=b2l.getD []
def a3Q (s:List UInt8):Bool:=match s with | []=>false | c::r=>decide (s.length≤16)&&a3T c&&s.all a8G&&!(b1Z.any fun w=>seq s w)
theorem Ec (t:Int×Int) (en:List iU):J7 t en=b2h t en:=by
 unfold J7 b2h
 by_cases h1:t.1=1
 ·simp[ieq,h1,ile]
 by_cases h2:t.1=2
 ·simp[ieq,h2,ile]
 by_cases h3:t.1=3
 ·simp[ieq,h3,ile]
 by_cases h4:t.1=4
 ·simp[ieq,h4,ile]
 by_cases h5:t.1=5
 ·simp[ieq,h5,ile]
 by_cases h6:t.1=6
 ·simp[ieq,h6,ile]
 ·simp only[ieq,h1,h2,h3,h4,h5,h6,decide_false,F5,Z5]
  by_cases h7:1≤t.1
  ·rw[RQ (Jd h7),IW (Ez (by omega))]
  ·rw[IW (Ez (by omega))]
def vty (t:Int×Int) (en:List iU):Bool:=l7 (ieq t.1 6) (l7 (ile 0 t.2) (ilt t.2 (o7 en)) false) (l7 (ile 1 t.1) (l7 (ile t.1 5) (ieq t.2 0) false) false)
theorem Bi (t:Int×Int) (en:List iU):b2h t en=some (vty t en):=by
 unfold b2h vty
 cases ieq t.1 6 <;> cases ile 0 t.2 <;> cases ile 1 t.1 <;> cases ile t.1 5 <;> rfl
theorem Ed (t:Int×Int) (en:List iU):J7 t en=some (vty t en):=(Ec t en).trans (Bi t en)
def bnd (t:Int×Int) (en:List iU):Int×Int:=(b2k t en).getD (0,0)
def inB (n:Int) (b:Int×Int):Bool:=l7 (ile b.1 n) (ile n b.2) false
def YP (r:Int×Int):Bool:=l7 (ile 0 r.1) (l7 (ile r.1 r.2) (ile r.2 109573) false) false
theorem Si (a b:Int):ilt a b= !ile b a:=by
 simp only[ilt,ile];rw[←decide_not];congr 1;simp
end Go.GP
namespace Go.GP
open Gt
set_option maxRecDepth 100000
section
variable {α ε ρ:Type}
theorem RN (l:List α) (p:α→Bool) (r:ρ) (e:ε) {f:Int→Option (Out Int ε ρ)} (hl:l.length≤1000000)
  (hin:∀(i:Nat) (a:α),l[i]? =some a→f (i:Int)=some (bif p a then .rt r else .nx (o8 .i64 (i:Int) 1))) (hend:f (l.length:Int)=some (.ex e)):
  N7 f 0=some (bif l.any p then .inr r else .inl e):=by
 rw[LP l (fun i a=> !p a) r e f (by omega) (fun i a ha=>?_) hend]
 ·have hb:(∀(j:Nat) (a:α),l[j]? =some a→(!p a)=true)↔l.any p=false:=by
   rw[List.any_eq_false]
   constructor
   ·intro h x hx
    obtain⟨j,hj,rfl⟩:=List.getElem_of_mem hx
    have:=h j _ (qg hj)
    simpa using this
   ·intro h j a hj
    have:=h a (Be hj)
    simpa using this
  by_cases hv:l.any p=false
  ·rw[if_pos (hb.2 hv),hv];rfl
  ·rw[if_neg (fun h=>hv (hb.1 h))]
   simp only[Bool.not_eq_false]at hv
   rw[hv];rfl
 ·have hi:=(ah.1 ha).1
  rw[hin i a ha,rZ (by omega)]
  cases p a <;> rfl
theorem rG {i:Nat} {l:List α} {a:α} (h:l[i]? =some a):ilt (i:Int) (o7 l)=true:=xM (by have:=(ah.1 h).1;simp only[o7];omega)
theorem rE (l:List α):ilt (l.length:Int) (o7 l)=false:=zJ (by simp[o7])
end
end Go.GP
namespace Go.GP
open Gt
set_option maxRecDepth 100000
section
variable {α ε ρ:Type}
end
def Few (l:iq):Prop:=l.1.length≤1000∧l.2.1.length≤1000∧l.2.2.length≤1000
def Jb {ρ:Type} (n:Nat) (p:Nat→Option ρ):Option ρ:=(List.range n).findSome? p
def QQ (l:iq):Prop:=∀e∈l.1,e.1.length≤1000000∧∀m∈e.2,m.length≤1000000
def Na (l:iq):Prop:=∀t∈l.2.1,t.1.length≤1000000
abbrev SI (l:List Int):Prop:=l.Pairwise (·< ·)
theorem PN:∀{a b:List Int},SI a→SI b→(∀x,x∈a↔x∈b)→a=b
 | [],[],_,_,_=>rfl
 | [],y::b,_,_,h=>absurd ((h y).2 (by simp)) (by simp)
 | x::a,[],_,_,h=>absurd ((h x).1 (by simp)) (by simp)
 | x::a,y::b,ha,hb,h=>by
  have ha' :=List.pairwise_cons.1 ha
  have hb' :=List.pairwise_cons.1 hb
  have hxy:x=y:=by
   rcases List.mem_cons.1 ((h x).1 (by simp))with h1 | h1
   ·exact h1
   ·rcases List.mem_cons.1 ((h y).2 (by simp))with h2 | h2
    ·exact h2.symm
    ·have:=hb'.1 _ h1;have:=ha'.1 _ h2;omega
  subst hxy
  congr 1
  refine PN ha'.2 hb'.2 fun z=>⟨fun hz=>?_,fun hz=>?_⟩
  ·rcases List.mem_cons.1 ((h z).1 (by simp[hz]))with h1 | h1
   ·have:=ha'.1 _ hz;omega
   ·exact h1
  ·rcases List.mem_cons.1 ((h z).2 (by simp[hz]))with h1 | h1
   ·have:=hb'.1 _ hz;omega
   ·exact h1
def ins (n:Int):List Int→List Int
 | []=>[n]
 | a::l=>if n≤a then(if n<a then n::a::l else a::l)else a::ins n l
theorem Dt (n x:Int):∀l,x∈ins n l↔x=n∨x∈l
 | []=>by simp[ins]
 | a::l=>by
  unfold ins
  by_cases h:n≤a
  ·rw[if_pos h]
   by_cases h2:n<a
   ·rw[if_pos h2];simp
   ·rw[if_neg h2]
    have:n=a:=by omega
    subst this;simp
  ·rw[if_neg h,List.mem_cons,Dt n x l,List.mem_cons]
   constructor
   ·rintro(h | h | h) <;> simp[h]
   ·rintro(h | h | h) <;> simp[h]
theorem PO (n:Int):∀{l},SI l→SI (ins n l)
 | [],_=>List.pairwise_singleton _ _
 | a::l,h=>by
  have h' :=List.pairwise_cons.1 h
  unfold ins
  by_cases h1:n≤a
  ·rw[if_pos h1]
   by_cases h2:n<a
   ·rw[if_pos h2]
    refine List.pairwise_cons.2 ⟨fun x hx=>?_,h⟩
    rcases List.mem_cons.1 hx with rfl | hx
    ·exact h2
    ·have:=h'.1 x hx;omega
   ·rw[if_neg h2];exact h
  ·rw[if_neg h1]
   refine List.pairwise_cons.2 ⟨fun x hx=>?_,PO n h'.2⟩
   rcases(Dt n x l).1 hx with rfl | hx
   ·omega
   ·exact h'.1 x hx
def zM (ns:List Int) (l:List Int):List Int:=ns.foldl (fun acc n=>ins n acc) l
theorem EN (x:Int):∀ns l,x∈zM ns l↔x∈ns∨x∈l
 | [],l=>by simp[zM]
 | n::ns,l=>by
  show x∈zM ns (ins n l)↔_
  rw[EN x ns,Dt,List.mem_cons]
  constructor
  ·rintro(h | h | h) <;> simp[h]
  ·rintro((h | h) | h) <;> simp[h]
theorem KR:∀ns {l},SI l→SI (zM ns l)
 | [],_,h=>h
 | n::ns,_,h=>KR ns (PO n h)
def pG (l:List Int):List Int:=zM l []
theorem NT (x:Int) (l:List Int):x∈pG l↔x∈l:=by unfold pG;rw[EN];simp
theorem KT (l:List Int):SI (pG l):=KR l List.Pairwise.nil
theorem nV (n:Int):∀l,(ins n l).length≤l.length+1
 | []=>by simp[ins]
 | a::l=>by
  unfold ins
  by_cases h1:n≤a
  ·rw[if_pos h1];by_cases h2:n<a
   ·rw[if_pos h2];simp
   ·rw[if_neg h2];simp
  ·rw[if_neg h1];have:=nV n l;simp only[List.length_cons];omega
theorem xN:∀ns l,(zM ns l).length≤l.length+ns.length
 | [],l=>by simp[zM]
 | n::ns,l=>by
  have h1:=xN ns (ins n l)
  have h2:=nV n l
  show(zM ns (ins n l)).length≤_
  simp only[List.length_cons];omega
theorem xO (l:List Int):(pG l).length≤l.length:=by have:=xN l [];unfold pG;simpa using this
theorem zn (x:Int):∀(l:List Int) (p:Int),(p::l).Pairwise (·≤·)→SI (p::ddp p l)∧(x∈p::ddp p l↔x∈p::l)
 | [],p,_=>⟨List.pairwise_singleton _ _,Iff.rfl⟩
 | a::l,p,h=>by
  have h1:=List.pairwise_cons.1 h
  obtain⟨i1,i2⟩:=zn x l a h1.2
  have h2:=List.pairwise_cons.1 h1.2
  have hpa:=h1.1 a (by simp)
  unfold ddp
  cases hq:ieq a p
  ·rw[Zu]at hq
   simp only[cond_false]
   refine⟨List.pairwise_cons.2 ⟨fun y hy=>?_,i1⟩,?_⟩
   ·rcases List.mem_cons.1 hy with rfl | hy
    ·omega
    ·have:=(List.pairwise_cons.1 i1).1 y hy;omega
   ·rw[List.mem_cons,i2,List.mem_cons (a:=x) (b:=p)]
  ·rw[Y6]at hq
   subst hq
   simp only[cond_true]
   refine⟨i1,?_⟩
   rw[i2];simp
theorem Nw (l:List Int):dd (qf l)=pG l:=by
 have hs:=nT l
 have hp:=nS l
 refine PN ?_ (KT l) fun x=>?_
 ·cases he:qf l with
  | nil=>exact List.Pairwise.nil
  | cons a r=>rw[he]at hs;exact(zn a r a hs).1
 ·rw[NT,←hp.mem_iff]
  cases he:qf l with
  | nil=>exact Iff.rfl
  | cons a r=>rw[he]at hs;exact(zn x r a hs).2
theorem LM (l:List Int):(qf l).length=l.length:=(nS l).length_eq
theorem Tq {l:List Int} (h:l.length≤1000000):l9 (bV l) (fun x=>Y9 x)=some (pG l):=by
 unfold bV Y9
 rw[show Nat.blt l.length 4611686018427387904=true from by simp[Nat.blt];omega]
 simp only[cond_true,Z5]
 rw[show Nat.blt (qf l).length 4611686018427387904=true from by rw[LM];simp[Nat.blt];omega]
 rw[cond_true,Nw]
def hg (l:List Int) (i:Nat):Int:=l.getD i 0
theorem RU {l:List Int} {i:Nat} (h:i<l.length):l[i]? =some (hg l i):=by
 unfold hg;rw[NQ,qg h];rfl
def QR (l:List Int) (n:Nat):Prop:=∀k,0<k→k<n→hg l ((k -1) / 2)≤hg l k
def MS (s:E8):Prop:=(∀f∈s.2.2.1,f.1.length≤1000000)∧(∀f∈s.2.2.2.1,f.1.length≤1000000)
def arF (op:Int):Int:=(b2s op).getD 0
inductive XT where
 | l0 (n:Int×Int) | l1 (n:Int×Int) (a:XT) | l2 (n:Int×Int) (a b:XT) | l3 (n:Int×Int) (a b c:XT)
def XT.size:XT→Nat
 | .l0 _=>1 | .l1 _ a=>a.size+1 | .l2 _ a b=>a.size+b.size+1 | .l3 _ a b c=>a.size+b.size+c.size+1
def XT.post:XT→List (Int×Int)
 | .l0 n=>[n] | .l1 n a=>a.post++[n] | .l2 n a b=>a.post++b.post++[n] | .l3 n a b c=>a.post++b.post++c.post++[n]
def push (n:Int×Int) (ts:List XT):Int⊕List XT:=
 if arF n.1=0 then .inr (.l0 n::ts)
 else if arF n.1=1 then(match ts with | a::r=> .inr (.l1 n a::r) | _=> .inl 5)
 else if arF n.1=2 then(match ts with | b::a::r=> .inr (.l2 n a b::r) | _=> .inl 5)
 else if arF n.1=3 then(match ts with | c::b::a::r=> .inr (.l3 n a b c::r) | _=> .inl 5)
 else .inl 2
def Ol:Nat→List (Int×Int)→List XT→(Int×Int)⊕List XT
 | _,[],ts=> .inr ts
 | i,n::es,ts=>match push n ts with
  | .inl c=> .inl ((i:Int),c)
  | .inr ts' =>if 12<ts'.length then .inl ((i:Int),16)else Ol (i+1) es ts'
def Tu (e:List (Int×Int)):(Int×Int)⊕XT:=
 if 48<e.length then .inl (0,4)else if e.length=0 then .inl (0,5)else
  match Ol 0 e []with
  | .inl x=> .inl x
  | .inr [t]=> .inr t
  | .inr _=> .inl ((e.length:Int),4)
theorem BU {α:Type} {l:List α} (x:α) (h:l.length≤1000000):Y2 l [x]=some (l++[x]):=Dj (by simp;omega)
def pd (l:List Int) (k:Nat):List Int:=l++List.replicate k 0
end Go.GP
namespace Go.GP
open Gt
set_option maxRecDepth 100000
def VT (t:Int×Int):Prop:=t=(1,0)∨t=(2,0)∨t=(3,0)∨t=(4,0)∨t=(5,0)∨∃e,t=(6,e)
theorem VT.lit {k:Int} (h:1≤k∧k≤5):VT (k,0):=by
 have:k=1∨k=2∨k=3∨k=4∨k=5:=by omega
 rcases this with rfl | rfl | rfl | rfl | rfl <;> simp[VT]
theorem RX (a b:Int):ile a b= !ilt b a:=by
 simp only[ilt,ile];rw[←decide_not];congr 1;simp
section
variable (N:Int) (sg:G8)
theorem jY (ts:List (Int×Int)) (en:G8):(∃x,lat ts N=some x∧ile 0 N=true∧ilt N (o7 ts)=true∧X9 N ts en=some (l7 (vty x en.1) (x,0) ((0,0),8)))∨((ile 0 N=false∨ile 0 N=true∧ilt N (o7 ts)=false)∧X9 N ts en=some ((0,0),6)):=by
 unfold X9
 rw[Si N 0,RX (o7 ts) N]
 cases h0:ile 0 N
 ·exact .inr ⟨.inl (by simp),rfl⟩
 cases h1:ilt N (o7 ts)
 ·exact .inr ⟨.inr (by simp),rfl⟩
 rw[RV]at h0;rw[RY]at h1
 obtain⟨x,hx,_⟩:=Zw h0 h1
 rw[hx]
 simp only[Bool.not_true,Bool.not_false,F5,F7,Z5,Ed]
 exact .inl ⟨x,rfl,by simp,by simp,by cases vty x en.1 <;> rfl⟩
end
end Go.GP
namespace Go.GP
open Gt
set_option maxRecDepth 100000
section
variable (N:Int) (sg:G8)
end
end Go.GP
namespace Go.GP
open Gt
set_option maxRecDepth 100000
def XT.wf:XT→Prop
 | .l0 n=>arF n.1=0
 | .l1 n a=>arF n.1=1∧a.wf
 | .l2 n a b=>arF n.1=2∧a.wf∧b.wf
 | .l3 n a b c=>arF n.1=3∧a.wf∧b.wf∧c.wf
def ZK (n:Int×Int) (ops:List (Int×Int)) (sg:G8):(Int×Int)×Int:=(b2n n ops sg).getD ((0,0),0)
def Jl (sg:G8) (n:Int×Int) (ops:List (Int×Int)) (i:Nat):(Int×Int)⊕(Int×Int):=if(ZK n ops sg).2=0 then .inr (ZK n ops sg).1 else .inl ((i:Int),(ZK n ops sg).2)
def AQ (sg:G8):XT→Nat→(Int×Int)⊕(Int×Int)
 | .l0 n,o=>Jl sg n [] o
 | .l1 n a,o=>match AQ sg a o with
  | .inl x=> .inl x
  | .inr ta=>Jl sg n [ta] (o+a.size)
 | .l2 n a b,o=>match AQ sg a o with
  | .inl x=> .inl x
  | .inr ta=>match AQ sg b (o+a.size)with
   | .inl x=> .inl x
   | .inr tb=>Jl sg n [ta,tb] (o+a.size+b.size)
 | .l3 n a b c,o=>match AQ sg a o with
  | .inl x=> .inl x
  | .inr ta=>match AQ sg b (o+a.size)with
   | .inl x=> .inl x
   | .inr tb=>match AQ sg c (o+a.size+b.size)with
    | .inl x=> .inl x
    | .inr tc=>Jl sg n [ta,tb,tc] (o+a.size+b.size+c.size)
section
variable (e:List (Int×Int)) (sg:G8) (z:Int×Int)
end
def yP (e:List (Int×Int)) (sg:G8):(Int×Int)×Int×Int:=match Tu e with
 | .inl x=>((0,0),x)
 | .inr t=>match AQ sg t 0 with
  | .inl x=>((0,0),x)
  | .inr r=>(r,0,0)
section
variable {α β σ ε ρ:Type}
theorem GY (l:List α) (G:β→α→β) (mk:β→Int→σ) (fin:β→ε) (Inv:Nat→β→Prop) {f:σ→Option (σ⊕ε)} {b:β} (hl:l.length≤1000000) (h0:Inv 0 b)
  (hin:∀(i:Nat) (a:α) (b:β),l[i]? =some a→i≤1000000→Inv i b→f (mk b (i:Int))=some (.inl (mk (G b a) ((i+1:Nat):Int)))∧Inv (i+1) (G b a))
  (hend:∀b,Inv l.length b→f (mk b (l.length:Int))=some (.inr (fin b))):
  O7 f (mk b 0)=some (fin (l.foldl G b))∧Inv l.length (l.foldl G b):=by
 have key:∀(n i:Nat) (b:β),i≤l.length→l.length -i<n→Inv i b→tX f n (mk b (i:Int))=some (fin ((l.drop i).foldl G b))∧Inv l.length ((l.drop i).foldl G b):=by
  intro n
  induction n with
  | zero=>intro i b _ h _;omega
  | succ n ih=>
   intro i b hi hn hI
   unfold tX
   by_cases h:i<l.length
   ·have e:=qg h
    obtain⟨h1,h2⟩:=hin i _ b e (by omega) hI
    rw[h1,List.drop_eq_getElem_cons h]
    exact ih (i+1) _ (by omega) (by omega) h2
   ·have:i=l.length:=by omega
    subst this
    rw[hend b hI,List.drop_length]
    exact⟨rfl,hI⟩
 have:=key bJ 0 b (by omega) (by unfold bJ;omega) h0
 exact this
theorem tY {γ:Type} (l:List α) (G:β→α→β) (mk:β→Int→σ) (fin:β→ε) (Inv:Nat→β→Prop) (b:β) {f:σ→Option (σ⊕ε)} {K:ε→Option γ} {r:Option γ} (hl:l.length≤1000000) (h0:Inv 0 b)
  (hin:∀(i:Nat) (a:α) (b:β),l[i]? =some a→i≤1000000→Inv i b→f (mk b (i:Int))=some (.inl (mk (G b a) ((i+1:Nat):Int)))∧Inv (i+1) (G b a))
  (hend:∀b,Inv l.length b→f (mk b (l.length:Int))=some (.inr (fin b))) (hk:Inv l.length (l.foldl G b)→K (fin (l.foldl G b))=r):l9 (O7 f (mk b 0)) K=r:=by
 obtain⟨h1,h2⟩:=GY l G mk fin Inv hl h0 hin hend
 rw[h1];exact hk h2
def jV (G:β→α→β⊕ρ):List α→β→β⊕ρ
 | [],b=> .inl b
 | a::l,b=>match G b a with | .inl b' =>jV G l b' | .inr r=> .inr r
theorem GZ (l:List α) (G:β→α→β⊕ρ) (mk:β→Int→σ) (fin:β→ε) (Inv:Nat→β→Prop) {f:σ→Option (Out σ ε ρ)} {b:β} (hl:l.length≤1000000) (h0:Inv 0 b)
  (hin:∀(i:Nat) (a:α) (b:β),l[i]? =some a→i≤1000000→Inv i b→f (mk b (i:Int))=some (match G b a with | .inl b' => .nx (mk b' ((i+1:Nat):Int)) | .inr r=> .rt r)∧∀b',G b a= .inl b' →Inv (i+1) b')
  (hend:∀b,Inv l.length b→f (mk b (l.length:Int))=some (.ex (fin b))):
  N7 f (mk b 0)=some (match jV G l b with | .inl b' => .inl (fin b') | .inr r=> .inr r)∧∀b',jV G l b= .inl b' →Inv l.length b' :=by
 have key:∀(n i:Nat) (b:β),i≤l.length→l.length -i<n→Inv i b→jZ f n (mk b (i:Int))=some (match jV G (l.drop i) b with | .inl b' => .inl (fin b') | .inr r=> .inr r)∧∀b',jV G (l.drop i) b= .inl b' →Inv l.length b' :=by
  intro n
  induction n with
  | zero=>intro i b _ h _;omega
  | succ n ih=>
   intro i b hi hn hI
   unfold jZ
   by_cases h:i<l.length
   ·have e:=qg h
    obtain⟨h1,h2⟩:=hin i _ b e (by omega) hI
    rw[h1,List.drop_eq_getElem_cons h]
    unfold jV
    cases hg:G b l[i]with
    | inr r=>exact⟨rfl,fun b' hb=>by cases hb⟩
    | inl b' =>exact ih (i+1) _ (by omega) (by omega) (h2 b' hg)
   ·have:i=l.length:=by omega
    subst this
    rw[hend b hI,List.drop_length]
    exact⟨rfl,fun b' hb=>by cases hb;exact hI⟩
 have:=key bJ 0 b (by omega) (by unfold bJ;omega) h0
 exact this
theorem tZ {γ:Type} (l:List α) (G:β→α→β⊕ρ) (mk:β→Int→σ) (fin:β→ε) (Inv:Nat→β→Prop) (b:β) {f:σ→Option (Out σ ε ρ)} {K:ε⊕ρ→Option γ} {r:Option γ} (hl:l.length≤1000000) (h0:Inv 0 b)
  (hin:∀(i:Nat) (a:α) (b:β),l[i]? =some a→i≤1000000→Inv i b→f (mk b (i:Int))=some (match G b a with | .inl b' => .nx (mk b' ((i+1:Nat):Int)) | .inr r=> .rt r)∧∀b',G b a= .inl b' →Inv (i+1) b')
  (hend:∀b,Inv l.length b→f (mk b (l.length:Int))=some (.ex (fin b)))
  (hk:(∀b',jV G l b= .inl b' →Inv l.length b')→K (match jV G l b with | .inl b' => .inl (fin b') | .inr r=> .inr r)=r):l9 (N7 f (mk b 0)) K=r:=by
 obtain⟨h1,h2⟩:=GZ l G mk fin Inv hl h0 hin hend
 rw[h1];exact hk h2
end
def b2e (c:UInt8):Bool:=decide (32≤c.toNat)&&decide (c.toNat≤126)&&decide (c.toNat≠34)
def a8B (s:List UInt8):Bool:=decide (s.length≤64)&&s.all b2e
def La (e:List (Int×Int)) (sg:G8) (t:Int×Int):Int:=l7 (ieq (yP e sg).2.2 0) (l7 (U7 (ieq (yP e sg).1.1 t.1) (ieq (yP e sg).1.2 t.2)) 0 8) (yP e sg).2.2
def YH (r:bW):Prop:=r.1.length≤1000000∧r.2.2.2.2.2.2.2.length≤1000000∧(∀n∈r.2.2.2.2.2.1,I64 n.2)∧(∀n∈r.2.2.2.2.2.2.1,I64 n.2)
def a3I (rs:List bW) (d:Int):Nat:=rs.countP fun o=>ieq o.2.1 d
def NJ (r:bW) (sg:G8) (t:Int×Int):Int:=
 l7 (ilt 0 (o7 r.2.2.2.2.2.1)) (l7 (ieq (La r.2.2.2.2.2.1 sg (1,0)) 0) (La r.2.2.2.2.2.2.1 sg t) (La r.2.2.2.2.2.1 sg (1,0))) (La r.2.2.2.2.2.2.1 sg t)
def Yq (s:E8) (sg:G8) (k:Nat) (r:bW):Int:=
 l7 (a3Q r.1) (l7 ((s.2.2.2.2.take k).any fun x=>seq x.1 r.1) 7 (match lat s.2.2.2.1 r.2.1 with
  | none=>6
  | some d=>l7 (l7 (ieq r.2.2.1 (-1)) false (l7 (ilt r.2.2.1 0) true (l7 (ile k r.2.2.1) true (match lat s.2.2.2.2 r.2.2.1 with | some q=>C9 (ieq q.2.1 r.2.1) | none=>true)))) 9
   (l7 (ilt r.2.2.2.1 0) 3 (l7 (ilt 9 r.2.2.2.1) 3 (l7 (YP r.2.2.2.2.1) (l7 (ieq r.2.2.2.2.1.1 r.2.2.2.2.1.2) 3
    (l7 (ile 8 (a3I (s.2.2.2.2.take k) r.2.1)) 4 (l7 (a8B r.2.2.2.2.2.2.2) (NJ r sg d.2) 2))) 3))))) 2
structure SmS (s:E8):Prop where
 nm:s.1.length≤1000000
 ni:s.2.2.1.length≤14
 nd:s.2.2.2.1.length≤14
 nr:s.2.2.2.2.length≤60
 fo:MS s
 ro:∀r∈s.2.2.2.2,YH r∧r.2.2.2.2.2.1.length≤50∧r.2.2.2.2.2.2.1.length≤50
def tV (n:Int) (b:List Int×Bool) (a:Int):List Int×Bool:=l7 b.2 (b.1++[a],true) (l7 (ile n a) (l7 (ilt n a) (b.1++[n]++[a],true) (b.1++[a],true)) (b.1++[a],false))
theorem GR (n:Int):∀(l p:List Int),l.foldl (tV n) (p,true)=(p++l,true)
 | [],p=>by simp
 | a::l,p=>by rw[List.foldl_cons,show tV n (p,true) a=(p++[a],true)from rfl,GR n l];simp
theorem NL (n:Int):∀(l p:List Int),(l7 (l.foldl (tV n) (p,false)).2 (l.foldl (tV n) (p,false)).1 ((l.foldl (tV n) (p,false)).1++[n]))=p++ins n l
 | [],p=>rfl
 | a::l,p=>by
  rw[List.foldl_cons]
  unfold ins
  by_cases h1:n≤a
  ·rw[if_pos h1]
   by_cases h2:n<a
   ·rw[if_pos h2,show tV n (p,false) a=(p++[n]++[a],true) by simp[tV,Jd h1,xM h2],GR];simp
   ·rw[if_neg h2,show tV n (p,false) a=(p++[a],true) by simp[tV,Jd h1,zJ (show a≤n by omega)],GR];simp
  ·rw[if_neg h1,show tV n (p,false) a=(p++[a],false) by simp[tV,Ez (show a<n by omega)],NL n l];simp
def isM (op:Int):Bool:=l7 (ile 36 op) (ile op 39) false
def Zy (p:Int→Bool) (e:List (Int×Int)):List Int:=(e.filter fun n=>p n.1).map (·.2)
def JQ (e:List (Int×Int)):List Int×List Int×List Int:=(pG (Zy (fun o=>ieq o 7) e),pG (Zy (fun o=>ieq o 8) e),pG (Zy isM e))
def inD (n d:Int):Bool:=l7 (ile 0 d) (ilt d n) false
def a5e (n:Int) (r:bW):List Int:=(JQ r.2.2.2.2.2.1).2.1.filter (inD n)++(JQ r.2.2.2.2.2.2.1).2.1.filter (inD n)
def nD (s:E8):Int:=o7 s.2.2.2.1
def dl (n:Int) (rs:List bW) (d:Int):List Int:=rs.flatMap fun r=>l7 (ieq r.2.1 d) (a5e n r) []
def V7 (s:E8) (d:Int):List Int:=l7 (inD (nD s) d) (pG (dl (nD s) s.2.2.2.2 d)) []
theorem Lu (s:E8) (d:Int):SI (V7 s d):=by
 unfold V7;cases inD (nD s) d
 ·exact List.Pairwise.nil
 ·exact KT _
end Go.GP
namespace Go.GP
open Gt
set_option maxRecDepth 100000
section
variable {D:Int→List Int} {n:Nat} (hsi:∀x,SI (D x)) (hin:∀x,∀y∈D x,0≤y∧y<(n:Int))
include hsi hin
end
end Go.GP
namespace Go.GP
open Gt
set_option maxRecDepth 100000
def mk (S:List Bool) (x:Int):Bool:=if 0≤x then S.getD x.toNat false else false
def unm (S:List Bool):Nat:=S.count false
structure RInv (n:Nat) (S:List Bool) (Q:List Int) (l:List Int) (S' :List Bool) (Q' :List Int):Prop where
 len:S'.length=n
 seen:∀x:Int,0≤x→x<(n:Int)→(mk S' x=true↔mk S x=true∨x∈l)
 sum:Q'.length+unm S' =Q.length+unm S
 le:unm S' ≤unm S
 old:∀x∈Q,x∈Q'
 new:∀x∈Q',x∈Q∨x∈l
 got:∀x,mk S' x=true→mk S x=true∨x∈Q'
structure SmL (l:iq):Prop where
 few:Few l
 en:QQ l
 tb:Na l
 sc:∀s∈l.2.2,SmS s
structure SmC (c:Bv):Prop where
 ni:c.2.1.length≤1000
 nm:c.2.2.length≤1000
 nv:∀v∈c.2.2,v.length≤1000
def a9N (r:Int×Int) (t:Int):Bool:=l7 (YP r) (l7 (ile r.1 t) (ilt t r.2) false) false
section
variable (on:Nat→Bool) (par:Nat→Int)
def Nr (i:Nat):Nat:=((List.range i).filter on).length
def a3W (i:Nat):Int:=if on i=true then(Nr on i:Int)else if h:0≤par i∧par i<(i:Int)then a3W (par i).toNat else -1
termination_by i
decreasing_by omega
def anc (i:Nat):Int:=if 0≤par i∧par i<(i:Int)then a3W on par (par i).toNat else -1
def onL (n:Nat):List Nat:=(List.range n).filter on
theorem ZC {n i:Nat} (h:i∈onL on n):i<n∧on i=true:=by
 unfold onL at h
 obtain⟨h1,h2⟩:=List.mem_filter.1 h
 exact⟨List.mem_range.1 h1,h2⟩
end
def castL (l:List Nat):List Int:=l.map fun(i:Nat)=>(i:Int)
def b1T (s:E8) (i:Nat):Int:=match s.2.2.2.2[i]? with | some r=>r.2.2.1 | none=>-1
theorem ZE (on:Nat→Bool) (n:Nat):(onL on n).Pairwise (·< ·):=List.Pairwise.filter _ List.pairwise_lt_range
end Go.GP
namespace Go.GP
open Gt
set_option maxRecDepth 100000
def a8D (par prio:List Int) (i:Nat):Option Int:=match par[i]?,prio[i]? with
 | some p,some q=>l7 (ilt p (-1)) (some 9) (l7 (ile (i:Int) p) (some 9) (l7 (ilt q 0) (some 3) (l7 (ilt 9 q) (some 3) none)))
 | _,_=>none
def QM (par prio:List Int):Int:=l7 (C9 (ieq (o7 par) (o7 prio))) 2 (l7 (ilt 8 (o7 par)) 4 (match Jb par.length (a8D par prio)with | some r=>r | none=>0))
section
variable (par prio:List Int) (ap:List Bool)
variable (hv:QM par prio=0)
include hv
end
end Go.GP
namespace Go.GP
open Gt
set_option maxRecDepth 100000
section
variable (par prio:List Int) (ap:List Bool) (hv:QM par prio=0) (hap:ap.length=par.length)
include hv in
include hv in
include hv in
include hv in
include hv in
include hv hap in
end
section
variable (par prio:List Int) (ap:List Bool) (hv:QM par prio=0) (hap:ap.length=par.length)
include hv hap in
end
end Go.GP
namespace Go.GP
open Gt
set_option maxRecDepth 100000
def rO (O:List Int) (x:Int):Bool:=O.any fun y=>ieq y x
theorem pY {O:List Int} {x:Int} :rO O x=true↔x∈O:=by
 unfold rO
 rw[List.any_eq_true]
 constructor
 ·rintro⟨y,hy,h⟩;rw[Y6]at h;exact h▸hy
 ·exact fun h=>⟨x,h,Ey rfl⟩
def OC (s:E8) (d:Int) (O:List Int):Bool:=(V7 s d).all fun x=>rO O x
def okN (s:E8) (O:List Int) (d:Nat):Bool:=l7 (rO O (d:Int)) false (OC s (d:Int) O)
def a3X (s:E8) (O:List Int) (d:Nat):Option Nat:=l7 (okN s O d) (some d) none
def a3Y (s:E8) (O:List Int):Option Nat:=Jb s.2.2.2.1.length (a3X s O)
def a3Z (s:E8):Nat→List Int→List Int⊕(List Int×Int)
 | 0,O=> .inl O
 | k+1,O=>if O.length<s.2.2.2.1.length then(match a3Y s O with | none=> .inr ([],9) | some d=>a3Z s k (O++[(d:Int)]))else .inl O
def Dy (s:E8):List Int×Int:=match a3Z s 100 []with | .inl O=>(O,0) | .inr x=>x
def uu (s:E8) (e:Int) (i:Nat):List Nat:=onL (fun d=>decide (e∈V7 s (d:Int))) i
def BV (s:E8) (O:List Int) (d:Int):List Int:=(V7 s d).filter fun x=> !rO O x
def hw (W:List Int) (d:Int):Int:=W.getD d.toNat 0
theorem Et {l:List Int} (h:SI l) {O:List Int} {m:Int} (hm:m∉O):((l.filter fun x=> !rO (O++[m]) x).length:Int)=((l.filter fun x=> !rO O x).length:Int) -(if m∈l then 1 else 0):=by
 have hh:∀x,rO (O++[m]) x=(rO O x || ieq m x):=fun x=>by unfold rO;rw[List.any_append];simp
 induction l with
 | nil=>simp
 | cons a l ih=>
  have h' :=List.pairwise_cons.1 h
  have ih' :=ih h'.2
  rw[List.filter_cons,List.filter_cons,hh]
  by_cases hma:m=a
  ·subst hma
   have hno:m∉l:=fun hx=>by have:=h'.1 m hx;omega
   rw[if_neg hno]at ih'
   have h1:rO O m=false:=by
    cases hq:rO O m
    ·rfl
    ·exact absurd (pY.1 hq) hm
   have hA:(!(rO O m || ieq m m))=false:=by rw[Ey rfl];simp
   have hB:(!rO O m)=true:=by rw[h1];rfl
   rw[hA,hB,if_pos (show m∈m::l by simp)]
   simp only[Bool.false_eq_true,if_false,if_true,List.length_cons];omega
  ·rw[BP hma,Bool.or_false]
   have:(if m∈a::l then(1:Int)else 0)=if m∈l then 1 else 0:=by simp[hma]
   rw[this]
   cases rO O a
   ·simp only[Bool.not_false,if_true,List.length_cons];omega
   ·simp only[Bool.not_true,Bool.false_eq_true,if_false];exact ih'
structure KInv (s:E8) (O W H:List Int):Prop where
 nd:O.Nodup
 rng:∀x∈O,0≤x∧x<nD s
 cl:∀u∈O,∀x∈V7 s u,x∈O
 wl:W.length=s.2.2.2.1.length
 w:∀d,0≤d→d<nD s→hw W d=((BV s O d).length:Int)
 hp:QR H H.length
 hnd:H.Nodup
 hm:∀d,d∈H↔0≤d∧d<nD s∧d∉O∧hw W d=0
theorem ZB {s:E8} {O:List Int} {d:Nat} :okN s O d=true↔(d:Int)∉O∧BV s O (d:Int)=[]:=by
 unfold okN OC BV
 cases hq:rO O (d:Int)
 ·have h1:(d:Int)∉O:=fun h=>by rw[pY.2 h]at hq;cases hq
  simp only[F5,List.all_eq_true,List.filter_eq_nil_iff,Bool.not_eq_true,Bool.not_eq_false']
  exact⟨fun h=>⟨h1,fun a ha=>by rw[h a ha]⟩,fun h a ha=>h.2 a ha⟩
 ·have h1:=pY.1 hq
  simp only[F7]
  exact⟨fun h=>(by cases h),fun h=>absurd h1 h.1⟩
theorem KInv.ready {s:E8} {O W H:List Int} (h:KInv s O W H) {d:Nat} (hd:d<s.2.2.2.1.length):okN s O d=true↔(d:Int)∈H:=by
 have hn:nD s=((s.2.2.2.1.length:Nat):Int):=rfl
 rw[ZB,h.hm]
 have:=h.w (d:Int) (by omega) (by omega)
 constructor
 ·rintro⟨h1,h2⟩;exact⟨by omega,by omega,h1,by rw[this,h2];rfl⟩
 ·rintro⟨_,_,h1,h2⟩
  refine⟨h1,List.length_eq_zero_iff.1 ?_⟩
  rw[this]at h2;omega
structure UInv (s:E8) (W H0:List Int) (us:List Int) (W' H' :List Int):Prop where
 wl:W'.length=s.2.2.2.1.length
 w:∀d,0≤d→d<nD s→hw W' d=hw W d -(if d∈us then 1 else 0)
 hp:QR H' H'.length
 pm:∃P:List Int,H'.Perm (H0++P)∧P.Sublist us∧∀d,d∈P↔d∈us∧hw W d=1
theorem uw {s:E8} {m:Int} {d:Int} :d∈castL (uu s m s.2.2.2.1.length)↔0≤d∧d<nD s∧m∈V7 s d:=by
 have hn:nD s=((s.2.2.2.1.length:Nat):Int):=rfl
 unfold castL
 rw[List.mem_map]
 constructor
 ·rintro⟨k,hk,rfl⟩
  obtain⟨h1,h2⟩:=ZC _ hk
  exact⟨by omega,by omega,by simpa using h2⟩
 ·rintro⟨h1,h2,h3⟩
  refine⟨d.toNat,?_,by omega⟩
  unfold uu onL
  rw[List.mem_filter,List.mem_range]
  exact⟨by omega,by rw[Int.toNat_of_nonneg h1];simpa using h3⟩
theorem Np {l:List Nat} (h:l.Pairwise (·< ·)):SI (castL l):=List.Pairwise.map _ (fun a b h=>by omega) h
theorem KInv.step {s:E8} {O W H:List Int} (h:KInv s O W H) (h0:0<H.length) {m:Nat} (hm:hg H 0=(m:Int)) {R:List Int} (hR:QR R R.length) (hRp:(R++[(m:Int)]).Perm H) {W' H' :List Int} (hU:UInv s W R (castL (uu s (m:Int) s.2.2.2.1.length)) W' H'):KInv s (O++[(m:Int)]) W' H' :=by
 have hn:nD s=((s.2.2.2.1.length:Nat):Int):=rfl
 have hmem:(m:Int)∈H:=by rw[←hm];have:=RU h0;exact Be this
 have hmm:=(h.hm _).1 hmem
 have hleft:BV s O (m:Int)=[]:=by
  have:=h.w (m:Int) hmm.1 hmm.2.1
  rw[hmm.2.2.2]at this
  exact List.length_eq_zero_iff.1 (by omega)
 have hdeps:∀x∈V7 s (m:Int),x∈O:=fun x hx=>by
  have hnil:=List.filter_eq_nil_iff.1 hleft x hx
  simp only[Bool.not_eq_true,Bool.not_eq_false']at hnil
  exact pY.1 hnil
 have hndR:(R++[(m:Int)]).Nodup:=hRp.nodup_iff.2 h.hnd
 have hmR:(m:Int)∉R:=fun hx=>by
  have:=(List.nodup_append.1 hndR).2.2 _ hx _ (List.mem_singleton.2 rfl)
  exact this rfl
 have hRm:∀d,d∈R↔d∈H∧d≠(m:Int):=fun d=>by
  rw[←hRp.mem_iff,List.mem_append,List.mem_singleton]
  constructor
  ·intro hx;exact⟨.inl hx,fun hq=>hmR (hq▸hx)⟩
  ·rintro⟨hx | hx,hq⟩
   ·exact hx
   ·exact absurd hx hq
 obtain⟨P,p1,p2,p3⟩:=hU.pm
 have huO:∀u,(m:Int)∈V7 s u→u∉O:=fun u hu hx=>hmm.2.2.1 (h.cl u hx _ hu)
 refine⟨?_,?_,?_,hU.wl,fun d d0 d1=>?_,hU.hp,?_,fun d=>?_⟩
 ·exact List.nodup_append.2 ⟨h.nd,by simp,fun a ha b hb=>by simp at hb;subst hb;intro hq;subst hq;exact hmm.2.2.1 ha⟩
 ·intro x hx
  rcases List.mem_append.1 hx with hx | hx
  ·exact h.rng x hx
  ·simp at hx;subst hx;exact⟨hmm.1,hmm.2.1⟩
 ·intro u hu x hx
  rcases List.mem_append.1 hu with hu | hu
  ·exact List.mem_append_left _ (h.cl u hu x hx)
  ·simp at hu;subst hu;exact List.mem_append_left _ (hdeps x hx)
 ·rw[hU.w d d0 d1,h.w d d0 d1]
  unfold BV
  rw[Et (Lu s d) hmm.2.2.1]
  congr 1
  have:(d∈castL (uu s (m:Int) s.2.2.2.1.length))↔((m:Int)∈V7 s d):=by rw[uw];exact⟨fun h=>h.2.2,fun h=>⟨d0,d1,h⟩⟩
  by_cases hq:(m:Int)∈V7 s d
  ·rw[if_pos (this.2 hq),if_pos hq]
  ·rw[if_neg (fun hx=>hq (this.1 hx)),if_neg hq]
 ·rw[p1.nodup_iff]
  refine List.nodup_append.2 ⟨(List.nodup_append.1 hndR).1,?_,fun a ha b hb hq=>?_⟩
  ·have:(castL (uu s (m:Int) s.2.2.2.1.length)).Nodup:=(Np (ZE _ _)).imp fun {a b} h=>by omega
   exact p2.nodup this
  ·subst hq
   have h1:=(h.hm a).1 ((hRm a).1 ha).1
   have h2:=(p3 a).1 hb
   omega
 ·rw[p1.mem_iff,List.mem_append,hRm,p3,uw,h.hm]
  have hw' :=fun d0 d1=>hU.w d d0 d1
  have hmemU:d∈castL (uu s (m:Int) s.2.2.2.1.length)↔0≤d∧d<nD s∧(m:Int)∈V7 s d:=uw
  constructor
  ·rintro(⟨⟨d0,d1,dO,dw⟩,dm⟩ | ⟨⟨d0,d1,dd⟩,dw⟩)
   ·refine⟨d0,d1,fun hx=>?_,?_⟩
    ·rcases List.mem_append.1 hx with hx | hx
     ·exact dO hx
     ·simp at hx;exact dm hx
    ·have hnot:(m:Int)∉V7 s d:=fun hx=>by
      have h1:=h.w d d0 d1
      rw[dw]at h1
      have h2:BV s O d=[]:=List.length_eq_zero_iff.1 (by omega)
      have h3:=List.filter_eq_nil_iff.1 h2 _ hx
      simp only[Bool.not_eq_true,Bool.not_eq_false']at h3
      exact hmm.2.2.1 (pY.1 h3)
     rw[hw' d0 d1,dw,if_neg (fun hx=>hnot (hmemU.1 hx).2.2)];rfl
   ·refine⟨d0,d1,fun hx=>?_,?_⟩
    ·rcases List.mem_append.1 hx with hx | hx
     ·exact huO d dd hx
     ·simp at hx
      rw[hx]at dd
      exact hmm.2.2.1 (hdeps _ dd)
    ·rw[hw' d0 d1,if_pos (hmemU.2 ⟨d0,d1,dd⟩)];omega
  ·rintro⟨d0,d1,dO,dw⟩
   rw[hw' d0 d1]at dw
   have dO1:d∉O:=fun hx=>dO (List.mem_append_left _ hx)
   have dm:d≠(m:Int):=fun hx=>dO (by rw[hx];simp)
   by_cases hq:(m:Int)∈V7 s d
   ·rw[if_pos (hmemU.2 ⟨d0,d1,hq⟩)]at dw
    exact .inr ⟨⟨d0,d1,hq⟩,by omega⟩
   ·rw[if_neg (fun hx=>hq (hmemU.1 hx).2.2)]at dw
    exact .inl ⟨⟨d0,d1,dO1,by omega⟩,dm⟩
def a1A (s:E8) (i:Nat):List (List Int):=(List.range s.2.2.2.1.length).map fun(e:Nat)=>castL (uu s (e:Int) i)
structure IInv (s:E8) (i:Nat) (U:List (List Int)) (W H:List Int):Prop where
 u:U=a1A s i
 w:W=pd ((List.range i).map fun(d:Nat)=>((V7 s (d:Int)).length:Int)) (s.2.2.2.1.length -i)
 hp:QR H H.length
 hnd:H.Nodup
 hm:∀d,d∈H↔0≤d∧d<(i:Int)∧V7 s d=[]
 hl:H.length≤i
end Go.GP
namespace Gt
open Go Go.GP
def il (y:Int):Bool:=if y % 4=0 then(if y % 100≠0 then true else decide (y % 400=0))else false
def ys (y:Int):Int:=(y -1900)*365+((y -1) / 4 -(y -1) / 100+(y -1) / 400) -460
def dim (y m:Int):Int:=
 if m=2 then(if il y then 29 else 28)else if m=4∨m=6∨m=9∨m=11 then 30 else 31
def rem (y:Int):Nat→Int
 | 0=>0
 | n+1=>dim y (12 -n)+rem y n
end Gt
namespace Go.GP
open Gt
set_option maxRecDepth 100000
def YE (n:Int) (k:Nat):Prop:=n<2^k∧(0<n→0<k∧2^(k -1)≤n)
theorem YE.shift {n:Int} {j k:Nat} (h:YE (n / 2^j) k) (hn:2^j≤n):YE n (j+k):=by
 have hp:(0:Int)<2^j:=Int.pow_pos (by omega)
 have h1:0<n / 2^j:=by have:=Int.le_ediv_of_mul_le hp (show 1*2^j≤n by omega);omega
 obtain⟨a,b⟩:=h
 obtain⟨b1,b2⟩:=b h1
 have hdm:=Int.mul_ediv_add_emod n (2^j)
 have hm:=Int.emod_lt_of_pos n hp
 have hm0:=Int.emod_nonneg n (show(2:Int)^j≠0 by omega)
 refine⟨?_,fun _=>⟨by omega,?_⟩⟩
 ·have:(2:Int)^j*(n / 2^j+1)≤2^j*2^k:=Int.mul_le_mul_of_nonneg_left (by omega) (by omega)
  rw[Int.mul_add,Int.mul_one]at this
  rw[Int.pow_add];omega
 ·have:(2:Int)^j*2^(k -1)≤2^j*(n / 2^j):=Int.mul_le_mul_of_nonneg_left b2 (by omega)
  rw[show j+k -1=j+(k -1) by omega,Int.pow_add];omega
def q1 (q:Int) (u:Bool):Int:=l7 u (q+1) q
def sg (q:Int) (neg:Bool):Int:=l7 neg (-q) q
def TE (r:yT):Prop:=I64 r.2.1∧I64 r.2.2.1∧I64 r.2.2.2
def YG (t:ja):Prop:=t.2.2.2.length≤200∧∀r∈t.2.2.2,TE r
abbrev V3:Type:=Int×Int×Int
structure EvOk (env:kJ):Prop where
 ms:env.2.2.2.1.length≤1000000
 tb:∀t∈env.2.2.2.2.2,YG t
structure OStep (S:List Int) (f:List Int×Int×Int→Option ((List Int×Int×Int)⊕List Int)):Prop where
 step:∀(l:List Int) (c:Nat) (j:Nat) (x:Nat),j<l.length→l.length≤3→S[c]? =some ((x:Nat):Int)→x≤100→f (l,(c:Int),(j:Int))=some (.inl (l.set j (c:Int),(x:Int) -1,(j:Int) -1))
 stop:∀(l:List Int) (c:Int),f (l,c,-1)=some (.inr l)
end Go.GP
namespace Go.GP
open Gt
set_option maxRecDepth 100000
abbrev VSt:Type:=V3×List V3×Int
structure VStep (ops:List Int) (ev:Int→Option (V3×Int)) (pad:List V3→List V3) (f:VSt→Option (Out VSt (V3×List V3) (V3×Int))):Prop where
 step:∀(l:List V3) (c:Int) (r:V3×Int),ops[l.length]? =some c→ev c=some r→f ((0,0,0),pad l,(l.length:Int))=some (l7 (ieq r.2 0) (.nx ((0,0,0),pad (l++[r.1]),((l.length+1:Nat):Int))) (.rt ((0,0,0),r.2)))
 stop:∀(l:List V3),l.length=ops.length→f ((0,0,0),pad l,(l.length:Int))=some (.ex ((0,0,0),l))
section
variable {ev:Int→Option (V3×Int)} {pad:List V3→List V3} {f:VSt→Option (Out VSt (V3×List V3) (V3×Int))}
theorem v0 (h:VStep [] ev pad f):N7 f ((0,0,0),pad [],0)=some (.inl ((0,0,0),[])):=by
 obtain⟨k,hk⟩:∃k,bJ=k+1:=⟨bJ -1,by unfold bJ;omega⟩
 unfold N7
 rw[hk,jZ,show f ((0,0,0),pad [],0)=some (.ex ((0,0,0),[]))from h.stop [] rfl]
theorem v1 {c:Int} {r:V3×Int} (h:VStep [c] ev pad f) (h1:ev c=some r):N7 f ((0,0,0),pad [],0)=some (l7 (ieq r.2 0) (.inl ((0,0,0),[r.1])) (.inr ((0,0,0),r.2))):=by
 obtain⟨k,hk⟩:∃k,bJ=k+1+1:=⟨bJ -2,by unfold bJ;omega⟩
 unfold N7
 rw[hk,jZ,show f ((0,0,0),pad [],0)=_ from h.step [] c r rfl h1]
 cases ieq r.2 0
 ·rfl
 ·simp only[F7]
  rw[jZ,show f ((0,0,0),pad ([]++[r.1]),(([].length+1:Nat):Int))=_ from h.stop [r.1] rfl]
theorem v2 {c d:Int} {r q:V3×Int} (h:VStep [c,d] ev pad f) (h1:ev c=some r) (h2:ev d=some q):N7 f ((0,0,0),pad [],0)=some (l7 (ieq r.2 0) (l7 (ieq q.2 0) (.inl ((0,0,0),[r.1,q.1])) (.inr ((0,0,0),q.2))) (.inr ((0,0,0),r.2))):=by
 obtain⟨k,hk⟩:∃k,bJ=k+1+1+1:=⟨bJ -3,by unfold bJ;omega⟩
 unfold N7
 rw[hk,jZ,show f ((0,0,0),pad [],0)=_ from h.step [] c r rfl h1]
 cases ieq r.2 0
 ·rfl
 ·simp only[F7]
  rw[jZ,show f ((0,0,0),pad ([]++[r.1]),(([].length+1:Nat):Int))=_ from h.step [r.1] d q rfl h2]
  cases ieq q.2 0
  ·rfl
  ·simp only[F7]
   rw[jZ,show f ((0,0,0),pad ([r.1]++[q.1]),(([r.1].length+1:Nat):Int))=_ from h.stop [r.1,q.1] rfl]
end
end Go.GP
namespace Go.GP
open Gt
set_option maxRecDepth 100000
abbrev DB:Type:=List V3×List Int
def a3O (env:kJ) (ds:List V3):kJ:=(env.1,env.2.1,ds,env.2.2.2)
def Jk:E8:=([],0,[],[],[])
def TK (l:iq) (s:E8):E8:=l7 (ile 0 s.2.1) ((lat l.2.2 s.2.1).getD Jk) Jk
theorem RZ {α:Type} {n:Nat} {l:List α} (h:ilt (n:Int) (o7 l)=false):l.length≤n:=by
 rw[NK]at h;unfold o7 at h;omega
def ScI (s:E8):Prop:=∀r∈s.2.2.2.2,(∀n∈r.2.2.2.2.2.1,I64 n.2)∧∀n∈r.2.2.2.2.2.2.1,I64 n.2
structure WfL (l:iq):Prop where
 rl:∀t∈l.2.1,t.2.2.2.length≤4611686018427387904
 ri:∀t∈l.2.1,∀r∈t.2.2.2,TE r
 sl:∀s∈l.2.2,s.2.2.2.2.length≤4611686018427387904
 si:∀s∈l.2.2,ScI s
abbrev BB:Type:=List Bool×List Bool
def BOk (s m:E8) (b:BB):Prop:=b.1.length=s.2.2.2.1.length∧b.2.length=m.2.2.2.1.length
structure Sim (P Q:Int→Prop) (a b:kJ):Prop where
 e1:a.1=b.1
 e2:a.2.1=b.2.1
 e3:a.2.2.2.2=b.2.2.2.2
 dl:a.2.2.1.length=b.2.2.1.length
 d:∀x,P x→lat a.2.2.1 x=lat b.2.2.1 x
 ml:a.2.2.2.1.length=b.2.2.2.1.length
 m:∀x,Q x→a.2.2.2.1.map (fun v=>lat v x)=b.2.2.2.1.map (fun v=>lat v x)
def YF (s:E8) (P Q:Int→Prop) (d:Int):Prop:=∀r∈s.2.2.2.2,r.2.1=d→∀e,e=r.2.2.2.2.2.1∨e=r.2.2.2.2.2.2.1→(∀x∈(JQ e).2.1,P x)∧∀x∈(JQ e).2.2,Q x
def a1C (s:E8) (O:List Int):Prop:=O.Nodup∧(∀d∈O,0≤d∧d<nD s)∧∀(pre:List Int) (d:Int) (suf:List Int),O=pre++d::suf→∀x∈V7 s d,x∈pre
structure SimE (Q:Int→Prop) (a b:kJ):Prop where
 e1:a.1=b.1
 e2:a.2.1=b.2.1
 e3:a.2.2.2.2=b.2.2.2.2
 ml:a.2.2.2.1.length=b.2.2.2.1.length
 m:∀x,Q x→a.2.2.2.1.map (fun v=>lat v x)=b.2.2.2.1.map (fun v=>lat v x)
theorem SimE.at {P Q:Int→Prop} {a b:kJ} (h:SimE Q a b) {D D' :List V3} (hl:D.length=D'.length) (hd:∀x,P x→lat D x=lat D' x):Sim P Q (a3O a D) (a3O b D'):=⟨h.e1,h.e2,h.e3,hl,hd,h.ml,h.m⟩
abbrev ND (w:List Bool) (x:Int):Prop:=(lat w x).getD false=true
structure DInv (n:Nat) (need:List Bool) (B B' :DB):Prop where
 l1:B.1.length=n∧B.2.length=n
 l2:B'.1.length=n∧B'.2.length=n
 eq:∀x,ND need x→lat B.1 x=lat B'.1 x∧lat B.2 x=lat B'.2 x
structure MInv (need:List Bool) (b b' :List DB):Prop where
 l:b.length=b'.length
 eq:∀x,ND need x→b.map (fun v=>lat v.1 x)=b'.map (fun v=>lat v.1 x)
def MQ (s:E8) (w:List Bool):Prop:=∀d,mk w d=true→∀x∈V7 s d,mk w x=true
structure NI (l:iq) (s:E8) (B:BB):Prop where
 ok:BOk s (TK l s) B
 c1:MQ s B.1
 c2:MQ (TK l s) B.2
 hr:∀e,mk B.1 e=true→YF s (fun x=>x∈V7 s e) (fun x=>mk B.2 x=true) e
structure Grows (B C:BB):Prop where
 g1:∀x,mk B.1 x=true→mk C.1 x=true
 g2:∀x,mk B.2 x=true→mk C.2 x=true
theorem Grows.refl (B:BB):Grows B B:=⟨fun _ h=>h,fun _ h=>h⟩
theorem Grows.trans {A B C:BB} (h:Grows A B) (k:Grows B C):Grows A C:=⟨fun x hx=>k.g1 x (h.g1 x hx),fun x hx=>k.g2 x (h.g2 x hx)⟩
end Go.GP
namespace Go.GP
open Gt
set_option maxRecDepth 100000
section
variable {en:List iU} {t:Int×Int}
end
end Go.GP
namespace Go.GP
open Gt
set_option maxRecDepth 100000
def PVW (en:List iU) (t:Int×Int) (v:V3):Prop:=v.1=t.1∧v.2.1=t.2∧(v.1=6→inB v.2.2 (bnd t en)=true)
structure TOk (sg:G8) (env:kJ):Prop where
 inp:∀i t v,lat sg.2.2.1 i=some t→lat env.2.1 i=some v→PVW sg.1 t v
 dfs:∀i t v,lat sg.2.2.2.1 i=some t→lat env.2.2.1 i=some v→v.1≠0→PVW sg.1 t v
 mty:∀i t u,lat sg.2.2.2.2.1 i=some t→lat env.2.2.2.2.1 i=some u→u=t
 tbs:env.2.2.2.2.2=sg.2.1
 row:∀t∈sg.2.1,∀r∈t.2.2.2,inB r.2.2.2 (bnd t.2.2.1 sg.1)=true
end Go.GP
namespace Go.GP
open Gt
set_option maxRecDepth 100000
section
variable {sg:G8} {env:kJ}
end
end Go.GP
namespace Go.GP
open Gt
set_option maxRecDepth 100000
abbrev a1D:Int×Int:=(0,109573)
def onA (s:E8) (T:Int) (i:Nat):Bool:=match s.2.2.2.2[i]? with | some r=>a9N r.2.2.2.2.1 T | none=>false
def a3R (s:E8) (T:Int):List Nat:=onL (onA s T) s.2.2.2.2.length
def rOn (s:E8) (T:Int) (i:Nat):bW:=match s.2.2.2.2[i]? with
 | some r=>(r.1,r.2.1,anc (onA s T) (b1T s) i,r.2.2.2.1,a1D,r.2.2.2.2.2.1,r.2.2.2.2.2.2.1,r.2.2.2.2.2.2.2)
 | none=>([],0,0,0,a1D,[],[],[])
def sOn (T:Int) (s:E8):E8:=(s.1,s.2.1,s.2.2.1,s.2.2.2.1,(a3R s T).map (rOn s T))
end Go.GP
namespace Go.GP
open Gt
set_option maxRecDepth 100000
section
variable {A R R' :Nat→Bool} {par par' :Nat→Int} {n:Nat} (hRA:∀i,i<n→R i=true→A i=true) (hR:∀i,i<n→A i=true→R' (Nr A i)=R i) (hp:∀i,i<n→A i=true→par' (Nr A i)=anc A par i)
include hRA hR
omit hR in
omit hR in
include hp
end
end Go.GP
namespace Go.GP
open Gt
set_option maxRecDepth 100000
section
variable {s:E8} {T:Int} (h0:0≤T) (h1:T≤109572)
include h0 h1
omit h0 h1 in
omit h0 h1 in
end
end Go.GP
namespace Go.GP
open Gt
set_option maxRecDepth 100000
structure OnOk (s:E8) (T:Int):Prop where
 h0:0≤T
 h1:T≤109572
 t1:a1C s (Dy s).1
 f1:∀d,0≤d→d<nD s→d∈(Dy s).1
 t2:a1C (sOn T s) (Dy (sOn T s)).1
 f2:∀d,0≤d→d<nD s→d∈(Dy (sOn T s)).1
 r1:∀d,YF s (fun x=>x∈V7 s d) (fun _=>True) d
 r2:∀d,YF (sOn T s) (fun x=>x∈V7 (sOn T s) d) (fun _=>True) d
def Nc (s:E8) (k:Nat) (r:bW):Bool:=l7 (ieq r.2.2.1 (-1)) false (l7 (ilt r.2.2.1 0) true (l7 (ile k r.2.2.1) true (match lat s.2.2.2.2 r.2.2.1 with | some q=>C9 (ieq q.2.1 r.2.1) | none=>true)))
structure RuleV (s:E8) (sg:G8) (k:Nat) (r:bW):Prop where
 id:a3Q r.1=true
 nm:((s.2.2.2.2.take k).any fun x=>seq x.1 r.1)=false
 df:∃d,lat s.2.2.2.1 r.2.1=some d∧NJ r sg d.2=0
 pa:Nc s k r=false
 p0:ilt r.2.2.2.1 0=false
 p9:ilt 9 r.2.2.2.1=false
 dv:YP r.2.2.2.2.1=true
 ne:ieq r.2.2.2.2.1.1 r.2.2.2.2.1.2=false
 ct:ile 8 (a3I (s.2.2.2.2.take k) r.2.1)=false
 sr:a8B r.2.2.2.2.2.2.2=true
theorem RuleV.zero {s:E8} {sg:G8} {k:Nat} {r:bW} (h:RuleV s sg k r):Yq s sg k r=0:=by
 obtain⟨d,h1,h2⟩:=h.df
 unfold Yq
 rw[h.id,h.nm,h1]
 simp only[F7,F5]
 change l7 (Nc s k r) (9:Int) _=0
 rw[h.pa,h.p0,h.p9,h.dv,h.ne,h.ct,h.sr,h2];rfl
def pI {α β:Type} (eq:α→α→Bool) (l:List (α×β)) (f:α→Option β):Prop:=∀k,uj eq l k=(f k).isSome∧∀z,qw eq l k z=(f k).getD z
theorem LQ {α β:Type} (eq:α→α→Bool):pI eq ([]:List (α×β)) (fun _=>none):=fun _=>⟨rfl,fun _=>rfl⟩
theorem Cb {α β:Type} {eq:α→α→Bool} (hE:∀a b,eq a b=true↔a=b) (k:α) (x:β) (k' :α):∀(l:List (α×β)),qy eq (sN eq l k x) k' =(l7 (eq k' k) true (qy eq l k'))∧∀z,qx eq (sN eq l k x) k' z=l7 (eq k' k) x (qx eq l k' z)
 | []=>by
  unfold sN
  simp only[qy,qx]
  cases eq k' k <;> exact⟨rfl,fun _=>rfl⟩
 | p::r=>by
  have ih:=Cb hE k x k' r
  unfold sN
  cases hp:eq k p.1
  ·simp only[cond_false,qy,qx]
   cases hq:eq k' p.1
   ·simp only[cond_false];exact ih
   ·simp only[cond_true]
    cases hk:eq k' k
    ·exact⟨rfl,fun _=>rfl⟩
    ·exfalso
     have h1:=(hE _ _).1 hq;have h2:=(hE _ _).1 hk
     rw[←h2,h1]at hp
     rw[(hE p.1 p.1).2 rfl]at hp;cases hp
  ·have hp' :=(hE _ _).1 hp
   subst hp'
   simp only[cond_true,qy,qx]
   cases eq k' p.1 <;> exact⟨rfl,fun _=>rfl⟩
theorem LU {α β:Type} {eq:α→α→Bool} (hE:∀a b,eq a b=true↔a=b) {l:List (α×β)} {f:α→Option β} (h:pI eq l f) (k:α) (x:β):
  pI eq (wM eq l k x) (fun k' =>l7 (eq k' k) (some x) (f k')):=fun k' =>by
 obtain⟨h1,h2⟩:=Cb hE k x k' l
 obtain⟨g1,g2⟩:=h k'
 refine⟨?_,fun z=>?_⟩
 ·show qy eq (sN eq l k x) k' =_
  rw[h1,show qy eq l k' =_ from g1]
  show _=(l7 (eq k' k) (some x) (f k')).isSome
  cases eq k' k <;> rfl
 ·show qx eq (sN eq l k x) k' z=_
  rw[h2 z,show qx eq l k' z=_ from g2 z]
  show _=(l7 (eq k' k) (some x) (f k')).getD z
  cases eq k' k <;> rfl
theorem pI.has {α β:Type} {eq:α→α→Bool} {l:List (α×β)} {f:α→Option β} (h:pI eq l f) (k:α):uj eq l k=(f k).isSome:=(h k).1
theorem pI.get {α β:Type} {eq:α→α→Bool} {l:List (α×β)} {f:α→Option β} (h:pI eq l f) (k:α) (z:β):qw eq l k z=(f k).getD z:=(h k).2 z
theorem pI.congr {α β:Type} {eq:α→α→Bool} {l:List (α×β)} {f g:α→Option β} (h:pI eq l f) (e:∀k,f k=g k):pI eq l g:=fun k=>by rw[←e k];exact h k
theorem RP:kY=some true:=by decide+kernel
def eK (x:o6):Int:=x.1
def eD (x:o6):Int:=x.2.1
def eM (x:o6):Int:=x.2.2.1
def eR (x:o6):Int:=x.2.2.2.2.1
def Dz (x:o6):Bool:=ieq (eK x) 1&&ieq (eM x) (-1)
def Dq (x:o6):Bool:=ieq (eK x) 1&&ile 0 (eM x)
def yG (a:List o6):List Int:=(a.filter Dz).map eR
def yE (a:List o6):List Int:=(a.filter Dq).map eR
def usG (b:List Int×List Int) (x:o6):List Int×List Int:=(bif Dz x then b.1++[eR x]else b.1,bif Dq x then b.2++[eR x]else b.2)
theorem FW:∀(a:List o6) (b:List Int×List Int),a.foldl usG b=(b.1++yG a,b.2++yE a)
 | [],b=>by simp[yG,yE]
 | x::a,b=>by
  rw[List.foldl_cons,FW a]
  unfold usG yG yE
  cases h1:Dz x <;> cases h2:Dq x <;> simp[h1,h2]
def snG (b:List Int×List Int) (x:o6):List Int×List Int:=(bif Dz x then ins (eR x) b.1 else b.1,bif Dq x then ins (eR x) b.2 else b.2)
theorem Fp:∀(a:List o6) (b:List Int×List Int),a.foldl snG b=(zM (yG a) b.1,zM (yE a) b.2)
 | [],b=>rfl
 | x::a,b=>by
  rw[List.foldl_cons,Fp a]
  unfold snG yG yE
  cases h1:Dz x <;> cases h2:Dq x <;> simp[h1,h2,zM]
theorem FN {l:List Int} (h:l.length≤1000000):∃x,bV l=some x∧Y9 x=some (pG l):=by
 have e:=Tq h
 cases hs:bV l with
 | none=>rw[hs]at e;cases e
 | some x=>rw[hs]at e;exact⟨x,rfl,e⟩
theorem EW (a:List o6):(yG a).length≤a.length∧(yE a).length≤a.length:=by
 unfold yG yE
 rw[List.length_map,List.length_map]
 exact⟨List.length_filter_le _ _,List.length_filter_le _ _⟩
theorem Tv (b:List Int×List Int) (x:o6) {i:Nat} (h:b.1.length≤i∧b.2.length≤i):(usG b x).1.length≤i+1∧(usG b x).2.length≤i+1:=by
 unfold usG
 obtain⟨h1,h2⟩:=h
 constructor
 ·cases Dz x
  ·show b.1.length≤_;omega
  ·show(b.1++[eR x]).length≤_;rw[List.length_append];show _+1≤_;omega
 ·cases Dq x
  ·show b.2.length≤_;omega
  ·show(b.2++[eR x]).length≤_;rw[List.length_append];show _+1≤_;omega
theorem Tf (b:List Int×List Int) (x:o6) {i:Nat} (h:b.1.length≤i∧b.2.length≤i):(snG b x).1.length≤i+1∧(snG b x).2.length≤i+1:=by
 unfold snG
 obtain⟨h1,h2⟩:=h
 constructor
 ·cases Dz x
  ·show b.1.length≤_;omega
  ·show(ins (eR x) b.1).length≤_;have:=nV (eR x) b.1;omega
 ·cases Dq x
  ·show b.2.length≤_;omega
  ·show(ins (eR x) b.2).length≤_;have:=nV (eR x) b.2;omega
theorem DN {a:List o6} (h:a.length≤1000):bM a=some (pG (yG a),pG (yE a)):=by
 unfold bM
 refine tY a usG (fun(b:List Int×List Int) i=>(b.1,b.2,i)) (fun b=>b) (fun i b=>b.1.length≤i∧b.2.length≤i) ([],[]) (by omega) ⟨Nat.le_refl _,Nat.le_refl _⟩ (fun i x b hx hi hb=>⟨?_,Tv b x hb⟩) (fun b hb=>?_) (fun hb=>?_)
 ·simp only[rG hx,F7,jw,hx,Z5]
  unfold usG Dz Dq
  show l7 (C9 (ieq (eK x) 1)) _ (l7 (ieq (eM x) (-1)) _ (l7 (ile 0 (eM x)) _ _))=_
  cases h1:ieq (eK x) 1
  ·rw[tC,F7,rZ (by omega)];rfl
  ·rw[lU,F5]
   cases h2:ieq (eM x) (-1)
   ·rw[F5]
    cases h3:ile 0 (eM x)
    ·rw[F5,rZ (by omega)];rfl
    ·rw[F7,BU _ (by omega),Z5,rZ (by omega)];rfl
   ·have h3:ile 0 (eM x)=false:=Ez (by have:=Y6.1 h2;omega)
    rw[F7,h3,BU _ (by omega),Z5,rZ (by omega)];rfl
 ·simp only[rE,F5]
 ·rw[FW]
  obtain⟨g1,g2⟩:=EW a
  obtain⟨x,x1,x2⟩:=FN (l:=yG a) (by omega)
  obtain⟨y,y1,y2⟩:=FN (l:=yE a) (by omega)
  simp only[List.nil_append]
  rw[x1,Z5,y1,Z5,x2,Z5,y2,Z5]
theorem vG {l:List Int} (n:Int) (hl:l.length≤1000000):bz l n=some (ins n l):=by
 unfold bz
 refine tY l (tV n) (fun b i=>(b.1,b.2,i)) (fun b=>b) (fun i b=>b.1.length≤i+1∧(b.2=false→b.1.length≤i)) (([],false):List Int×Bool) hl (by simp) (fun i a b ha hi hI=>?_) (fun b hI=>?_) (fun h2=>?_)
 ·obtain⟨o,d⟩:=b
  simp only at hI
  simp only[rG ha,F7,jw,ha,Z5]
  rw[rZ (by omega)]
  cases d
  ·simp only[tC,F7,tV,F5]
   have:=hI.2 rfl
   cases ile n a
   ·rw[F5,BU a (show o.length≤1000000 by omega)]
    exact⟨rfl,by simp <;> omega,by simp <;> omega⟩
   ·rw[F7]
    cases ilt n a
    ·rw[F5,BU a (show o.length≤1000000 by omega)]
     exact⟨rfl,by simp <;> omega,by simp⟩
    ·rw[F7,BU n (show o.length≤1000000 by omega),Z5,Dj (by simp;omega)]
     exact⟨rfl,by simp <;> omega,by simp⟩
  ·simp only[lU,F5,tV,F7]
   rw[Dj (by simp;omega)]
   exact⟨rfl,by simp <;> omega,by simp⟩
 ·simp only[rE];rfl
 ·have hf:=NL n l []
  generalize l.foldl (tV n) ([],false)=b at*
  obtain⟨o,d⟩:=b
  cases d
  ·simp only[F5,List.nil_append]at hf
   simp only[tC,F7]
   rw[BU _ (by simp at h2;omega),hf];rfl
  ·simp only[F7,List.nil_append]at hf
   simp only[lU,F5,hf]
theorem Bh {a:List o6} (h:a.length≤1000):fD a=some (pG (yG a),pG (yE a)):=by
 unfold fD
 refine tY a snG (fun(b:List Int×List Int) i=>(b.1,b.2,i)) (fun b=>b) (fun i b=>b.1.length≤i∧b.2.length≤i) ([],[]) (by omega) ⟨Nat.le_refl _,Nat.le_refl _⟩ (fun i x b hx hi hb=>⟨?_,Tf b x hb⟩) (fun b hb=>?_) (fun hb=>?_)
 ·simp only[rG hx,F7,jw,hx,Z5]
  unfold snG Dz Dq
  show l9 (l7 (ieq (eK x) 1) (l7 (ieq (eM x) (-1)) (l9 (bz b.1 (eR x)) _) _) _) (fun(x_2:List Int)=>l7 (ieq (eK x) 1) (l7 (ile 0 (eM x)) (l9 (bz b.2 (eR x)) _) _) _)=_
  rw[vG (eR x) (show b.1.length≤1000000 by omega),vG (eR x) (show b.2.length≤1000000 by omega)]
  simp only[Z5]
  rw[rZ (show i≤9000000000000000000 by omega)]
  cases ieq (eK x) 1 <;> cases ieq (eM x) (-1) <;> cases ile 0 (eM x) <;> rfl
 ·simp only[rE,F5]
 ·rw[Fp];rfl
theorem qM {a:List Int} (h:a.length≤1000000):mW a a=some true:=by
 unfold mW
 rw[Ey rfl,lU,F5]
 refine tZ a (fun(b:Unit) _=>(.inl b:Unit⊕Bool)) (fun _ i=>i) (fun _=>PUnit.unit) (fun _ _=>True) () h trivial (fun i x _ hx hi _=>⟨?_,fun _ _=>trivial⟩) (fun _ _=>?_) (fun _=>?_)
 ·simp only[rG hx,F7,jw,hx,Z5,Ey rfl,lU,F5]
  rw[rZ (by omega)]
 ·simp only[rE,F5]
 ·have:∀l:List Int,jV (fun(b:Unit) (_:Int)=>(.inl b:Unit⊕Bool)) l ()= .inl ():=fun l=>by
   induction l with
   | nil=>rfl
   | cons y l ih=>exact ih
  rw[this];rfl
def kq (a b:x8):Bool:=U7 (ieq a.1 b.1) (ieq a.2 b.2)
theorem GV (a b:x8):kq a b=true↔a=b:=by
 unfold kq U7
 rw[Bool.and_eq_true,Y6,Y6]
 exact⟨fun h=>Prod.ext h.1 h.2,fun h=>by subst h;exact⟨rfl,rfl⟩⟩
def yI (a b:E5):Bool:=U7 (ieq a.1 b.1) (U7 (ieq a.2.1 b.2.1) (ieq a.2.2 b.2.2))
theorem FX (a b:E5):yI a b=true↔a=b:=by
 unfold yI U7
 rw[Bool.and_eq_true,Bool.and_eq_true,Y6,Y6,Y6]
 exact⟨fun h=>Prod.ext h.1 (Prod.ext h.2.1 h.2.2),fun h=>by subst h;exact⟨rfl,rfl,rfl⟩⟩
abbrev rM (x:o6):x8:=(x.2.2.1,x.2.2.2.1)
abbrev lI (x:o6):E5:=x.2.2.2.2.2
def uF (x:o6):Bool:=!(ilt x.1 1)&&!(ilt 5 x.1)&&!(ilt x.2.2.2.1 0)&&!(ilt x.2.2.1 (-1))
def Aw (x:o6):Bool:=bif ieq x.1 1 then !(ilt x.2.2.2.2.1 0)else ieq x.2.2.2.2.1 (-1)
def zD (q x:o6):Bool:=!(ilt x.2.1 1)&&!(ilt (o8 .i64 q.2.1 1) x.2.1)&&(ile x.2.1 q.2.1 || ieq q.1 1)
abbrev EM:=List (x8×E5)
def Dn (m:EM) (x:o6):Bool:=bif ieq x.1 1 then !(uj kq m (rM x))else(bif ieq x.1 5 then uj kq m (rM x)&&yI (qw kq m (rM x) (0,0,0)) (lI x)else true)
def LD (p:Option o6) (x:o6):Bool:=match p with | none=>true | some q=>zD q x
def okP (p:Option o6) (m:EM) (x:o6):Bool:=LD p x&&uF x&&Aw x&&Dn m x
def Dp (m:EM) (x:o6):EM:=bif ieq x.1 1 then wM kq m (rM x) (lI x)else m
def wpG (b:EM×Option o6) (x:o6):(EM×Option o6)⊕Bool:=bif okP b.2 b.1 x then .inl (Dp b.1 x,some x)else .inr false
def wfP:Option o6→EM→List o6→Bool
 | _,_,[]=>true
 | p,m,x::l=>okP p m x&&wfP (some x) (Dp m x) l
theorem FZ:∀(l:List o6) (b:EM×Option o6),(∃b',jV wpG l b= .inl b' ∧wfP b.2 b.1 l=true)∨(jV wpG l b= .inr false∧wfP b.2 b.1 l=false)
 | [],b=> .inl ⟨b,rfl,rfl⟩
 | x::l,b=>by
  unfold jV wfP wpG
  cases h:okP b.2 b.1 x
  ·exact .inr ⟨rfl,rfl⟩
  ·exact FZ l (Dp b.1 x,some x)
theorem Em (q x:o6):aB q x=some (zD q x):=by
 unfold aB zD
 cases ilt x.2.1 1
 ·cases ilt (o8 .i64 q.2.1 1) x.2.1
  ·cases ile x.2.1 q.2.1
   ·cases ieq q.1 1 <;> rfl
   ·rfl
  ·rfl
 ·rfl
theorem NM {i:Nat} (h:0<i) (h2:i≤1000000):D5 .i64 (i:Int) 1=((i -1:Nat):Int):=by
 rw[ED (by unfold I64;omega)];omega
def BN (a:List o6):Bool:=match a with | []=>false | x::_=>ieq x.1 1&&ieq x.2.1 0
theorem Bo {a:List o6} (h:a.length≤1000):af a=some (BN a&&wfP none [] a):=by
 unfold af
 have main:l9 (l7 (ieq (o7 a) 0) (some (Sum.inr false)) (l9 (lat a 0) fun(x:o6)=>l7 (C9 (ieq x.1 1)) (some (Sum.inr false)) (l9 (lat a 0) fun(x:o6)=>l7 (C9 (ieq x.2.1 0)) (some (Sum.inr false)) (some (Sum.inl PUnit.unit))))) (fun(o:PUnit⊕Bool)=>some o)=some (bif BN a then .inl PUnit.unit else .inr false):=by
  cases a with
  | nil=>rfl
  | cons x l=>
   rw[show ieq (o7 (x::l)) 0=false from BP (by unfold o7;simp;omega),F5,show lat (x::l) 0=some x from rfl,Z5,Z5]
   show _=some (bif (ieq x.1 1&&ieq x.2.1 0)then _ else _)
   cases ieq x.1 1
   ·rfl
   ·cases ieq x.2.1 0 <;> rfl
 have main2:(l7 (ieq (o7 a) 0) (some (Sum.inr false)) (l9 (lat a 0) fun(x:o6)=>l7 (C9 (ieq x.1 1)) (some (Sum.inr false)) (l9 (lat a 0) fun(x:o6)=>l7 (C9 (ieq x.2.1 0)) (some (Sum.inr false)) (some (Sum.inl PUnit.unit)))):Option (PUnit⊕Bool))=some (bif BN a then .inl PUnit.unit else .inr false):=by
  rw[←main];exact(NW _).symm
 refine ER main2 ?_
 cases BN a
 ·rfl
 rw[cond_true,Z5,AL,Bool.true_and]
 refine tZ a wpG (fun(b:EM×Option o6) i=>(b.1,i)) (fun _=>PUnit.unit) (fun i b=>(i=0∧b.2=none)∨(∃q,0<i∧a[i -1]? =some q∧b.2=some q)) ([],none) (by omega) (.inl ⟨rfl,rfl⟩) (fun i x b hx hi hb=>⟨?_,fun b' hb' =>?_⟩) (fun b hb=>?_) (fun hb=>?_)
 ·simp only[rG hx,F7,jw,hx,Z5]
  obtain⟨m,p⟩:=b
  have pre:(l7 (ilt 0 (i:Int)) (l9 (lat a (D5 .i64 (i:Int) 1)) fun(y:o6)=>l9 (aB y x) fun(x:Bool)=>l7 (C9 x) (some (Sum.inr false)) (some (Sum.inl PUnit.unit))) (some (Sum.inl PUnit.unit)):Option (PUnit⊕Bool))=some (bif (LD p x)then .inl PUnit.unit else .inr false):=by
   rcases hb with⟨rfl,hp⟩ | ⟨q,h0,hq,hp⟩
   ·have hp:p=none:=hp
    subst hp;rfl
   ·have hp:p=some q:=hp
    subst hp
    rw[xM (by omega),F7,NM h0 hi,jw,hq,Z5,Em,Z5]
    show l7 (C9 (zD q x)) _ _=some (bif zD q x then _ else _)
    cases zD q x <;> rfl
  have key:∀K:PUnit⊕Bool→Option (EM⊕Bool),K (.inr false)=some (.inr false)→K (.inl PUnit.unit)=some (bif uF x&&Aw x&&Dn m x then .inl (Dp m x)else .inr false)→
    l9 (l9 (l7 (ilt 0 (i:Int)) (l9 (lat a (D5 .i64 (i:Int) 1)) fun(y:o6)=>l9 (aB y x) fun(x:Bool)=>l7 (C9 x) (some (Sum.inr false)) (some (Sum.inl PUnit.unit))) (some (Sum.inl PUnit.unit))) K) (fun(o:EM⊕Bool)=>J3 o (fun(x_1:EM)=>some (Out.nx (x_1,o8 .i64 (i:Int) 1))) fun(r:Bool)=>some (Out.rt r))=(some (match wpG (m,p) x with | .inl b' =>Out.nx (b'.1,((i+1:Nat):Int)) | .inr r=>Out.rt r):Option (Out (EM×Int) PUnit Bool)):=fun K k1 k2=>by
   rw[pre,Z5]
   have ho:okP p m x=((LD p x)&&(uF x&&Aw x&&Dn m x)):=by unfold okP;rw[Bool.and_assoc,Bool.and_assoc,Bool.and_assoc]
   unfold wpG
   rw[show okP (m,p).2 (m,p).1 x=_ from ho]
   cases LD p x
   ·rw[cond_false,k1];rfl
   ·rw[cond_true,k2,Bool.true_and]
    cases uF x&&Aw x&&Dn m x
    ·rfl
    ·rw[cond_true,Z5,AL,rZ (by omega)];rfl
  refine(key _ ?_ ?_).trans ?_
  ·rfl
  rotate_left
  ·cases wpG (m,p) x <;> rfl
  unfold uF Aw Dn Dp kq rM lI
  simp only[AL]
  cases ilt x.1 1
  case true=>rfl
  cases ilt 5 x.1
  case true=>rfl
  cases ilt x.2.2.2.1 0
  case true=>rfl
  cases ilt x.2.2.1 (-1)
  case true=>rfl
  cases h1:ieq x.1 1
  ·cases ieq x.2.2.2.2.1 (-1)
   ·rfl
   cases ieq x.1 5
   ·rfl
   cases uj (fun(a b:x8)=>U7 (ieq a.1 b.1) (ieq a.2 b.2)) m (x.2.2.1,x.2.2.2.1)
   ·rfl
   show l7 (C9 (yI (qw (fun(a b:x8)=>U7 (ieq a.1 b.1) (ieq a.2 b.2)) m (x.2.2.1,x.2.2.2.1) (0,0,0)) x.2.2.2.2.2)) _ _=some (bif (true&&yI (qw (fun(a b:x8)=>U7 (ieq a.1 b.1) (ieq a.2 b.2)) m (x.2.2.1,x.2.2.2.1) (0,0,0)) x.2.2.2.2.2)then _ else _)
   cases yI (qw (fun(a b:x8)=>U7 (ieq a.1 b.1) (ieq a.2 b.2)) m (x.2.2.1,x.2.2.2.1) (0,0,0)) x.2.2.2.2.2 <;> rfl
  ·have h5:ieq x.1 5=false:=by
    have e:eK x=1:=Y6.1 h1
    exact BP (show eK x≠5 by omega)
   rw[h5]
   cases ilt x.2.2.2.2.1 0
   case true=>rfl
   cases uj (fun(a b:x8)=>U7 (ieq a.1 b.1) (ieq a.2 b.2)) m (x.2.2.1,x.2.2.2.1) <;> rfl
 ·unfold wpG at hb'
  cases ho:okP b.2 b.1 x <;> rw[ho]at hb'
  ·cases hb'
  ·cases hb'
   exact .inr ⟨x,by omega,by simpa using hx,rfl⟩
 ·simp only[rE,F5]
 ·rcases FZ a ([],none)with⟨b',h1,h2⟩ | ⟨h1,h2⟩
  ·rw[h1,show wfP none [] a=true from h2];rfl
  ·rw[h1,show wfP none [] a=false from h2];rfl
def iD (pre:List o6) (x:o6) (same:Bool):Bool:=pre.any fun y=>ieq y.1 1&&ieq y.2.2.1 x.2.2.1&&ieq y.2.2.2.1 x.2.2.2.1&&(!same || yI (lI y) (lI x))
theorem Fg {a:List o6} (h:a.length≤1000) {i:Nat} {x:o6} (hx:a[i]? =some x) (same:Bool):dE a (i:Int) same=some (iD (a.take i) x same):=by
 have hi:=(ah.1 hx).1
 unfold dE iD
 have hlen:(a.take i).length=i:=by rw[List.length_take];omega
 refine ER (RN (a.take i) (fun y=>ieq y.1 1&&ieq y.2.2.1 x.2.2.1&&ieq y.2.2.2.1 x.2.2.2.1&&(!same || yI (lI y) (lI x))) true PUnit.unit (by omega) (fun j y hy=>?_) ?_) ?_
 ·have hj:j<i:=by have:=(ah.1 hy).1;omega
  have hy2:a[j]? =some y:=by rw[List.getElem?_take,if_pos hj]at hy;exact hy
  simp only[xM (show(j:Int)<(i:Int) by omega),F7,jw,hy2,Z5,hx]
  cases ieq y.1 1
  ·rfl
  cases ieq y.2.2.1 x.2.2.1
  ·rfl
  cases ieq y.2.2.2.1 x.2.2.2.1
  ·rfl
  cases same
  ·rfl
  show l7 (yI (lI y) (lI x)) _ _=some (bif (true&&yI (lI y) (lI x))then _ else _)
  cases yI (lI y) (lI x) <;> rfl
 ·rw[hlen,zJ (Int.le_refl _)];rfl
 ·cases (a.take i).any fun y=>ieq y.1 1&&ieq y.2.2.1 x.2.2.1&&ieq y.2.2.2.1 x.2.2.2.1&&(!same || yI (lI y) (lI x)) <;> rfl
def GL (q x:o6):Bool:=!(ilt x.2.1 1)&&(bif ilt q.2.1 x.2.1 then ieq (D5 .i64 x.2.1 1) q.2.1&&ieq q.1 1 else true)
def okR (pre:List o6) (x:o6):Bool:=uF x&&(bif ieq x.1 1 then !(ilt x.2.2.2.2.1 0)&&!(iD pre x false)else ieq x.2.2.2.2.1 (-1))&&(bif ieq x.1 5 then iD pre x true else true)&&
 (match pre.getLast? with | none=>ieq x.2.1 0&&ieq x.1 1 | some q=>GL q x)
def wrG (b:List o6) (x:o6):List o6⊕Bool:=bif okR b x then .inl (b++[x])else .inr false
def wfR:List o6→List o6→Bool
 | _,[]=>true
 | pre,x::l=>okR pre x&&wfR (pre++[x]) l
theorem Gf:∀(l b:List o6),(∃b',jV wrG l b= .inl b' ∧wfR b l=true)∨(jV wrG l b= .inr false∧wfR b l=false)
 | [],b=> .inl ⟨b,rfl,rfl⟩
 | x::l,b=>by
  unfold jV wfR wrG
  cases h:okR b x
  ·exact .inr ⟨rfl,rfl⟩
  ·exact Gf l (b++[x])
theorem Af {a:List o6} (h:a.length≤1000):dP a=some (wfR [] a&&ilt 0 (o7 a)):=by
 unfold dP
 refine tZ a wrG (fun(b:List o6) i=>i) (fun _=>PUnit.unit) (fun i b=>b=a.take i) [] (by omega) rfl (fun i x b hx hi hb=>⟨?_,fun b' hb' =>?_⟩) (fun b hb=>?_) (fun hb=>?_)
 ·have hl:=(ah.1 hx).1
  simp only[rG hx,F7,jw,hx,Z5,Fg h hx]
  subst hb
  unfold wrG okR
  have last:(match(a.take i).getLast? with | none=>ieq x.2.1 0&&ieq x.1 1 | some q=>GL q x)=true∧(l7 (ieq (i:Int) 0) (l7 (C9 (ieq x.2.1 0)) (some (Sum.inr false)) (l7 (C9 (ieq x.1 1)) (some (Sum.inr false)) (some (Sum.inl PUnit.unit)))) (l9 (lat a (D5 .i64 (i:Int) 1)) fun(y:o6)=>l7 (ilt x.2.1 1) (some (Sum.inr false)) (l7 (ilt y.2.1 x.2.1) (l7 (C9 (ieq (D5 .i64 x.2.1 1) y.2.1)) (some (Sum.inr false)) (l7 (C9 (ieq y.1 1)) (some (Sum.inr false)) (some (Sum.inl PUnit.unit)))) (some (Sum.inl PUnit.unit)))):Option (PUnit⊕Bool))=some (.inl PUnit.unit)∨
    (match(a.take i).getLast? with | none=>ieq x.2.1 0&&ieq x.1 1 | some q=>GL q x)=false∧(l7 (ieq (i:Int) 0) (l7 (C9 (ieq x.2.1 0)) (some (Sum.inr false)) (l7 (C9 (ieq x.1 1)) (some (Sum.inr false)) (some (Sum.inl PUnit.unit)))) (l9 (lat a (D5 .i64 (i:Int) 1)) fun(y:o6)=>l7 (ilt x.2.1 1) (some (Sum.inr false)) (l7 (ilt y.2.1 x.2.1) (l7 (C9 (ieq (D5 .i64 x.2.1 1) y.2.1)) (some (Sum.inr false)) (l7 (C9 (ieq y.1 1)) (some (Sum.inr false)) (some (Sum.inl PUnit.unit)))) (some (Sum.inl PUnit.unit)))):Option (PUnit⊕Bool))=some (.inr false):=by
   by_cases h0:i=0
   ·subst h0
    rw[show ieq ((0:Nat):Int) 0=true from rfl,F7]
    simp only[List.take_zero,List.getLast?_nil]
    cases ieq x.2.1 0
    ·exact .inr ⟨rfl,rfl⟩
    ·cases ieq x.1 1
     ·exact .inr ⟨rfl,rfl⟩
     ·exact .inl ⟨rfl,rfl⟩
   ·rw[BP (show(i:Int)≠0 by omega),F5,NM (by omega) hi,jw]
    have hq:a[i -1]? =some (a[i -1]'(by omega)):=qg _
    have hg:(a.take i).getLast?=some (a[i -1]'(by omega)):=by
     rw[List.getLast?_eq_getElem?,List.length_take,List.getElem?_take,Nat.min_eq_left (by omega),if_pos (by omega)];exact hq
    rw[hg,hq,Z5]
    simp only
    generalize a[i -1]'(by omega)=q
    unfold GL
    cases ilt x.2.1 1
    ·cases ilt q.2.1 x.2.1
     ·exact .inl ⟨rfl,rfl⟩
     ·cases ieq (D5 .i64 x.2.1 1) q.2.1
      ·exact .inr ⟨rfl,rfl⟩
      ·cases ieq q.1 1
       ·exact .inr ⟨rfl,rfl⟩
       ·exact .inl ⟨rfl,rfl⟩
    ·exact .inr ⟨rfl,rfl⟩
  unfold uF
  rw[rZ (show i≤9000000000000000000 by omega)]
  rcases last with⟨l1,l2⟩ | ⟨l1,l2⟩
  all_goals
   rw[l1,l2]
   cases ilt x.1 1
   case true=>rfl
   cases ilt 5 x.1
   case true=>rfl
   cases ilt x.2.2.2.1 0
   case true=>rfl
   cases ilt x.2.2.1 (-1)
   case true=>rfl
   cases ieq x.1 1
   ·cases ieq x.2.2.2.2.1 (-1)
    ·rfl
    cases ieq x.1 5
    ·rfl
    cases iD (a.take i) x true <;> rfl
   ·cases ilt x.2.2.2.2.1 0
    case true=>rfl
    cases iD (a.take i) x false
    case true=>rfl
    cases ieq x.1 5
    ·rfl
    cases iD (a.take i) x true <;> rfl
 ·unfold wrG at hb'
  cases ho:okR b x <;> rw[ho]at hb'
  ·cases hb'
  ·cases hb'
   subst hb
   rw[List.take_add_one,hx];rfl
 ·simp only[rE,F5]
 ·rcases Gf a []with⟨b',h1,h2⟩ | ⟨h1,h2⟩
  ·rw[h1,h2];rfl
  ·rw[h1,h2];rfl
theorem Zt {q x:o6} (h0:0≤eD q) (h1:eD q≤1000000) (hx:I64 (eD x)):zD q x=GL q x:=by
 unfold zD GL
 show(!(ilt (eD x) 1)&&!(ilt (o8 .i64 (eD q) 1) (eD x))&&(ile (eD x) (eD q) || ieq q.1 1))=(!(ilt (eD x) 1)&&(bif ilt (eD q) (eD x)then ieq (D5 .i64 (eD x) 1) (eD q)&&ieq q.1 1 else true))
 generalize eD q=e at*
 generalize eD x=d at*
 rw[zI (show I64 (e+1) by unfold I64;omega)]
 by_cases hd:d<1
 ·rw[xM hd];rfl
 ·rw[zJ (show 1≤d by omega),ED (show I64 (d -1) by unfold I64 at hx ⊢;omega)]
  by_cases he:e<d
  ·rw[xM he,cond_true,Ez he]
   by_cases h2:e+1<d
   ·rw[xM h2,BP (show d -1≠e by omega)];rfl
   ·rw[zJ (show d≤e+1 by omega),Ey (show d -1=e by omega)];rfl
  ·rw[zJ (show d≤e by omega),cond_false,Jd (show d≤e by omega),zJ (show d≤e+1 by omega)];rfl
theorem Zr {q x:o6} (h0:0≤eD q) (h1:eD q≤1000000) (h:zD q x=true):0≤eD x∧eD x≤eD q+1:=by
 unfold zD at h
 have h:(!(ilt (eD x) 1)&&!(ilt (o8 .i64 (eD q) 1) (eD x))&&(ile (eD x) (eD q) || ieq q.1 1))=true:=h
 generalize eD q=e at*
 generalize eD x=d at*
 rw[zI (show I64 (e+1) by unfold I64;omega)]at h
 rw[Bool.and_eq_true,Bool.and_eq_true]at h
 have g1:ilt d 1=false:=by have:=h.1.1;cases hh:ilt d 1 <;> rw[hh]at this <;> first | rfl | cases this
 have g2:ilt (e+1) d=false:=by have:=h.1.2;cases hh:ilt (e+1) d <;> rw[hh]at this <;> first | rfl | cases this
 rw[NK]at g1 g2
 omega
structure MInvE (pre:List o6) (m:EM):Prop where
 ex:∃f:x8→Option E5,pI kq m f∧∀k v,f k=some v↔∃y∈pre,eK y=1∧rM y=k∧lI y=v
theorem Ii {pre:List o6} {x:o6} {same:Bool} :iD pre x same=true↔∃y∈pre,eK y=1∧rM y=rM x∧(same=true→lI y=lI x):=by
 unfold iD
 simp only[List.any_eq_true,Bool.and_eq_true,Bool.or_eq_true,FX]
 constructor
 ·rintro⟨y,hy,⟨⟨h1,h2⟩,h3⟩,h4⟩
  refine⟨y,hy,Y6.1 h1,Prod.ext (Y6.1 h2) (Y6.1 h3),fun hs=>?_⟩
  rcases h4 with h4 | h4
  ·rw[hs]at h4;cases h4
  ·exact h4
 ·rintro⟨y,hy,h1,h2,h3⟩
  refine⟨y,hy,⟨⟨Y6.2 h1,Y6.2 (Prod.mk.inj h2).1⟩,Y6.2 (Prod.mk.inj h2).2⟩,?_⟩
  cases same
  ·exact .inl rfl
  ·exact .inr (h3 rfl)
theorem He {pre:List o6} {m:EM} {x:o6} (h:MInvE pre m):Dn m x=((bif ieq x.1 1 then !(iD pre x false)else true)&&(bif ieq x.1 5 then iD pre x true else true)):=by
 obtain⟨f,hf,hi⟩:=h.ex
 have e1:uj kq m (rM x)=iD pre x false:=by
  rw[hf.has,Bool.eq_iff_iff,Ii,Option.isSome_iff_exists]
  constructor
  ·rintro⟨v,hv⟩
   obtain⟨y,hy,y1,y2,y3⟩:=(hi _ _).1 hv
   exact⟨y,hy,y1,y2,fun h=>(by cases h)⟩
  ·rintro⟨y,hy,y1,y2,_⟩
   exact⟨lI y,(hi _ _).2 ⟨y,hy,y1,y2,rfl⟩⟩
 unfold Dn
 cases h1:ieq x.1 1
 ·simp only[cond_false,Bool.true_and]
  cases h5:ieq x.1 5
  ·rfl
  ·simp only[cond_true]
   rw[hf.get,Bool.eq_iff_iff,Bool.and_eq_true,FX,hf.has,Ii]
   constructor
   ·rintro⟨g1,g2⟩
    obtain⟨v,hv⟩:=Option.isSome_iff_exists.1 g1
    rw[hv]at g2
    obtain⟨y,hy,y1,y2,y3⟩:=(hi _ _).1 hv
    exact⟨y,hy,y1,y2,fun _=>by rw[y3];exact g2⟩
   ·rintro⟨y,hy,y1,y2,y3⟩
    have:=(hi (rM x) (lI x)).2 ⟨y,hy,y1,y2,y3 rfl⟩
    rw[this];exact⟨rfl,rfl⟩
 ·have h5:ieq x.1 5=false:=by
   have e:eK x=1:=Y6.1 h1
   exact BP (show eK x≠5 by omega)
  rw[h5,e1]
  simp only[cond_true,cond_false,Bool.and_true]
theorem EK {pre:List o6} {m:EM} {x:o6} (h:MInvE pre m) (hb:Dn m x=true):MInvE (pre++[x]) (Dp m x):=by
 have hm:=He (x:=x) h
 obtain⟨f,hf,hi⟩:=h.ex
 unfold Dp
 cases h1:ieq x.1 1
 ·refine⟨f,hf,fun k v=>?_⟩
  rw[hi]
  constructor
  ·rintro⟨y,hy,hr⟩
   exact⟨y,List.mem_append_left _ hy,hr⟩
  ·rintro⟨y,hy,y1,hr⟩
   rcases List.mem_append.1 hy with hy | hy
   ·exact⟨y,hy,y1,hr⟩
   ·rw[List.mem_singleton.1 hy]at y1
    have:ieq x.1 1=true:=Y6.2 y1
    rw[this]at h1;cases h1
 ·have hno:f (rM x)=none:=by
   rw[hb,h1]at hm
   simp only[cond_true]at hm
   have hs:iD pre x false=false:=by
    cases hq:iD pre x false
    ·rfl
    ·rw[hq]at hm;simp at hm
   cases hfk:f (rM x)with
   | none=>rfl
   | some v=>
    obtain⟨y,hy,y1,y2,y3⟩:=(hi _ _).1 hfk
    have:=(Ii (pre:=pre) (x:=x) (same:=false)).2 ⟨y,hy,y1,y2,fun h=>(by cases h)⟩
    rw[hs]at this;cases this
  refine⟨_,LU GV hf (rM x) (lI x),fun k v=>?_⟩
  have ex1:eK x=1:=Y6.1 h1
  cases hk:kq k (rM x)
  ·rw[F5,hi]
   constructor
   ·rintro⟨y,hy,hr⟩
    exact⟨y,List.mem_append_left _ hy,hr⟩
   ·rintro⟨y,hy,y1,y2,hr⟩
    rcases List.mem_append.1 hy with hy | hy
    ·exact⟨y,hy,y1,y2,hr⟩
    ·rw[List.mem_singleton.1 hy]at y2
     have:=(GV k (rM x)).2 y2.symm
     rw[this]at hk;cases hk
  ·have ek:=(GV _ _).1 hk
   subst ek
   rw[F7]
   constructor
   ·intro e
    cases e
    exact⟨x,by simp,ex1,rfl,rfl⟩
   ·rintro⟨y,hy,y1,y2,y3⟩
    rcases List.mem_append.1 hy with hy | hy
    ·have:=(hi (rM x) v).2 ⟨y,hy,y1,y2,y3⟩
     rw[hno]at this;cases this
    ·rw[List.mem_singleton.1 hy]at y3;rw[y3]
theorem Lc:∀(l pre:List o6) (m:EM) (p:o6),(∀x∈l,I64 (eD x))→pre.getLast?=some p→MInvE pre m→0≤eD p→eD p+l.length≤1000000→wfP (some p) m l=wfR pre l
 | [],_,_,_,_,_,_,_,_=>rfl
 | x::l,pre,m,p,hI,hl,hm,h0,h1=>by
  have h1' :eD p+((l.length+1:Nat):Int)≤1000000:=by simpa using h1
  have hf:=Zt (q:=p) (x:=x) h0 (by omega) (hI x (by simp))
  have hq:=He (x:=x) hm
  have hok:okP (some p) m x=okR pre x:=by
   unfold okP okR Aw
   rw[hl,hq]
   simp only
   rw[show LD (some p) x=zD p x from rfl,hf]
   cases GL p x <;> cases uF x <;> cases ieq x.1 1 <;> cases ieq x.1 5 <;> cases ilt x.2.2.2.2.1 0 <;> cases ieq x.2.2.2.2.1 (-1) <;> cases iD pre x false <;> cases iD pre x true <;> rfl
  unfold wfP wfR
  rw[←hok]
  cases ho:okP (some p) m x
  ·rfl
  ·rw[Bool.true_and,Bool.true_and]
   unfold okP at ho
   rw[Bool.and_eq_true,Bool.and_eq_true,Bool.and_eq_true]at ho
   obtain⟨g1,g2⟩:=Zr h0 (by omega) ho.1.1.1
   exact Lc l (pre++[x]) (Dp m x) x (fun y hy=>hI y (List.mem_cons_of_mem _ hy)) (by simp) (EK hm ho.2) g1 (by omega)
theorem QO {a:List o6} (hl:a.length≤1000) (hI:∀x∈a,I64 (eD x)):(BN a&&wfP none [] a)=(wfR [] a&&ilt 0 (o7 a)):=by
 cases a with
 | nil=>rfl
 | cons x l=>
  rw[show ilt 0 (o7 (x::l))=true from xM (by show(0:Int)<((l.length+1:Nat):Int);omega),Bool.and_true]
  have hm:MInvE [] []:=⟨fun _=>none,LQ _,fun k v=>⟨fun h=>(by cases h),fun⟨y,hy,_⟩=>(by cases hy)⟩⟩
  have hq:=He (x:=x) hm
  unfold BN wfP wfR
  have hok:(ieq x.1 1&&ieq x.2.1 0&&okP none [] x)=okR [] x:=by
   unfold okP okR Aw
   rw[hq,show LD none x=true from rfl]
   simp only[List.getLast?_nil]
   cases uF x <;> cases ieq x.1 1 <;> cases ieq x.1 5 <;> cases ilt x.2.2.2.2.1 0 <;> cases ieq x.2.2.2.2.1 (-1) <;> cases iD [] x false <;> cases iD [] x true <;> cases ieq x.2.1 0 <;> rfl
  rw[←Bool.and_assoc,hok]
  cases ho:okR [] x
  ·rfl
  ·rw[Bool.true_and,Bool.true_and]
   rw[ho,Bool.and_eq_true,Bool.and_eq_true]at hok
   have hmb:Dn [] x=true:=by
    have:=hok.2
    unfold okP at this
    rw[Bool.and_eq_true]at this
    exact this.2
   have hd:eD x=0:=Y6.1 hok.1.2
   refine Lc l [x] (Dp [] x) x (fun y hy=>hI y (List.mem_cons_of_mem _ hy)) rfl (EK hm hmb) (by omega) ?_
   simp only[List.length_cons]at hl
   omega
theorem wG {a:List o6} (hI:∀x∈a,I64 (eD x)):fM a=some true:=by
 unfold fM
 rw[RP]
 cases h1:ilt 200 (o7 a)
 case true=>rfl
 have h1:=RZ (n:=200) h1
 obtain⟨g1,g2⟩:=EW a
 have k1:=xO (yG a)
 have k2:=xO (yE a)
 rw[F5,DN (by omega),Z5,Bh (by omega),Z5,qM (by show(pG (yG a)).length≤_;omega),Z5,F7,qM (by show(pG (yE a)).length≤_;omega),Z5,F7,
  Bo (by omega),Z5,Af (by omega),Z5,QO (by omega) hI]
 cases (wfR [] a&&ilt 0 (o7 a)) <;> rfl
end Go.GP
namespace Go.GP
open Gt
theorem vF:∀x,FY Gt.ps4 x→(Gt.s4.fn x:Option Bool)=some true:=fun x h=>wG fun y hy=>a1B (h.2 y hy).2.1
end Go.GP
