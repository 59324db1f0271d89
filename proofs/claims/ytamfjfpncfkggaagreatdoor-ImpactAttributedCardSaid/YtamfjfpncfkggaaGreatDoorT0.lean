import Derived.ProofKit
import Derived.Below
import Derived.Laws.CopyRow
import Derived.Laws.BytesArg
import Derived.Laws.Cells
import Derived.Laws.Append
import Derived.Laws.Strings
import Derived.Lib.SmallJoins
set_option linter.all false
namespace Go.GP
theorem J7 {α:Type _} {l:List α} {i:Nat} {a:α} :l[i]? =some a↔∃h:i<l.length,l[i]=a:=List.getElem?_eq_some_iff
theorem Y6 {α:Type _} {l:List α} {i:Nat} (h:i<l.length):l[i]? =some l[i]:=List.getElem?_eq_getElem h
theorem aV {n m:Nat} (h:Nat.beq n m=true):n=m:=Nat.eq_of_beq_eq_true h
theorem dG {α:Type _} {l:List α} {i:Nat} {a:α} (h:l[i]? =some a):a∈l:=List.mem_of_getElem? h
theorem jZ {α:Type _} {l:List α} {i:Nat} {a:α} :l.getD i a=l[i]?.getD a:=List.getD_eq_getElem?_getD
universe u
set_option linter.unusedVariables false
inductive Ty where
 | bool | int (k:IntKind) | str | sl (t:Ty) | prod (a b:Ty) | unit | ent (ka va:Bool) (k v:Ty)
def tbb (a b:Bool):Bool:=bif a then b else !b
theorem YP:∀{a b:Bool},tbb a b=true→a=b:=by decide
theorem WQ:∀(a:Bool),tbb a a=true:=by decide
def Ty.beq:Ty→Ty→Bool
 | .bool,b=>match b with | .bool=>true | _=>false
 | .int k,b=>match b with | .int k' =>decide (k=k') | _=>false
 | .str,b=>match b with | .str=>true | _=>false
 | .sl t,b=>match b with | .sl u=>Ty.beq t u | _=>false
 | .prod p q,b=>match b with | .prod p' q' =>bif Ty.beq p p' then Ty.beq q q' else false | _=>false
 | .unit,b=>match b with | .unit=>true | _=>false
 | .ent x y p q,b=>match b with | .ent x' y' p' q' =>bif tbb x x' &&tbb y y' then(bif Ty.beq p p' then Ty.beq q q' else false)else false | _=>false
theorem Ty.beq_eq:∀{a b:Ty},Ty.beq a b=true→a=b
 | .bool,b,h=>by cases b <;> first | rfl | cases h
 | .int k,b,h=>by cases b <;> first | (cases h;done) | (rename_i k';have:=of_decide_eq_true (show decide (k=k')=true from h);subst this;rfl)
 | .str,b,h=>by cases b <;> first | rfl | cases h
 | .sl t,b,h=>by cases b <;> first | (cases h;done) | (rename_i u;have:=Ty.beq_eq (show Ty.beq t u=true from h);subst this;rfl)
 | .prod p q,b,h=>by
  cases b <;> try (cases h;done)
  rename_i p' q'
  cases hp:Ty.beq p p'
  ·have h' :(bif Ty.beq p p' then Ty.beq q q' else false)=true:=h
   rw[hp]at h';cases h'
  ·have h' :(bif Ty.beq p p' then Ty.beq q q' else false)=true:=h
   rw[hp]at h'
   rw[Ty.beq_eq hp,Ty.beq_eq (show Ty.beq q q' =true from h')]
 | .unit,b,h=>by cases b <;> first | rfl | cases h
 | .ent x y p q,b,h=>by
  cases b <;> try (cases h;done)
  rename_i x' y' p' q'
  have h0:(bif tbb x x' &&tbb y y' then(bif Ty.beq p p' then Ty.beq q q' else false)else false)=true:=h
  cases hx:tbb x x' <;> cases hy:tbb y y' <;> rw[hx,hy]at h0 <;> try (cases h0;done)
  cases hp:Ty.beq p p' <;> rw[hp]at h0
  ·cases h0
  ·rw[YP hx,YP hy,Ty.beq_eq hp,Ty.beq_eq (show Ty.beq q q' =true from h0)]
theorem Ty.beq_refl:∀(a:Ty),Ty.beq a a=true
 | .bool=>rfl
 | .int k=>by show decide (k=k)=true;simp
 | .str=>rfl
 | .sl t=>Ty.beq_refl t
 | .prod p q=>by show(bif Ty.beq p p then Ty.beq q q else false)=true;rw[Ty.beq_refl p,Ty.beq_refl q];rfl
 | .unit=>rfl
 | .ent x y p q=>by show(bif tbb x x&&tbb y y then(bif Ty.beq p p then Ty.beq q q else false)else false)=true;rw[WQ,WQ,Ty.beq_refl p,Ty.beq_refl q];rfl
instance:DecidableEq Ty:=fun a b=>match h:Ty.beq a b with
 | true=> .isTrue (Ty.beq_eq h)
 | false=> .isFalse (fun e=>by subst e;rw[Ty.beq_refl]at h;cases h)
@[reducible] def Ty.den:Ty→Type
 | .bool=>Bool
 | .int _=>Int
 | .str=>List UInt8
 | .sl t=>List t.den
 | .prod a b=>a.den×b.den
 | .unit=>Unit
 | .ent _ _ a b=>a.den×b.den
def Ty.isEnt:Ty→Bool | .ent ..=>true | _=>false
def Ty.size:Ty→Nat
 | .bool | .int _ | .str | .sl _=>1
 | .prod a b=>a.size+b.size
 | .unit=>0
 | .ent _ _ a b=>a.size+b.size
def Ty.flat:Ty→Bool
 | .bool | .int _ | .str | .unit=>true
 | .sl _=>false
 | .prod a b=>a.flat&&b.flat
 | .ent ..=>false
def Ty.zero:(t:Ty)→t.den
 | .bool=>false
 | .int _=>(0:Int)
 | .str=>[]
 | .sl _=>[]
 | .prod a b=>(a.zero,b.zero)
 | .unit=>()
 | .ent _ _ a b=>(a.zero,b.zero)
inductive M where
 | dat (t:Ty) | own (t:Ty) | pair (a b:M) | unit | box (m:M)
 | owns (el:M) | ownb (t:Ty) | rp (t:Ty) | fn (f:Nat) (ts:List Ty) | ifc (t:Nat) (m:M) | cell (n:Option (Option Bool))
def M.beq:M→M→Bool
 | .dat t,b=>match b with | .dat u=>Ty.beq t u | _=>false
 | .own t,b=>match b with | .own u=>Ty.beq t u | _=>false
 | .pair p q,b=>match b with | .pair p' q' =>bif M.beq p p' then M.beq q q' else false | _=>false
 | .unit,b=>match b with | .unit=>true | _=>false
 | .owns m,b=>match b with | .owns m' =>M.beq m m' | _=>false
 | _,_=>false
theorem M.beq_eq:∀{a b:M},M.beq a b=true→a=b
 | .dat t,b,h=>by cases b <;> first | (cases h;done) | (rename_i u;have:=Ty.beq_eq (show Ty.beq t u=true from h);subst this;rfl)
 | .own t,b,h=>by cases b <;> first | (cases h;done) | (rename_i u;have:=Ty.beq_eq (show Ty.beq t u=true from h);subst this;rfl)
 | .pair p q,b,h=>by
  cases b <;> try (cases h;done)
  rename_i p' q'
  cases hp:M.beq p p'
  ·have h' :(bif M.beq p p' then M.beq q q' else false)=true:=h
   rw[hp]at h';cases h'
  ·have h' :(bif M.beq p p' then M.beq q q' else false)=true:=h
   rw[hp]at h'
   rw[M.beq_eq hp,M.beq_eq (show M.beq q q' =true from h')]
 | .unit,b,h=>by cases b <;> first | rfl | cases h
 | .owns m,b,h=>by cases b <;> first | (cases h;done) | (rename_i u;have:=M.beq_eq (show M.beq m u=true from h);subst this;rfl)
 | .box _,b,h=>by cases h
 | .ownb _,b,h=>by cases h
 | .rp _,b,h=>by cases h
 | .fn _ _,b,h=>by cases h
 | .ifc _ _,b,h=>by cases h
 | .cell _,b,h=>by cases h
@[reducible] def Jd:List Ty→Type
 | []=>Unit
 | [t]=>t.den
 | t::t' ::r=>t.den×Jd (t' ::r)
@[reducible] def M.den:M→Type
 | .dat t=>t.den
 | .own t=>List t.den
 | .pair a b=>a.den×b.den
 | .unit=>Unit
 | .box m=>m.den
 | .owns el=>List el.den
 | .ownb t=>List t.den
 | .rp t=>t.den
 | .fn _ ts=>Jd ts
 | .ifc _ m=>m.den
 | .cell _=>Unit
def M.size:M→Nat
 | .dat t=>t.size
 | .own _=>1
 | .pair a b=>a.size+b.size
 | .unit=>0
 | .box _=>1
 | .owns _ | .ownb _ | .rp _ | .fn _ _ | .ifc _ _ | .cell _=>1
def M.el:M→Bool
 | .unit=>true
 | .dat t | .own t=> !t.isEnt
 | .owns m=>m.el
 | .pair a b=>a.el&&b.el
 | _=>false
def M.ty:M→Ty
 | .dat t=>t
 | .own t=> .sl t
 | .owns m=> .sl m.ty
 | .pair a b=> .prod a.ty b.ty
 | _=> .unit
theorem M.denEq:∀(m:M),m.el=true→m.den=m.ty.den
 | .dat _,_=>rfl
 | .own _,_=>rfl
 | .unit,_=>rfl
 | .owns m,h=>congrArg List (M.denEq m h)
 | .pair a b,h=>by
  have h' :a.el=true∧b.el=true:=by simpa[M.el]using h
  show(a.den×b.den)=(a.ty.den×b.ty.den)
  rw[M.denEq a h'.1,M.denEq b h'.2]
 | .box _,h=>by simp[M.el]at h
 | .ownb _,h=>by simp[M.el]at h
 | .rp _,h=>by simp[M.el]at h
 | .fn _ _,h=>by simp[M.el]at h
 | .ifc _ _,h=>by simp[M.el]at h
 | .cell _,h=>by simp[M.el]at h
def M.zero:(m:M)→m.el=true→m.den
 | m,h=>cast (M.denEq m h).symm m.ty.zero
abbrev MG:=Bool×M
@[reducible] def aK:List MG→Type
 | []=>Unit
 | [m]=>m.2.den
 | m::m' ::r=>m.2.den×aK (m' ::r)
inductive V where
 | undef
 | un
 | b (x:Bool) | i (k:IntKind) (n:Int) | s (l:List UInt8)
 | nl
 | sl (t:Ty) (xs:List t.den)
 | own (bx:Nat) (vw:Option (Nat×Nat))
 | ptr (bx off:Nat)
 | ep (bx idx off:Nat)
 | dp (t:Ty) (x:t.den) (off:Nat)
 | agg (cs:List V) | tup (cs:List V)
 | glob (g:Nat) | fnv (f:Nat) | clos (f:Nat) (caps:List ((t:Ty)×t.den)) | ifc (t:Nat) (v:V)
 | bcells (cs:List V) | barr (t:Ty) (xs:List t.den) | bfrz (t:Ty) (xs:List t.den) | biter (l:List UInt8) (pos:Nat)
 | barrs (el:M) (xs:List el.den) (hole:Option (Nat×Nat×Option Nat)) | bfc (t:Ty) (x:t.den)
 | dead | gone (t:Ty) | blen (n:Int) (sz:Nat)
 | ne (b:Bool)
def o6 {α β:Type} (o:Option α) (f:α→Option β):Option β:=match o with | some x=>f x | none=>none
def l7 {α:Type} (b:Bool) (x y:α):α:=match b with | true=>x | false=>y
def ilt (a b:Int):Bool:=decide (a<b)
def ile (a b:Int):Bool:=decide (a≤b)
def ieq (a b:Int):Bool:=decide (a=b)
def bZ (a b:Bool):Bool:=a==b
def E5 (a:Bool):Bool:=!a
def V8 (a b:Bool):Bool:=a&&b
def seq (a b:List UInt8):Bool:=decide (a=b)
def slt (a b:List UInt8):Bool:=Op.bytesLess a b
def wrap (k:IntKind) (n:Int):Int:=k.wrap n
def A7 (k:IntKind) (a b:Int):Int:=k.wrap (a+b)
def G8 (k:IntKind) (a b:Int):Int:=k.wrap (a -b)
def W9 (k:IntKind) (a b:Int):Int:=k.wrap (a*b)
def aN (k:IntKind) (a b:Int):Int:=k.wrap (a.tdiv b)
def dV (a b:Int):Int:=a.tmod b
def uZ (k:IntKind) (a b:Int):Option Int:=if b=0 then none else some (k.wrap (a.tdiv b))
def AO (a b:Int):Option Int:=if b=0 then none else some (a.tmod b)
def Va (k:IntKind) (a b:Int):Int:=k.wrap (BitVec.ofInt k.bits a&&& BitVec.ofInt k.bits b).toNat
def ior (k:IntKind) (a b:Int):Int:=k.wrap (BitVec.ofInt k.bits a ||| BitVec.ofInt k.bits b).toNat
def a3O (k:IntKind) (a b:Int):Int:=k.wrap (BitVec.ofInt k.bits a^^^BitVec.ofInt k.bits b).toNat
def ZH (k:IntKind) (a b:Int):Int:=k.wrap (BitVec.ofInt k.bits a&&& ~~~(BitVec.ofInt k.bits b)).toNat
def a3M (k:IntKind) (a b:Int):Int:=k.wrap (a*2^(min b.toNat k.bits))
def jA (k:IntKind) (a b:Int):Int:=a.fdiv (2^(min b.toNat k.bits))
def Na (k:IntKind) (a b:Int):Option Int:=if b<0 then none else some (a3M k a b)
def Nb (k:IntKind) (a b:Int):Option Int:=if b<0 then none else some (jA k a b)
def kG (a b:Int):Int:=if b<a then b else a
def gV (a b:Int):Int:=if a<b then b else a
def o8 {α:Type} (l:List α):Int:=l.length
def c1V (a b:List UInt8):Option (List UInt8):=if a.length+b.length≤4611686018427387904 then some (a++b)else none
def Et (a b:Nat):Bool:=Nat.beq a b
def inb (i n:Int):Bool:=decide (0≤i∧i<n)
def lat {α:Type} (l:List α) (i:Int):Option α:=if 0≤i then l[i.toNat]? else none
def sat (l:List UInt8) (i:Int):Option Int:=if 0≤i then(l[i.toNat]?).map (fun c=>(c.toNat:Int))else none
def L8 {α:Type} (l:List α) (i:Nat):Option α:=l[i]?
def U5 {α:Type} (l:List α) (i:Nat) (x:α):List α:=l.set i x
def AU {α:Type} (l:List α) (lo hi:Int):Option (List α):=if 0≤lo∧lo≤hi∧hi≤l.length then some ((l.take hi.toNat).drop lo.toNat)else none
def gQ {α:Type} (l:List α) (lo hi:Nat):List α:=(l.take hi).drop lo
def jG (lo hi n:Int):Bool:=decide (0≤lo∧lo≤hi∧hi≤n)
def dE {α:Type} (xs ys:List α):Option (List α):=if xs.length+ys.length≤1073741824 then some (xs++ys)else none
def jH {α:Type} (n:Int) (x:α):Option (List α):=if 0≤n∧n≤1073741824 then some (List.replicate n.toNat x)else none
def toN (i:Int):Nat:=i.toNat
def c6I (n:Int):UInt8:=UInt8.ofNat n.toNat
def a3h (l:List Int):List UInt8:=l.map c6I
def xU {α β:Type} (eq:α→α→Bool):List (α×β)→α→β→β
 | [],_,z=>z
 | p::r,k,z=>bif eq k p.1 then p.2 else xU eq r k z
def AZ {α β:Type} (eq:α→α→Bool):List (α×β)→α→Bool
 | [],_=>false
 | p::r,k=>bif eq k p.1 then true else AZ eq r k
def zJ {α β:Type} (eq:α→α→Bool):List (α×β)→α→β→List (α×β)
 | [],k,x=>[(k,x)]
 | p::r,k,x=>bif eq k p.1 then(k,x)::r else p::zJ eq r k x
def gG {α β:Type} (eq:α→α→Bool) (l:List (α×β)) (k:α) (z:β):β:=xU eq l k z
def FD {α β:Type} (eq:α→α→Bool) (l:List (α×β)) (k:α):Bool:=AZ eq l k
def qc {α β:Type} (eq:α→α→Bool) (l:List (α×β)) (k:α) (x:β):List (α×β):=zJ eq l k x
def keq:(t:Ty)→t.den→t.den→Bool
 | .bool=>fun a b=>bZ a b
 | .int _=>fun a b=>ieq a b
 | .str=>fun a b=>seq a b
 | .prod p q=>fun a b=>V8 (keq p a.1 b.1) (keq q a.2 b.2)
 | _=>fun _ _=>true
def a7Q {α:Type} (eq:α→α→Bool):List α→List α→Bool
 | [],[]=>true
 | a::r,b::q=>eq a b&&a7Q eq r q
 | _,_=>false
def LV:(t:Ty)→t.den→t.den→Bool
 | .bool=>fun a b=>tbb a b
 | .int _=>fun a b=>decide (a=b)
 | .str=>fun a b=>decide (a=b)
 | .sl t=>fun a b=>a7Q (LV t) a b
 | .prod p q=>fun a b=>LV p a.1 b.1&&LV q a.2 b.2
 | .unit=>fun _ _=>true
 | .ent _ _ p q=>fun a b=>LV p a.1 b.1&&LV q a.2 b.2
def deq (t:Ty) (a b:t.den):Bool:=LV t a b
inductive Out (σ ε ρ:Type) where
 | nx (s:σ) | ex (e:ε) | rt (r:ρ)
def X6 {σ ε α:Type} (o:σ⊕ε) (f:σ→α) (g:ε→α):α:=match o with | .inl s=>f s | .inr e=>g e
def iD {σ ε ρ:Type} (f:σ→Option (Out σ ε ρ)):Nat→σ→Option (ε⊕ρ)
 | 0,_=>none
 | n+1,s=>match f s with
  | some (.nx s')=>iD f n s'
  | some (.ex e)=>some (.inl e)
  | some (.rt r)=>some (.inr r)
  | none=>none
def iC {σ ε:Type} (f:σ→Option (σ⊕ε)):Nat→σ→Option ε
 | 0,_=>none
 | n+1,s=>match f s with
  | some (.inl s')=>iC f n s'
  | some (.inr e)=>some e
  | none=>none
def dN:Nat:=18446744073709551616
def U2 {σ ε ρ:Type} (f:σ→Option (Out σ ε ρ)) (s:σ):Option (ε⊕ρ):=iD f dN s
def X5 {σ ε:Type} (f:σ→Option (σ⊕ε)) (s:σ):Option ε:=iC f dN s
inductive Cmd (α:Type):Type 1 where
 | ret (x:α)
 | fail
 | get (k:Nat) (c:V→Cmd α)
 | set (k:Nat) (v:V) (c:Cmd α)
 | opt {β:Type} (o:Option β) (c:β→Cmd α)
 | br (b:Bool) (c d:Cmd α)
inductive Ent where
 | kv (k:Nat) (v:V) | mask (lo hi:Nat)
abbrev St:=List Ent
def Y2:St→Nat→V
 | [],_=> .undef
 | .kv k v::r,n=>bif Nat.beq k n then v else Y2 r n
 | .mask lo hi::r,n=>bif Nat.ble lo n&&Nat.blt n hi then .undef else Y2 r n
abbrev Tr:=List Nat×List Nat
def V.force {R:Type} (v:V) (K:V→R):R:=
 match v with
 | .undef=>K .undef
 | .un=>K .un
 | .b x=>K (.b x)
 | .i k n=>match k with
  | .i8=>K (.i .i8 n) | .i16=>K (.i .i16 n) | .i32=>K (.i .i32 n) | .i64=>K (.i .i64 n)
  | .u8=>K (.i .u8 n) | .u16=>K (.i .u16 n) | .u32=>K (.i .u32 n) | .u64=>K (.i .u64 n)
 | .s l=>K (.s l)
 | .nl=>K .nl
 | .ne z=>K (.ne z)
 | .sl t xs=>K (.sl t xs)
 | .own bx vw=>match vw with | none=>K (.own bx none) | some p=>K (.own bx (some p))
 | .ptr bx off=>K (.ptr bx off)
 | .ep bx idx off=>K (.ep bx idx off)
 | .dp t x off=>K (.dp t x off)
 | .agg cs=>K (.agg cs)
 | .tup cs=>K (.tup cs)
 | .glob g=>K (.glob g)
 | .fnv f=>K (.fnv f)
 | .clos f bs=>K (.clos f bs)
 | .ifc t v=>v.force fun v=>K (.ifc t v)
 | .barrs t xs h=>match h with | none=>K (.barrs t xs none) | some (p1,p2,p3)=>match p3 with | none=>K (.barrs t xs (some (p1,p2,none))) | some p3=>K (.barrs t xs (some (p1,p2,some p3)))
 | .bfc t x=>K (.bfc t x)
 | .bcells cs=>K (.bcells cs)
 | .barr t xs=>K (.barr t xs)
 | .bfrz t xs=>K (.bfrz t xs)
 | .biter l p=>K (.biter l p)
 | .dead=>K .dead
 | .gone t=>K (.gone t)
 | .blen n sz=>K (.blen n sz)
def Ic {R:Type} :List V→(List V→R)→R
 | [],K=>K []
 | v::r,K=>v.force fun v' =>Ic r fun r' =>K (v' ::r')
def V.force2 {R:Type} (v:V) (K:V→R):R:=
 v.force fun v=>match v with
  | .agg cs=>Ic cs fun cs=>K (.agg cs)
  | .bcells cs=>Ic cs fun cs=>K (.bcells cs)
  | .tup cs=>Ic cs fun cs=>K (.tup cs)
  | v=>K v
def Cmd.runK {α R:Type} :Cmd α→St→Tr→(α→St→Tr→Option R)→Option R
 | .ret x,s,t,K=>K x s t
 | .fail,_,_,_=>none
 | .get k c,s,t,K=>(Y2 s k).force fun v=>(c v).runK s (k::t.1,t.2) K
 | .set k v c,s,t,K=>v.force2 fun v=>c.runK (.kv k v::s) (t.1,k::t.2) K
 | .opt o c,s,t,K=>o6 o fun x=>(c x).runK s t K
 | .br b c d,s,t,K=>l7 b (c.runK s t K) (d.runK s t K)
def Cmd.bind {α β:Type} :Cmd α→(α→Cmd β)→Cmd β
 | .ret x,f=>f x
 | .fail,_=> .fail
 | .get k c,f=> .get k fun v=>(c v).bind f
 | .set k v c,f=> .set k v (c.bind f)
 | .opt o c,f=> .opt o fun x=>(c x).bind f
 | .br b c d,f=> .br b (c.bind f) (d.bind f)
inductive TD where
 | bool | int (k:IntKind) | str
 | sl (elem:Nat) | ptr (elem:Nat)
 | struct (fs:List (Nat×Nat))
 | arr (n elem:Nat)
 | map (key elem:Nat)
 | other
structure TI where
 size:Nat
 bytes:Nat
 td:TD
 ty:Option Ty
 zero:List V
def Y3 {α:Type} :List (Nat×α)→Nat→Option α
 | [],_=>none
 | (k,v)::r,n=>bif Nat.beq k n then some v else Y3 r n
structure FSpec where
 ps:List MG
 rs:List MG
 outs:List MG
 fn:aK ps→Option (aK (rs++outs))
structure Env where
 nt:Nat
 eqs:List (Nat×List Ty)
 tt:List (Nat×TI)
 gl:List (Nat×(t:Ty)×List t.den)
 fs:List (Nat×FSpec)
 om:List (Nat×M):=[]
 tk:List Nat:=[]
 ms:List ((Nat×String)×Nat×Option Nat):=[]
 kp:List Nat:=[]
 rc:List Nat:=[]
abbrev BOX:Nat:=1000000
abbrev CB:Nat:=1000000
abbrev GZ:Nat:=1000000000000
def Ty.castL {R:Type u} (a b:Ty) (xs:List a.den) (k:List b.den→R) (f:R):R:=if h:a=b then k (h▸xs)else f
def Qg {R:Type u} (a b:Ty) (x:a.den) (k:b.den→R) (f:R):R:=if h:a=b then k (h▸x)else f
def flat:(t:Ty)→t.den→List V→List V
 | .bool,x,r=> .b x::r
 | .int k,n,r=> .i k n::r
 | .str,l,r=> .s l::r
 | .sl t,xs,r=> .sl t xs::r
 | .prod a b,x,r=>flat a x.1 (flat b x.2 r)
 | .unit,_,r=>r
 | .ent _ _ a b,x,r=>flat a x.1 (flat b x.2 r)
def aX {α:Type} (vw:Option (Nat×Nat)) (xs:List α):List α:=match vw with | none=>xs | some (lo,hi)=>gQ xs lo hi
def zG:(m:M)→m.den→List V→List V
 | .dat t,x,r=>flat t x r
 | .pair a b,x,r=>zG a x.1 (zG b x.2 r)
 | .unit,_,r=>r
 | _,_,r=> .undef::r
def Zu {R:Type u} (a b:M) (xs:List a.den) (k:List b.den→R) (f:R):R:=match h:M.beq a b with
 | true=>k (M.beq_eq h▸xs)
 | false=>f
def Xt {R:Type u} (m:M) (t:Ty) (xs:List m.den) (k:List t.den→R) (f:R):R:=
 if h:m.el=true∧m.ty=t then k (cast (congrArg List ((M.denEq m h.1).trans (congrArg Ty.den h.2))) xs)else f
def M.owned:M→List Ty
 | .own t=>[t]
 | .owns m=>m.ty::m.owned
 | .pair a b=>a.owned++b.owned
 | _=>[]
def Uj (ln:Ty→Bool):List Ty→Bool | []=>true | t::r=>bif ln t then Uj ln r else false
def gJ {α:Type} (ln:Ty→Bool):(t:Ty)→List V→(t.den→List V→Cmd α)→Cmd α
 | .bool,cs,K=>match cs with | .b x::r=>K x r | _=> .fail
 | .int k,cs,K=>match cs with | .i k' n::r=>(bif decide (k=k')then K n r else Cmd.fail) | _=> .fail
 | .str,cs,K=>match cs with | .s l::r=>K l r | _=> .fail
 | .prod a b,cs,K=>gJ ln a cs fun x r=>gJ ln b r fun y r' =>K (x,y) r'
 | .unit,cs,K=>K () cs
 | .ent ..,_,_=> .fail
 | .sl t,cs,K=>match cs with
  | .nl::r=>bif t.isEnt then .fail else K [] r
  | .sl t' xs::r=>Ty.castL t' t xs (fun ys=>K ys r) Cmd.fail
  | .own bx vw::r=> .get (BOX+bx) fun
   | .barr t' xs=>Ty.castL t' t xs (fun ys=>bif ln t then K (aX vw ys) r else Cmd.set (BOX+bx) (.bfrz t ys) (K (aX vw ys) r)) Cmd.fail
   | .bfrz t' xs=>Ty.castL t' t xs (fun ys=>K (aX vw ys) r) Cmd.fail
   | .barrs el xs none=>Xt el t xs (fun ys=>bif ln t&&Uj ln el.owned then K (aX vw ys) r else Cmd.set (BOX+bx) (.bfrz t ys) (K (aX vw ys) r)) Cmd.fail
   | _=> .fail
  | _=> .fail
def sD:Ty→Bool:=fun _=>false
def a2j {α:Type} (t:Ty) (v:V) (K:List t.den→Cmd α):Cmd α:=match v with
 | .nl=>bif t.isEnt then .fail else K []
 | .ne _=>bif t.isEnt then .fail else K []
 | .sl t' xs=>Ty.castL t' t xs K Cmd.fail
 | .own bx vw=> .get (BOX+bx) fun
  | .barr t' xs=>Ty.castL t' t xs (fun ys=>K (aX vw ys)) Cmd.fail
  | .bfrz t' xs=>Ty.castL t' t xs (fun ys=>K (aX vw ys)) Cmd.fail
  | _=> .fail
 | _=> .fail
def rpC {α:Type} (t:Ty) (v:V) (K:t.den→Cmd α):Cmd α:=match v with
 | .dp t' x 0=>Qg t' t x K .fail
 | .ptr bx 0=> .get (BOX+bx) fun
  | .bfc t' x=>Qg t' t x K .fail
  | .bcells bs=>gJ sD t bs fun x q=>(match q with
   | []=> .get (BOX+bx) fun
    | .bcells _=>Cmd.set (BOX+bx) (.bfc t x) (K x)
    | _=> .fail
   | _=> .fail)
  | _=> .fail
 | _=> .fail
def Ea {α:Type} :(ts:List Ty)→List ((t:Ty)×t.den)→(Jd ts→Cmd α)→Cmd α
 | [],cs,K=>match cs with | []=>K () | _=> .fail
 | [t],cs,K=>match cs with | [⟨t',x⟩]=>Qg t' t x K .fail | _=> .fail
 | t::t' ::r,cs,K=>match cs with
  | ⟨u,x⟩::cs=>Qg u t x (fun x=>Ea (t' ::r) cs fun y=>K (x,y)) .fail
  | []=> .fail
def IZ:(ts:List Ty)→Jd ts→List ((t:Ty)×t.den)
 | [],_=>[]
 | [t],x=>[⟨t,x⟩]
 | t::t' ::r,x=>⟨t,x.1⟩::IZ (t' ::r) x.2
def exM {α:Type} (ln:Ty→Bool):(m:M)→List V→(m.den→List V→Cmd α)→Cmd α
 | .dat t,cs,K=>gJ ln t cs K
 | .own t,cs,K=>match cs with
  | .nl::r=>bif t.isEnt then .fail else K [] r
  | .own bx vw::r=> .get (BOX+bx) fun
   | .barr t' xs=>Ty.castL t' t xs (fun ys=>Cmd.set (BOX+bx) .dead (K (aX vw ys) r)) Cmd.fail
   | _=> .fail
  | _=> .fail
 | .pair a b,cs,K=>exM sD a cs fun x r=>exM sD b r fun y r' =>K (x,y) r'
 | .unit,cs,K=>K () cs
 | .box m,cs,K=>match cs with
  | .ptr bx 0::r=> .get (BOX+bx) fun
   | .bcells bs=>Cmd.set (BOX+bx) .dead (exM sD m bs fun x q=>match q with | []=>K x r | _=> .fail)
   | _=> .fail
  | _=> .fail
 | .owns m,cs,K=>match cs with
  | .nl::r=>bif m.el then K [] r else .fail
  | .own bx none::r=> .get (BOX+bx) fun
   | .barrs m' xs none=>Zu m' m xs (fun ys=>Cmd.set (BOX+bx) .dead (K ys r)) Cmd.fail
   | _=> .fail
  | _=> .fail
 | .ownb t,cs,K=>match cs with
  | .nl::r=>bif t.isEnt then .fail else K [] r
  | .own bx none::r=> .get (BOX+bx) fun
   | .barr t' xs=>Ty.castL t' t xs (fun ys=>Cmd.set (BOX+bx) (.gone t) (K ys r)) Cmd.fail
   | _=> .fail
  | _=> .fail
 | .rp t,cs,K=>match cs with
  | v::r=>rpC t v fun x=>K x r
  | _=> .fail
 | .fn f ts,cs,K=>match cs with
  | .clos g caps::r=>bif Nat.beq g f then Ea ts caps fun x=>K x r else .fail
  | .fnv g::r=>bif Nat.beq g f then Ea ts [] fun x=>K x r else .fail
  | _=> .fail
 | .ifc t m,cs,K=>match cs with
  | .ifc t' v::r=>bif Nat.beq t' t then exM sD m [v] fun x q=>(match q with | []=>K x r | _=> .fail)else .fail
  | _=> .fail
 | .cell (some none),cs,K=>match cs with
  | .nl::r=>K () r
  | _=> .fail
 | .cell (some (some b)),cs,K=>match cs with
  | .ne true::r=>bif b then K () r else .fail
  | .ne false::r=>bif b then .fail else K () r
  | _=> .fail
 | .cell none,cs,K=>match cs with
  | _::r=>K () r
  | _=> .fail
def cellsOf (v:V):List V:=match v with | .agg cs=>cs | v=>[v]
def qC {α:Type} (n:Nat) (v:V) (K:Cmd α):Cmd α:=.get (BOX+n) fun
 | .undef=> .set (BOX+n) v K
 | _=> .fail
def emM {α:Type} :(m:M)→m.den→Nat→List V→(List V→Nat→Cmd α)→Cmd α
 | .dat t,x,n,r,K=>K (flat t x r) n
 | .own t,xs,n,r,K=>qC n (.barr t xs) (K (.own n none::r) (n+1))
 | .pair a b,x,n,r,K=>emM b x.2 n r fun r' n' =>emM a x.1 n' r' K
 | .unit,_,n,r,K=>K r n
 | .box m,x,n,r,K=>emM m x (n+1) [] fun cs n' =>qC n (.bcells cs) (K (.ptr n 0::r) n')
 | .owns m,xs,n,r,K=>qC n (.barrs m xs none) (.set (BOX+(GZ+n)) (.blen (o8 xs) m.size) (K (.own n none::r) (n+1)))
 | .ownb t,xs,n,r,K=>qC n (.barr t xs) (K (.own n none::r) (n+1))
 | .rp t,x,n,r,K=>K (.dp t x 0::r) n
 | .fn f ts,x,n,r,K=>K (.clos f (IZ ts x)::r) n
 | .ifc t m,x,n,r,K=>emM m x n [] fun cs n' =>match cs with | [c]=>K (.ifc t c::r) n' | _=> .fail
 | .cell (some none),_,n,r,K=>K (.nl::r) n
 | .cell (some (some b)),_,n,r,K=>K (.ne b::r) n
 | .cell none,_,n,r,K=>K (.undef::r) n
structure Sig where
 ms:List (Nat×MG)
 als:List (Nat×Nat)
@[reducible] def iF (s:Sig):Type:=aK (s.ms.map (·.2))
def Lu {α:Type} (ag:Bool) (v:V) (K:List V→Cmd α):Cmd α:=match ag,v with
 | true,.agg cs=>K cs
 | true,_=> .fail
 | false,.agg _=> .fail
 | false,.tup _=> .fail
 | false,.undef=> .fail
 | false,.un=> .fail
 | false,v=>K [v]
def yA {α:Type} (v:V) (K:List V→Cmd α):Cmd α:=match v with
 | .agg cs=>K cs
 | .tup _=> .fail
 | .undef=> .fail
 | .un=> .fail
 | v=>K [v]
def M.isDat:M→Bool | .dat _=>true | _=>false
def MH {α:Type} (ln:Ty→Bool) (m:MG) (v:V) (K:m.2.den→Cmd α):Cmd α:=
 Lu m.1 v fun cs=>exM ln m.2 cs fun x q=>match q with | []=>K x | _=> .fail
def Dz {α:Type} (ln:Ty→Bool):(ms:List MG)→List V→(aK ms→Cmd α)→Cmd α
 | [],vs,K=>match vs with | []=>K () | _=> .fail
 | [m],vs,K=>match vs with
  | [v]=>MH ln m v K
  | _=> .fail
 | m::m' ::r,vs,K=>match vs with
  | v::vs=>bif m.2.isDat then Dz ln (m' ::r) vs fun y=>MH ln m v fun x=>K (x,y)
   else MH ln m v fun x=>Dz ln (m' ::r) vs fun y=>K (x,y)
  | []=> .fail
def RZ {α:Type} :List Nat→(List V→Cmd α)→Cmd α
 | [],K=>K []
 | s::r,K=>bif Nat.blt s BOX then .get s fun v=>RZ r fun vs=>K (v::vs)else .fail
def b2F:V→V→Bool
 | .own a none,.own b none=>Nat.beq a b
 | _,_=>false
def a7v {α:Type} :List (Nat×Nat)→Cmd α→Cmd α
 | [],K=>K
 | (n,k)::r,K=>bif Nat.blt n BOX&&Nat.blt k BOX then .get n fun v=> .get k fun u=>bif b2F v u then a7v r K else .fail else .fail
def a3D (s:Sig):Cmd (iF s):=a7v s.als (RZ (s.ms.map (·.1)) fun vs=>Dz sD (s.ms.map (·.2)) vs .ret)
def mkV (ag:Bool) (cs:List V):V:=match ag,cs with | true,cs=> .agg cs | false,[v]=>v | false,_=> .undef
def Dy {α:Type} :(ms:List MG)→aK ms→Nat→(List V→Nat→Cmd α)→Cmd α
 | [],_,n,K=>K [] n
 | [m],x,n,K=>emM m.2 x n [] fun cs n' =>K [mkV m.1 cs] n'
 | m::m' ::r,x,n,K=>emM m.2 x.1 n [] fun cs n' =>Dy (m' ::r) x.2 n' fun vs n'' =>K (mkV m.1 cs::vs) n''
def OI:List Nat→List V→Cmd Unit
 | [],[]=> .ret ()
 | n::ns,v::vs=>bif Nat.blt n BOX then .set n v (OI ns vs)else .fail
 | _,_=> .fail
def KP:List Nat→List V→Cmd Unit→Cmd Unit
 | [],[],K=>K
 | n::ns,v::vs,K=>bif Nat.blt n BOX then .set n v (KP ns vs K)else .fail
 | _,_,_=> .fail
def TL:List (Nat×Nat)→Cmd Unit
 | []=> .ret ()
 | (n,k)::r=>bif Nat.blt n BOX&&Nat.blt k BOX then .get k fun v=> .set n v (TL r)else .fail
def a3s (s:Sig) (x:iF s) (nb lim:Nat):Cmd Unit:=
 Dy (s.ms.map (·.2)) x nb fun vs n=>bif Nat.ble n lim then KP (s.ms.map (·.1)) vs (TL s.als)else .fail
def Xi:Value→V
 | .bool b=> .b b
 | .int k n=> .i k n
 | .string s=> .s s.data.toList
 | .slice none 0 0=> .nl
 | _=> .undef
def iO {α:Type} (x:Operand) (K:V→Cmd α):Cmd α:=
 match x with
 | .tmp t=>bif Nat.blt t BOX then .get t K else .fail
 | .const v=>K (Xi v)
 | .global g=>K (.glob g)
 | .func f=>K (.fnv f)
def Jy {α:Type} :List Operand→(List V→Cmd α)→Cmd α
 | [],K=>K []
 | x::r,K=>iO x fun v=>Jy r fun vs=>K (v::vs)
def Me (n:Nat) (cs:List V):Option (List V):=match n,cs with
 | 0,cs=>some cs
 | n+1,_::cs=>Me n cs
 | _+1,[]=>none
def WO {R:Type u} (n:Nat) (cs:List V) (K:List V→R) (f:R):R:=match n,cs with
 | 0,_=>K []
 | n+1,c::cs=>WO n cs (fun r=>K (c::r)) f
 | _+1,[]=>f
def PQ {R:Type u} (off n:Nat) (cs:List V) (K:List V→R) (f:R):R:=match Me off cs with | some r=>WO n r K f | none=>f
def IB {R:Type u} (off:Nat) (vs cs:List V) (K:List V→R) (f:R):R:=match off,vs,cs with
 | 0,[],cs=>K cs
 | 0,v::vs,_::cs=>IB 0 vs cs (fun r=>K (v::r)) f
 | n+1,vs,c::cs=>IB n vs cs (fun r=>K (c::r)) f
 | _,_,[]=>f
def uJ:Operand→Bool
 | .const (.int _ n)=>decide (n=0)
 | _=>true
def xP:Operand→Bool
 | .const (.int _ n)=>decide (n<0)
 | _=>true
def eq1:V→V→Option Bool
 | .b x,.b y=>some (bZ x y)
 | .i j x,.i k y=>bif decide (j=k)then some (ieq x y)else none
 | .s x,.s y=>some (seq x y)
 | _,_=>none
def qJ:List V→List V→Option Bool
 | [],[]=>some true
 | a::r,b::q=>match eq1 a b with
  | none=>none
  | some e=>match r,q with
   | [],[]=>some e
   | _,_=>(match qJ r q with | some e' =>some (V8 e e') | none=>none)
 | _,_=>none
def rq:List Ty→List V→Bool
 | [],[]=>true
 | .bool::ts,.b _::cs=>rq ts cs
 | .int k::ts,.i k' _::cs=>decide (k=k')&&rq ts cs
 | .str::ts,.s _::cs=>rq ts cs
 | _,_=>false
def vH (n:Nat):List Nat→Bool | []=>false | k::r=>bif Nat.beq k n then true else vH n r
def a4n {α:Type} (E:Env) (t:Nat) (op:BinOp) (b:Bool) (K:V→Cmd α):Cmd α:=
 match Y3 E.tt t with
 | some i=>match i.td,op with
  | .sl _,.eql=>K (.b b)
  | .sl _,.neq=>K (.b (E5 b))
  | _,_=> .fail
 | none=> .fail
def Ae {α:Type} (E:Env) (t:Nat) (op:BinOp) (yc:Operand) (x y:V) (K:V→Cmd α):Cmd α:=
 match x,y with
 | .i k a,.i k' b=>
  match op with
  | .shl=>bif xP yc then Cmd.opt (Na k a b) fun r=>K (.i k r)else K (.i k (a3M k a b))
  | .shr=>bif xP yc then Cmd.opt (Nb k a b) fun r=>K (.i k r)else K (.i k (jA k a b))
  | _=>
  bif decide (k=k')then
   match op with
   | .add=>K (.i k (A7 k a b))
   | .sub=>K (.i k (G8 k a b))
   | .mul=>K (.i k (W9 k a b))
   | .quo=>bif uJ yc then Cmd.opt (uZ k a b) fun r=>K (.i k r)else K (.i k (aN k a b))
   | .rem=>bif uJ yc then Cmd.opt (AO a b) fun r=>K (.i k r)else K (.i k (dV a b))
   | .and=>K (.i k (Va k a b))
   | .or=>K (.i k (ior k a b))
   | .xor=>K (.i k (a3O k a b))
   | .andNot=>K (.i k (ZH k a b))
   | .eql=>K (.b (ieq a b))
   | .neq=>K (.b (E5 (ieq a b)))
   | .lss=>K (.b (ilt a b))
   | .leq=>K (.b (ile a b))
   | .gtr=>K (.b (ilt b a))
   | .geq=>K (.b (ile b a))
   | _=> .fail
  else .fail
 | .s a,.s b=>
  match op with
  | .add=>Cmd.opt (c1V a b) fun r=>K (.s r)
  | .eql=>K (.b (seq a b))
  | .neq=>K (.b (E5 (seq a b)))
  | .lss=>K (.b (slt a b))
  | _=> .fail
 | .b a,.b b=>
  match Y3 E.tt t with
  | some i=>match i.td,op with
   | .bool,.eql=>K (.b (bZ a b))
   | .bool,.neq=>K (.b (E5 (bZ a b)))
   | _,_=> .fail
  | none=> .fail
 | .agg xs,.agg ys=>
  match Y3 E.eqs t with
  | some sh=>bif rq sh xs&&rq sh ys then(match op,qJ xs ys with
   | .eql,some e=>K (.b e)
   | .neq,some e=>K (.b (E5 e))
   | _,_=> .fail)else .fail
  | none=> .fail
 | .nl,.nl=>a4n E t op true K
 | .ne b,.nl=>a4n E t op b K
 | .sl u xs,.nl=>bif u.isEnt then .fail else .br (ieq (o8 xs) 0) .fail (a4n E t op false K)
 | _,_=> .fail
def unC {α:Type} (op:UnOp) (x:V) (K:V→Cmd α):Cmd α:=
 match op,x with
 | .neg,.i k a=>K (.i k (G8 k 0 a))
 | .xor,.i k a=>K (.i k (a3O k (bif k.signed then -1 else k.max) a))
 | .not,.b a=>K (.b (E5 a))
 | _,_=> .fail
def QP (E:Env) (t:Nat):Bool:=bif Nat.blt t E.nt then !(vH t E.kp)else false
def Z9 (E:Env) (d:Option Tmp) (v:V):Cmd Unit:=match d with | some t=>bif QP E t then .set t v (.ret ())else .fail | none=> .ret ()
def H5 (q:Nat) (d:Option Tmp):Nat:=match d with | some t=>CB*q+64*t | none=>CB*q+999936
def tiC {α:Type} (E:Env) (t:Nat) (K:TI→Cmd α):Cmd α:=match Y3 E.tt t with | some i=>K i | none=> .fail
def U4:TD→Bool | .struct _ | .arr _ _=>true | _=>false
def DF {α:Type} (E:Env) (t:Nat) (p:V) (K:V→Cmd α):Cmd α:=
 tiC E t fun i=>match p with
 | .ptr bx off=> .get (BOX+bx) fun
  | .bcells cs=>PQ off i.size cs (fun r=>K (mkV (U4 i.td) r)) Cmd.fail
  | .bfc u x=>PQ off i.size (flat u x []) (fun r=>K (mkV (U4 i.td) r)) Cmd.fail
  | _=> .fail
 | .ep bx idx off=> .get (BOX+bx) fun
  | .barr u xs=>Cmd.opt (L8 xs idx) fun x=>PQ off i.size (flat u x []) (fun r=>K (mkV (U4 i.td) r)) Cmd.fail
  | .bfrz u xs=>Cmd.opt (L8 xs idx) fun x=>PQ off i.size (flat u x []) (fun r=>K (mkV (U4 i.td) r)) Cmd.fail
  | .barrs m xs _=>Cmd.opt (L8 xs idx) fun x=>PQ off i.size (zG m x []) (fun r=>K (mkV (U4 i.td) r)) Cmd.fail
  | _=> .fail
 | .dp u x off=>PQ off i.size (flat u x []) (fun r=>K (mkV (U4 i.td) r)) Cmd.fail
 | _=> .fail
def NW {R:Type u} :(m:M)→Nat→m.den→(V→R)→R→R
 | .own t,off,xs,K,f=>bif Nat.beq off 0 then K (.barr t xs)else f
 | .owns m,off,xs,K,f=>bif Nat.beq off 0 then K (.barrs m xs none)else f
 | .pair a b,off,x,K,f=>bif Nat.blt off a.size then NW a off x.1 K f else NW b (off -a.size) x.2 K f
 | _,_,_,_,f=>f
def XH {R:Type u} :(m:M)→Nat→V→m.den→(m.den→R)→R→R
 | .own t,off,v,_,K,f=>bif Nat.beq off 0 then(match v with | .barr t' ys=>Ty.castL t' t ys K f | .nl=>bif t.isEnt then f else K [] | _=>f)else f
 | .owns m,off,v,_,K,f=>bif Nat.beq off 0 then(match v with | .barrs m' ys none=>Zu m' m ys K f | .nl=>K [] | _=>f)else f
 | .pair a b,off,v,x,K,f=>bif Nat.blt off a.size then XH a off v x.1 (fun y=>K (y,x.2)) f else XH b (off -a.size) v x.2 (fun y=>K (x.1,y)) f
 | _,_,_,_,_,f=>f
def a1q {α:Type} :(m:M)→Nat→List V→m.den→(m.den→Cmd α)→Cmd α
 | .dat t,off,vs,x,K=>bif t.flat then IB off vs (flat t x []) (fun r=>gJ sD t r fun y q=>match q with | []=>K y | _=> .fail) .fail else .fail
 | .pair a b,off,vs,x,K=>bif Nat.blt off a.size then a1q a off vs x.1 (fun y=>K (y,x.2))else a1q b (off -a.size) vs x.2 (fun y=>K (x.1,y))
 | _,_,_,_,_=> .fail
def M.ownAt:M→Nat→Bool
 | .own _,off=>Nat.beq off 0
 | .owns _,off=>Nat.beq off 0
 | .pair a b,off=>bif Nat.blt off a.size then a.ownAt off else b.ownAt (off -a.size)
 | _,_=>false
def Sj (h:Option (Nat×Nat×Option Nat)) (idx off:Nat):Bool:=match h with | none=>true | some (i,o,_)=>bif Nat.beq o off then Et i idx else false
def a9r {α:Type} (E:Env) (d:Option Tmp) (nm t:Nat) (p:V) (K:V→Cmd α):Cmd α:=
 match p with
 | .ep bx idx off=> .get (BOX+bx) fun
  | .barrs m xs none=>bif m.ownAt off then tiC E t fun i=>(bif Nat.beq i.size 1&&!U4 i.td then
     (bif vH (match d with | some d=>d | none=>BOX) E.tk then
      Cmd.opt (L8 xs idx) fun x=>NW m off x (fun v=>Cmd.set (BOX+bx) (.barrs m xs (some (idx,off,none))) (qC nm v (Cmd.set (BOX+bx) (.barrs m xs (some (idx,off,some nm))) (K (.own nm none))))) .fail
     else gJ sD (.sl m.ty) [.own bx none] fun _ _=>DF E t p K)else .fail)
    else DF E t p K
  | .barrs m xs (some (i,o,some n))=>bif m.ownAt off then tiC E t fun j=>(bif Nat.beq j.size 1&&!U4 j.td then
     .br (Sj (some (i,o,some n)) idx off) (K (.own n none)) .fail else .fail)
    else DF E t p K
  | _=>DF E t p K
 | _=>DF E t p K
def TU (bx idx off:Nat) (m:M) (xs:List m.den) (hole:Option (Nat×Nat×Option Nat)) (v:V) (K:Cmd Unit):Cmd Unit:=
 .br (Sj hole idx off) (Cmd.opt (L8 xs idx) fun x=>XH m off v x (fun y=>Cmd.set (BOX+bx) (.barrs m (U5 xs idx y) none) K) .fail) .fail
def b7J:V→Bool | .barr ..=>true | .barrs _ _ none=>true | _=>false
def a6X (E:Env) (t:Nat) (p v:V):Cmd Unit:=
 tiC E t fun i=>match p with
 | .ptr bx off=> .get (BOX+bx) fun
  | .bcells cs=>yA v fun vs=>bif Nat.beq vs.length i.size then IB off vs cs (fun r=>Cmd.set (BOX+bx) (.bcells r) (.ret ())) Cmd.fail else .fail
  | _=> .fail
 | .ep bx idx off=> .get (BOX+bx) fun
  | .barr u xs=>Cmd.opt (L8 xs idx) fun x=>yA v fun vs=>bif Nat.beq vs.length i.size then IB off vs (flat u x []) (fun r=>
    gJ sD u r fun y q=>match q with
     | []=> .get (BOX+bx) fun
      | .barr u' xs' =>Ty.castL u' u xs' (fun xs' =>Cmd.set (BOX+bx) (.barr u (U5 xs' idx y)) (.ret ())) Cmd.fail
      | _=> .fail
     | _=> .fail) Cmd.fail else .fail
  | .barrs m xs hole=>bif m.ownAt off&&Nat.beq i.size 1&&!U4 i.td then(match v with
    | .nl=>TU bx idx off m xs hole .nl (.ret ())
    | .own b2 none=> .get (BOX+b2) fun w=>bif b7J w then Cmd.set (BOX+b2) .dead (.get (BOX+bx) fun
     | .barrs m xs hole=>TU bx idx off m xs hole w (.ret ())
     | _=> .fail)else .fail
    | _=> .fail)
   else match hole with
    | none=>yA v fun vs=>bif Nat.beq vs.length i.size then Cmd.opt (L8 xs idx) fun x=>a1q m off vs x fun y=>Cmd.set (BOX+bx) (.barrs m (U5 xs idx y) none) (.ret ())else .fail
    | some _=> .fail
  | _=> .fail
 | _=> .fail
def szB (sz:Nat) (u:Ty):Bool:=bif u.isEnt then false else Nat.beq sz u.size
def Aq (E:Env) (t f:Nat):Option (Nat×Nat×Bool):=
 match Y3 E.tt t with
 | some i=>match i.td with
  | .struct fs=>match fs[f]? with
   | some (ft,off)=>match Y3 E.tt ft with | some j=>bif Nat.beq j.size 0 then none else some (off,j.size,U4 j.td) | none=>none
   | none=>none
  | _=>none
 | none=>none
def Vm (vw:Option (Nat×Nat)):Nat:=match vw with | none=>0 | some (lo,_)=>lo
def b4b (vw:Option (Nat×Nat)) (n:Nat):Nat:=match vw with | none=>n | some (lo,_)=>lo+n
theorem a8b (vw:Option (Nat×Nat)) (n:Nat):b4b vw n=Vm vw+n:=by cases vw <;> simp[b4b,Vm]
def yD (E:Env) (t:Nat):Option (Bool×Nat×Nat):=
 match Y3 E.tt t with
 | some i=>match i.td with
  | .sl e=>match Y3 E.tt e with | some j=>some (false,0,j.size) | none=>none
  | .arr n e=>match Y3 E.tt e with | some j=>some (true,n,j.size) | none=>none
  | _=>none
 | none=>none
def MX {α:Type} (E:Env) (t:Nat) (x ix:V) (K:V→Cmd α):Cmd α:=
 match ix,yD E t with
 | .i _ n,some (false,_,sz)=>match x with
  | .sl u xs=>bif szB sz u then Cmd.opt (lat xs n) fun y=>K (.dp u y 0)else .fail
  | .own bx vw=> .get (BOX+(GZ+bx)) fun
   | .blen ln sz' =>(match vw with | none=>bif Nat.beq sz sz' then .br (inb n ln) (K (.ep bx (toN n) 0)) .fail else .fail | _=> .fail)
   | _=> .get (BOX+bx) fun
   | .barr u xs=>bif szB sz u then Cmd.opt (lat (aX vw xs) n) fun _=>K (.ep bx (b4b vw (toN n)) 0)else .fail
   | .bfrz u xs=>bif szB sz u then Cmd.opt (lat (aX vw xs) n) fun y=>K (.dp u y 0)else .fail
   | .barrs m xs _=>(match vw with | none=>bif Nat.beq sz m.size then Cmd.opt (lat xs n) fun _=>K (.ep bx (toN n) 0)else .fail | _=> .fail)
   | _=> .fail
  | _=> .fail
 | .i _ n,some (true,l,sz)=>match x with
  | .glob g=>match Y3 E.gl g with
   | some ⟨u,xs⟩=>bif Nat.beq sz u.size&&Nat.beq l xs.length then Cmd.opt (lat xs n) fun y=>K (.dp u y 0)else .fail
   | none=> .fail
  | _=> .fail
 | _,_=> .fail
def b7L {α:Type} (td:TD) (x:V) (K:V→Cmd α):Cmd α:=
 match td,x with
 | .str,.s l=>K (.i .i64 (o8 l))
 | .sl _,.sl t xs=>bif t.isEnt then .fail else K (.i .i64 (o8 xs))
 | .map ..,.sl t xs=>bif t.isEnt then K (.i .i64 (o8 xs))else .fail
 | .map ..,.own bx none=> .get (BOX+bx) fun
  | .barr t xs=>bif t.isEnt then K (.i .i64 (o8 xs))else .fail
  | .bfrz t xs=>bif t.isEnt then K (.i .i64 (o8 xs))else .fail
  | _=> .fail
 | .sl _,.nl=>K (.i .i64 0)
 | .sl _,.own bx vw=> .get (BOX+(GZ+bx)) fun
  | .blen ln _=>(match vw with | none=>K (.i .i64 ln) | _=> .fail)
  | _=> .get (BOX+bx) fun
  | .barr t xs=>bif t.isEnt then .fail else K (.i .i64 (o8 (aX vw xs)))
  | .bfrz t xs=>bif t.isEnt then .fail else K (.i .i64 (o8 (aX vw xs)))
  | .barrs _ xs _=>(match vw with | none=>K (.i .i64 (o8 xs)) | _=> .fail)
  | _=> .fail
 | _,_=> .fail
def rJ (d:Int):Option V→Option Int
 | none=>some d
 | some (.i _ n)=>some n
 | some _=>none
def IV {α:Type} (E:Env) (t:Nat) (x:V) (lo hi:Option V) (K:V→Cmd α):Cmd α:=
 match x with
 | .s l=>tiC E t fun i=>match i.td,rJ 0 lo,rJ (o8 l) hi with
  | .str,some a,some b=>Cmd.opt (AU l a b) fun r=>K (.s r)
  | _,_,_=> .fail
 | .sl u l=>match yD E t,rJ 0 lo,rJ (o8 l) hi with
  | some (false,_,sz),some a,some b=>bif szB sz u then Cmd.opt (AU l a b) fun r=>K (.sl u r)else .fail
  | _,_,_=> .fail
 | .own bx none=> .get (BOX+bx) fun
  | .barr u xs=>match yD E t,rJ 0 lo,rJ (o8 xs) hi with
   | some (false,_,sz),some a,some b=>bif szB sz u then .br (jG a b (o8 xs)) (K (.own bx (some (toN a,toN b)))) .fail else .fail
   | _,_,_=> .fail
  | .bfrz u xs=>match yD E t,rJ 0 lo,rJ (o8 xs) hi with
   | some (false,_,sz),some a,some b=>bif szB sz u then .br (jG a b (o8 xs)) (K (.own bx (some (toN a,toN b)))) .fail else .fail
   | _,_,_=> .fail
  | _=> .fail
 | _=> .fail
def yF (E:Env) (t:Nat):Option (Nat×Ty):=
 match Y3 E.tt t with
 | some i=>match i.td with
  | .sl e=>match Y3 E.tt e with
   | some j=>match j.ty with | some u=>bif (Nat.beq u.size j.size&&Nat.ble j.bytes 65536&&!u.isEnt)then some (e,u)else none | none=>none
   | none=>none
  | _=>none
 | none=>none
def Zp (E:Env) (nm:Nat) (t:Nat) (x y:V) (K:V→Cmd Unit):Cmd Unit:=
 match yF E t with
 | none=> .fail
 | some (_,u)=>match Y3 E.om t with
  | none=>
   a2j u y fun ys=>
   match x with
   | .nl=>Cmd.opt (dE [] ys) fun zs=>qC nm (.barr u zs) (K (.own nm none))
   | .own bx vw=> .get (BOX+bx) fun
    | .barr u' xs=>Ty.castL u' u xs (fun xs=>Cmd.opt (dE (aX vw xs) ys) fun zs=>Cmd.set (BOX+bx) .dead (qC nm (.barr u zs) (K (.own nm none)))) Cmd.fail
    | _=> .fail
   | _=> .fail
  | some m=>bif Nat.beq m.size u.size then exM sD (.owns m) [y] fun ys _=>exM sD (.owns m) [x] fun xs _=>Cmd.opt (dE xs ys) fun zs=>qC nm (.barrs m zs none) (K (.own nm none))else .fail
def pW {α:Type} (u:Ty):List (Nat×V)→Nat→Nat→(List u.den→Cmd α)→Cmd α
 | [],_,0,K=>K []
 | (i,v)::r,n,m+1,K=>bif Nat.beq i n then yA v fun cs=>gJ sD u cs fun x q=>match q with | []=>pW u r (n+1) m fun xs=>K (x::xs) | _=> .fail else .fail
 | _,_,_,_=> .fail
def lX {α:Type} (m:M):List (Nat×V)→Nat→Nat→(List m.den→Cmd α)→Cmd α
 | [],_,0,K=>K []
 | (i,v)::r,n,k+1,K=>bif Nat.beq i n then yA v fun cs=>exM sD m cs fun x q=>match q with | []=>lX m r (n+1) k fun xs=>K (x::xs) | _=> .fail else .fail
 | _,_,_,_=> .fail
def Zk (E:Env):List (Nat×Nat)→Bool
 | []=>true
 | (t,_)::r=>match Y3 E.tt t with | some _=>Zk E r | none=>false
def tX {α:Type} (E:Env) (t:Nat):List (Nat×V)→List V→(List V→Cmd α)→Cmd α
 | [],cs,K=>K cs
 | (f,v)::r,cs,K=>match Aq E t f with
  | some (off,n,_)=>yA v fun vs=>bif Nat.beq vs.length n then IB off vs cs (fun cs' =>tX E t r cs' K) .fail else .fail
  | none=> .fail
def V6 {α:Type} :List MG→List V→List V→Cmd α→Cmd α
 | (_,.box _)::ms,.ptr bx _::vs,.agg cs::os,K=> .get (BOX+bx) fun
  | .dead=>Cmd.set (BOX+bx) (.bcells cs) (V6 ms vs os K)
  | _=> .fail
 | (_,.box _)::_,_,_,_=> .fail
 | (_,.ifc _ (.box _))::ms,.ifc _ (.ptr bx _)::vs,.agg cs::os,K=> .get (BOX+bx) fun
  | .dead=>Cmd.set (BOX+bx) (.bcells cs) (V6 ms vs os K)
  | _=> .fail
 | (_,.ifc _ (.box _))::_,_,_,_=> .fail
 | (_,.ownb _)::ms,.own bx none::vs,.own nm none::os,K=> .get (BOX+nm) fun
  | .barr u xs=>Cmd.set (BOX+nm) .dead (.get (BOX+bx) fun
   | .gone t=>Ty.castL u t xs (fun xs=>Cmd.set (BOX+bx) (.barr t xs) (V6 ms vs os K)) .fail
   | _=> .fail)
  | _=> .fail
 | (_,.ownb _)::ms,.nl::vs,.own nm none::os,K=>Cmd.set (BOX+nm) .dead (V6 ms vs os K)
 | (_,.ownb _)::_,_,_,_=> .fail
 | _::ms,_::vs,os,K=>V6 ms vs os K
 | [],[],[],K=>K
 | _,_,_,_=> .fail
def Ty.occ (t:Ty):Ty→Bool
 | .sl u=>decide (t=u) || Ty.occ t u
 | .prod a b=>Ty.occ t a || Ty.occ t b
 | .ent _ _ a b=>Ty.occ t a || Ty.occ t b
 | _=>false
def Jv (t:Ty):List Ty→Bool | []=>false | u::r=>decide (t=u) || Ty.occ t u || Jv t r
def M.occ (t:Ty):M→Bool
 | .dat u=>Ty.occ t u
 | .own u=>Ty.occ t u
 | .pair a b=>a.occ t || b.occ t
 | .unit=>false
 | .box m=>m.occ t
 | .owns m=>m.occ t
 | .ownb u=>Ty.occ t u
 | .rp u=>decide (t=u) || Ty.occ t u
 | .fn _ ts=>Jv t ts
 | .ifc _ m=>m.occ t
 | .cell _=>false
def Bd (t:Ty):List MG→Bool | []=>false | m::r=>m.2.occ t || Bd t r
def Sv (s:FSpec):Ty→Bool:=fun t=> !(Bd t s.rs || Bd t s.outs)
def zl:Nat→List V→Option (List V×List V)
 | 0,vs=>some ([],vs)
 | n+1,v::vs=>match zl n vs with | some (a,b)=>some (v::a,b) | none=>none
 | _+1,[]=>none
def xu:List V→Bool | []=>false | .tup _::_=>true | _::r=>xu r
def a8z:List V→V | [v]=>v | vs=> .tup vs
def HY:List MG→List V→Bool
 | (_,.fn g _)::ms,.clos f _::vs=>Nat.beq f g&&HY ms vs
 | (_,.fn g _)::ms,.fnv f::vs=>Nat.beq f g&&HY ms vs
 | (_,.ifc t _)::ms,.ifc t' _::vs=>Nat.beq t t' &&HY ms vs
 | _::ms,_::vs=>HY ms vs
 | _,_=>true
def VP:List (Nat×FSpec)→Nat→List V→Option FSpec
 | [],_,_=>none
 | (g,s)::r,f,vs=>bif Nat.beq g f&&HY s.ps vs then some s else VP r f vs
def Qd (E:Env) (q:Nat) (d:Option Tmp) (f:Nat) (vs:List V):Cmd Unit:=
 match VP E.fs f vs with
 | none=> .fail
 | some s=>
  Dz (Sv s) s.ps vs fun x=>Cmd.opt (s.fn x) fun r=>
   Dy (s.rs++s.outs) r (H5 q d) fun ws n' =>bif Nat.ble n' (H5 q d+64)then(match zl s.rs.length ws with
    | some (a,o)=>bif xu a then .fail else V6 s.ps vs o (Z9 E d (a8z a))
    | none=> .fail)else .fail
def rH {α:Type} :List MG→List V→(List ((t:Ty)×t.den)→Cmd α)→Cmd α
 | (_,.rp t)::ms,v::vs,K=>rpC t v fun x=>rH ms vs fun cs=>K (⟨t,x⟩::cs)
 | [],[],K=>K []
 | _,_,_=> .fail
def b7s (c:(t:Ty)×t.den):V:=.dp c.1 c.2 0
def NE:List ((Nat×String)×Nat×Option Nat)→Nat→String→Option (Nat×Option Nat)
 | [],_,_=>none
 | ((t,n),r)::l,u,m=>bif Nat.beq t u&&(n==m)then some r else NE l u m
def Ty.leaves:Ty→List Ty
 | .prod a b=>a.leaves++b.leaves
 | .unit=>[]
 | t=>[t]
def IR:List Ty→List Ty→Bool
 | [],[]=>true
 | a::r,b::q=>bif Ty.beq a b then IR r q else false
 | _,_=>false
def Vd (E:Env) (ke:Nat) (td:TD) (k:Ty):Bool:=
 match td,k with
 | .bool,.bool=>true
 | .int i,.int j=>decide (i=j)
 | .str,.str=>true
 | .struct _,k=>bif k.flat then(match Y3 E.eqs ke with | some sh=>IR sh k.leaves | none=>false)else false
 | _,_=>false
structure MT where
 ke:Nat
 el:Nat
 ka:Bool
 va:Bool
 k:Ty
 v:Ty
abbrev MT.ent (m:MT):Ty:=.ent m.ka m.va m.k m.v
def FC (E:Env) (t:Nat):Option MT:=
 match Y3 E.tt t with
 | some i=>match i.td with
  | .map ke el=>match Y3 E.tt ke,Y3 E.tt el with
   | some a,some b=>(match a.ty,b.ty with
    | some k,some v=>bif Vd E ke a.td k&&k.flat then some ⟨ke,el,U4 a.td,U4 b.td,k,v⟩else none
    | _,_=>none)
   | _,_=>none
  | _=>none
 | none=>none
def a3l {α:Type} (ag:Bool) (t:Ty) (v:V) (K:t.den→Cmd α):Cmd α:=
 Lu ag v fun cs=>gJ sD t cs fun x q=>match q with | []=>K x | _=> .fail
def a4M {α:Type} (u:Ty) (v:V) (K:List u.den→Cmd α):Cmd α:=
 match v with
 | .sl t xs=>Ty.castL t u xs K .fail
 | .own bx none=> .get (BOX+bx) fun
  | .barr t xs=>Ty.castL t u xs K .fail
  | .bfrz t xs=>Ty.castL t u xs K .fail
  | _=> .fail
 | _=> .fail
def AX (E:Env) (nm t:Nat) (K:V→Cmd Unit):Cmd Unit:=
 match FC E t with
 | some m=>qC nm (.barr m.ent []) (K (.own nm none))
 | none=> .fail
def ZP (E:Env) (t:Nat) (ok:Bool) (x ix:V) (K:V→Cmd Unit):Cmd Unit:=
 match FC E t with
 | some m=>a3l m.ka m.k ix fun key=>a4M m.ent x fun es=>
   bif ok then K (.tup [mkV m.va (flat m.v (gG (keq m.k) es key m.v.zero) []),.b (FD (keq m.k) es key)])
   else K (mkV m.va (flat m.v (gG (keq m.k) es key m.v.zero) []))
 | none=> .fail
def TZ (E:Env) (t:Nat) (x ix y:V):Cmd Unit:=
 match FC E t with
 | some m=>a3l m.ka m.k ix fun key=>a3l m.va m.v y fun z=>match x with
  | .own bx none=> .get (BOX+bx) fun
   | .barr u xs=>Ty.castL u m.ent xs (fun es=>Cmd.set (BOX+bx) (.barr m.ent (qc (keq m.k) es key z)) (.ret ())) .fail
   | _=> .fail
  | _=> .fail
 | none=> .fail
def Ju:M→List V→Bool
 | .dat _,_=>true
 | .unit,_=>true
 | .own t,cs=>match cs with | .nl::_=> !t.isEnt | _=>false
 | .owns _,cs=>match cs with | .nl::_=>true | _=>false
 | .pair a b,cs=>match Me a.size cs with | some r=>bif Ju a cs then Ju b r else false | none=>false
 | _,_=>false
def a1d (E:Env) (t:Nat) (m:M):Bool:=
 match yF E t with
 | some (e,_)=>match Y3 E.tt e with | some j=>bif Nat.beq j.zero.length j.size then Ju m j.zero else false | none=>false
 | none=>false
def OD:Operand→Operand→Bool
 | .tmp a,.tmp b=>Nat.beq a b
 | _,_=>false
def V7 (E:Env) (q:Nat) (o:Oper):Cmd Unit:=
 match o.op with
 | .move x | .assign x=>iO x fun v=>Z9 E o.dst v
 | .pick c a b=>iO c fun
  | .b t=>bif t then iO a fun va=>Z9 E o.dst va else iO b fun vb=>Z9 E o.dst vb
  | _=> .fail
 | .alloc t=>tiC E t fun i=>bif Nat.beq i.zero.length i.size then qC (H5 q o.dst) (.bcells i.zero) (Z9 E o.dst (.ptr (H5 q o.dst) 0))else .fail
 | .box _ x=>iO x fun v=>yA v fun cs=>qC (H5 q o.dst) (.bcells cs) (Z9 E o.dst (.ptr (H5 q o.dst) 0))
 | .build t ps=>tiC E t fun i=>match i.td with
  | .struct fs=>bif Zk E fs&&Nat.beq i.zero.length i.size then(Jy (ps.toList.map (·.2)) fun vs=>
    tX E t ((ps.toList.map (·.1)).zip vs) i.zero (fun cs=>Z9 E o.dst (.agg cs)))else .fail
  | _=> .fail
 | .buildSlice t n ps=>match yF E t with
  | some (_,u)=>bif Nat.ble (n*u.size) 16777216 then(Jy (ps.toList.map (·.2)) fun vs=>match Y3 E.om t with
    | none=>pW u ((ps.toList.map (·.1)).zip vs) 0 n fun xs=>qC (H5 q o.dst) (.barr u xs) (Z9 E o.dst (.own (H5 q o.dst) none))
    | some m=>bif Nat.beq m.size u.size&&m.el then lX m ((ps.toList.map (·.1)).zip vs) 0 n fun xs=>qC (H5 q o.dst) (.barrs m xs none) (Z9 E o.dst (.own (H5 q o.dst) none))else .fail)else .fail
  | none=> .fail
 | .load t x=>iO x fun p=>a9r E o.dst (H5 q o.dst) t p fun v=>Z9 E o.dst v
 | .store t x y=>match o.dst with | none=>iO x fun p=>iO y fun v=>a6X E t p v | some _=> .fail
 | .binOp op t x y _=>iO x fun a=>iO y fun b=>Ae E t op y a b fun v=>Z9 E o.dst v
 | .unOp op _ x=>iO x fun a=>unC op a fun v=>Z9 E o.dst v
 | .convert src t x=>iO x fun a=>tiC E src fun j=>tiC E t fun i=>match a,i.td with
  | .i _ n,.int k=>Z9 E o.dst (.i k (wrap k n))
  | .s l,.str=>Z9 E o.dst (.s l)
  | _,.str=>(match j.td with
   | .sl e=>tiC E e fun k=>(match k.td with
    | .int .u8=>a2j (.int .u8) a fun xs=>Z9 E o.dst (.s (a3h xs))
    | _=> .fail)
   | _=> .fail)
  | _,_=> .fail
 | .makeSlice t l c=>match Y3 E.om t with
  | some m=>(match yF E t with
   | some (_,u)=>iO l fun
    | .i _ n=>bif OD l c&&Nat.beq m.size u.size&&a1d E t m then(if h:m.el=true∧m.ty=u then Cmd.opt (jH n (m.zero h.1)) fun xs=>qC (H5 q o.dst) (.barrs m xs none) (.set (BOX+(GZ+H5 q o.dst)) (.blen (o8 xs) m.size) (Z9 E o.dst (.own (H5 q o.dst) none)))else .fail)else .fail
    | _=> .fail
   | none=> .fail)
  | none=>match yF E t with
  | some (_,u)=>iO l fun
   | .i _ n=>bif OD l c then
     Cmd.opt (jH n u.zero) fun xs=>qC (H5 q o.dst) (.barr u xs) (Z9 E o.dst (.own (H5 q o.dst) none))
    else iO c fun
     | .i _ k=>Cmd.br (jG n k 1073741824) (Cmd.opt (jH n u.zero) fun xs=>qC (H5 q o.dst) (.barr u xs) (Z9 E o.dst (.own (H5 q o.dst) none))) .fail
     | _=> .fail
   | _=> .fail
  | none=> .fail
 | .slice t x lo hi none=>iO x fun v=>Jy (lo.toList++hi.toList) fun bs=>
   match lo,hi,bs with
   | none,none,[]=>IV E t v none none fun r=>Z9 E o.dst r
   | some _,none,[a]=>IV E t v (some a) none fun r=>Z9 E o.dst r
   | none,some _,[b]=>IV E t v none (some b) fun r=>Z9 E o.dst r
   | some _,some _,[a,b]=>IV E t v (some a) (some b) fun r=>Z9 E o.dst r
   | _,_,_=> .fail
 | .fieldAddr t x f=>iO x fun p=>match Aq E t f with
  | some (off,_,_)=>match p with
   | .ptr bx o' =>Z9 E o.dst (.ptr bx (o' +off))
   | .ep bx ix o' =>Z9 E o.dst (.ep bx ix (o' +off))
   | .dp u y o' =>Z9 E o.dst (.dp u y (o' +off))
   | _=> .fail
  | none=> .fail
 | .field t x f=>iO x fun p=>match Aq E t f with
  | some (off,n,ag)=>Lu true p fun ps=>PQ off n ps (fun cs=>Z9 E o.dst (mkV ag cs)) Cmd.fail
  | none=> .fail
 | .indexAddr t x ix=>iO x fun v=>iO ix fun n=>MX E t v n fun r=>Z9 E o.dst r
 | .index t x ix=>iO x fun v=>iO ix fun n=>tiC E t fun i=>match i.td,v,n with
  | .str,.s l,.i _ k=>Cmd.opt (sat l k) fun c=>Z9 E o.dst (.i .u8 c)
  | _,_,_=> .fail
 | .extract x n=>iO x fun
  | .tup vs=>match vs[n]? with | some v=>Z9 E o.dst v | none=> .fail
  | _=> .fail
 | .nilCheck x=>iO x fun v=>match v with
  | .ptr .. | .ep .. | .dp .. | .glob _=>Z9 E o.dst v
  | _=> .fail
 | .call c=>Jy c.args.toList fun vs=>match c.callee with
  | .builtin .len=>(match c.argTypes.toList,vs with
   | t::_,[x]=>tiC E t fun i=>b7L i.td x fun v=>Z9 E o.dst v
   | _,_=> .fail)
  | .builtin .append=>(match c.argTypes.toList,vs with
   | [t,t'],[x,y]=>bif Nat.beq t t' then Zp E (H5 q o.dst) t x y fun v=>Z9 E o.dst v else .fail
   | _,_=> .fail)
  | .builtin .min=>(match vs with | [.i k a,.i k' b]=>bif decide (k=k')then Z9 E o.dst (.i k (kG a b))else .fail | _=> .fail)
  | .builtin .max=>(match vs with | [.i k a,.i k' b]=>bif decide (k=k')then Z9 E o.dst (.i k (gV a b))else .fail | _=> .fail)
  | .value (.func f)=>Qd E q o.dst f vs
  | .value x=>iO x fun
   | .clos f caps=>Qd E q o.dst f (vs++caps.map b7s)
   | _=> .fail
  | .invoke x n=>iO x fun
   | .ifc t v=>(match NE E.ms t n with
    | some (f,none)=>Qd E q o.dst f (v::vs)
    | some (f,some e)=>DF E e v fun r=>Qd E q o.dst f (r::vs)
    | none=> .fail)
   | _=> .fail
  | _=> .fail
 | .makeFunc (.func f) first caps=>bif Nat.beq first.size 0 then(match Y3 E.fs f with
   | some s=>Jy caps.toList fun vs=>rH (s.ps.drop (s.ps.length -vs.length)) vs fun cs=>Z9 E o.dst (.clos f cs)
   | none=> .fail)else .fail
 | .makeInterface t x=>tiC E t fun i=>(match i.td with
  | .bool | .int _ | .str | .ptr _=>iO x fun v=>(match v with
   | .b .. | .i .. | .s .. | .ptr ..=>Z9 E o.dst (.ifc t v)
   | _=> .fail)
  | _=> .fail)
 | .typeAssert x _ t ok=>tiC E t fun i=>(match i.td with
  | .other=> .fail
  | _=>iO x fun
   | .ifc t' v=>bif Nat.beq t' t then Z9 E o.dst (bif ok then .tup [v,.b true]else v)else .fail
   | _=> .fail)
 | .makeMap t r=>(match r with
  | none=>AX E (H5 q o.dst) t fun v=>Z9 E o.dst v
  | some h=>iO h fun
   | .i _ _=>AX E (H5 q o.dst) t fun v=>Z9 E o.dst v
   | _=> .fail)
 | .lookup t x ix ok=>iO x fun m=>iO ix fun k=>ZP E t ok m k fun v=>Z9 E o.dst v
 | .mapUpdate t x ix y | .insert t x ix y=>match o.dst with | none=>iO x fun m=>iO ix fun k=>iO y fun v=>TZ E t m k v | some _=> .fail
 | _=> .fail
def fK (E:Env) (q:Nat) (ops:List Oper) (o:Oper):Cmd Unit:=
 match o.guard with
 | none=>V7 E q o
 | some (j,want)=>match ops[j]? with
  | some p=>match p.dst with
   | some t=>bif Nat.blt t BOX then(.get t fun
    | .b y=>bif (bif want then y else !y)then V7 E q o else Z9 E o.dst .un
    | .un=>Z9 E o.dst .un
    | _=> .fail)else .fail
   | none=> .fail
  | none=> .fail
def KJ {R:Type} (t:Nat) (s:St) (K:St→Option R):Option R:=
 (Y2 s t).force fun
  | .b y=>l7 y (K (.kv t (.b true)::s)) (K (.kv t (.b false)::s))
  | .un=>K s
  | _=>none
def a9p (ops:List Oper) (o:Oper):Option Nat:=
 match o.guard with
 | some (j,_)=>match ops[j]? with | some p=>p.dst | none=>none
 | none=>match o.op with | .pick (.tmp t) _ _=>some t | _=>none
abbrev Trs:=List Tr
def EF {R:Type} (E:Env) (q:Nat) (all:List Oper):List Oper→St→Trs→(St→Trs→Option R)→Option R
 | [],s,t,K=>K s t
 | o::r,s,t,K=>match a9p all o with
  | none=>(fK E q all o).runK s ([],[]) fun _ s' tr=>EF E q all r s' (tr::t) K
  | some p=>KJ p s fun s=>(fK E q all o).runK s ([],[]) fun _ s' tr=>EF E q all r s' (tr::t) K
def BD:List Nat→List Nat→Bool
 | [],[]=>true
 | a::r,b::q=>bif Nat.beq a b then BD r q else false
 | _,_=>false
def gu (o:Oper):Bool:=match o.op with | .call ..=>true | _=>false
def RV (E:Env) (o:Oper):Bool:=!gu o&&(match o.dst with | some d=>vH d E.rc | none=>false)
def a3B (E:Env) (all:List Oper) (i:Nat):Bool:=match all[i]? with | some o=>RV E o | none=>false
def RG (all:List Oper) (i:Nat):Bool:=match all[i]? with | some o=>gu o | none=>false
def a7m {R:Type} (a b:V) (K:Option R):Option R:=
 a.force fun a=>b.force fun b=>match a with
  | .i k n=>(match b with | .i k' n' =>bif decide (k=k')then l7 (ieq n n') K none else none | _=>none)
  | .sl t xs=>(match b with | .sl u ys=>Ty.castL u t ys (fun ys=>l7 (deq (.sl t) xs ys) K none) none | _=>none)
  | .b x=>(match b with | .b y=>l7 (bZ x y) K none | _=>none)
  | .s x=>(match b with | .s y=>l7 (seq x y) K none | _=>none)
  | _=>none
abbrev a1f:=List (Oper×Tr×V)
def QX {R:Type} (E:Env) (q:Nat) (all:List Oper) (s:St):a1f→Option R→Option R
 | [],K=>K
 | (o,tr,v)::p,K=>(fK E q all o).runK s ([],[]) fun _ s2 tr2=>match o.dst with
  | some d=>bif BD tr.1 tr2.1&&BD tr.2 tr2.2&&BD tr2.2 [d]then a7m v (Y2 s2 d) (QX E q all s p K)else none
  | none=>none
def NZ (E:Env) (o:Oper) (s:St) (tr:Tr) (p:a1f):a1f:=
 bif RV E o then(match o.dst with | some d=>(o,tr,Y2 s d)::p | none=>p)else p
def qZ {R:Type} (E:Env) (q:Nat) (all:List Oper):List Oper→St→Trs→a1f→(St→Trs→Option R)→Option R
 | [],s,t,_,K=>K s t
 | o::r,s,t,p,K=>match a9p all o with
  | none=>(fK E q all o).runK s ([],[]) fun _ s' tr=>bif gu o then QX E q all s' p (qZ E q all r s' (tr::t) p K)else qZ E q all r s' (tr::t) (NZ E o s' tr p) K
  | some g=>KJ g s fun s=>(fK E q all o).runK s ([],[]) fun _ s' tr=>bif gu o then QX E q all s' p (qZ E q all r s' (tr::t) p K)else qZ E q all r s' (tr::t) (NZ E o s' tr p) K
def JY (a b:List Nat):Bool:=match a with | []=>true | k::r=>bif vH k b then false else JY r b
def XR (ordered:Bool) (x y:Tr):Bool:=bif ordered then true else(JY x.2 y.1&&JY x.2 y.2&&JY x.1 y.2)
def KH (mask:Nat) (y:Tr):Trs→Nat→Bool
 | [],_=>true
 | x::r,i=>XR (Nat.testBit mask (i -1)) x y&&KH mask y r (i -1)
def NT:List Nat→Trs→Bool
 | m::ms,y::r=>KH m y r r.length&&NT ms r
 | [],[]=>true
 | _,_=>false
def ZW (mask:Nat) (x:Tr):List (Nat×Tr)→Bool
 | []=>true
 | (m,z)::r=>(Nat.testBit mask m || JY x.1 z.2)&&ZW mask x r
def a0d (ordered ex:Bool) (mask:Nat) (x y:Tr) (mids:List (Nat×Tr)):Bool:=
 bif ordered then true else(JY x.2 y.1&&JY x.2 y.2&&(bif JY x.1 y.2 then true else(ex&&JY x.2 x.1&&ZW mask x mids)))
def FO (E:Env) (all:List Oper) (mask:Nat) (y:Tr) (cy:Bool):Trs→Nat→List (Nat×Tr)→Bool
 | [],_,_=>true
 | x::r,i,mids=>a0d (Nat.testBit mask (i -1)) (cy&&a3B E all (i -1)) mask x y mids&&FO E all mask y cy r (i -1) ((i -1,x)::mids)
def FQ (E:Env) (all:List Oper):List Nat→Trs→Bool
 | m::ms,y::r=>FO E all m y (RG all r.length) r r.length []&&FQ E all ms r
 | [],[]=>true
 | _,_=>false
inductive Flow (ρ:Type) where
 | nm | ex (id:Nat) | rt (r:ρ)
def Dx (acc:List Nat) (n:Nat):List Edge→Nat→Option Nat
 | [],m=>some m
 | e::r,m=>match e.ground with
  | .textOnly _=>Dx acc n r m
  | .gcOnly _=>Dx acc n r m
  | _=>bif Nat.blt e.on n then Dx acc n r (m ||| 2^e.on ||| acc.getD (n -1 -e.on) 0)else none
def Ti:List Oper→Nat→List Nat→Option (List Nat)
 | [],_,acc=>some acc
 | o::r,n,acc=>match Dx acc n o.after.toList 0 with
  | some m=>Ti r (n+1) (m::acc)
  | none=>none
def Ez (md:Region.Mode) (done:List Nat):List Edge→Bool
 | []=>true
 | e::r=>bif (!Region.binds md e || vH e.on done)then Ez md done r else false
def mF (md:Region.Mode) (done:List Nat):List Oper→Nat→Option Nat
 | [],_=>none
 | o::r,n=>bif vH n done then mF md done r (n+1)else bif Ez md done o.after.toList then some n else mF md done r (n+1)
def Zj:Nat→List Nat→Bool
 | 0,_=>true
 | n+1,d=>vH n d&&Zj n d
def TW (md:Region.Mode) (ops:List Oper):Nat→List Nat→Bool
 | 0,d=>Zj ops.length d
 | k+1,done=>match mF md done ops 0 with | some n=>TW md ops k (n::done) | none=>false
def IA:List Edge→Bool
 | []=>true
 | e::r=>match e.ground with | .textOnly _=>false | .gcOnly _=>false | _=>IA r
def vK:List Oper→Bool | []=>true | o::r=>bif IA o.after.toList then vK r else false
def a3r (ops:List Oper) (t:Trs):Bool:=
 match Ti ops 0 []with
 | some ms=>bif NT ms t then(bif vK ops then true else TW .text ops ops.length []&&TW .gc ops ops.length [])else false
 | none=>false
def Zz (E:Env) (ops:List Oper) (t:Trs):Bool:=
 match Ti ops 0 []with
 | some ms=>bif FQ E ops ms t then(bif vK ops then true else TW .text ops ops.length []&&TW .gc ops ops.length [])else false
 | none=>false
abbrev Rgs:=List (Nat×Nat)
inductive Ann where
 | leaf
 | seq (a b:Ann) | cond (a b:Ann) | blk (a:Ann)
 | loop (rs:Rgs) (hd:Sig) (xid:Nat) (xs:Sig) (body:Ann)
 | loopR (rs:Rgs) (hd:Sig) (xid:Nat) (xs:Sig) (body:Ann)
 | join (rs:Rgs) (nm:Sig) (inner:Ann)
 | joinR (rs:Rgs) (nm:Sig) (inner:Ann)
structure Ret where
 rs:List (ResultVar×MG)
 outs:List (Nat×MG)
@[reducible] def Ret.den (r:Ret):Type:=aK (r.rs.map (·.2)++r.outs.map (·.2))
def IL {α:Type} (E:Env):List ResultVar→(List V→Cmd α)→Cmd α
 | [],K=>K []
 | .tmp t::r,K=>bif Nat.blt t BOX then(.get t fun v=>IL E r fun vs=>K (v::vs))else .fail
 | .cell a t::r,K=>bif Nat.blt a BOX then(.get a fun p=>DF E t p fun v=>IL E r fun vs=>K (v::vs))else .fail
def Iy {α:Type} :List Nat→(List V→Cmd α)→Cmd α
 | [],K=>K []
 | n::r,K=>bif Nat.blt n BOX then .get n fun v=>(match v with
  | .ptr bx 0=> .get (BOX+bx) fun
   | .bcells cs=>Cmd.set (BOX+bx) .dead (Iy r fun vs=>K (.agg cs::vs))
   | _=> .fail
  | .ifc _ u=>(match u with
   | .ptr bx 0=> .get (BOX+bx) fun
    | .bcells cs=>Cmd.set (BOX+bx) .dead (Iy r fun vs=>K (.agg cs::vs))
    | _=> .fail
   | _=> .fail)
  | .own bx none=>Iy r fun vs=>K (.own bx none::vs)
  | _=> .fail)else .fail
def a8C (E:Env) (r:Ret):Cmd r.den:=
 IL E (r.rs.map (·.1)) fun vs=>Iy (r.outs.map (·.1)) fun ws=>Dz sD (r.rs.map (·.2)++r.outs.map (·.2)) (vs++ws) .ret
def Ann.l:Ann→Ann | .seq a _=>a | .cond a _=>a | .blk a=>a | _=> .leaf
def Ann.r:Ann→Ann | .seq _ b=>b | .cond _ b=>b | _=> .leaf
def qf:Code→Nat
 | .region ..=>2
 | .seq x y=>1+qf x+qf y
 | .cond _ x y=>1+qf x+qf y
 | .block _ x=>1+qf x
 | .loop x=>3+qf x
 | _=>1
abbrev Den (ρ:Type):=Nat→Ann→St→Rgs→(R:Type)→(Flow ρ→St→Rgs→Option R)→Option R
def a1G (lo hi:Nat):Rgs→Bool | []=>false | (a,b)::r=>bif Nat.ble a lo&&Nat.ble hi b then true else a1G lo hi r
def LP (lim:Nat) (rs:Rgs):Rgs→Bool | []=>true | (a,b)::w=>bif Nat.ble lim a || a1G a b rs then LP lim rs w else false
def Fq (ks:List Nat) (w:Rgs):Rgs:=match ks with | []=>w | k::r=>(k,k+1)::Fq r w
def vF (rs:Rgs) (s:St):St:=match rs with | []=>s | (a,b)::r=> .mask a b::vF r s
def DD {R:Type} (q:Nat) (sg:Sig) (rs:Rgs) (s:St) (w:Rgs) (K:iF sg→Option R):Option R:=
 (a3D sg).runK s ([],[]) fun x _ tr=>bif LP (BOX+CB*q) rs (Fq tr.2 w)then K x else none
def enter {R:Type} (q:Nat) (sg:Sig) (rs:Rgs) (s:St) (x:iF sg) (K:St→Rgs→Option R):Option R:=
 (a3s sg x (CB*q) (CB*q+CB)).runK (vF rs s) ([],[]) fun _ s' tr=>K s' (Fq tr.2 rs)
def La (a b:Rgs):Rgs:=match a with | []=>b | x::r=>x::La r b
def zT {ρ:Type} (core:Den ρ):Den ρ:=fun q a s w R K=>
 match a with
 | .join rs nm a=>o6 (core (q+1) a s [] (iF nm) fun fl s' w' =>match fl with
   | .nm=>DD q nm rs s' w' some
   | _=>none) fun x=>enter q nm rs s x fun s' w' =>K .nm s' (La w' w)
 | .joinR rs nm a=>o6 (core (q+1) a s [] (iF nm⊕ρ) fun fl s' w' =>match fl with
   | .nm=>DD q nm rs s' w' fun x=>some (Sum.inl x)
   | .rt r=>some (Sum.inr r)
   | _=>none) fun o=>X6 o (fun x=>enter q nm rs s x fun s' w' =>K .nm s' (La w' w)) (fun r=>K (.rt r) [] [])
 | a=>core (q+1) a s w R K
def a5y {ρ:Type} (core:Den ρ) (q:Nat) (rs:Rgs) (hd:Sig) (xid:Nat) (xs:Sig) (a:Ann) (s:St) (x:iF hd):Option (iF hd⊕iF xs):=
 enter q hd rs s x fun s w=>core (q+2) a s w (iF hd⊕iF xs) fun fl s' w' =>match fl with
  | .nm=>DD q hd rs s' w' fun x=>some (Sum.inl x)
  | .ex id=>bif Nat.beq id xid then DD q xs rs s' w' fun y=>some (Sum.inr y)else none
  | .rt _=>none
def a5z {ρ:Type} (core:Den ρ) (q:Nat) (rs:Rgs) (hd:Sig) (xid:Nat) (xs:Sig) (a:Ann) (s:St) (x:iF hd):Option (Out (iF hd) (iF xs) ρ):=
 enter q hd rs s x fun s w=>core (q+2) a s w (Out (iF hd) (iF xs) ρ) fun fl s' w' =>match fl with
  | .nm=>DD q hd rs s' w' fun x=>some (.nx x)
  | .ex id=>bif Nat.beq id xid then DD q xs rs s' w' fun y=>some (.ex y)else none
  | .rt r=>some (.rt r)
def Vp {ρ:Type} (core:Den ρ):Den ρ:=fun q a s w R K=>
 match a with
 | .loop rs hd xid xs a=>DD q hd rs s [] fun x0=>
  o6 (X5 (fun x=>a5y core q rs hd xid xs a s x) x0) fun y=>enter (q+1) xs rs s y fun s' w' =>K (.ex xid) s' (La w' w)
 | .loopR rs hd xid xs a=>DD q hd rs s [] fun x0=>
  o6 (U2 (fun x=>a5z core q rs hd xid xs a s x) x0) fun o=>X6 o (fun y=>enter (q+1) xs rs s y fun s' w' =>K (.ex xid) s' (La w' w)) (fun r=>K (.rt r) [] [])
 | _=>none
def ul (t:Trs) (w:Rgs):Rgs:=match t with | []=>w | x::r=>Fq x.2 (ul r w)
def Tu {R:Type} (E:Env) (q:Nat) (ops:Array Oper) (draw:Bool) (s:St) (w:Rgs) (K:St→Rgs→Option R):Option R:=
 match E.rc with
 | []=>EF E q ops.toList ops.toList s [] fun s' t=>
  bif draw then(bif a3r ops.toList t then K s' (ul t w)else none)else K s' (ul t w)
 | _::_=>qZ E q ops.toList ops.toList s [] [] fun s' t=>
  bif draw then(bif Zz E ops.toList t then K s' (ul t w)else none)else K s' (ul t w)
def den (E:Env) (rt:Ret):Code→Den rt.den
 | .skip=>zT fun _ _ s w _ K=>K .nm s w
 | .label _=>zT fun _ _ s w _ K=>K .nm s w
 | .region _ ops draw=>zT fun q _ s w _ K=>Tu E q ops draw s w fun s' w' =>K .nm s' w'
 | .seq x y=>zT fun q a s w R K=>den E rt x q a.l s w R fun fl s' w' =>match fl with
   | .nm=>den E rt y (q+qf x) a.r s' w' R K
   | .ex id=>K (.ex id) s' w'
   | .rt r=>K (.rt r) s' w'
 | .cond c x y=>zT fun q a s w R K=>(iO c fun v=>Cmd.ret v:Cmd V).runK s ([],[]) fun v s' _=>match v with
   | .b t=>l7 t (den E rt x q a.l s' w R K) (den E rt y (q+qf x) a.r s' w R K)
   | _=>none
 | .block id x=>zT fun q a s w R K=>den E rt x q a.l s w R fun fl s' w' =>match fl with
   | .nm=>K .nm s' w'
   | .ex j=>bif Nat.beq j id then K .nm s' w' else K (.ex j) s' w'
   | .rt r=>K (.rt r) s' w'
 | .loop x=>zT (Vp fun q a s w R K=>den E rt x q a s w R K)
 | .exit id=>zT fun _ _ s w _ K=>K (.ex id) s w
 | .ret=>zT fun _ _ s _ _ K=>(a8C E rt).runK s ([],[]) fun r _ _=>K (.rt r) [] []
 | _=>fun _ _ _ _ _ _=>none
def dJ:List MG→Nat→List Nat
 | [],_=>[]
 | (_,.box _)::ms,n=>n::dJ ms (n+1)
 | (_,.ifc _ (.box _))::ms,n=>n::dJ ms (n+1)
 | (_,.ownb _)::ms,n=>n::dJ ms (n+1)
 | _::ms,n=>dJ ms (n+1)
def a6Z:List Nat→List Nat→Bool
 | [],_=>true
 | a::r,b=>bif vH a b then a6Z r b else false
def b3I (E:Env) (ps:List MG) (rt:Ret) (body:Code) (a:Ann) (x:aK ps):Option rt.den:=
 bif Nat.ble ps.length E.nt&&BD (rt.outs.map (·.1)) (dJ ps 0)&&a6Z (rt.outs.map (·.1)) E.kp then
 (Dy ps x 0 fun vs n=>bif Nat.ble n CB then OI (List.range vs.length) vs else .fail).runK [] ([],[]) fun _ s _=>
  den E rt body 1 a s [] rt.den fun fl s' _=>match fl with
   | .rt r=>some r
   | .nm=>(a8C E rt).runK s' ([],[]) fun r _ _=>some r
   | .ex _=>none
 else none
end Go.GP
namespace Go.GP
open RowKit
def Y1 (h:Array Obj) (blk off n:Nat):Option (List Value):=
 match h[blk]? with
 | some (.cells c _ _)=>if off+n≤c.size then some ((c.toList.drop off).take n)else none
 | _=>none
theorem jr {h h' :Array Obj} {blk:Nat} (e:h'[blk]? =h[blk]?) (off n:Nat):Y1 h' blk off n=Y1 h blk off n:=by
 simp[Y1,e]
theorem gZ {h:Array Obj} {blk off n:Nat} {es:List Value} (e:Y1 h blk off n=some es):es.length=n:=by
 unfold Y1 at e
 split at e
 ·split at e
  ·cases e;simp;omega
  ·cases e
 ·cases e
theorem fM {h:Array Obj} {blk:Nat} {c:Array Value} {T:TypeId} {f:Nat×Nat} (hb:h[blk]? =some (.cells c T f)) (off n:Nat) (hn:off+n≤c.size):
  Y1 h blk off n=some ((c.toList.drop off).take n):=by simp[Y1,hb,hn]
theorem lY {h:Array Obj} {blk off n:Nat} {es:List Value} (e:Y1 h blk off n=some es):
  ∃c T f,h[blk]? =some (.cells c T f)∧off+n≤c.size∧es=(c.toList.drop off).take n:=by
 unfold Y1 at e
 split at e
 ·rename_i c T f hb
  split at e
  ·cases e;exact⟨c,T,f,hb,by assumption,rfl⟩
  ·cases e
 ·cases e
theorem tJ {h:Array Obj} {blk off n:Nat} {es:List Value} (e:Y1 h blk off n=some es) (a k:Nat) (hk:a+k≤n):
  Y1 h blk (off+a) k=some ((es.drop a).take k):=by
 obtain⟨c,T,f,hb,hn,rfl⟩:=lY e
 rw[fM hb _ _ (by omega)]
 congr 1
 rw[List.drop_take,List.take_take,List.drop_drop]
 congr 1;omega
def jX (ag:Bool) (v:Value):List Value:=match ag with
 | true=>v.cells.toList
 | false=>[v]
def gok (ag:Bool) (v:Value):Prop:=match ag with
 | true=>∃arr,v= .agg arr
 | false=>v.oneCell' =true
def qI (t:Ty) (e:MapEntry):List Value:=match t with
 | .ent ka va _ _=>jX ka e.key++jX va e.val
 | _=>[]
def EU (t:Ty) (e:MapEntry):Prop:=match t with
 | .ent ka va k v=>gok ka e.key∧gok va e.val∧(jX ka e.key).length=k.size
 | _=>False
def rep (h:Array Obj) (ok:Nat→Ty→Prop):(t:Ty)→t.den→List Value→Prop
 | .ent _ _ a b,x,cs=>∃c d,cs=c++d∧rep h ok a x.1 c∧rep h ok b x.2 d
 | .bool,x,cs=>cs=[.bool x]
 | .int k,n,cs=>cs=[.int k n]
 | .str,l,cs=>cs=[.string ⟨l.toArray⟩]
 | .prod a b,x,cs=>∃c d,cs=c++d∧rep h ok a x.1 c∧rep h ok b x.2 d
 | .unit,_,cs=>cs=[]
 | .sl t,xs,cs=>(t.isEnt=false∧∃a cap,cs=[.slice a xs.length cap]∧xs.length≤cap∧
   ∀i x,xs[i]? =some x→∃blk off es,a=some ⟨blk,off,none⟩∧ok blk t∧Y1 h blk (off+i*t.size) t.size=some es∧rep h ok t x es)∨
   (t.isEnt=true∧∃mv,cs=[.map mv]∧(mv=none→xs=[])∧∀blk,mv=some blk→ok blk t∧∃(es:Array MapEntry) (ck:Nat),h[blk]? =some (.map es ck)∧es.size=(xs:List t.den).length∧
    ∀(i:Nat) (x:t.den),(xs:List t.den)[i]? =some x→∃e:MapEntry,es[i]? =some e∧EU t e∧rep h ok t x (qI t e))
theorem uk {h:Array Obj} {ok:Nat→Ty→Prop} {t:Ty} {xs:List t.den} {cs:List Value} (ht:t.isEnt=false):rep h ok (.sl t) xs cs↔∃a cap,cs=[.slice a xs.length cap]∧xs.length≤cap∧
   ∀i x,xs[i]? =some x→∃blk off es,a=some ⟨blk,off,none⟩∧ok blk t∧Y1 h blk (off+i*t.size) t.size=some es∧rep h ok t x es:=by
 constructor
 ·rintro(h | h)
  ·exact h.2
  ·rw[ht]at h;cases h.1
 ·exact fun h=> .inl ⟨ht,h⟩
theorem Yk {h:Array Obj} {ok:Nat→Ty→Prop} {t:Ty} {xs:List t.den} {cs:List Value} (ht:t.isEnt=true):rep h ok (.sl t) xs cs↔∃mv,cs=[.map mv]∧(mv=none→xs=[])∧∀blk,mv=some blk→ok blk t∧∃(es:Array MapEntry) (ck:Nat),h[blk]? =some (.map es ck)∧es.size=(xs:List t.den).length∧
    ∀(i:Nat) (x:t.den),(xs:List t.den)[i]? =some x→∃e:MapEntry,es[i]? =some e∧EU t e∧rep h ok t x (qI t e):=by
 constructor
 ·rintro(h | h)
  ·rw[ht]at h;cases h.1
  ·exact h.2
 ·exact fun h=> .inr ⟨ht,h⟩
theorem au {h:Array Obj} {ok:Nat→Ty→Prop} :∀{t:Ty} {x:t.den} {cs:List Value},rep h ok t x cs→cs.length=t.size
 | .bool,_,_,e=>by simp[rep]at e;simp[e,Ty.size]
 | .int _,_,_,e=>by simp[rep]at e;simp[e,Ty.size]
 | .str,_,_,e=>by simp[rep]at e;simp[e,Ty.size]
 | .unit,_,_,e=>by simp[rep]at e;simp[e,Ty.size]
 | .prod a b,_,_,e=>by
  obtain⟨c,d,rfl,h1,h2⟩:=e
  simp[au h1,au h2,Ty.size]
 | .ent _ _ a b,_,_,e=>by
  obtain⟨c,d,rfl,h1,h2⟩:=e
  simp[au h1,au h2,Ty.size]
 | .sl t,_,_,e=>by
  rcases e with⟨_,a,cap,rfl,_⟩ | ⟨_,mv,rfl,_⟩ <;> simp[Ty.size]
theorem Y0 {h h' :Array Obj} {ok ok' :Nat→Ty→Prop} (hok:∀b t,ok b t→ok' b t) (hh:∀b t,ok b t→h'[b]? =h[b]?):
  ∀{t:Ty} {x:t.den} {cs:List Value},rep h ok t x cs→rep h' ok' t x cs
 | .bool,_,_,e=>e
 | .int _,_,_,e=>e
 | .str,_,_,e=>e
 | .unit,_,_,e=>e
 | .prod a b,_,_,e=>by
  obtain⟨c,d,rfl,h1,h2⟩:=e
  exact⟨c,d,rfl,Y0 hok hh h1,Y0 hok hh h2⟩
 | .ent _ _ a b,_,_,e=>by
  obtain⟨c,d,rfl,h1,h2⟩:=e
  exact⟨c,d,rfl,Y0 hok hh h1,Y0 hok hh h2⟩
 | .sl t,xs,_,e=>by
  rcases e with⟨ht,a,cap,rfl,hc,hx⟩ | ⟨ht,mv,rfl,hn,hx⟩
  ·refine .inl ⟨ht,a,cap,rfl,hc,fun i x hi=>?_⟩
   obtain⟨blk,off,es,ha,hb,he,hr⟩:=hx i x hi
   exact⟨blk,off,es,ha,hok _ _ hb,by rw[jr (hh _ _ hb)];exact he,Y0 hok hh hr⟩
  ·refine .inr ⟨ht,mv,rfl,hn,fun blk hb=>?_⟩
   obtain⟨ho,es,ck,he,hs,hi⟩:=hx blk hb
   refine⟨hok _ _ ho,es,ck,by rw[hh _ _ ho];exact he,hs,fun i x hx=>?_⟩
   obtain⟨e,h1,h2,h3⟩:=hi i x hx
   exact⟨e,h1,h2,Y0 hok hh h3⟩
theorem qY {h h' :Array Obj} {ok ok' :Nat→Ty→Prop} :∀{t:Ty} {x:t.den} {cs:List Value},t.flat=true→rep h ok t x cs→rep h' ok' t x cs
 | .bool,_,_,_,e=>e
 | .int _,_,_,_,e=>e
 | .str,_,_,_,e=>e
 | .unit,_,_,_,e=>e
 | .prod a b,_,_,f,e=>by
  simp[Ty.flat]at f
  obtain⟨c,d,rfl,h1,h2⟩:=e
  exact⟨c,d,rfl,qY f.1 h1,qY f.2 h2⟩
 | .sl t,xs,_,f,e=>by simp[Ty.flat]at f
 | .ent ..,xs,_,f,e=>by simp[Ty.flat]at f
theorem mY {h:Array Obj} {ok:Nat→Ty→Prop} :∀{t:Ty} {x:t.den} {cs:List Value},rep h ok t x cs→∀v∈cs,v.oneCell' =true
 | .bool,_,_,e=>by simp[rep]at e;subst e;simp[Value.oneCell']
 | .int _,_,_,e=>by simp[rep]at e;subst e;simp[Value.oneCell']
 | .str,_,_,e=>by simp[rep]at e;subst e;simp[Value.oneCell']
 | .unit,_,_,e=>by simp[rep]at e;subst e;simp
 | .prod a b,_,_,e=>by
  obtain⟨c,d,rfl,h1,h2⟩:=e
  intro v hv
  rcases List.mem_append.1 hv with hv | hv
  ·exact mY h1 v hv
  ·exact mY h2 v hv
 | .ent _ _ a b,_,_,e=>by
  obtain⟨c,d,rfl,h1,h2⟩:=e
  intro v hv
  rcases List.mem_append.1 hv with hv | hv
  ·exact mY h1 v hv
  ·exact mY h2 v hv
 | .sl t,xs,_,e=>by
  rcases e with⟨_,a,cap,rfl,_⟩ | ⟨_,mv,rfl,_⟩ <;> simp[Value.oneCell']
theorem pO {h:Array Obj} {ok ok' :Nat→Ty→Prop} :∀{t:Ty} {x:t.den} {cs:List Value},(∀b u,ok b u→Ty.occ u t=true→ok' b u)→rep h ok t x cs→rep h ok' t x cs
 | .bool,_,_,_,e=>e
 | .int _,_,_,_,e=>e
 | .str,_,_,_,e=>e
 | .unit,_,_,_,e=>e
 | .prod a b,_,_,f,e=>by
  obtain⟨c,d,rfl,h1,h2⟩:=e
  exact⟨c,d,rfl,pO (fun b u h k=>f b u h (by simp[Ty.occ,k])) h1,pO (fun b u h k=>f b u h (by simp[Ty.occ,k])) h2⟩
 | .ent _ _ a b,_,_,f,e=>by
  obtain⟨c,d,rfl,h1,h2⟩:=e
  exact⟨c,d,rfl,pO (fun b u h k=>f b u h (by simp[Ty.occ,k])) h1,pO (fun b u h k=>f b u h (by simp[Ty.occ,k])) h2⟩
 | .sl t,xs,_,f,e=>by
  rcases e with⟨ht,a,cap,rfl,hc,hx⟩ | ⟨ht,mv,rfl,hn,hx⟩
  ·refine .inl ⟨ht,a,cap,rfl,hc,fun i x hi=>?_⟩
   obtain⟨blk,off,es,ha,hb,he,hr⟩:=hx i x hi
   exact⟨blk,off,es,ha,f _ _ hb (by simp[Ty.occ]),he,pO (fun b u h k=>f b u h (by simp[Ty.occ,k])) hr⟩
  ·refine .inr ⟨ht,mv,rfl,hn,fun blk hb=>?_⟩
   obtain⟨ho,es,ck,he,hs,hi⟩:=hx blk hb
   refine⟨f _ _ ho (by simp[Ty.occ]),es,ck,he,hs,fun i x hx=>?_⟩
   obtain⟨e,h1,h2,h3⟩:=hi i x hx
   exact⟨e,h1,h2,pO (fun b u h k=>f b u h (by simp[Ty.occ,k])) h3⟩
inductive Loc where
 | nil | arr (blk off len cap sz:Nat) | st (blk:Nat) | mp (blk:Nat)
structure Mp where
 loc:Nat→Option Loc
 kid:Nat→List Nat
instance:CoeFun Mp (fun _=>Nat→Option Loc):=⟨Mp.loc⟩
def nom:Mp:=⟨fun _=>none,fun _=>[]⟩
structure Cx where
 h:Array Obj
 ok:Nat→Ty→Prop
 m:Mp
def Loc.view:Loc→Option (Nat×Nat)→Value→Prop
 | .nil,none,v=>v= .slice none 0 0
 | .nil,some (lo,hi),v=>lo=0∧hi=0∧v= .slice none 0 0
 | .arr blk off len cap _,none,v=>v= .slice (some ⟨blk,off,none⟩) len cap
 | .arr blk off len cap sz,some (lo,hi),v=>lo≤hi∧hi≤len∧v= .slice (some (if cap=lo then⟨blk,off,none⟩else⟨blk,off+lo*sz,none⟩)) (hi -lo) (cap -lo)
 | .st _,_,_=>False
 | .mp b,none,v=>v= .map (some b)
 | .mp _,some _,_=>False
def Loc.blks:Loc→List Nat
 | .nil=>[]
 | .arr b _ _ _ _=>[b]
 | .st b=>[b]
 | .mp b=>[b]
def Xn (h:Array Obj) (ok:Nat→Ty→Prop) (t:Ty) (x:t.den) (o:Nat) (v:Value):Prop:=
 ∃blk off es,v= .pointer (some ⟨blk,off+o,none⟩)∧ok blk t∧Y1 h blk off t.size=some es∧rep h ok t x es
def uU (h:Array Obj) (ok:Nat→Ty→Prop):List ((t:Ty)×t.den)→List Value→Prop
 | [],vs=>vs=[]
 | c::cs,vs=>∃v r,vs=v::r∧Xn h ok c.1 c.2 0 v∧uU h ok cs r
def oN (C:Cx):V→Value→Prop
 | .undef,_=>True
 | .un,v=>v=Go.undef
 | .b x,v=>v= .bool x
 | .i k n,v=>v= .int k n
 | .s l,v=>v= .string ⟨l.toArray⟩
 | .nl,v=>v= .slice none 0 0
 | .ne b,v=>∃a c,v= .slice a 0 c∧a.isNone=b
 | .sl t xs,v=>rep C.h C.ok (.sl t) xs [v]
 | .own bx vw,v=>∃loc,C.m bx=some loc∧loc.view vw v
 | .ptr bx o,v=>∃blk,C.m bx=some (.st blk)∧v= .pointer (some ⟨blk,o,none⟩)
 | .ep bx ix o,v=>∃blk off len cap sz,C.m bx=some (.arr blk off len cap sz)∧ix<len∧v= .pointer (some ⟨blk,off+ix*sz+o,none⟩)
 | .dp t x o,v=>Xn C.h C.ok t x o v
 | .glob g,v=>v= .pointer (some ⟨g,0,none⟩)
 | .fnv f,v=>v= .func (.func f) #[] #[]
 | .clos f caps,v=>∃vs,v= .func (.func f) #[] vs∧uU C.h C.ok caps vs.toList
 | .ifc t c,v=>∃u,v= .iface t u∧u.oneCell' =true∧oN C c u
 | _,_=>False
def aF (C:Cx):List V→List Value→Prop
 | [],vs=>vs=[]
 | c::cs,vs=>∃v r,vs=v::r∧oN C c v∧v.oneCell' =true∧aF C cs r
def Ol (C:Cx):V→Value→Prop
 | .agg cs,v=>∃arr,v= .agg arr∧aF C cs arr.toList
 | c,v=>oN C c v
def TA (C:Cx):List V→List Value→Prop
 | [],vs=>vs=[]
 | c::cs,vs=>∃v r,vs=v::r∧Ol C c v∧TA C cs r
def fE (C:Cx):V→Value→Prop
 | .tup cs,v=>∃arr,v= .tuple arr∧TA C cs arr.toList
 | c,v=>Ol C c v
def arrOk (C:Cx) (t:Ty) (xs:List t.den):Loc→Prop
 | .nil=>xs=[]∧t.isEnt=false
 | .arr blk off len cap sz=>t.isEnt=false∧sz=t.size∧len=xs.length∧len≤cap∧∃c T,C.h[blk]? =some (.cells c T (0,0))∧off+cap*sz≤c.size∧
   ∀i x,xs[i]? =some x→∃es,Y1 C.h blk (off+i*sz) sz=some es∧rep C.h C.ok t x es
 | .st _=>False
 | .mp blk=>t.isEnt=true∧∃(es:Array MapEntry) (ck:Nat),C.h[blk]? =some (.map es ck)∧es.size=xs.length∧
   ∀(i:Nat) (x:t.den),(xs:List t.den)[i]? =some x→∃e:MapEntry,es[i]? =some e∧EU t e∧rep C.h C.ok t x (qI t e)
def tZ {α:Type} (h:Array Obj) (sz:Nat) (R:Nat→α→List Value→List Nat→Prop) (xs:List α) (Os:List (List Nat)):Loc→Prop
 | .nil=>xs=[]∧Os=[]
 | .arr blk off len cap sz' =>sz' =sz∧len=xs.length∧len≤cap∧Os.length=xs.length∧∃c T,h[blk]? =some (.cells c T (0,0))∧off+cap*sz≤c.size∧
   ∀i x,xs[i]? =some x→∃es O,Os[i]? =some O∧Y1 h blk (off+i*sz) sz=some es∧R i x es O
 | .st _=>False
 | .mp _=>False
def gI (h:Array Obj) (ok:Nat→Ty→Prop):(m:M)→Option Nat→m.den→List Value→List Nat→Prop
 | .dat t,_,x,cs,O=>rep h ok t x cs∧O=[]
 | .own t,ho,xs,cs,O=>∃v,cs=[v]∧v.oneCell' =true∧(match ho with | some 0=>O=[] | _=>∃l,l.view none v∧arrOk ⟨h,ok,nom⟩ t xs l∧O=l.blks)
 | .pair a b,ho,x,cs,O=>∃c d O1 O2,cs=c++d∧O=O1++O2∧gI h ok a (match ho with | some o=>if o<a.size then some o else none | none=>none) x.1 c O1∧
   gI h ok b (match ho with | some o=>if o<a.size then none else some (o -a.size) | none=>none) x.2 d O2
 | .unit,_,_,cs,O=>cs=[]∧O=[]
 | .box m,_,x,cs,O=>∃blk arr T O',cs=[.pointer (some ⟨blk,0,none⟩)]∧h[blk]? =some (.cells arr T (0,0))∧gI h ok m none x arr.toList O' ∧O=blk::O'
 | .owns m,ho,xs,cs,O=>∃v,cs=[v]∧v.oneCell' =true∧(match ho with | some 0=>O=[] | _=>m.el=true∧∃l Os,l.view none v∧tZ h m.size (fun _ x es O=>gI h ok m none x es O) xs Os l∧O=l.blks++Os.flatten)
 | .ownb t,_,xs,cs,O=>∃l v,cs=[v]∧l.view none v∧arrOk ⟨h,ok,nom⟩ t xs l∧O=l.blks
 | .rp t,_,x,cs,O=>∃v,cs=[v]∧Xn h ok t x 0 v∧O=[]
 | .fn f ts,_,x,cs,O=>∃vs,cs=[.func (.func f) #[] vs]∧uU h ok (IZ ts x) vs.toList∧O=[]
 | .ifc t m,_,x,cs,O=>∃u,cs=[.iface t u]∧gI h ok m none x [u] O
 | .cell b,_,x,cs,O=>∃v,cs=[v]∧v.oneCell' =true∧(b=some none→v= .slice none 0 0)∧(∀b',b=some (some b')→∃a c,v= .slice a 0 c∧a.isNone=b')∧O=[]
def Pz (hole:Option (Nat×Nat×Option Nat)) (i:Nat):Option Nat:=match hole with | some (j,o,_)=>if i=j then some o else none | none=>none
def MV (C:Cx) (sz:Nat) (l:Loc):Option (Nat×Nat×Option Nat)→Prop
 | none=>True
 | some (_,_,none)=>True
 | some (i,o,some n)=>∃blk off len cap u l',l= .arr blk off len cap sz∧Y1 C.h blk (off+i*sz+o) 1=some [u]∧C.m n=some l' ∧l'.view none u
def Zr (C:Cx) (m:M) (xs:List m.den) (hole:Option (Nat×Nat×Option Nat)) (Os:List (List Nat)) (l:Loc):Prop:=
 tZ C.h m.size (fun i x es O=>gI C.h C.ok m (Pz hole i) x es O) xs Os l∧MV C m.size l hole
def vP (C:Cx) (n:Nat):V→Prop
 | .bcells cs=>∃blk arr T,C.m n=some (.st blk)∧C.h[blk]? =some (.cells arr T (0,0))∧aF C cs arr.toList
 | .barr t xs=>∃loc,C.m n=some loc∧arrOk C t xs loc
 | .bfrz t xs=>∃loc,C.m n=some loc∧arrOk C t xs loc∧(∀blk,blk∈loc.blks→C.ok blk t)
 | .barrs m xs hole=>m.el=true∧∃loc Os,C.m n=some loc∧Zr C m xs hole Os loc∧C.m.kid n=Os.flatten
 | .bfc t x=>∃blk es,C.m n=some (.st blk)∧C.ok blk t∧Y1 C.h blk 0 t.size=some es∧rep C.h C.ok t x es
 | .gone t=>∃l,C.m n=some l∧∀blk off len cap sz,l= .arr blk off len cap sz→sz=t.size
 | .blen ln sz=>∃k l,n=GZ+k∧C.m k=some l∧(match l with | .arr _ _ len _ sz' =>ln=(len:Int)∧sz=sz' | .nil=>ln=0 | .st _=>False | .mp _=>False)
 | _=>True
def J9 (m:Mp) (n:Nat):V→List Nat
 | .bcells _=>match m n with | some (.st blk)=>[blk] | _=>[]
 | .barr _ _=>match m n with | some (.arr blk _ _ _ _)=>[blk] | some (.mp blk)=>[blk] | _=>[]
 | .barrs _ _ _=>(match m n with | some (.arr blk _ _ _ _)=>[blk] | _=>[])++m.kid n
 | _=>[]
def a4H:V→List Ty
 | .barr t _=>[t]
 | .barrs m _ _=>m.ty::m.owned
 | _=>[]
structure Cx.le (C D:Cx):Prop where
 ok:∀b t,C.ok b t→D.ok b t
 h:∀b t,C.ok b t→D.h[b]? =C.h[b]?
 m:∀n l,C.m n=some l→D.m n=some l
theorem Cx.le.refl (C:Cx):C.le C:=⟨fun _ _ h=>h,fun _ _ _=>rfl,fun _ _ h=>h⟩
theorem Cx.le.trans {A B C:Cx} (h:A.le B) (k:B.le C):A.le C:=
 ⟨fun b t x=>k.ok _ _ (h.ok _ _ x),fun b t x=>(k.h _ _ (h.ok _ _ x)).trans (h.h _ _ x),fun n l x=>k.m _ _ (h.m _ _ x)⟩
theorem Ci {h h' :Array Obj} {ok ok' :Nat→Ty→Prop} (hok:∀b t,ok b t→ok' b t) (hh:∀b t,ok b t→h'[b]? =h[b]?) {t:Ty} {x:t.den} {o:Nat} {v:Value} (hr:Xn h ok t x o v):Xn h' ok' t x o v:=by
 obtain⟨b,o',es,hv,hb,hc,hp⟩:=hr
 exact⟨b,o',es,hv,hok _ _ hb,by rw[jr (hh _ _ hb)];exact hc,Y0 hok hh hp⟩
theorem Af {h h' :Array Obj} {ok ok' :Nat→Ty→Prop} (hok:∀b t,ok b t→ok' b t) (hh:∀b t,ok b t→h'[b]? =h[b]?):∀{cs:List ((t:Ty)×t.den)} {vs:List Value},uU h ok cs vs→uU h' ok' cs vs
 | [],_,hr=>hr
 | _::_,_,⟨v,r,e,h1,h2⟩=>⟨v,r,e,Ci hok hh h1,Af hok hh h2⟩
theorem a0y {C D:Cx} (h:C.le D):∀{c:V} {v:Value},oN C c v→oN D c v:=by
 intro c
 induction c using V.rec (motive_2:=fun _=>True) <;> try trivial
 all_goals
  intro v hr
  simp only[oN]at hr ⊢
  try exact hr
 case sl t xs=>exact Y0 h.ok h.h hr
 case own bx vw=>obtain⟨l,hm,hv⟩:=hr;exact⟨l,h.m _ _ hm,hv⟩
 case ptr bx o=>obtain⟨b,hm,hv⟩:=hr;exact⟨b,h.m _ _ hm,hv⟩
 case ep bx ix o=>obtain⟨b,o',l,c,s,hm,hv⟩:=hr;exact⟨b,o',l,c,s,h.m _ _ hm,hv⟩
 case dp t x o=>exact Ci h.ok h.h hr
 case clos f caps=>obtain⟨vs,e,hc⟩:=hr;exact⟨vs,e,Af h.ok h.h hc⟩
 case ifc t c ih=>obtain⟨u,e,h1,hc⟩:=hr;exact⟨u,e,h1,ih hc⟩
theorem wZ {C D:Cx} (h:C.le D):∀{cs:List V} {vs:List Value},aF C cs vs→aF D cs vs
 | [],_,hr=>hr
 | _::_,_,⟨v,r,e,h1,h2,h3⟩=>⟨v,r,e,a0y h h1,h2,wZ h h3⟩
theorem a0x {C D:Cx} (h:C.le D) {c:V} {v:Value} (hr:Ol C c v):Ol D c v:=by
 cases c <;> simp only[Ol]at hr ⊢ <;> try exact a0y h hr
 case agg cs=>obtain⟨arr,e,hl⟩:=hr;exact⟨arr,e,wZ h hl⟩
theorem a0z {C D:Cx} (h:C.le D):∀{cs:List V} {vs:List Value},TA C cs vs→TA D cs vs
 | [],_,hr=>hr
 | _::_,_,⟨v,r,e,h1,h3⟩=>⟨v,r,e,a0x h h1,a0z h h3⟩
theorem Gj {C D:Cx} (h:C.le D) {c:V} {v:Value} (hr:fE C c v):fE D c v:=by
 cases c <;> simp only[fE]at hr ⊢ <;> try exact a0x h hr
 case tup cs=>obtain⟨arr,e,hl⟩:=hr;exact⟨arr,e,a0z h hl⟩
theorem lV {h h' :Array Obj} {ok ok' :Nat→Ty→Prop} {m m' :Mp} {t:Ty} {xs:List t.den} {l:Loc} (hok:∀b t,ok b t→ok' b t) (hh:∀b t,ok b t→h'[b]? =h[b]?)
  (hb:∀b∈l.blks,h'[b]? =h[b]?) (hr:arrOk ⟨h,ok,m⟩ t xs l):arrOk ⟨h',ok',m'⟩ t xs l:=by
 cases l with
 | nil=>exact hr
 | st b=>exact hr
 | mp blk=>
  have e:=hb blk (by simp[Loc.blks])
  obtain⟨h1,es,ck,h2,h3,h4⟩:=hr
  refine⟨h1,es,ck,by show h'[blk]? =_;rw[e];exact h2,h3,fun i x hi=>?_⟩
  obtain⟨en,a1,a2,a3⟩:=h4 i x hi
  exact⟨en,a1,a2,Y0 hok hh a3⟩
 | arr blk off len cap sz=>
  have e:=hb blk (by simp[Loc.blks])
  obtain⟨h0,h1,h2,h3,c,T,h4,h5,h6⟩:=hr
  refine⟨h0,h1,h2,h3,c,T,by show h'[blk]? =_;rw[e];exact h4,h5,fun i x hi=>?_⟩
  obtain⟨es,he,hp⟩:=h6 i x hi
  exact⟨es,by show Y1 h' _ _ _=_;rw[jr e];exact he,Y0 hok hh hp⟩
theorem Um {C D:Cx} (h:C.le D) {t:Ty} {xs:List t.den} {l:Loc} (hb:∀b∈l.blks,D.h[b]? =C.h[b]?) (hr:arrOk C t xs l):arrOk D t xs l:=
 lV h.ok h.h hb hr
theorem wz {α:Type} {h h' :Array Obj} {sz:Nat} {R R' :Nat→α→List Value→List Nat→Prop} {xs:List α} {Os:List (List Nat)} {l:Loc} (hb:∀b∈l.blks,h'[b]? =h[b]?)
  (hR:∀i x es O,O∈Os→R i x es O→R' i x es O) (hr:tZ h sz R xs Os l):tZ h' sz R' xs Os l:=by
 cases l with
 | nil=>exact hr
 | st b=>exact hr
 | mp b=>exact hr
 | arr blk off len cap sz=>
  have e:=hb blk (by simp[Loc.blks])
  obtain⟨h1,h2,h3,h7,c,T,h4,h5,h6⟩:=hr
  refine⟨h1,h2,h3,h7,c,T,by rw[e];exact h4,h5,fun i x hi=>?_⟩
  obtain⟨es,O,hO,he,hp⟩:=h6 i x hi
  exact⟨es,O,hO,by rw[jr e];exact he,hR _ _ _ _ (dG hO) hp⟩
theorem bK {h h' :Array Obj} {ok ok' :Nat→Ty→Prop} (hok:∀b t,ok b t→ok' b t) (hh:∀b t,ok b t→h'[b]? =h[b]?):
  ∀{m:M} {ho:Option Nat} {x:m.den} {cs:List Value} {O:List Nat},(∀b∈O,h'[b]? =h[b]?)→gI h ok m ho x cs O→gI h' ok' m ho x cs O
 | .dat t,_,_,_,_,_,e=>⟨Y0 hok hh e.1,e.2⟩
 | .own t,ho,_,_,O,hb,⟨v,e,h1,ha⟩=>by
  refine⟨v,e,h1,?_⟩
  split at ha
  ·exact ha
  ·obtain⟨l,hv,ha,ho⟩:=ha
   exact⟨l,hv,lV hok hh (by subst ho;exact hb) ha,ho⟩
 | .pair a b,_,_,_,_,hb,⟨c,d,O1,O2,e,eo,h1,h2⟩=>by
  subst eo
  exact⟨c,d,O1,O2,e,rfl,bK hok hh (fun b h=>hb b (by simp[h])) h1,bK hok hh (fun b h=>hb b (by simp[h])) h2⟩
 | .unit,_,_,_,_,_,e=>e
 | .box m,_,_,_,_,hb,⟨blk,arr,T,O',e,hh',hr,eo⟩=>by
  subst eo
  exact⟨blk,arr,T,O',e,by rw[hb blk (by simp)];exact hh',bK hok hh (fun b h=>hb b (by simp[h])) hr,rfl⟩
 | .owns m,ho,_,_,O,hb,⟨v,e,h1,ha⟩=>by
  refine⟨v,e,h1,?_⟩
  split at ha
  ·exact ha
  ·obtain⟨he,l,Os,hv,ha,ho⟩:=ha
   subst ho
   exact⟨he,l,Os,hv,wz (fun b h=>hb b (by simp[h])) (fun i x es O hO hr=>bK hok hh (fun b h=>hb b (by
    simp only[List.mem_append,List.mem_flatten];exact .inr ⟨O,hO,h⟩)) hr) ha,rfl⟩
 | .ownb t,_,_,_,_,hb,⟨l,v,e,hv,ha,ho⟩=>⟨l,v,e,hv,lV hok hh (by subst ho;exact hb) ha,ho⟩
 | .rp t,_,_,_,_,_,⟨v,e,h1,h2⟩=>⟨v,e,Ci hok hh h1,h2⟩
 | .fn f ts,_,_,_,_,_,⟨vs,e,h1,h2⟩=>⟨vs,e,Af hok hh h1,h2⟩
 | .ifc t m,_,_,_,_,hb,⟨u,e,h1⟩=>⟨u,e,bK hok hh hb h1⟩
 | .cell b,_,_,_,_,_,h=>h
theorem KL {C D:Cx} (h:C.le D) {n:Nat} {v:V} (hk:D.m.kid n=C.m.kid n) (hb:∀b∈J9 C.m n v,D.h[b]? =C.h[b]?) (hr:vP C n v):vP D n v:=by
 cases v <;> simp only[vP]at hr ⊢
 case bcells cs=>
  obtain⟨blk,arr,T,hm,hh,hl⟩:=hr
  exact⟨blk,arr,T,h.m _ _ hm,by rw[hb blk (by simp[J9,hm])];exact hh,wZ h hl⟩
 case barr t xs=>
  obtain⟨l,hm,ha⟩:=hr
  refine⟨l,h.m _ _ hm,Um h ?_ ha⟩
  intro b hbl
  refine hb b ?_
  cases l <;> simp[Loc.blks]at hbl
  ·subst hbl;simp[J9,hm]
  ·cases ha
  ·subst hbl;simp[J9,hm]
 case bfrz t xs=>
  obtain⟨l,hm,ha,hok⟩:=hr
  refine⟨l,h.m _ _ hm,Um h ?_ ha,fun blk e=>h.ok _ _ (hok _ e)⟩
  intro b hbl
  exact h.h _ _ (hok _ hbl)
 case barrs m xs hole=>
  obtain⟨he,l,Os,hm,ha,ho⟩:=hr
  obtain⟨ha,hh⟩:=ha
  refine⟨he,l,Os,h.m _ _ hm,⟨wz ?_ ?_ ha,?_⟩,hk.trans ho⟩
  ·intro b hbl
   refine hb b ?_
   cases l <;> simp[Loc.blks]at hbl
   ·subst hbl;simp[J9,hm]
   ·cases ha
   ·cases ha
  ·intro i x es O hO hr
   refine bK h.ok h.h (fun b hbO=>hb b ?_) hr
   simp only[J9,List.mem_append]
   right;rw[ho];exact List.mem_flatten.2 ⟨O,hO,hbO⟩
  ·rcases hole with _ | ⟨i,o,_ | k⟩
   ·trivial
   ·trivial
   ·obtain⟨blk,off,len,cap,u,l',rfl,h1,h2,h3⟩:=hh
    exact⟨blk,off,len,cap,u,l',rfl,by rw[jr (hb blk (by simp[J9,hm]))];exact h1,h.m _ _ h2,h3⟩
 case bfc t x=>
  obtain⟨blk,es,hm,hok,he,hr⟩:=hr
  exact⟨blk,es,h.m _ _ hm,h.ok _ _ hok,by rw[jr (h.h _ _ hok)];exact he,Y0 h.ok h.h hr⟩
 case gone t=>
  obtain⟨l,hm,hs⟩:=hr
  exact⟨l,h.m _ _ hm,hs⟩
 case blen ln sz=>
  obtain⟨k,l,e,hm,hs⟩:=hr
  exact⟨k,l,e,h.m _ _ hm,hs⟩
theorem fD {C:Cx} :∀{cs:List V} {vs:List Value},aF C cs vs→cs.length=vs.length
 | [],_,h=>by simp[aF]at h;simp[h]
 | _::_,_,⟨v,r,e,_,_,h3⟩=>by subst e;simp[fD h3]
theorem mV {C:Cx} :∀{a:List V} {va:List Value} {b:List V} {vb:List Value},aF C a va→aF C b vb→aF C (a++b) (va++vb)
 | [],_,_,_,h,k=>by simp[aF]at h;subst h;exact k
 | _::_,_,_,_,⟨v,r,e,h1,h2,h3⟩,k=>by subst e;exact⟨v,r++_,rfl,h1,h2,mV h3 k⟩
theorem Gh {C:Cx} :∀{cs:List V} {vs:List Value},aF C cs vs→∀v∈vs,v.oneCell' =true
 | [],_,h=>by simp[aF]at h;simp[h]
 | _::_,_,⟨v,r,e,_,h2,h3⟩=>by
  subst e;intro u hu
  rcases List.mem_cons.1 hu with rfl | hu
  ·exact h2
  ·exact Gh h3 u hu
theorem og {C:Cx} :∀(n:Nat) {cs:List V} {vs:List Value},aF C cs vs→aF C (cs.drop n) (vs.drop n)
 | 0,_,_,h=>by simpa using h
 | n+1,[],_,h=>by simp[aF]at h;subst h;simp[aF]
 | n+1,_::_,_,⟨v,r,e,_,_,h3⟩=>by subst e;simpa using og n h3
theorem qy {C:Cx} :∀(n:Nat) {cs:List V} {vs:List Value},aF C cs vs→aF C (cs.take n) (vs.take n)
 | 0,_,_,h=>by simp[aF]
 | n+1,[],_,h=>by simp[aF]at h;subst h;simp[aF]
 | n+1,_::_,_,⟨v,r,e,h1,h2,h3⟩=>by subst e;exact⟨v,r.take n,by simp,h1,h2,qy n h3⟩
theorem dQ:∀(t:Ty) (x:t.den) (r:List V),flat t x r=flat t x []++r
 | .bool,_,_=>rfl
 | .int _,_,_=>rfl
 | .str,_,_=>rfl
 | .sl _,_,_=>rfl
 | .unit,_,_=>rfl
 | .prod a b,x,r=>by
  simp only[flat]
  rw[dQ a x.1 (flat b x.2 r),dQ b x.2 r,dQ a x.1 (flat b x.2 [])]
  simp
 | .ent _ _ a b,x,r=>by
  simp only[flat]
  rw[dQ a x.1 (flat b x.2 r),dQ b x.2 r,dQ a x.1 (flat b x.2 [])]
  simp
theorem iV {C:Cx} :∀{t:Ty} {x:t.den} {cs:List Value},rep C.h C.ok t x cs→aF C (flat t x []) cs
 | .bool,x,_,h=>by simp[rep]at h;subst h;exact⟨_,_,rfl,rfl,rfl,rfl⟩
 | .int _,x,_,h=>by simp[rep]at h;subst h;exact⟨_,_,rfl,rfl,rfl,rfl⟩
 | .str,x,_,h=>by simp[rep]at h;subst h;exact⟨_,_,rfl,rfl,rfl,rfl⟩
 | .unit,_,_,h=>by simp[rep]at h;subst h;rfl
 | .sl t,xs,_,h=>by
  have h' :=h
  rcases h with⟨_,a,cap,rfl,_⟩ | ⟨_,mv,rfl,_⟩ <;> exact⟨_,_,rfl,h',rfl,rfl⟩
 | .ent _ _ a b,x,_,h=>by
  obtain⟨c,d,rfl,h1,h2⟩:=h
  simp only[flat]
  rw[dQ a]
  exact mV (iV h1) (iV h2)
 | .prod a b,x,_,h=>by
  obtain⟨c,d,rfl,h1,h2⟩:=h
  simp only[flat]
  rw[dQ a]
  exact mV (iV h1) (iV h2)
theorem gK:∀(t:Ty) (x:t.den),(flat t x []).length=t.size
 | .bool,_=>rfl
 | .int _,_=>rfl
 | .str,_=>rfl
 | .sl _,_=>rfl
 | .unit,_=>rfl
 | .prod a b,x=>by
  simp only[flat,Ty.size]
  rw[dQ a,List.length_append,gK a x.1,gK b x.2]
 | .ent _ _ a b,x=>by
  simp only[flat,Ty.size]
  rw[dQ a,List.length_append,gK a x.1,gK b x.2]
theorem iE {C:Cx} {ok' :Nat→Ty→Prop} {t:Ty} {xs:List t.den} {l:Loc} {vw:Option (Nat×Nat)} {v:Value} (ha:arrOk C t xs l) (hv:l.view vw v)
  (hok:∀b t,C.ok b t→ok' b t) (hb:∀blk,blk∈l.blks→ok' blk t):rep C.h ok' (.sl t) (aX vw xs) [v]:=by
 cases l with
 | st b=>cases ha
 | mp b=>
  obtain⟨h0,es,ck,h1,h2,h3⟩:=ha
  cases vw with
  | some p=>cases hv
  | none=>
   simp only[Loc.view]at hv;subst hv
   refine .inr ⟨h0,some b,rfl,(fun h=>nomatch h),fun blk e=>?_⟩
   cases e
   refine⟨hb b (by simp[Loc.blks]),es,ck,h1,h2,fun i x hi=>?_⟩
   obtain⟨en,a1,a2,a3⟩:=h3 i x hi
   exact⟨en,a1,a2,Y0 hok (fun _ _ _=>rfl) a3⟩
 | nil=>
  obtain⟨ha,h0⟩:=ha;subst ha
  cases vw with
  | none=>simp only[Loc.view]at hv;subst hv;exact .inl ⟨h0,none,0,rfl,Nat.le_refl _,fun i x hi=>by simp[aX]at hi⟩
  | some p=>
   obtain⟨lo,hi⟩:=p
   obtain⟨rfl,rfl,rfl⟩:=hv
   exact .inl ⟨h0,none,0,by simp[aX,gQ],by simp[aX,gQ],fun i x hi=>by simp[aX,gQ]at hi⟩
 | arr blk off len cap sz=>
  obtain⟨h0,rfl,rfl,hc,c,T,hh,hs,hx⟩:=ha
  have hbk:=hb blk (by simp[Loc.blks])
  cases vw with
  | none=>
   simp only[Loc.view]at hv;subst hv
   refine .inl ⟨h0,_,cap,rfl,hc,fun i x hi=>?_⟩
   obtain⟨es,he,hr⟩:=hx i x hi
   exact⟨blk,off,es,rfl,hbk,he,Y0 hok (fun _ _ _=>rfl) hr⟩
  | some p=>
   obtain⟨lo,hi⟩:=p
   obtain⟨h1,h2,rfl⟩:=hv
   have hl:(aX (some (lo,hi)) xs).length=hi -lo:=by simp[aX,gQ];omega
   refine .inl ⟨h0,_,cap -lo,by rw[hl],by rw[hl];omega,fun i x hix=>?_⟩
   have hi' :i<hi -lo:=by rw[←hl];exact(J7.1 hix).1
   have hx' :xs[lo+i]? =some x:=by
    simp only[aX,gQ,List.getElem?_drop,List.getElem?_take]at hix
    split at hix
    ·exact hix
    ·cases hix
   obtain⟨es,he,hr⟩:=hx _ x hx'
   have hne:cap≠lo:=by omega
   refine⟨blk,off+lo*t.size,es,by simp[hne],hbk,?_,Y0 hok (fun _ _ _=>rfl) hr⟩
   rw[←he];congr 1;rw[Nat.add_mul];omega
end Go.GP
namespace Go.GP
abbrev Sm:=Nat→V
def upd (S:Sm) (k:Nat) (v:V):Sm:=fun n=>if n=k then v else S n
@[simp] theorem dL (S:Sm) (k:Nat) (v:V):upd S k v k=v:=by simp[upd]
theorem U6 (S:Sm) {k n:Nat} (v:V) (h:n≠k):upd S k v n=S n:=by simp[upd,h]
def Cmd.eval {α:Type} :Cmd α→Sm→Tr→Option (α×Sm×Tr)
 | .ret x,S,t=>some (x,S,t)
 | .fail,_,_=>none
 | .get k c,S,t=>(c (S k)).eval S (k::t.1,t.2)
 | .set k v c,S,t=>c.eval (upd S k v) (t.1,k::t.2)
 | .opt o c,S,t=>match o with | some x=>(c x).eval S t | none=>none
 | .br b c d,S,t=>if b=true then c.eval S t else d.eval S t
def Cmd.post {α:Type} :Cmd α→Sm→(α→Sm→Prop)→Prop
 | .ret x,S,Q=>Q x S
 | .fail,_,_=>True
 | .get k c,S,Q=>(c (S k)).post S Q
 | .set k v c,S,Q=>c.post (upd S k v) Q
 | .opt o c,S,Q=>∀x,o=some x→(c x).post S Q
 | .br b c d,S,Q=>(b=true→c.post S Q)∧(b=false→d.post S Q)
theorem kD {α:Type} {Q:α→Sm→Prop} :∀{c:Cmd α} {S S' :Sm} {t t' :Tr} {x:α},c.post S Q→c.eval S t=some (x,S',t')→Q x S'
 | .ret x,_,_,_,_,_,h,e=>by simp[Cmd.eval]at e;obtain⟨rfl,rfl,rfl⟩:=e;exact h
 | .fail,_,_,_,_,_,h,e=>by simp[Cmd.eval]at e
 | .get k c,_,_,_,_,_,h,e=>kD (c:=c _) h e
 | .set k v c,_,_,_,_,_,h,e=>kD (c:=c) h e
 | .opt o c,_,_,_,_,_,h,e=>by
  cases o with
  | none=>simp[Cmd.eval]at e
  | some x=>exact kD (c:=c x) (h x rfl) e
 | .br b c d,_,_,_,_,_,h,e=>by
  cases b
  ·exact kD (c:=d) (h.2 rfl) (by simpa[Cmd.eval]using e)
  ·exact kD (c:=c) (h.1 rfl) (by simpa[Cmd.eval]using e)
theorem sK {α:Type} {Q Q' :α→Sm→Prop} (hq:∀x S,Q x S→Q' x S):∀{c:Cmd α} {S:Sm},c.post S Q→c.post S Q'
 | .ret x,_,h=>hq _ _ h
 | .fail,_,_=>trivial
 | .get k c,_,h=>sK hq (c:=c _) h
 | .set k v c,_,h=>sK hq (c:=c) h
 | .opt o c,_,h=>fun x e=>sK hq (c:=c x) (h x e)
 | .br b c d,_,h=>⟨fun e=>sK hq (c:=c) (h.1 e),fun e=>sK hq (c:=d) (h.2 e)⟩
theorem xO {R:Type} :∀(v:V) (K:V→R),v.force K=K v:=by
 intro v
 induction v using V.rec (motive_2:=fun _=>True) <;> try trivial
 all_goals intro K
 all_goals try rfl
 case i k n=>cases k <;> rfl
 case own bx vw=>cases vw <;> rfl
 case barrs m xs h=>rcases h with _ | ⟨p,q,_ | r⟩ <;> rfl
 case ifc t v ih=>simp only[V.force];rw[ih]
theorem Qu {R:Type} :∀(l:List V) (K:List V→R),Ic l K=K l
 | [],_=>rfl
 | v::r,K=>by simp[Ic,xO,Qu r]
theorem a1w {R:Type} (v:V) (K:V→R):v.force2 K=K v:=by
 unfold V.force2;rw[xO]
 cases v <;> simp[Qu]
theorem ZO (k:Nat) (v:V) (s:St):Y2 (.kv k v::s)=upd (Y2 s) k v:=by
 funext n
 simp only[Y2,upd]
 by_cases h:n=k
 ·subst h;simp
 ·have:Nat.beq k n=false:=by
   cases hb:Nat.beq k n with
   | false=>rfl
   | true=>exact absurd (aV hb).symm h
  simp[h,this]
theorem vJ {α β:Type} {o:Option α} {f:α→Option β} {r:β} (h:o6 o f=some r):∃x,o=some x∧f x=some r:=by
 cases o with
 | none=>simp[o6]at h
 | some x=>exact⟨x,rfl,h⟩
theorem gX {α R:Type} :∀{c:Cmd α} {s:St} {t:Tr} {K:α→St→Tr→Option R} {r:R},c.runK s t K=some r→
  ∃x s' t',c.eval (Y2 s) t=some (x,Y2 s',t')∧K x s' t' =some r
 | .ret x,s,t,K,r,h=>⟨x,s,t,rfl,h⟩
 | .fail,_,_,_,_,h=>by simp[Cmd.runK]at h
 | .get k c,s,t,K,r,h=>by
  simp only[Cmd.runK,xO]at h
  exact gX (c:=c _) h
 | .set k v c,s,t,K,r,h=>by
  simp only[Cmd.runK,a1w]at h
  obtain⟨x,s',t',e,hk⟩:=gX (c:=c) h
  exact⟨x,s',t',by simpa[Cmd.eval,ZO]using e,hk⟩
 | .opt o c,s,t,K,r,h=>by
  simp only[Cmd.runK]at h
  obtain⟨y,rfl,h⟩:=vJ h
  exact gX (c:=c y) h
 | .br b c d,s,t,K,r,h=>by
  simp only[Cmd.runK]at h
  cases b
  ·obtain⟨x,s',t',e,hk⟩:=gX (c:=d) (show d.runK s t K=some r from h)
   exact⟨x,s',t',by simpa[Cmd.eval]using e,hk⟩
  ·obtain⟨x,s',t',e,hk⟩:=gX (c:=c) (show c.runK s t K=some r from h)
   exact⟨x,s',t',by simpa[Cmd.eval]using e,hk⟩
theorem rU {α:Type} :∀{c:Cmd α} {S S' :Sm} {t t' :Tr} {x:α},c.eval S t=some (x,S',t')→(∀k∈t.1,k∈t'.1)∧(∀k∈t.2,k∈t'.2)
 | .ret x,_,_,_,_,_,e=>by simp[Cmd.eval]at e;obtain⟨rfl,rfl,rfl⟩:=e;exact⟨fun _ h=>h,fun _ h=>h⟩
 | .fail,_,_,_,_,_,e=>by simp[Cmd.eval]at e
 | .get k c,_,_,_,_,_,e=>by
  have h:=rU (c:=c _) e
  exact⟨fun n hn=>h.1 n (by simp[hn]),h.2⟩
 | .set k v c,_,_,_,_,_,e=>by
  have h:=rU (c:=c) e
  exact⟨h.1,fun n hn=>h.2 n (by simp[hn])⟩
 | .opt o c,_,_,_,_,_,e=>by
  cases o with
  | none=>simp[Cmd.eval]at e
  | some x=>exact rU (c:=c x) e
 | .br b c d,_,_,_,_,_,e=>by
  cases b
  ·exact rU (c:=d) (by simpa[Cmd.eval]using e)
  ·exact rU (c:=c) (by simpa[Cmd.eval]using e)
theorem pY {α:Type} :∀{c:Cmd α} {S S' :Sm} {t t' :Tr} {x:α},c.eval S t=some (x,S',t')→∀T:Sm,(∀k∈t'.1,T k=S k)→
  ∃T',c.eval T t=some (x,T',t')∧(∀k,T k=S k→T' k=S' k)∧(∀k,k∉t'.2→T' k=T k)∧(∀k,k∈t'.2→k∉t.2→T' k=S' k)
 | .ret x,_,_,_,_,_,e,T,hT=>by
  simp[Cmd.eval]at e;obtain⟨rfl,rfl,rfl⟩:=e
  exact⟨T,rfl,fun k h=>h,fun _ _=>rfl,fun k h1 h2=>absurd h1 h2⟩
 | .fail,_,_,_,_,_,e,_,_=>by simp[Cmd.eval]at e
 | .get k c,S,_,t,t',_,e,T,hT=>by
  have hk:T k=S k:=hT k ((rU (c:=c _) e).1 k (by simp))
  obtain⟨T',h1,h2,h3,h4⟩:=pY (c:=c _) e T hT
  exact⟨T',by simpa[Cmd.eval,hk]using h1,h2,h3,h4⟩
 | .set k v c,S,_,t,t',_,e,T,hT=>by
  obtain⟨T',h1,h2,h3,h4⟩:=pY (c:=c) e (upd T k v) (fun n hn=>by
   by_cases h:n=k
   ·subst h;simp
   ·rw[U6 _ _ h,U6 _ _ h];exact hT n hn)
  have hkin:k∈t'.2:=(rU (c:=c) e).2 k (by simp)
  refine⟨T',h1,fun n hn=>h2 n ?_,fun n hn=>?_,fun n hn hn' =>?_⟩
  ·by_cases h:n=k
   ·subst h;simp
   ·rw[U6 _ _ h,U6 _ _ h];exact hn
  ·have:n≠k:=fun h=>hn (h▸hkin)
   rw[h3 n hn,U6 _ _ this]
  ·by_cases h:n=k
   ·subst h;exact h2 n (by simp)
   ·exact h4 n hn (by simp[h,hn'])
 | .opt o c,_,_,_,_,_,e,T,hT=>by
  cases o with
  | none=>simp[Cmd.eval]at e
  | some x=>exact pY (c:=c x) e T hT
 | .br b c d,_,_,_,_,_,e,T,hT=>by
  cases b
  ·obtain⟨T',h1,h2⟩:=pY (c:=d) (by simpa[Cmd.eval]using e) T hT
   exact⟨T',by simpa[Cmd.eval]using h1,h2⟩
  ·obtain⟨T',h1,h2⟩:=pY (c:=c) (by simpa[Cmd.eval]using e) T hT
   exact⟨T',by simpa[Cmd.eval]using h1,h2⟩
theorem yK {α:Type} {c:Cmd α} {S S' :Sm} {t t' :Tr} {x:α} (e:c.eval S t=some (x,S',t')) (k:Nat) (h:k∉t'.2):S' k=S k:=by
 obtain⟨T',h1,_,h3,_⟩:=pY e S (fun _ _=>rfl)
 rw[e]at h1
 simp at h1
 rw[h1];exact h3 k h
section draws
variable {n:Nat} {c:Nat→Cmd Unit} {S:Nat→Sm} {T:Nat→Tr}
def SD (S:Nat→Sm) (T:Nat→Tr) (D:List Nat):Nat→Sm
 | 0=>S 0
 | m+1=>fun k=>if m∈D∧k∈(T m).2 then S (m+1) k else SD S T D m k
theorem BV (hs:∀i,i<n→(c i).eval (S i) ([],[])=some ((),S (i+1),T i)) (D:List Nat) (k:Nat):
  ∀m,m≤n→(∀j,j<m→k∈(T j).2→j∈D)→SD S T D m k=S m k
 | 0,_,_=>rfl
 | m+1,hm,h=>by
  have ih:=BV hs D k m (by omega) (fun j hj=>h j (by omega))
  simp only[SD]
  by_cases hk:k∈(T m).2
  ·rw[if_pos ⟨h m (by omega) hk,hk⟩]
  ·rw[if_neg (fun x=>hk x.2),ih,yK (hs m (by omega)) k hk]
theorem KW (D:List Nat) (k i:Nat):∀m,i≤m→(∀j,i≤j→j<m→k∈(T j).2→j∉D)→SD S T D m k=SD S T D i k
 | m,hm,h=>by
  induction m with
  | zero=>
   have:i=0:=by omega
   subst this;rfl
  | succ m ih=>
   by_cases e:i=m+1
   ·subst e;rfl
   ·simp only[SD]
    rw[if_neg (fun x=>h m (by omega) (by omega) x.2 x.1)]
    exact ih (by omega) (fun j h1 h2=>h j h1 (by omega))
theorem Zh (D:List Nat) (i k:Nat) (hk:k∉(T i).2):∀m,SD S T (i::D) m k=SD S T D m k
 | 0=>rfl
 | m+1=>by
  simp only[SD,Zh D i k hk m]
  by_cases e:m=i
  ·subst e;simp[hk]
  ·simp[List.mem_cons,e]
theorem a2Q (hs:∀i,i<n→(c i).eval (S i) ([],[])=some ((),S (i+1),T i)) {D:List Nat} (hD:∀i,i<n→i∈D):SD S T D n=S n:=by
 funext k
 exact BV hs D k n (by omega) (fun j hj _=>hD j hj)
theorem b2W (n:Nat):SD S T [] n=S 0:=by
 induction n with
 | zero=>rfl
 | succ m ih=>funext k;simp[SD,ih]
end draws
end Go.GP
namespace Go.GP
structure Fx where
 P:Program
 E:Env
 w0:World
 O:List Nat
 ok0:Nat→Ty→Prop
 tm0:Array Value
structure Frame' (w0 w:World) (O:List Nat):Prop where
 os:w.os=w0.os
 tape:w.tape=w0.tape
 output:w.output=w0.output
 size:w0.heap.size≤w.heap.size
 block:∀b,b<w0.heap.size→b∉O→w.heap[b]? =w0.heap[b]?
theorem Frame'.refl (w:World) (O:List Nat):Frame' w w O:=⟨rfl,rfl,rfl,Nat.le_refl _,fun _ _ _=>rfl⟩
def a9m (h:Array Obj) (g n:Nat):Prop:=∃c T f,h[g]? =some (.cells c T f)∧c.size=n
def GX (C:Cx) (g:Nat) (t:Ty) (xs:List t.den):Prop:=
 C.ok g t∧a9m C.h g (xs.length*t.size)∧∀i x,xs[i]? =some x→∃es,Y1 C.h g (i*t.size) t.size=some es∧rep C.h C.ok t x es
theorem GX.le {C D:Cx} (h:C.le D) {g:Nat} {t:Ty} {xs:List t.den} (k:GX C g t xs):GX D g t xs:=by
 obtain⟨h1,h3,h2⟩:=k
 refine⟨h.ok _ _ h1,by unfold a9m at h3 ⊢;rw[h.h _ _ h1];exact h3,fun i x hi=>?_⟩
 obtain⟨es,he,hr⟩:=h2 i x hi
 exact⟨es,by rw[jr (h.h _ _ h1)];exact he,Y0 h.ok h.h hr⟩
structure Rel (X:Fx) (cl ch:Nat) (S:Sm) (m:Mp) (ok:Nat→Ty→Prop) (a:Act) (w:World):Prop where
 size:a.tmps.size=X.E.nt
 nodef:a.defers=[]
 slot:∀n,n<BOX→fE ⟨w.heap,ok,m⟩ (S n) (a.tmps.getD n Go.undef)
 box:∀n,vP ⟨w.heap,ok,m⟩ n (S (BOX+n))
 inj:∀n n' b,b∈J9 m n (S (BOX+n))→b∈J9 m n' (S (BOX+n'))→n=n'
 nd:∀n,(J9 m n (S (BOX+n))).Nodup
 sep:∀n b,b∈J9 m n (S (BOX+n))→(∀t,¬ok b t)∧b<w.heap.size∧(X.w0.heap.size≤b∨b∈X.O)
 okLt:∀b t,ok b t→b<w.heap.size
 okIn:∀b t,X.ok0 b t→ok b t
 okOut:∀b t,ok b t→X.ok0 b t∨X.w0.heap.size≤b∨b∈X.O
 frame:Frame' X.w0 w X.O
 fresh:∀n,cl≤n→S (BOX+n)= .undef→m n=none
 strict:∀n,ch≤n→m n=none
 gl:∀g u,Y3 X.E.gl g=some u→GX ⟨w.heap,ok,m⟩ g u.1 u.2
 kept:∀n∈X.E.kp,a.tmps.getD n Go.undef=X.tm0.getD n Go.undef
def fG (m:Mp) (n:Nat) (l:Loc) (ks:List Nat):Mp:=⟨fun k=>if k=n then some l else m k,fun k=>if k=n then ks else m.kid k⟩
@[simp] theorem Y8 (m:Mp) (n:Nat) (l:Loc) (ks:List Nat):fG m n l ks n=some l:=by simp[fG]
theorem dh (m:Mp) {n k:Nat} (l:Loc) (ks:List Nat) (h:k≠n):fG m n l ks k=m k:=by simp[fG,h]
@[simp] theorem c3q (m:Mp) (n:Nat) (l:Loc) (ks:List Nat):(fG m n l ks).kid n=ks:=by simp[fG]
theorem Je (m:Mp) {n k:Nat} (l:Loc) (ks:List Nat) (h:k≠n):(fG m n l ks).kid k=m.kid k:=by simp[fG,h]
def vZ (m:Mp) (n:Nat) (ks:List Nat):Mp:=⟨m.loc,fun k=>if k=n then ks else m.kid k⟩
@[simp] theorem c2a (m:Mp) (n k:Nat) (ks:List Nat):vZ m n ks k=m k:=rfl
@[simp] theorem c1Z (m:Mp) (n:Nat) (ks:List Nat):(vZ m n ks).kid n=ks:=by simp[vZ]
theorem Ri (m:Mp) {n k:Nat} (ks:List Nat) (h:k≠n):(vZ m n ks).kid k=m.kid k:=by simp[vZ,h]
theorem oh (m:Mp) (n:Nat):vZ m n (m.kid n)=m:=by
 cases m with | mk l k=>
 simp only[vZ,Mp.mk.injEq,true_and]
 funext j;split
 ·rename_i e;rw[e]
 ·rfl
theorem yX {m m' :Mp} {n:Nat} {v:V} (h:m' n=m n) (k:m'.kid n=m.kid n):J9 m' n v=J9 m n v:=by
 cases v <;> simp only[J9,h,k]
theorem Py {tmps:Array Value} {d:Nat} (h:d<tmps.size) (x e:Value):(tmps.setIfInBounds d x).getD d e=x:=by
 simp[Array.getD,h]
theorem AA {tmps:Array Value} {d n:Nat} (h:n≠d) (x e:Value):(tmps.setIfInBounds d x).getD n e=tmps.getD n e:=by
 simp only[Array.getD_eq_getD_getElem?]
 rw[Array.getElem?_setIfInBounds]
 simp[Ne.symm h]
structure Tk (X:Fx) (S:Sm) (m:Mp) (ok:Nat→Ty→Prop) (w:World) (T:List Nat):Prop where
 nodup:T.Nodup
 free:∀b∈T,(∀t,¬ok b t)∧b<w.heap.size∧(X.w0.heap.size≤b∨b∈X.O)∧∀n,b∉J9 m n (S (BOX+n))
theorem Tk.nil {X:Fx} {S:Sm} {m:Mp} {ok:Nat→Ty→Prop} {w:World} :Tk X S m ok w []:=⟨List.nodup_nil,fun b h=>by cases h⟩
def okW (ok:Nat→Ty→Prop) (bs:List Nat) (Ts:List Ty):Nat→Ty→Prop:=fun b t=>ok b t∨(b∈bs∧t∈Ts)
section
variable {X:Fx} {cl ch:Nat} {S:Sm} {m:Mp} {ok:Nat→Ty→Prop} {a:Act} {w:World} {T:List Nat}
theorem Tk.perm {T T' :List Nat} (h:Tk X S m ok w T) (p:T.Perm T'):Tk X S m ok w T' :=
 ⟨p.nodup_iff.1 h.nodup,fun b hb=>h.free b (p.mem_iff.2 hb)⟩
theorem Tk.left {T T' :List Nat} (h:Tk X S m ok w (T++T')):Tk X S m ok w T:=
 ⟨(List.nodup_append.1 h.nodup).1,fun b hb=>h.free b (List.mem_append_left _ hb)⟩
theorem Tk.right {T T' :List Nat} (h:Tk X S m ok w (T++T')):Tk X S m ok w T' :=
 ⟨(List.nodup_append.1 h.nodup).2.1,fun b hb=>h.free b (List.mem_append_right _ hb)⟩
theorem Nw {n:Nat} :∀{l:List Nat},vH n l=false→n∉l
 | [],_,h=>by cases h
 | k::r,hb,h=>by
  unfold vH at hb
  cases hk:Nat.beq k n <;> rw[hk]at hb
  ·rcases List.mem_cons.1 h with e | h
   ·subst e;rw[show Nat.beq n n=true from Nat.beq_refl n]at hk;cases hk
   ·exact Nw hb h
  ·cases hb
theorem QK {n:Nat} :∀{l:List Nat},vH n l=true→n∈l
 | [],h=>by cases h
 | k::r,hb=>by
  unfold vH at hb
  cases hk:Nat.beq k n <;> rw[hk]at hb
  ·exact List.mem_cons_of_mem _ (QK hb)
  ·have:=aV hk
   subst this;exact List.mem_cons_self
theorem sH {E:Env} {t:Nat} (h:QP E t=true):t<E.nt∧t∉E.kp:=by
 unfold QP at h
 cases hb:Nat.blt t E.nt <;> rw[hb]at h
 ·cases h
 ·simp only[cond_true,Bool.not_eq_true']at h
  exact⟨by rw[Nat.blt_eq]at hb;exact hb,Nw h⟩
theorem Rel.put (R:Rel X cl ch S m ok a w) (hnt:X.E.nt≤BOX) {d:Nat} {v:V} {x:Value} (hd:QP X.E d=true) (hv:fE ⟨w.heap,ok,m⟩ v x):
  Rel X cl ch (upd S d v) m ok (a.put (some d) x) w:=by
 obtain⟨hd,hkp⟩:=sH hd
 have hb:∀n,upd S d v (BOX+n)=S (BOX+n):=fun n=>U6 _ _ (by omega)
 have hkept:∀n∈X.E.kp,(a.put (some d) x).tmps.getD n Go.undef=X.tm0.getD n Go.undef:=fun n hn=>by
  have e:n≠d:=fun e=>hkp (e▸hn)
  simp only[Act.put]
  rw[AA e];exact R.kept n hn
 refine { R with size:=(by simp[Act.put,R.size]),nodef:=(by simp[Act.put,R.nodef]),slot:=fun n hn=>?_,box:=fun n=>(by rw[hb];exact R.box n),inj:=fun n n' b=>(by rw[hb,hb];exact R.inj n n' b),nd:=fun n=>(by rw[hb];exact R.nd n),sep:=fun n b=>(by rw[hb];exact R.sep n b),fresh:=fun n h1 h2=>R.fresh n h1 (by rwa[hb]at h2),kept:=hkept }
 by_cases e:n=d
 ·subst e
  simp only[dL,Act.put]
  rw[Py (by rw[R.size];exact hd)];exact hv
 ·rw[U6 _ _ e]
  simp only[Act.put]
  rw[AA e];exact R.slot n hn
theorem Rel.slotV (R:Rel X cl ch S m ok a w) {d:Nat} {v:V} (hd:d<BOX) (hv:fE ⟨w.heap,ok,m⟩ v (a.tmps.getD d Go.undef)):
  Rel X cl ch (upd S d v) m ok a w:=by
 have hb:∀n,upd S d v (BOX+n)=S (BOX+n):=fun n=>U6 _ _ (by omega)
 refine { R with slot:=fun n hn=>?_,box:=fun n=>(by rw[hb];exact R.box n),inj:=fun n n' b=>(by rw[hb,hb];exact R.inj n n' b),nd:=fun n=>(by rw[hb];exact R.nd n),sep:=fun n b=>(by rw[hb];exact R.sep n b),fresh:=fun n h1 h2=>R.fresh n h1 (by rwa[hb]at h2) }
 by_cases e:n=d
 ·subst e;simp only[dL];exact hv
 ·rw[U6 _ _ e];exact R.slot n hn
theorem Rel.world (R:Rel X cl ch S m ok a w) {ok' :Nat→Ty→Prop} {w' :World} (hos:w'.os=w.os) (htp:w'.tape=w.tape) (hout:w'.output=w.output) (hsz:w.heap.size≤w'.heap.size)
  (hkeep:∀b,b<w.heap.size→((∃t,ok b t)∨(∃n,b∈J9 m n (S (BOX+n)))∨¬(X.w0.heap.size≤b∨b∈X.O))→w'.heap[b]? =w.heap[b]?)
  (hok:∀b t,ok b t→ok' b t) (hok' :∀b t,ok' b t→b<w'.heap.size∧(ok b t∨((X.w0.heap.size≤b∨b∈X.O)∧∀n,b∉J9 m n (S (BOX+n))))):
  Rel X cl ch S m ok' a w' :=by
 have hle:Cx.le ⟨w.heap,ok,m⟩ ⟨w'.heap,ok',m⟩:=⟨hok,fun b t hb=>hkeep b (R.okLt b t hb) (.inl ⟨t,hb⟩),fun _ _ h=>h⟩
 refine { kept:=R.kept,size:=R.size,nodef:=R.nodef,inj:=R.inj,nd:=R.nd,fresh:=R.fresh,strict:=R.strict,slot:=fun n hn=>Gj hle (R.slot n hn),box:=fun n=>KL hle rfl (fun b hb=>hkeep b (R.sep n b hb).2.1 (.inr (.inl ⟨n,hb⟩))) (R.box n),sep:=fun n b hb=>?_,okLt:=fun b t hb=>(hok' b t hb).1,okIn:=fun b t hb=>hok b t (R.okIn b t hb),okOut:=fun b t hb=>?_,frame:=?_,gl:=fun g u hg=>GX.le hle (R.gl g u hg) }
 ·obtain⟨h1,h2,h3⟩:=R.sep n b hb
  refine⟨fun t h=>?_,by omega,h3⟩
  rcases(hok' b t h).2 with h | ⟨_,h⟩
  ·exact h1 t h
  ·exact h n hb
 ·rcases(hok' b t hb).2 with h | ⟨h,_⟩
  ·exact R.okOut b t h
  ·exact .inr h
 ·obtain⟨f1,f2,f3,f4,f5⟩:=R.frame
  refine⟨hos.trans f1,htp.trans f2,hout.trans f3,by omega,fun b hb hO=>?_⟩
  rw[hkeep b (by omega) (.inr (.inr (by simp[hO];omega)))]
  exact f5 b hb hO
theorem Rel.same (R:Rel X cl ch S m ok a w) {w' :World} (hos:w'.os=w.os) (htp:w'.tape=w.tape) (hout:w'.output=w.output) (hh:w'.heap=w.heap):Rel X cl ch S m ok a w' :=by
 refine R.world hos htp hout (by rw[hh];exact Nat.le_refl _) (fun b _ _=>by rw[hh]) (fun _ _ h=>h) (fun b t h=>⟨by rw[hh];exact R.okLt b t h,.inl h⟩)
theorem sJ {n k b:Nat} {v:V} (hv:J9 m n v=[]) (h:b∈J9 m k (upd S (BOX+n) v (BOX+k))):k≠n∧b∈J9 m k (S (BOX+k)):=by
 by_cases e:k=n
 ·subst e;rw[dL,hv]at h;cases h
 ·rw[U6 _ _ (by omega)]at h;exact⟨e,h⟩
theorem Rel.killV (R:Rel X cl ch S m ok a w) (n:Nat) {v:V} (hv:v≠.undef) (hw:J9 m n v=[]) (hB:vP ⟨w.heap,ok,m⟩ n v):Rel X cl ch (upd S (BOX+n) v) m ok a w:=by
 have ho:∀k b,b∈J9 m k (upd S (BOX+n) v (BOX+k))→k≠n∧b∈J9 m k (S (BOX+k)):=fun k b h=>sJ hw h
 refine { R with slot:=fun k hk=>(by rw[U6 _ _ (by omega)];exact R.slot k hk),box:=fun k=>?_,inj:=fun k k' b h h' =>R.inj k k' b (ho _ _ h).2 (ho _ _ h').2,nd:=fun k=>?_,sep:=fun k b h=>R.sep k b (ho _ _ h).2,fresh:=fun k h1 h2=>?_ }
 ·by_cases e:k=n
  ·subst e;rw[dL];exact hB
  ·rw[U6 _ _ (by omega)];exact R.box k
 ·by_cases e:k=n
  ·subst e;rw[dL,hw];exact List.nodup_nil
  ·rw[U6 _ _ (by omega)];exact R.nd k
 ·by_cases e:k=n
  ·subst e;rw[dL]at h2;exact absurd h2 hv
  ·rw[U6 _ _ (by omega)]at h2;exact R.fresh k h1 h2
theorem Rel.kill (R:Rel X cl ch S m ok a w) (n:Nat):Rel X cl ch (upd S (BOX+n) .dead) m ok a w:=R.killV n (by simp) rfl trivial
theorem Tk.killV (R:Rel X cl ch S m ok a w) (h:Tk X S m ok w T) (n:Nat) {v:V} (hw:J9 m n v=[]) {bs:List Nat} (hbs:∀b,b∈bs→b∈J9 m n (S (BOX+n))) (hnd:bs.Nodup):
  Tk X (upd S (BOX+n) v) m ok w (T++bs):=by
 refine⟨List.nodup_append.2 ⟨h.nodup,hnd,fun x hx y hy e=>?_⟩,fun b hb=>?_⟩
 ·subst e;exact(h.free x hx).2.2.2 n (hbs x hy)
 ·rcases List.mem_append.1 hb with hb | hb
  ·obtain⟨h1,h2,h3,h4⟩:=h.free b hb
   exact⟨h1,h2,h3,fun k e=>h4 k (sJ hw e).2⟩
  ·obtain⟨h1,h2,h3⟩:=R.sep n b (hbs b hb)
   exact⟨h1,h2,h3,fun k e=>(sJ hw e).1 (R.inj k n b (sJ hw e).2 (hbs b hb))⟩
theorem Rel.mark (R:Rel X cl ch S m ok a w) {n:Nat} {md:M} {xs:List md.den} (hS:S (BOX+n)= .barrs md xs none):Rel X cl ch (upd S (BOX+(GZ+n)) (.blen (o8 xs) md.size)) m ok a w:=by
 refine R.killV (GZ+n) (by simp) rfl ?_
 have hb:=R.box n
 rw[hS]at hb
 obtain⟨_,l,Os,hm,⟨ha,hho⟩,_⟩:=hb
 refine⟨n,l,rfl,hm,?_⟩
 cases l with
 | nil=>obtain⟨rfl,_⟩:=ha;rfl
 | st b=>cases ha
 | mp b=>cases ha
 | arr blk off len cap sz=>exact⟨by rw[ha.2.1];rfl,ha.1.symm⟩
theorem Tk.kill (R:Rel X cl ch S m ok a w) (h:Tk X S m ok w T) (n:Nat) {bs:List Nat} (hbs:∀b,b∈bs→b∈J9 m n (S (BOX+n))) (hnd:bs.Nodup):
  Tk X (upd S (BOX+n) .dead) m ok w (T++bs):=h.killV R n rfl hbs hnd
theorem Rel.lay (R:Rel X cl ch S m ok a w) {n:Nat} {l:Loc} {ks:List Nat} {v:V} {w' :World} (hn:S (BOX+n)= .undef) (hcl:cl≤n) (hch:n<ch) (hv:v≠.undef)
  (hos:w'.os=w.os) (htp:w'.tape=w.tape) (hout:w'.output=w.output) (hsz:w.heap.size≤w'.heap.size)
  (hkeep:∀b,b<w.heap.size→b∉J9 (fG m n l ks) n v→w'.heap[b]? =w.heap[b]?)
  (hnd:(J9 (fG m n l ks) n v).Nodup)
  (hfree:∀b∈J9 (fG m n l ks) n v,(∀t,¬ok b t)∧b<w'.heap.size∧(X.w0.heap.size≤b∨b∈X.O)∧∀k,b∉J9 m k (S (BOX+k)))
  (hB:vP ⟨w'.heap,ok,fG m n l ks⟩ n v):Rel X cl ch (upd S (BOX+n) v) (fG m n l ks) ok a w' :=by
 have hm:m n=none:=R.fresh n hcl hn
 have hR:Rel X cl ch S m ok a w' :=by
  refine R.world hos htp hout hsz (fun b hb h=>?_) (fun _ _ h=>h) (fun b t h=>⟨by have:=R.okLt b t h;omega,.inl h⟩)
  refine hkeep b hb (fun e=>?_)
  obtain⟨h1,h2,h3,h4⟩:=hfree b e
  rcases h with⟨t,h⟩ | ⟨k,h⟩ | h
  ·exact h1 t h
  ·exact h4 k h
  ·exact h h3
 have hle:Cx.le ⟨w'.heap,ok,m⟩ ⟨w'.heap,ok,fG m n l ks⟩:=⟨fun _ _ h=>h,fun _ _ _=>rfl,fun k x h=>by
  by_cases e:k=n
  ·subst e;simp[hm]at h
  ·show fG m n l ks k=some x;rw[dh _ _ _ e];exact h⟩
 have hob:∀k,k≠n→J9 (fG m n l ks) k (upd S (BOX+n) v (BOX+k))=J9 m k (S (BOX+k)):=fun k e=>by
  rw[U6 _ _ (by omega)];exact yX (dh _ _ _ e) (Je _ _ _ e)
 have hobn:J9 (fG m n l ks) n (upd S (BOX+n) v (BOX+n))=J9 (fG m n l ks) n v:=by rw[dL]
 refine { kept:=hR.kept,size:=hR.size,nodef:=hR.nodef,okLt:=hR.okLt,okIn:=hR.okIn,okOut:=hR.okOut,frame:=hR.frame,slot:=fun k hk=>(by rw[U6 _ _ (by omega)];exact Gj hle (hR.slot k hk)),box:=fun k=>?_,inj:=fun k k' b h h' =>?_,nd:=fun k=>?_,sep:=fun k b h=>?_,fresh:=fun k h1 h2=>?_,strict:=fun k h=>?_,gl:=fun g u hg=>GX.le hle (hR.gl g u hg) }
 ·by_cases e:k=n
  ·subst e;rw[dL];exact hB
  ·rw[U6 _ _ (by omega)]
   refine KL hle (Je _ _ _ e) (fun b hb=>rfl) (hR.box k)
 ·by_cases e:k=n
  ·by_cases e' :k' =n
   ·rw[e,e']
   ·subst e
    rw[hobn]at h;rw[hob k' e']at h'
    exact absurd h' ((hfree b h).2.2.2 k')
  ·by_cases e' :k' =n
   ·subst e'
    rw[hobn]at h';rw[hob k e]at h
    exact absurd h ((hfree b h').2.2.2 k)
   ·rw[hob k e]at h;rw[hob k' e']at h'
    exact R.inj k k' b h h'
 ·by_cases e:k=n
  ·subst e;rw[hobn];exact hnd
  ·rw[hob k e];exact R.nd k
 ·by_cases e:k=n
  ·subst e;rw[hobn]at h
   obtain⟨h1,h2,h3,_⟩:=hfree b h
   exact⟨h1,h2,h3⟩
  ·rw[hob k e]at h;exact hR.sep k b h
 ·by_cases e:k=n
  ·subst e;rw[dL]at h2;exact absurd h2 hv
  ·rw[U6 _ _ (by omega)]at h2
   rw[dh _ _ _ e];exact R.fresh k h1 h2
 ·have e:k≠n:=by omega
  rw[dh _ _ _ e];exact R.strict k h
theorem Rel.modK (R:Rel X cl ch S m ok a w) (hT:Tk X S m ok w T) {n:Nat} {v:V} {ks:List Nat} {w' :World} (hv:v≠.undef)
  (hnd:(J9 (vZ m n ks) n v).Nodup) (hsub:∀b∈J9 (vZ m n ks) n v,b∈J9 m n (S (BOX+n))∨b∈T)
  (hos:w'.os=w.os) (htp:w'.tape=w.tape) (hout:w'.output=w.output) (hsz:w'.heap.size=w.heap.size)
  (hkeep:∀b,b∉J9 m n (S (BOX+n))→w'.heap[b]? =w.heap[b]?) (hB:vP ⟨w'.heap,ok,vZ m n ks⟩ n v)
  {T' :List Nat} (hnd' :T'.Nodup) (hT' :∀b∈T',(b∈J9 m n (S (BOX+n))∨b∈T)∧b∉J9 (vZ m n ks) n v):
  Rel X cl ch (upd S (BOX+n) v) (vZ m n ks) ok a w' ∧Tk X (upd S (BOX+n) v) (vZ m n ks) ok w' T' :=by
 have hsep:∀b,b∈J9 m n (S (BOX+n))∨b∈T→(∀t,¬ok b t)∧b<w.heap.size∧(X.w0.heap.size≤b∨b∈X.O)∧∀k,k≠n→b∉J9 m k (S (BOX+k)):=fun b h=>by
  rcases h with h | h
  ·obtain⟨h1,h2,h3⟩:=R.sep n b h
   exact⟨h1,h2,h3,fun k e h' =>e (R.inj k n b h' h)⟩
  ·obtain⟨h1,h2,h3,h4⟩:=hT.free b h
   exact⟨h1,h2,h3,fun k _=>h4 k⟩
 have hle:Cx.le ⟨w.heap,ok,m⟩ ⟨w'.heap,ok,vZ m n ks⟩:=⟨fun _ _ h=>h,fun b t hb=>hkeep b (fun e=>(R.sep n b e).1 t hb),fun _ _ h=>h⟩
 have hob:∀k,k≠n→J9 (vZ m n ks) k (upd S (BOX+n) v (BOX+k))=J9 m k (S (BOX+k)):=fun k e=>by
  rw[U6 _ _ (by omega)];exact yX rfl (Ri _ _ e)
 have hobn:J9 (vZ m n ks) n (upd S (BOX+n) v (BOX+n))=J9 (vZ m n ks) n v:=by rw[dL]
 refine⟨?_,hnd',fun b hb=>?_⟩
 ·refine { kept:=R.kept,size:=R.size,nodef:=R.nodef,okLt:=fun b t hb=>(by rw[hsz];exact R.okLt b t hb),okIn:=R.okIn,okOut:=R.okOut,strict:=R.strict,slot:=fun k hk=>(by rw[U6 _ _ (by omega)];exact Gj hle (R.slot k hk)),box:=fun k=>?_,inj:=fun k k' b h h' =>?_,nd:=fun k=>?_,sep:=fun k b h=>?_,fresh:=fun k h1 h2=>?_,frame:=?_,gl:=fun g u hg=>GX.le hle (R.gl g u hg) }
  ·by_cases e:k=n
   ·subst e;rw[dL];exact hB
   ·rw[U6 _ _ (by omega)]
    refine KL hle (Ri _ _ e) (fun b hb=>hkeep b (fun e' =>e (R.inj k n b hb e'))) (R.box k)
  ·by_cases e:k=n
   ·by_cases e' :k' =n
    ·rw[e,e']
    ·subst e
     rw[hobn]at h;rw[hob k' e']at h'
     exact absurd h' ((hsep b (hsub b h)).2.2.2 k' e')
   ·by_cases e' :k' =n
    ·subst e'
     rw[hobn]at h';rw[hob k e]at h
     exact absurd h ((hsep b (hsub b h')).2.2.2 k e)
    ·rw[hob k e]at h;rw[hob k' e']at h'
     exact R.inj k k' b h h'
  ·by_cases e:k=n
   ·subst e;rw[hobn];exact hnd
   ·rw[hob k e];exact R.nd k
  ·by_cases e:k=n
   ·subst e;rw[hobn]at h
    obtain⟨h1,h2,h3,_⟩:=hsep b (hsub b h)
    exact⟨h1,by rw[hsz];exact h2,h3⟩
   ·rw[hob k e]at h;obtain⟨h1,h2,h3⟩:=R.sep k b h;exact⟨h1,by rw[hsz];exact h2,h3⟩
  ·obtain⟨f1,f2,f3,f4,f5⟩:=R.frame
   refine⟨hos.trans f1,htp.trans f2,hout.trans f3,by rw[hsz];exact f4,fun b hb hO=>?_⟩
   rw[hkeep b (fun e=>?_)]
   ·exact f5 b hb hO
   ·rcases(R.sep n b e).2.2 with h | h
    ·omega
    ·exact hO h
  ·by_cases e:k=n
   ·subst e;rw[dL]at h2;exact absurd h2 hv
   ·rw[U6 _ _ (by omega)]at h2;exact R.fresh k h1 h2
 ·obtain⟨h0,h0'⟩:=hT' b hb
  obtain⟨h1,h2,h3,h4⟩:=hsep b h0
  refine⟨h1,by rw[hsz];exact h2,h3,fun k h=>?_⟩
  by_cases e:k=n
  ·subst e;rw[hobn]at h;exact h0' h
  ·rw[hob k e]at h;exact h4 k e h
theorem Rel.mod (R:Rel X cl ch S m ok a w) {n:Nat} {v:V} {w' :World} (ho:J9 m n v=J9 m n (S (BOX+n))) (hv:v≠.undef)
  (hos:w'.os=w.os) (htp:w'.tape=w.tape) (hout:w'.output=w.output) (hsz:w'.heap.size=w.heap.size)
  (hkeep:∀b,b∉J9 m n (S (BOX+n))→w'.heap[b]? =w.heap[b]?) (hB:vP ⟨w'.heap,ok,m⟩ n v):Rel X cl ch (upd S (BOX+n) v) m ok a w' :=by
 have h:=R.modK (T:=[]) Tk.nil (n:=n) (v:=v) (ks:=m.kid n) (w' :=w') (T' :=[]) hv (by rw[oh,ho];exact R.nd n) (by rw[oh,ho];exact fun b h=> .inl h) hos htp hout hsz hkeep (by rw[oh];exact hB) List.nodup_nil (fun b h=>by cases h)
 rw[oh]at h
 exact h.1
theorem Rel.widen (R:Rel X cl ch S m ok a w) {n:Nat} {v:V} (hv:v≠.undef) (ho:J9 m n v=[]) {Ts:List Ty} {bs:List Nat} (hbs:∀b∈bs,b∈J9 m n (S (BOX+n)))
  (hB:vP ⟨w.heap,okW ok bs Ts,m⟩ n v):Rel X cl ch (upd S (BOX+n) v) m (okW ok bs Ts) a w:=by
 have hmono:∀b t,ok b t→okW ok bs Ts b t:=fun b t h=> .inl h
 have hob:∀k b,b∈J9 m k (upd S (BOX+n) v (BOX+k))→k≠n∧b∈J9 m k (S (BOX+k)):=fun k b h=>sJ ho h
 have hle:Cx.le ⟨w.heap,ok,m⟩ ⟨w.heap,okW ok bs Ts,m⟩:=⟨hmono,fun _ _ _=>rfl,fun _ _ h=>h⟩
 refine { kept:=R.kept,size:=R.size,nodef:=R.nodef,strict:=R.strict,frame:=R.frame,okIn:=fun b t h=>hmono b t (R.okIn b t h),slot:=fun k hk=>(by rw[U6 _ _ (by omega)];exact Gj hle (R.slot k hk)),box:=fun k=>?_,inj:=fun k k' b h h' =>R.inj k k' b (hob _ _ h).2 (hob _ _ h').2,nd:=fun k=>?_,sep:=fun k b h=>?_,okLt:=fun b t h=>?_,okOut:=fun b t h=>?_,fresh:=fun k h1 h2=>?_,gl:=fun g u hg=>GX.le hle (R.gl g u hg) }
 ·by_cases e:k=n
  ·subst e;rw[dL];exact hB
  ·rw[U6 _ _ (by omega)]
   exact KL hle rfl (fun b hb=>rfl) (R.box k)
 ·by_cases e:k=n
  ·subst e;rw[dL,ho];exact List.nodup_nil
  ·rw[U6 _ _ (by omega)];exact R.nd k
 ·obtain⟨e,h⟩:=hob k b h
  obtain⟨h1,h2,h3⟩:=R.sep k b h
  refine⟨fun t h' =>?_,h2,h3⟩
  rcases h' with h' | ⟨h',_⟩
  ·exact h1 t h'
  ·exact e (R.inj k n b h (hbs b h'))
 ·rcases h with h | ⟨h,_⟩
  ·exact R.okLt b t h
  ·exact(R.sep n b (hbs b h)).2.1
 ·rcases h with h | ⟨h,_⟩
  ·exact R.okOut b t h
  ·exact .inr (R.sep n b (hbs b h)).2.2
 ·by_cases e:k=n
  ·subst e;rw[dL]at h2;exact absurd h2 hv
  ·rw[U6 _ _ (by omega)]at h2;exact R.fresh k h1 h2
theorem Tk.widen (h:Tk X S m ok w T) {n:Nat} {v:V} (ho:J9 m n v=[]) {Ts:List Ty} {bs:List Nat} (hbs:∀b∈bs,b∈J9 m n (S (BOX+n))):
  Tk X (upd S (BOX+n) v) m (okW ok bs Ts) w T:=by
 refine⟨h.nodup,fun b hb=>?_⟩
 obtain⟨h1,h2,h3,h4⟩:=h.free b hb
 refine⟨fun t e=>?_,h2,h3,fun k e=>h4 k (sJ ho e).2⟩
 rcases e with e | ⟨e,_⟩
 ·exact h1 t e
 ·exact h4 n (hbs b e)
theorem Rel.backV (R:Rel X cl ch S m ok a w) {n:Nat} {v:V} {O1 B:List Nat} (hv:v≠.undef) (hT:Tk X S m ok w (O1++B)) (ho:J9 m n v=O1) (hB:vP ⟨w.heap,ok,m⟩ n v):
  Rel X cl ch (upd S (BOX+n) v) m ok a w∧Tk X (upd S (BOX+n) v) m ok w B:=by
 have hnd:=List.nodup_append.1 hT.nodup
 have h:=R.modK hT (n:=n) (v:=v) (ks:=m.kid n) (w' :=w) (T' :=B) hv (by rw[oh,ho];exact hnd.1) (by rw[oh,ho];exact fun b h=> .inr (by simp[h])) rfl rfl rfl rfl (fun _ _=>rfl) (by rw[oh];exact hB) hnd.2.1
  (fun b hb=>⟨.inr (by simp[hb]),by rw[oh,ho];exact fun h=>hnd.2.2 b h b hb rfl⟩)
 rw[oh]at h
 exact h
end
end Go.GP
namespace Go.GP
def zy:Loc→Option (Nat×Nat)→Loc
 | .arr blk off len cap sz,some (lo,hi)=>if cap=lo then .arr blk off 0 0 sz else .arr blk (off+lo*sz) (hi -lo) (cap -lo) sz
 | l,_=>l
theorem yu {C:Cx} {t:Ty} {xs:List t.den} {l:Loc} {vw:Option (Nat×Nat)} {v:Value} (ha:arrOk C t xs l) (hv:l.view vw v):
  arrOk C t (aX vw xs) (zy l vw)∧(zy l vw).view none v∧(zy l vw).blks=l.blks:=by
 cases l with
 | st b=>cases ha
 | mp b=>
  cases vw with
  | none=>exact⟨ha,hv,rfl⟩
  | some p=>cases hv
 | nil=>
  obtain⟨ha,h0⟩:=ha;subst ha
  cases vw with
  | none=>exact⟨⟨rfl,h0⟩,hv,rfl⟩
  | some p=>obtain⟨lo,hi⟩:=p;obtain⟨rfl,rfl,rfl⟩:=hv;exact⟨⟨rfl,h0⟩,rfl,rfl⟩
 | arr blk off len cap sz=>
  cases vw with
  | none=>exact⟨ha,hv,rfl⟩
  | some p=>
   obtain⟨lo,hi⟩:=p
   obtain⟨h0,rfl,rfl,hc,c,T,hh,hs,hx⟩:=ha
   obtain⟨h1,h2,rfl⟩:=hv
   have hl:(aX (some (lo,hi)) xs).length=hi -lo:=by simp[aX,gQ];omega
   by_cases e:cap=lo
   ·subst e
    have e2:hi=cap:=by omega
    subst e2
    simp only[zy,if_true,Loc.view,Nat.sub_self]
    refine⟨⟨h0,rfl,by rw[hl];omega,Nat.le_refl _,c,T,hh,?_,fun i x hi=>?_⟩,trivial,rfl⟩
    ·have:=Nat.zero_le (hi*t.size);omega
    ·have:i<0:=by
      have:=(J7.1 hi).1;rw[hl]at this;omega
     omega
   ·simp only[zy,e,if_false,Loc.view]
    refine⟨⟨h0,rfl,by rw[hl],by omega,c,T,hh,?_,fun i x hix=>?_⟩,trivial,rfl⟩
    ·have:off+lo*t.size+(cap -lo)*t.size=off+cap*t.size:=by
      rw[Nat.add_assoc,←Nat.add_mul];congr 2;omega
     rw[this];exact hs
    ·have hi' :i<hi -lo:=by rw[←hl];exact(J7.1 hix).1
     have hx' :xs[lo+i]? =some x:=by
      simp only[aX,gQ,List.getElem?_drop,List.getElem?_take]at hix
      split at hix
      ·exact hix
      ·cases hix
     obtain⟨es,he,hr⟩:=hx _ x hx'
     refine⟨es,?_,hr⟩
     rw[←he];congr 1;rw[Nat.add_mul];omega
def IE (ag:Bool) (v:Value) (cs:List Value):Prop:=match ag with
 | true=>∃arr,v= .agg arr∧arr.toList=cs
 | false=>cs=[v]
def kS (h:Array Obj) (ok:Nat→Ty→Prop):(ms:List MG)→aK ms→List Value→List Nat→Prop
 | [],_,vs,O=>vs=[]∧O=[]
 | [m],x,vs,O=>∃v cs,vs=[v]∧IE m.1 v cs∧gI h ok m.2 none x cs O
 | m::m' ::r,x,vs,O=>∃v cs vs' O1 O2,vs=v::vs' ∧O=O1++O2∧IE m.1 v cs∧gI h ok m.2 none x.1 cs O1∧kS h ok (m' ::r) x.2 vs' O2
theorem jm {l:Loc} {vw:Option (Nat×Nat)} {v:Value} (h:l.view vw v):v.oneCell' =true:=by
 cases l <;> rcases vw with _ | ⟨lo,hi⟩ <;> simp only[Loc.view]at h
 ·subst h;rfl
 ·obtain⟨_,_,rfl⟩:=h;rfl
 ·subst h;rfl
 ·obtain⟨_,_,rfl⟩:=h;rfl
 ·subst h;rfl
theorem Md {h:Array Obj} {ok:Nat→Ty→Prop} {t:Ty} {x:t.den} {o:Nat} {v:Value} (k:Xn h ok t x o v):v.oneCell' =true:=by
 obtain⟨_,_,_,rfl,_⟩:=k;rfl
section
variable {h:Array Obj} {ok:Nat→Ty→Prop}
theorem oO {t:Ty} {xs:List t.den} {cs:List Value} {O:List Nat} :gI h ok (.own t) none xs cs O↔∃l v,cs=[v]∧l.view none v∧arrOk ⟨h,ok,nom⟩ t xs l∧O=l.blks:=by
 constructor
 ·rintro⟨v,e,_,l,hv,ha,ho⟩;exact⟨l,v,e,hv,ha,ho⟩
 ·rintro⟨l,v,e,hv,ha,ho⟩;exact⟨v,e,jm hv,l,hv,ha,ho⟩
theorem qA {m:M} {xs:List m.den} {cs:List Value} {O:List Nat} :gI h ok (.owns m) none xs cs O↔m.el=true∧∃l v Os,cs=[v]∧l.view none v∧
  tZ h m.size (fun _ x es O=>gI h ok m none x es O) xs Os l∧O=l.blks++Os.flatten:=by
 constructor
 ·rintro⟨v,e,_,he,l,Os,hv,ha,ho⟩;exact⟨he,l,v,Os,e,hv,ha,ho⟩
 ·rintro⟨he,l,v,Os,e,hv,ha,ho⟩;exact⟨v,e,jm hv,he,l,Os,hv,ha,ho⟩
theorem a2q {a b:M} {x:a.den×b.den} {cs:List Value} {O:List Nat} :gI h ok (.pair a b) none x cs O↔∃c d O1 O2,cs=c++d∧O=O1++O2∧gI h ok a none x.1 c O1∧gI h ok b none x.2 d O2:=Iff.rfl
theorem mX:∀{m:M} {ho:Option Nat} {x:m.den} {cs:List Value} {O:List Nat},gI h ok m ho x cs O→∀v∈cs,v.oneCell' =true
 | .dat t,_,_,_,_,e=>mY e.1
 | .own t,_,_,_,_,⟨v,e,hv,_⟩=>by subst e;simp[hv]
 | .owns t,_,_,_,_,⟨v,e,hv,_⟩=>by subst e;simp[hv]
 | .ownb t,_,_,_,_,⟨l,v,e,hv,_⟩=>by subst e;simp[jm hv]
 | .pair a b,_,_,_,_,⟨c,d,_,_,e,_,h1,h2⟩=>by
  subst e;intro v hv
  rcases List.mem_append.1 hv with hv | hv
  ·exact mX h1 v hv
  ·exact mX h2 v hv
 | .unit,_,_,_,_,⟨e,_⟩=>by subst e;simp
 | .box m,_,_,_,_,⟨_,_,_,_,e,_⟩=>by subst e;simp[Value.oneCell']
 | .rp t,_,_,_,_,⟨v,e,hv,_⟩=>by subst e;simp[Md hv]
 | .fn f ts,_,_,_,_,⟨vs,e,_⟩=>by subst e;simp[Value.oneCell']
 | .ifc t m,_,_,_,_,⟨u,e,_⟩=>by subst e;simp[Value.oneCell']
 | .cell _,_,_,_,_,⟨v,e,h,_⟩=>by subst e;simp[h]
theorem Hl {α β α' β' :Type} (ea:α=α') (eb:β=β') (e:(α×β)=(α' ×β')) (x:α×β):cast e x=(cast ea x.1,cast eb x.2):=by subst ea;subst eb;rfl
theorem M.ty_size:∀{m:M},m.el=true→m.ty.size=m.size
 | .dat _,_=>rfl
 | .own _,_=>rfl
 | .owns _,_=>rfl
 | .unit,_=>rfl
 | .pair a b,h=>by
  have h' :a.el=true∧b.el=true:=by simpa[M.el]using h
  simp[M.ty,Ty.size,M.size,M.ty_size h'.1,M.ty_size h'.2]
 | .box _,h=>by simp[M.el]at h
 | .ownb _,h=>by simp[M.el]at h
 | .rp _,h=>by simp[M.el]at h
 | .fn _ _,h=>by simp[M.el]at h
 | .ifc _ _,h=>by simp[M.el]at h
 | .cell _,h=>by simp[M.el]at h
theorem Z4:∀{m:M} {ho:Option Nat} {x:m.den} {cs:List Value} {O:List Nat},gI h ok m ho x cs O→cs.length=m.size
 | .dat t,_,_,_,_,e=>au e.1
 | .own t,_,_,_,_,⟨v,e,hv,_⟩=>by subst e;rfl
 | .owns t,_,_,_,_,⟨v,e,hv,_⟩=>by subst e;rfl
 | .ownb t,_,_,_,_,⟨l,v,e,hv,_⟩=>by subst e;rfl
 | .pair a b,_,_,_,_,⟨c,d,_,_,e,_,h1,h2⟩=>by subst e;simp[Z4 h1,Z4 h2,M.size]
 | .unit,_,_,_,_,⟨e,_⟩=>by subst e;rfl
 | .box m,_,_,_,_,⟨_,_,_,_,e,_⟩=>by subst e;rfl
 | .rp t,_,_,_,_,⟨v,e,hv,_⟩=>by subst e;rfl
 | .fn f ts,_,_,_,_,⟨vs,e,_⟩=>by subst e;rfl
 | .ifc t m,_,_,_,_,⟨u,e,_⟩=>by subst e;rfl
 | .cell _,_,_,_,_,⟨v,e,_⟩=>by subst e;rfl
theorem Un {ok' :Nat→Ty→Prop} {α:Type} {t:Ty} {sz:Nat} {mp:Mp} (h0:t.isEnt=false) (e:α=t.den) (e' :List α=List t.den) (hs:t.size=sz) {R:Nat→α→List Value→List Nat→Prop} {xs:List α} {Os:List (List Nat)} {l:Loc}
  (hR:∀i x es O,O∈Os→R i x es O→rep h ok' t (cast e x) es) (ha:tZ h sz R xs Os l):arrOk ⟨h,ok',mp⟩ t (cast e' xs) l:=by
 subst e
 simp only[cast_eq]at hR ⊢
 cases l with
 | nil=>exact⟨ha.1,h0⟩
 | st b=>exact ha
 | mp b=>exact ha.elim
 | arr blk off len cap sz' =>
  obtain⟨h1,h2,h3,h7,c,T,h4,h5,h6⟩:=ha
  refine⟨h0,by rw[hs];exact h1,h2,h3,c,T,h4,by rw[h1];exact h5,fun i x hi=>?_⟩
  obtain⟨es,O,hO,hc,hr⟩:=h6 i x hi
  exact⟨es,by rw[h1];exact hc,hR i x es O (dG hO) hr⟩
theorem M.ty_ent:∀{m:M},m.el=true→m.ty.isEnt=false
 | .dat t,h=>by simpa[M.el,M.ty]using h
 | .own _,_=>rfl
 | .owns _,_=>rfl
 | .unit,_=>rfl
 | .pair _ _,_=>rfl
 | .box _,h=>by simp[M.el]at h
 | .ownb _,h=>by simp[M.el]at h
 | .rp _,h=>by simp[M.el]at h
 | .fn _ _,h=>by simp[M.el]at h
 | .ifc _ _,h=>by simp[M.el]at h
 | .cell _,h=>by simp[M.el]at h
theorem Gi {ok' :Nat→Ty→Prop} (hok:∀b t,ok b t→ok' b t):∀{m:M} (he:m.el=true) {x:m.den} {cs:List Value} {O:List Nat},(∀b∈O,∀t∈m.owned,ok' b t)→gI h ok m none x cs O→rep h ok' m.ty (cast (M.denEq m he) x) cs
 | .dat t,_,_,_,_,_,e=>Y0 hok (fun _ _ _=>rfl) e.1
 | .unit,_,_,_,_,_,e=>e.1
 | .own t,he,xs,_,_,hO,e=>by
  obtain⟨l,v,rfl,hv,ha,rfl⟩:=oO.1 e
  exact iE (C:=⟨h,ok,nom⟩) (vw:=none) ha hv hok (fun blk hb=>hO blk hb t (by simp[M.owned]))
 | .pair a b,he,x,_,_,hO,e=>by
  obtain⟨c,d,O1,O2,rfl,rfl,h1,h2⟩:=e
  have h' :a.el=true∧b.el=true:=by simpa[M.el]using he
  have e:cast (M.denEq (.pair a b) he) x=(cast (M.denEq a h'.1) x.1,cast (M.denEq b h'.2) x.2):=Hl _ _ _ _
  refine⟨c,d,rfl,?_,?_⟩
  ·rw[e];exact Gi hok h'.1 (fun b hb t ht=>hO b (by simp[hb]) t (by simp[M.owned,ht])) h1
  ·rw[e];exact Gi hok h'.2 (fun b hb t ht=>hO b (by simp[hb]) t (by simp[M.owned,ht])) h2
 | .owns m,he,xs,_,_,hO,e=>by
  obtain⟨_,l,v,Os,rfl,hv,ha,rfl⟩:=qA.1 e
  have he' :m.el=true:=he
  have hA:arrOk ⟨h,ok',nom⟩ m.ty (cast (congrArg List (M.denEq m he')) xs) l:=Un (M.ty_ent he') (M.denEq m he') _ (M.ty_size he') (fun i x es O hOi hr=>Gi hok he' (fun b hb t ht=>hO b (by
   simp only[List.mem_append,List.mem_flatten];exact .inr ⟨O,hOi,hb⟩) t (by simp[M.owned,ht])) hr) ha
  exact iE (C:=⟨h,ok',nom⟩) (t:=m.ty) (vw:=none) hA hv (fun _ _ h=>h) (fun blk hb=>hO blk (by simp[hb]) m.ty (by simp[M.owned]))
 | .box _,h,_,_,_,_,_=>by simp[M.el]at h
 | .ownb _,h,_,_,_,_,_=>by simp[M.el]at h
 | .rp _,h,_,_,_,_,_=>by simp[M.el]at h
 | .fn _ _,h,_,_,_,_,_=>by simp[M.el]at h
 | .ifc _ _,h,_,_,_,_,_=>by simp[M.el]at h
 | .cell _,h,_,_,_,_,_=>by simp[M.el]at h
theorem Du {ok' :Nat→Ty→Prop} {m:M} {mp:Mp} (he:m.el=true) (hok:∀b t,ok b t→ok' b t) {xs:List m.den} {Os:List (List Nat)} {l:Loc} (hO:∀b∈Os.flatten,∀t∈m.owned,ok' b t)
  (ha:tZ h m.size (fun _ x es O=>gI h ok m none x es O) xs Os l):arrOk ⟨h,ok',mp⟩ m.ty (cast (congrArg List (M.denEq m he)) xs) l:=
 Un (M.ty_ent he) (M.denEq m he) _ (M.ty_size he) (fun i x es O hOi hr=>Gi hok he (fun b hb t ht=>hO b (List.mem_flatten.2 ⟨O,hOi,hb⟩) t ht) hr) ha
end
theorem JF {h h' :Array Obj} {ok ok' :Nat→Ty→Prop} (hok:∀b t,ok b t→ok' b t) (hh:∀b t,ok b t→h'[b]? =h[b]?):
  ∀{ms:List MG} {x:aK ms} {vs:List Value} {O:List Nat},(∀b∈O,h'[b]? =h[b]?)→kS h ok ms x vs O→kS h' ok' ms x vs O
 | [],_,_,_,_,e=>e
 | [m],_,_,_,hb,⟨v,cs,e,hg,hr⟩=>⟨v,cs,e,hg,bK hok hh hb hr⟩
 | m::m' ::r,_,_,_,hb,⟨v,cs,vs',O1,O2,e,eo,hg,h1,h2⟩=>by
  subst eo
  exact⟨v,cs,vs',O1,O2,e,rfl,hg,bK hok hh (fun b h=>hb b (by simp[h])) h1,JF hok hh (fun b h=>hb b (by simp[h])) h2⟩
section
variable {X:Fx} {cl ch:Nat} {S:Sm} {m:Mp} {ok:Nat→Ty→Prop} {a:Act} {w:World} {T:List Nat}
theorem aA {α:Type} {Q:α→Sm→Prop} {p q:Ty} {xs:List p.den} {k:List q.den→Cmd α} {S:Sm}
  (h:∀e:p=q,(k (e▸xs)).post S Q):(Ty.castL p q xs k .fail).post S Q:=by
 unfold Ty.castL
 split
 ·rename_i e;exact h e
 ·trivial
theorem az {α:Type} {Q:α→Sm→Prop} {b:Bool} {c:Cmd α} {S:Sm} (h:b=true→c.post S Q):(bif b then c else Cmd.fail).post S Q:=by
 cases b
 ·trivial
 ·exact h rfl
theorem yz {α:Type} {Q:α→Sm→Prop} {p q:Ty} {x:p.den} {k:q.den→Cmd α} {S:Sm}
  (h:∀e:p=q,(k (e▸x)).post S Q):(Qg p q x k .fail).post S Q:=by
 unfold Qg
 split
 ·rename_i e;exact h e
 ·trivial
theorem Lt {α:Type} {Q:α→Sm→Prop} {p q:M} {xs:List p.den} {k:List q.den→Cmd α} {S:Sm}
  (h:∀e:p=q,(k (e▸xs)).post S Q):(Zu p q xs k .fail).post S Q:=by
 unfold Zu
 split
 ·rename_i e;exact h (M.beq_eq e)
 ·trivial
theorem UI {α:Type} {Q:α→Sm→Prop} {p:M} {t:Ty} {xs:List p.den} {k:List t.den→Cmd α} {S:Sm}
  (h:∀(e:p.el=true) (e' :p.ty=t),(k (e' ▸cast (congrArg List (M.denEq p e)) xs)).post S Q):(Xt p t xs k .fail).post S Q:=by
 unfold Xt
 split
 ·rename_i e
  obtain⟨e,rfl⟩:=e
  exact h e rfl
 ·trivial
theorem Gg {h:Array Obj} {ok ok' :Nat→Ty→Prop} {m:Mp} (k:∀b t,ok b t→ok' b t) {cs:List V} {vs:List Value} (hr:aF ⟨h,ok,m⟩ cs vs):aF ⟨h,ok',m⟩ cs vs:=
 wZ (C:=⟨h,ok,m⟩) (D:=⟨h,ok',m⟩) ⟨k,fun _ _ _=>rfl,fun _ _ h=>h⟩ hr
theorem Dj {h:Array Obj} {ok ok' :Nat→Ty→Prop} {m:Mp} (k:∀b t,ok b t→ok' b t) {c:V} {v:Value} (hr:fE ⟨h,ok,m⟩ c v):fE ⟨h,ok',m⟩ c v:=
 Gj (C:=⟨h,ok,m⟩) (D:=⟨h,ok',m⟩) ⟨k,fun _ _ _=>rfl,fun _ _ h=>h⟩ hr
theorem Ew {bs:List Nat} {Ts:List Ty} :∀b t,ok b t→okW ok bs Ts b t:=fun _ _ h=> .inl h
def okL (ln:Ty→Bool) (S:Sm) (m:Mp) (ok:Nat→Ty→Prop):Nat→Ty→Prop:=fun b t=>ok b t∨(ln t=true∧∃n,b∈J9 m n (S (BOX+n))∧t∈a4H (S (BOX+n)))
theorem a4v:okL sD S m ok=ok:=by funext b t;simp[okL,sD]
theorem QQ {ln:Ty→Bool} {n:Nat} {v:V} (hv:J9 m n v=[]) {Ts:List Ty} {bs:List Nat} (hbs:J9 m n (S (BOX+n)) ⊆ bs) (hTs:a4H (S (BOX+n)) ⊆ Ts):
  ∀b t,okL ln S m ok b t→okL ln (upd S (BOX+n) v) m (okW ok bs Ts) b t:=by
 intro b t h
 rcases h with h | ⟨hl,k,hk,ht⟩
 ·exact .inl (.inl h)
 ·by_cases e:k=n
  ·subst e;exact .inl (.inr ⟨hbs hk,hTs ht⟩)
  ·exact .inr ⟨hl,k,by rw[U6 _ _ (by omega)];exact⟨hk,ht⟩⟩
def X8 (S S' :Sm):Prop:=∀n,n<BOX→S' n=S n
theorem X8.refl (S:Sm):X8 S S:=fun _ _=>rfl
theorem X8.trans {A B C:Sm} (h:X8 A B) (k:X8 B C):X8 A C:=fun n hn=>(k n hn).trans (h n hn)
theorem X8.box (S:Sm) (n:Nat) (v:V):X8 S (upd S (BOX+n) v):=fun k hk=>U6 _ _ (by omega)
theorem PW {ln:Ty→Bool} :∀{ts:List Ty},Uj ln ts=true→∀t∈ts,ln t=true
 | [],_,_,h=>by cases h
 | u::r,e,t,h=>by
  unfold Uj at e
  cases hl:ln u with
  | false=>rw[hl]at e;cases e
  | true=>
   rw[hl]at e
   rcases List.mem_cons.1 h with rfl | h
   ·exact hl
   ·exact PW e t h
theorem xm {α:Type} {Q:α→Sm→Prop} (ln:Ty→Bool):∀(t:Ty) {cs:List V} {K:t.den→List V→Cmd α} {S:Sm} {ok:Nat→Ty→Prop} {vs:List Value} (R:Rel X cl ch S m ok a w) (hT:Tk X S m ok w T)
  (hL:aF ⟨w.heap,ok,m⟩ cs vs)
  (hK:∀S' ok' x r us us',Rel X cl ch S' m ok' a w→Tk X S' m ok' w T→(∀b t,ok b t→ok' b t)→(∀b t,okL ln S m ok b t→okL ln S' m ok' b t)→X8 S S' →vs=us++us' →rep w.heap (okL ln S' m ok') t x us→aF ⟨w.heap,ok',m⟩ r us' →(K x r).post S' Q),
  (gJ ln t cs K).post S Q
 | .bool,cs,K,S,ok,vs,R,hT,hL,hK=>by
  unfold gJ
  split
  ·obtain⟨v,r,rfl,h1,_,h3⟩:=hL
   exact hK _ _ _ _ [v] r R hT (fun _ _ h=>h) (fun _ _ h=>h) (X8.refl _) rfl (by simp only[oN]at h1;simp[rep,h1]) h3
  ·trivial
 | .int k,cs,K,S,ok,vs,R,hT,hL,hK=>by
  unfold gJ
  split
  ·rename_i k' n r0
   obtain⟨v,r,rfl,h1,_,h3⟩:=hL
   by_cases e:k=k'
   ·subst e
    simp only[decide_true,cond_true]
    exact hK _ _ _ _ [v] r R hT (fun _ _ h=>h) (fun _ _ h=>h) (X8.refl _) rfl (by simp only[oN]at h1;simp[rep,h1]) h3
   ·simp only[e,decide_false,cond_false];trivial
  ·trivial
 | .str,cs,K,S,ok,vs,R,hT,hL,hK=>by
  unfold gJ
  split
  ·obtain⟨v,r,rfl,h1,_,h3⟩:=hL
   exact hK _ _ _ _ [v] r R hT (fun _ _ h=>h) (fun _ _ h=>h) (X8.refl _) rfl (by simp only[oN]at h1;simp[rep,h1]) h3
  ·trivial
 | .unit,cs,K,S,ok,vs,R,hT,hL,hK=>by
  unfold gJ
  exact hK _ _ _ _ [] vs R hT (fun _ _ h=>h) (fun _ _ h=>h) (X8.refl _) rfl rfl hL
 | .prod p q,cs,K,S,ok,vs,R,hT,hL,hK=>by
  unfold gJ
  refine xm ln p R hT hL fun S1 ok1 x r us us' R1 T1 k1 g1 s1 e1 h1 l1=>?_
  refine xm ln q R1 T1 l1 fun S2 ok2 y r' vs2 vs2' R2 T2 k2 g2 s2 e2 h2 l2=>?_
  subst e1;subst e2
  exact hK _ _ _ _ (us++vs2) vs2' R2 T2 (fun b t h=>k2 b t (k1 b t h)) (fun b t h=>g2 b t (g1 b t h)) (s1.trans s2) (by simp) ⟨us,vs2,rfl,Y0 g2 (fun _ _ _=>rfl) h1,h2⟩ l2
 | .ent ..,cs,K,S,ok,vs,R,hT,hL,hK=>by
  unfold gJ;trivial
 | .sl t,cs,K,S,ok,vs,R,hT,hL,hK=>by
  unfold gJ
  split
  ·obtain⟨v,r,rfl,h1,_,h3⟩:=hL
   simp only[oN]at h1;subst h1
   cases ht:t.isEnt
   ·exact hK _ _ _ _ [_] r R hT (fun _ _ h=>h) (fun _ _ h=>h) (X8.refl _) rfl (.inl ⟨ht,none,0,rfl,Nat.le_refl _,fun i x hi=>by simp at hi⟩) h3
   ·trivial
  ·rename_i t' xs r0
   obtain⟨v,r,rfl,h1,_,h3⟩:=hL
   refine aA fun e=>?_
   subst e
   exact hK _ _ _ _ [v] r R hT (fun _ _ h=>h) (fun _ _ h=>h) (X8.refl _) rfl (Y0 (fun _ _ h=> .inl h) (fun _ _ _=>rfl) h1) h3
  ·rename_i bx vw r0
   obtain⟨v,r,rfl,h1,_,h3⟩:=hL
   obtain⟨l,hm,hv⟩:=h1
   show Cmd.post (match S (BOX+bx)with | .barr t' xs=>_ | .bfrz t' xs=>_ | .barrs el xs none=>_ | _=>_) S Q
   have hb:=R.box bx
   split
   ·rename_i t' xs hS
    rw[hS]at hb
    obtain⟨l',hm',ha⟩:=hb
    simp only at hm hm'
    rw[hm]at hm';cases hm'
    refine aA fun e=>?_
    subst e
    have hob:J9 m bx (S (BOX+bx))=l.blks:=by
     rw[hS];cases l <;> first | (simp[J9,hm,Loc.blks];done) | cases ha
    cases hl:ln t'
    ·simp only[cond_false]
     show Cmd.post _ (upd S (BOX+bx) (.bfrz t' xs)) Q
     have hbs:∀b∈l.blks,b∈J9 m bx (S (BOX+bx)):=fun b h=>by rw[hob];exact h
     refine hK _ (okW ok l.blks [t']) _ _ [v] r (R.widen (by simp) rfl hbs ?_) (hT.widen rfl hbs) Ew (QQ rfl (by rw[hob];exact fun _ h=>h) (by rw[hS];exact fun _ h=>h)) (X8.box _ _ _) rfl ?_ (Gg Ew h3)
     ·exact⟨l,hm,lV Ew (fun _ _ _=>rfl) (fun _ _=>rfl) ha,fun blk hb=> .inr ⟨hb,by simp⟩⟩
     ·exact iE (C:=⟨w.heap,ok,m⟩) ha hv (fun b t h=> .inl (.inl h)) (fun blk hb=> .inl (.inr ⟨hb,by simp⟩))
    ·simp only[cond_true]
     refine hK _ _ _ _ [v] r R hT (fun _ _ h=>h) (fun _ _ h=>h) (X8.refl _) rfl ?_ h3
     refine iE (C:=⟨w.heap,ok,m⟩) ha hv (fun b t h=> .inl h) (fun blk hb=> .inr ⟨hl,bx,?_,by rw[hS];simp[a4H]⟩)
     rw[hob];exact hb
   ·rename_i t' xs hS
    rw[hS]at hb
    obtain⟨l',hm',ha,hok⟩:=hb
    simp only at hm hm'
    rw[hm]at hm';cases hm'
    refine aA fun e=>?_
    subst e
    exact hK _ _ _ _ [v] r R hT (fun _ _ h=>h) (fun _ _ h=>h) (X8.refl _) rfl (iE (C:=⟨w.heap,ok,m⟩) ha hv (fun _ _ h=> .inl h) (fun blk e=> .inl (hok _ e))) h3
   ·rename_i md xs hS
    rw[hS]at hb
    obtain⟨hel,l',Os,hm',⟨ha,hho⟩,hk⟩:=hb
    simp only at hm hm' hk
    rw[hm]at hm';cases hm'
    refine UI fun e e' =>?_
    subst e'
    have hob:J9 m bx (S (BOX+bx))=l.blks++Os.flatten:=by
     rw[hS];simp only[J9];rw[hk];cases l <;> first | (simp[hm,Loc.blks];done) | cases ha
    simp only
    cases hl:(ln md.ty&&Uj ln md.owned)
    ·simp only[cond_false]
     show Cmd.post _ (upd S (BOX+bx) (.bfrz md.ty _)) Q
     have hbs:∀b∈l.blks++Os.flatten,b∈J9 m bx (S (BOX+bx)):=fun b h=>by rw[hob];exact h
     have ha' :arrOk ⟨w.heap,okW ok (l.blks++Os.flatten) (md.ty::md.owned),m⟩ md.ty (cast (congrArg List (M.denEq md e)) xs) l:=
      Du e Ew (fun b hb t ht=> .inr ⟨by simp[hb],by simp[ht]⟩) ha
     refine hK _ (okW ok (l.blks++Os.flatten) (md.ty::md.owned)) _ _ [v] r (R.widen (by simp) rfl hbs ?_) (hT.widen rfl hbs) Ew (QQ rfl (by rw[hob];exact fun _ h=>h) (by rw[hS];exact fun _ h=>h)) (X8.box _ _ _) rfl ?_ (Gg Ew h3)
     ·exact⟨l,hm,ha',fun blk hb=> .inr ⟨by simp[hb],by simp⟩⟩
     ·exact iE (C:=⟨w.heap,okW ok (l.blks++Os.flatten) (md.ty::md.owned),m⟩) ha' hv (fun b t h=> .inl h) (fun blk hb=> .inl (.inr ⟨by simp[hb],by simp⟩))
    ·simp only[cond_true]
     simp only[Bool.and_eq_true]at hl
     have ha' :arrOk ⟨w.heap,okL ln S m ok,m⟩ md.ty (cast (congrArg List (M.denEq md e)) xs) l:=
      Du e (fun b t h=> .inl h) (fun b hb t ht=> .inr ⟨PW hl.2 t ht,bx,by rw[hob];simp[hb],by rw[hS];simp[a4H,ht]⟩) ha
     refine hK _ _ _ _ [v] r R hT (fun _ _ h=>h) (fun _ _ h=>h) (X8.refl _) rfl ?_ h3
     refine iE (C:=⟨w.heap,okL ln S m ok,m⟩) ha' hv (fun b t h=>h) (fun blk hb=> .inr ⟨hl.1,bx,?_,by rw[hS];simp[a4H]⟩)
     rw[hob];simp[hb]
   ·trivial
  ·trivial
theorem uO {α:Type} {Q:α→Sm→Prop} (t:Ty) {cs:List V} {K:t.den→List V→Cmd α} {S:Sm} {ok:Nat→Ty→Prop} {vs:List Value} (R:Rel X cl ch S m ok a w) (hT:Tk X S m ok w T)
  (hL:aF ⟨w.heap,ok,m⟩ cs vs)
  (hK:∀S' ok' x r us us',Rel X cl ch S' m ok' a w→Tk X S' m ok' w T→(∀b t,ok b t→ok' b t)→X8 S S' →vs=us++us' →rep w.heap ok' t x us→aF ⟨w.heap,ok',m⟩ r us' →(K x r).post S' Q):
  (gJ sD t cs K).post S Q:=
 xm sD t R hT hL fun S' ok' x r us us' R' T' k g s e h l=>hK S' ok' x r us us' R' T' k s e (by rw[a4v]at h;exact h) l
theorem Loc.blks_nodup (l:Loc):l.blks.Nodup:=by cases l <;> simp[Loc.blks]
theorem Wp {α:Type} {Q:α→Sm→Prop} (t:Ty) {c:V} {K:t.den→Cmd α} {S:Sm} {ok:Nat→Ty→Prop} {v:Value} (R:Rel X cl ch S m ok a w) (hT:Tk X S m ok w T)
  (hv:oN ⟨w.heap,ok,m⟩ c v)
  (hK:∀S' ok' x,Rel X cl ch S' m ok' a w→Tk X S' m ok' w T→(∀b t,ok b t→ok' b t)→X8 S S' →Xn w.heap ok' t x 0 v→(K x).post S' Q):(rpC t c K).post S Q:=by
 unfold rpC
 split
 ·refine yz fun e=>?_
  subst e
  exact hK _ _ _ R hT (fun _ _ h=>h) (X8.refl _) hv
 ·rename_i bx
  obtain⟨blk,hm,rfl⟩:=hv
  show Cmd.post (match S (BOX+bx)with | .bfc t' x=>_ | .bcells bs=>_ | _=>_) S Q
  have hb:=R.box bx
  split
  ·rename_i t' x hS
   rw[hS]at hb
   obtain⟨blk',es,hm',hok,hc,hr⟩:=hb
   simp only at hm hm'
   rw[hm]at hm';cases hm'
   refine yz fun e=>?_
   subst e
   exact hK _ _ _ R hT (fun _ _ h=>h) (X8.refl _) ⟨blk,0,es,rfl,hok,hc,hr⟩
  ·rename_i bs hS
   rw[hS]at hb
   obtain⟨blk',arr,Ty',hm',hh,hl⟩:=hb
   simp only at hm hm'
   rw[hm]at hm';cases hm'
   refine uO t R hT hl fun S1 ok1 x q us us' R1 T1 k1 s1 e1 h1 l1=>?_
   cases q with
   | cons c q=>trivial
   | nil=>
    simp only[aF]at l1
    subst l1
    simp only[List.append_nil]at e1
    show Cmd.post (match S1 (BOX+bx)with | .bcells _=>_ | _=>_) S1 Q
    split
    ·rename_i bs' hS'
     show Cmd.post _ (upd S1 (BOX+bx) (.bfc t x)) Q
     have hbs:∀b∈[blk],b∈J9 m bx (S1 (BOX+bx)):=fun b h=>by rw[hS'];simp at h;subst h;simp[J9,hm]
     have hce:Y1 w.heap blk 0 t.size=some us:=by
      rw[fM hh 0 t.size (by have:=au h1;rw[←e1]at this;simp at this;omega)]
      rw[e1,←au h1];simp
     have hr:=Y0 (Ew (bs:=[blk]) (Ts:=[t])) (fun _ _ _=>rfl) h1
     refine hK _ (okW ok1 [blk] [t]) _ (R1.widen (by simp) rfl hbs ?_) (T1.widen rfl hbs) (fun b t h=> .inl (k1 b t h)) (s1.trans (X8.box _ _ _)) ?_
     ·exact⟨blk,us,hm,.inr ⟨by simp,by simp⟩,hce,hr⟩
     ·exact⟨blk,0,us,rfl,.inr ⟨by simp,by simp⟩,hce,hr⟩
    ·trivial
  ·trivial
 ·trivial
theorem Ah {α:Type} {Q:α→Sm→Prop} {h:Array Obj} {ok:Nat→Ty→Prop} :∀(ts:List Ty) {cs:List ((t:Ty)×t.den)} {vs:List Value} {K:Jd ts→Cmd α} {S:Sm}
  (hc:uU h ok cs vs) (hK:∀x,uU h ok (IZ ts x) vs→(K x).post S Q),(Ea ts cs K).post S Q
 | [],cs,vs,K,S,hc,hK=>by
  unfold Ea
  split
  ·exact hK _ hc
  ·trivial
 | [t],cs,vs,K,S,hc,hK=>by
  unfold Ea
  split
  ·refine yz fun e=>?_
   subst e
   exact hK _ hc
  ·trivial
 | t::t' ::r,cs,vs,K,S,hc,hK=>by
  unfold Ea
  split
  ·obtain⟨v,vs',rfl,h1,h2⟩:=hc
   refine yz fun e=>?_
   subst e
   exact Ah (t' ::r) h2 fun y hy=>hK _ ⟨v,vs',rfl,h1,hy⟩
  ·trivial
theorem uY {α:Type} {Q:α→Sm→Prop} :∀(md:M) {cs:List V} {K:md.den→List V→Cmd α} {S:Sm} {ok:Nat→Ty→Prop} {vs:List Value} {T:List Nat} (R:Rel X cl ch S m ok a w) (hT:Tk X S m ok w T)
  (hL:aF ⟨w.heap,ok,m⟩ cs vs)
  (hK:∀S' ok' x r us us' O,Rel X cl ch S' m ok' a w→Tk X S' m ok' w (T++O)→(∀b t,ok b t→ok' b t)→X8 S S' →vs=us++us' →gI w.heap ok' md none x us O→aF ⟨w.heap,ok',m⟩ r us' →(K x r).post S' Q),
  (exM sD md cs K).post S Q
 | .dat t,cs,K,S,ok,vs,T,R,hT,hL,hK=>by
  unfold exM
  exact uO t R hT hL fun S' ok' x r us us' R' T' k s e h l=>hK S' ok' x r us us' [] R' (by simpa using T') k s e ⟨h,rfl⟩ l
 | .own t,cs,K,S,ok,vs,T,R,hT,hL,hK=>by
  unfold exM
  split
  ·obtain⟨v,r,rfl,h1,_,h3⟩:=hL
   simp only[oN]at h1;subst h1
   cases ht:t.isEnt
   ·exact hK _ _ _ _ [_] r [] R (by simpa using hT) (fun _ _ h=>h) (X8.refl _) rfl (oO.2 ⟨.nil,_,rfl,rfl,⟨rfl,ht⟩,rfl⟩) h3
   ·trivial
  ·rename_i bx vw r0
   obtain⟨v,r,rfl,h1,_,h3⟩:=hL
   obtain⟨l,hm,hv⟩:=h1
   show Cmd.post (match S (BOX+bx)with | .barr t' xs=>_ | _=>_) S Q
   have hb:=R.box bx
   split
   ·rename_i t' xs hS
    rw[hS]at hb
    obtain⟨l',hm',ha⟩:=hb
    simp only at hm hm'
    rw[hm]at hm';cases hm'
    refine aA fun e=>?_
    subst e
    obtain⟨a1,a2,a3⟩:=yu (C:=⟨w.heap,ok,m⟩) ha hv
    show Cmd.post _ (upd S (BOX+bx) .dead) Q
    refine hK _ ok _ _ [v] r (zy l vw).blks (R.kill bx) ?_ (fun _ _ h=>h) (X8.box _ _ _) rfl (oO.2 ⟨_,v,rfl,a2,lV (fun _ _ h=>h) (fun _ _ _=>rfl) (fun _ _=>rfl) a1,rfl⟩) h3
    rw[a3]
    refine hT.kill R bx (fun b hb=>?_) (Loc.blks_nodup l)
    cases l with
    | nil=>simp[Loc.blks]at hb
    | st _=>cases ha
    | arr blk off len cap sz=>simp[Loc.blks]at hb;subst hb;simp[J9,hS,hm]
    | mp blk=>simp[Loc.blks]at hb;subst hb;simp[J9,hS,hm]
   ·trivial
  ·trivial
 | .ownb t,cs,K,S,ok,vs,T,R,hT,hL,hK=>by
  unfold exM
  split
  ·obtain⟨v,r,rfl,h1,_,h3⟩:=hL
   simp only[oN]at h1;subst h1
   cases ht:t.isEnt
   ·exact hK _ _ _ _ [_] r [] R (by simpa using hT) (fun _ _ h=>h) (X8.refl _) rfl ⟨.nil,_,rfl,rfl,⟨rfl,ht⟩,rfl⟩ h3
   ·trivial
  ·rename_i bx r0
   obtain⟨v,r,rfl,h1,_,h3⟩:=hL
   obtain⟨l,hm,hv⟩:=h1
   show Cmd.post (match S (BOX+bx)with | .barr t' xs=>_ | _=>_) S Q
   have hb:=R.box bx
   split
   ·rename_i t' xs hS
    rw[hS]at hb
    obtain⟨l',hm',ha⟩:=hb
    simp only at hm hm'
    rw[hm]at hm';cases hm'
    refine aA fun e=>?_
    subst e
    show Cmd.post _ (upd S (BOX+bx) (.gone t')) Q
    refine hK _ ok _ _ [v] r l.blks (R.killV bx (by simp) rfl ⟨l,hm,fun blk off len cap sz e=>by subst e;exact ha.2.1⟩) ?_ (fun _ _ h=>h) (X8.box _ _ _) rfl ⟨l,v,rfl,hv,lV (fun _ _ h=>h) (fun _ _ _=>rfl) (fun _ _=>rfl) ha,rfl⟩ h3
    refine hT.killV R bx rfl (fun b hb=>?_) (Loc.blks_nodup l)
    cases l with
    | nil=>simp[Loc.blks]at hb
    | st _=>cases ha
    | arr blk off len cap sz=>simp[Loc.blks]at hb;subst hb;simp[J9,hS,hm]
    | mp blk=>simp[Loc.blks]at hb;subst hb;simp[J9,hS,hm]
   ·trivial
  ·trivial
 | .owns md,cs,K,S,ok,vs,T,R,hT,hL,hK=>by
  unfold exM
  split
  ·obtain⟨v,r,rfl,h1,_,h3⟩:=hL
   simp only[oN]at h1;subst h1
   refine az fun he=>?_
   exact hK _ _ _ _ [_] r [] R (by simpa using hT) (fun _ _ h=>h) (X8.refl _) rfl (qA.2 ⟨he,.nil,_,[],rfl,rfl,⟨rfl,rfl⟩,rfl⟩) h3
  ·rename_i bx r0
   obtain⟨v,r,rfl,h1,_,h3⟩:=hL
   obtain⟨l,hm,hv⟩:=h1
   show Cmd.post (match S (BOX+bx)with | .barrs m' xs none=>_ | _=>_) S Q
   have hb:=R.box bx
   split
   ·rename_i md' xs hS
    rw[hS]at hb
    obtain⟨hel,l',Os,hm',⟨ha,hho⟩,hk⟩:=hb
    simp only at hm hm' hk
    rw[hm]at hm';cases hm'
    refine Lt fun e=>?_
    subst e
    have hob:J9 m bx (S (BOX+bx))=l.blks++Os.flatten:=by
     rw[hS];simp only[J9];rw[hk];cases l <;> first | (simp[hm,Loc.blks];done) | cases ha
    show Cmd.post _ (upd S (BOX+bx) .dead) Q
    refine hK _ ok _ _ [v] r (l.blks++Os.flatten) (R.kill bx) ?_ (fun _ _ h=>h) (X8.box _ _ _) rfl (qA.2 ⟨hel,l,v,Os,rfl,hv,ha,rfl⟩) h3
    refine hT.kill R bx (fun b hb=>by rw[hob];exact hb) (by rw[←hob];exact R.nd bx)
   ·trivial
  ·trivial
 | .unit,cs,K,S,ok,vs,T,R,hT,hL,hK=>by
  unfold exM
  exact hK _ _ _ _ [] vs [] R (by simpa using hT) (fun _ _ h=>h) (X8.refl _) rfl ⟨rfl,rfl⟩ hL
 | .pair p q,cs,K,S,ok,vs,T,R,hT,hL,hK=>by
  unfold exM
  refine uY p R hT hL fun S1 ok1 x r us us' O1 R1 T1 k1 s1 e1 h1 l1=>?_
  refine uY q R1 T1 l1 fun S2 ok2 y r' vs2 vs2' O2 R2 T2 k2 s2 e2 h2 l2=>?_
  subst e1;subst e2
  exact hK _ _ _ _ (us++vs2) vs2' (O1++O2) R2 (by simpa using T2) (fun b t h=>k2 b t (k1 b t h)) (s1.trans s2) (by simp) ⟨us,vs2,O1,O2,rfl,rfl,bK k2 (fun _ _ _=>rfl) (fun _ _=>rfl) h1,h2⟩ l2
 | .box md,cs,K,S,ok,vs,T,R,hT,hL,hK=>by
  unfold exM
  split
  ·rename_i bx r0
   obtain⟨v,r,rfl,h1,_,h3⟩:=hL
   obtain⟨blk,hm,hv⟩:=h1
   show Cmd.post (match S (BOX+bx)with | .bcells bs=>_ | _=>_) S Q
   have hb:=R.box bx
   split
   ·rename_i bs hS
    rw[hS]at hb
    obtain⟨blk',arr,Ty',hm',hh,hl⟩:=hb
    simp only at hm hm' hv
    rw[hm]at hm';cases hm'
    subst hv
    show Cmd.post _ (upd S (BOX+bx) .dead) Q
    have hT1:Tk X (upd S (BOX+bx) .dead) m ok w (T++[blk]):=hT.kill R bx (fun b hb=>by simp at hb;subst hb;simp[J9,hS,hm]) (by simp)
    refine uY md (R.kill bx) hT1 hl fun S1 ok1 x q us us' O R1 T1 k1 s1 e1 h1 l1=>?_
    cases q with
    | nil=>
     simp only[aF]at l1
     subst l1
     simp only[List.append_nil]at e1
     refine hK _ _ _ _ [_] r (blk::O) R1 (by simpa using T1) k1 ((X8.box _ _ _).trans s1) rfl ⟨blk,arr,Ty',O,rfl,hh,by rw[e1];exact h1,rfl⟩ (Gg k1 h3)
    | cons c q=>trivial
   ·trivial
  ·trivial
 | .rp t,cs,K,S,ok,vs,T,R,hT,hL,hK=>by
  unfold exM
  split
  ·obtain⟨v,r,rfl,h1,_,h3⟩:=hL
   refine Wp t R hT h1 fun S1 ok1 x R1 T1 k1 s1 h1=>?_
   exact hK _ _ _ _ [v] r [] R1 (by simpa using T1) k1 s1 rfl ⟨v,rfl,h1,rfl⟩ (Gg k1 h3)
  ·trivial
 | .fn f ts,cs,K,S,ok,vs,T,R,hT,hL,hK=>by
  unfold exM
  split
  ·rename_i g caps r0
   obtain⟨v,r,rfl,⟨us,rfl,hc⟩,_,h3⟩:=hL
   cases hb:Nat.beq g f
   ·trivial
   ·simp only[cond_true]
    have e:=aV hb
    subst e
    exact Ah ts hc fun x hx=>hK _ _ _ _ [_] r [] R (by simpa using hT) (fun _ _ h=>h) (X8.refl _) rfl ⟨us,rfl,hx,rfl⟩ h3
  ·rename_i g r0
   obtain⟨v,r,rfl,h1,_,h3⟩:=hL
   have h1:v= .func (.func g) #[] #[]:=h1
   subst h1
   cases hb:Nat.beq g f
   ·trivial
   ·simp only[cond_true]
    have e:=aV hb
    subst e
    exact Ah (cs:=[]) (vs:=[]) ts rfl fun x hx=>hK _ _ _ _ [_] r [] R (by simpa using hT) (fun _ _ h=>h) (X8.refl _) rfl ⟨#[],rfl,hx,rfl⟩ h3
  ·trivial
 | .ifc t md,cs,K,S,ok,vs,T,R,hT,hL,hK=>by
  unfold exM
  split
  ·rename_i t' c r0
   obtain⟨v,r,rfl,⟨u,rfl,hu,hc⟩,_,h3⟩:=hL
   cases hb:Nat.beq t' t
   ·trivial
   ·simp only[cond_true]
    have e:=aV hb
    subst e
    refine uY md (vs:=[u]) R hT ⟨u,[],rfl,hc,hu,rfl⟩ fun S1 ok1 x q us us' O R1 T1 k1 s1 e1 h1 l1=>?_
    cases q with
    | cons c q=>trivial
    | nil=>
     simp only[aF]at l1
     subst l1
     simp only[List.append_nil]at e1
     subst e1
     exact hK _ _ _ _ [_] r O R1 T1 k1 s1 rfl ⟨u,rfl,h1⟩ (Gg k1 h3)
  ·trivial
 | .cell (some none),cs,K,S,ok,vs,T,R,hT,hL,hK=>by
  unfold exM
  split
  ·obtain⟨v,r,rfl,h1,h2,h3⟩:=hL
   exact hK _ _ _ _ [v] r [] R (by simpa using hT) (fun _ _ h=>h) (X8.refl _) rfl ⟨v,rfl,h2,fun _=>h1,(fun _ h=>nomatch h),rfl⟩ h3
  ·trivial
 | .cell (some (some b)),cs,K,S,ok,vs,T,R,hT,hL,hK=>by
  unfold exM
  split
  ·obtain⟨v,r,rfl,h1,h2,h3⟩:=hL
   cases b
   ·trivial
   ·exact hK _ _ _ _ [v] r [] R (by simpa using hT) (fun _ _ h=>h) (X8.refl _) rfl ⟨v,rfl,h2,(fun h=>nomatch h),(fun b' h=>by cases h;exact h1),rfl⟩ h3
  ·obtain⟨v,r,rfl,h1,h2,h3⟩:=hL
   cases b
   ·exact hK _ _ _ _ [v] r [] R (by simpa using hT) (fun _ _ h=>h) (X8.refl _) rfl ⟨v,rfl,h2,(fun h=>nomatch h),(fun b' h=>by cases h;exact h1),rfl⟩ h3
   ·trivial
  ·trivial
 | .cell none,cs,K,S,ok,vs,T,R,hT,hL,hK=>by
  unfold exM
  split
  ·obtain⟨v,r,rfl,h1,h2,h3⟩:=hL
   exact hK _ _ _ _ [v] r [] R (by simpa using hT) (fun _ _ h=>h) (X8.refl _) rfl ⟨v,rfl,h2,(fun h=>nomatch h),(fun _ h=>nomatch h),rfl⟩ h3
  ·trivial
end
end Go.GP
namespace Go.GP
def aY (C:Cx):List V→List Value→Prop
 | [],vs=>vs=[]
 | c::cs,vs=>∃v r,vs=v::r∧fE C c v∧aY C cs r
theorem Bl {h:Array Obj} {ok ok' :Nat→Ty→Prop} {m:Mp} (k:∀b t,ok b t→ok' b t):∀{cs:List V} {vs:List Value},aY ⟨h,ok,m⟩ cs vs→aY ⟨h,ok',m⟩ cs vs
 | [],_,e=>e
 | _::_,_,⟨v,r,e,h1,h2⟩=>⟨v,r,e,Dj k h1,Bl k h2⟩
theorem Bj {h:Array Obj} {ok:Nat→Ty→Prop} {m m' :Mp} (k:∀n l,m n=some l→m' n=some l) {cs:List V} {vs:List Value} (hr:aF ⟨h,ok,m⟩ cs vs):aF ⟨h,ok,m'⟩ cs vs:=
 wZ (C:=⟨h,ok,m⟩) (D:=⟨h,ok,m'⟩) ⟨fun _ _ h=>h,fun _ _ _=>rfl,k⟩ hr
theorem VY {C:Cx} {c:V} {v:Value} (h1:c≠.undef) (h2:c≠.un) (h:oN C c v):v.oneCell' =true:=by
 cases c <;> simp only[oN]at h <;> try (subst h;rfl)
 case ne=>obtain⟨_,_,rfl,_⟩:=h;rfl
 ·exact absurd rfl h1
 ·exact absurd rfl h2
 ·rcases h with⟨_,a,cap,e,_⟩ | ⟨_,mv,e,_⟩ <;> (simp at e;subst e;rfl)
 ·obtain⟨l,_,hv⟩:=h;exact jm hv
 ·obtain⟨b,_,rfl⟩:=h;rfl
 ·obtain⟨_,_,_,_,_,_,_,rfl⟩:=h;rfl
 ·exact Md h
 all_goals first | exact h.elim | (obtain⟨_,rfl,_⟩:=h;rfl) | (obtain⟨_,_,rfl⟩:=h;rfl)
theorem uD {C:Cx} {c:V} {v:Value} (h:oN C c v):fE C c v:=by
 cases c <;> simp only[oN]at h <;> try exact h
 all_goals exact h.elim
section
variable {X:Fx} {cl ch:Nat} {S:Sm} {m:Mp} {ok:Nat→Ty→Prop} {a:Act} {w:World} {T:List Nat}
theorem wE {α:Type} {Q:α→Sm→Prop} {ag:Bool} {v:V} {x:Value} {K:List V→Cmd α} {S:Sm} {C:Cx} (hv:fE C v x)
  (hK:∀cs us,IE ag x us→aF C cs us→(K cs).post S Q):(Lu ag v K).post S Q:=by
 unfold Lu
 split <;> try trivial
 ·obtain⟨arr,rfl,hl⟩:=hv
  exact hK _ _ ⟨arr,rfl,rfl⟩ hl
 ·rename_i h1 h2 h3 h4
  have hc:oN C v x:=by cases v <;> first | exact hv | exact absurd rfl (h1 _) | exact absurd rfl (h2 _)
  exact hK [v] [x] rfl ⟨x,[],rfl,hc,VY (fun e=>h3 e) (fun e=>h4 e) hc,rfl⟩
theorem lZ {α:Type} {Q:α→Sm→Prop} {v:V} {x:Value} {K:List V→Cmd α} {S:Sm} {C:Cx} (hv:fE C v x)
  (hK:∀cs,aF C cs x.cells.toList→(K cs).post S Q):(yA v K).post S Q:=by
 unfold yA
 split <;> try trivial
 ·obtain⟨arr,rfl,hl⟩:=hv
  exact hK _ hl
 ·rename_i h1 h2 h3 h4
  have hc:oN C v x:=by cases v <;> first | exact hv | exact absurd rfl (h1 _) | exact absurd rfl (h2 _)
  have h1' :=VY (fun e=>h3 e) (fun e=>h4 e) hc
  have e:x.cells.toList=[x]:=by cases x <;> simp[Value.cells] <;> simp[Value.oneCell']at h1'
  refine hK [v] ?_
  rw[e];exact⟨x,[],rfl,hc,h1',rfl⟩
theorem UL {α:Type} {Q:α→Sm→Prop} {md:MG} {v:V} {x:Value} {K:md.2.den→Cmd α} (R:Rel X cl ch S m ok a w) (hT:Tk X S m ok w T) (hv:fE ⟨w.heap,ok,m⟩ v x)
  (hK:∀S' ok' y cs O,Rel X cl ch S' m ok' a w→Tk X S' m ok' w (T++O)→(∀b t,ok b t→ok' b t)→X8 S S' →IE md.1 x cs→gI w.heap ok' md.2 none y cs O→(K y).post S' Q):
  (MH sD md v K).post S Q:=by
 refine wE hv fun cs us hg hl=>?_
 refine uY md.2 R hT hl fun S1 ok1 y r us1 us' O R1 T1 k1 s1 e1 h1 l1=>?_
 cases r with
 | cons c q=>trivial
 | nil=>
  simp only[aF]at l1
  subst l1
  simp only[List.append_nil]at e1
  subst e1
  exact hK _ _ _ _ _ R1 T1 k1 s1 hg h1
theorem a3C {α:Type} {ln:Ty→Bool} {md:M} (hd:md.isDat=false) (cs:List V) (K:md.den→List V→Cmd α):exM ln md cs K=exM sD md cs K:=by
 cases md <;> first | rfl | (simp[M.isDat]at hd;done) | (rename_i b;cases b <;> first | rfl | (rename_i b;cases b <;> rfl))
theorem Qn {α:Type} {Q:α→Sm→Prop} {ln:Ty→Bool} {md:MG} (hd:md.2.isDat=true) {v:V} {x:Value} {K:md.2.den→Cmd α} (R:Rel X cl ch S m ok a w) (hT:Tk X S m ok w T) (hv:fE ⟨w.heap,ok,m⟩ v x)
  (hK:∀S' ok' y cs,Rel X cl ch S' m ok' a w→Tk X S' m ok' w T→(∀b t,ok b t→ok' b t)→(∀b t,okL ln S m ok b t→okL ln S' m ok' b t)→X8 S S' →IE md.1 x cs→gI w.heap (okL ln S' m ok') md.2 none y cs []→(K y).post S' Q):
  (MH ln md v K).post S Q:=by
 obtain⟨ag,mm⟩:=md
 cases mm <;> simp[M.isDat]at hd
 refine wE hv fun cs us hg hl=>?_
 dsimp only
 unfold exM
 refine xm ln _ R hT hl fun S1 ok1 y r us1 us' R1 T1 k1 g1 s1 e1 h1 l1=>?_
 cases r with
 | cons c q=>trivial
 | nil=>
  simp only[aF]at l1
  subst l1
  simp only[List.append_nil]at e1
  subst e1
  exact hK _ _ _ _ R1 T1 k1 g1 s1 hg ⟨h1,rfl⟩
theorem b4g {ln:Ty→Bool} :∀b t,ok b t→okL ln S m ok b t:=fun _ _ h=> .inl h
theorem yL {α:Type} {Q:α→Sm→Prop} {ln:Ty→Bool} :∀(ms:List MG) {vs:List V} {xs:List Value} {K:aK ms→Cmd α} {S:Sm} {ok:Nat→Ty→Prop} {T:List Nat} (R:Rel X cl ch S m ok a w) (hT:Tk X S m ok w T)
  (hv:aY ⟨w.heap,ok,m⟩ vs xs)
  (hK:∀S' ok' y O,Rel X cl ch S' m ok' a w→Tk X S' m ok' w (T++O)→(∀b t,ok b t→ok' b t)→X8 S S' →kS w.heap (okL ln S' m ok') ms y xs O→(K y).post S' Q),
  (Dz ln ms vs K).post S Q
 | [],vs,xs,K,S,ok,T,R,hT,hv,hK=>by
  unfold Dz
  split
  ·simp only[aY]at hv;subst hv
   exact hK _ _ _ [] R (by simpa using hT) (fun _ _ h=>h) (X8.refl _) ⟨rfl,rfl⟩
  ·trivial
 | [md],vs,xs,K,S,ok,T,R,hT,hv,hK=>by
  unfold Dz
  split
  ·obtain⟨x,r,rfl,h1,h2⟩:=hv
   simp only[aY]at h2;subst h2
   cases hd:md.2.isDat
   ·unfold MH
    simp only[a3C hd]
    exact UL R hT h1 fun S' ok' y cs O R' T' k s g h=>hK _ _ _ O R' T' k s ⟨x,cs,rfl,g,bK b4g (fun _ _ _=>rfl) (fun _ _=>rfl) h⟩
   ·exact Qn hd R hT h1 fun S' ok' y cs R' T' k g s hg h=>hK _ _ _ [] R' (by simpa using T') k s ⟨x,cs,rfl,hg,h⟩
  ·trivial
 | md::md' ::r,vs,xs,K,S,ok,T,R,hT,hv,hK=>by
  unfold Dz
  split
  ·obtain⟨x,xr,rfl,h1,h2⟩:=hv
   cases hd:md.2.isDat
   ·simp only[cond_false]
    unfold MH
    simp only[a3C hd]
    refine UL R hT h1 fun S1 ok1 y cs O R1 T1 k1 s1 g1 h1' =>?_
    refine yL (md' ::r) R1 T1 (Bl k1 h2) fun S2 ok2 z O2 R2 T2 k2 s2 h2' =>?_
    exact hK _ _ _ (O++O2) R2 (by simpa using T2) (fun b t h=>k2 b t (k1 b t h)) (s1.trans s2) ⟨x,cs,xr,O,O2,rfl,rfl,g1,bK (fun b t h=> .inl (k2 b t h)) (fun _ _ _=>rfl) (fun _ _=>rfl) h1',h2'⟩
   ·simp only[cond_true]
    refine yL (md' ::r) R hT h2 fun S2 ok2 z O2 R2 T2 k2 s2 h2' =>?_
    refine Qn hd R2 T2 (Dj k2 h1) fun S1 ok1 y cs R1 T1 k1 g1 s1 hg h1' =>?_
    exact hK _ _ _ ([]++O2) R1 (by simpa using T1) (fun b t h=>k1 b t (k2 b t h)) (s2.trans s1) ⟨x,cs,xr,[],O2,rfl,rfl,hg,h1',JF g1 (fun _ _ _=>rfl) (fun _ _=>rfl) h2'⟩
  ·trivial
theorem UK {α:Type} {Q:α→Sm→Prop} (ms:List MG) {vs:List V} {xs:List Value} {K:aK ms→Cmd α} {S:Sm} {ok:Nat→Ty→Prop} {T:List Nat} (R:Rel X cl ch S m ok a w) (hT:Tk X S m ok w T)
  (hv:aY ⟨w.heap,ok,m⟩ vs xs)
  (hK:∀S' ok' y O,Rel X cl ch S' m ok' a w→Tk X S' m ok' w (T++O)→(∀b t,ok b t→ok' b t)→X8 S S' →kS w.heap ok' ms y xs O→(K y).post S' Q):
  (Dz sD ms vs K).post S Q:=
 yL ms R hT hv fun S' ok' y O R' T' k s h=>hK S' ok' y O R' T' k s (by rw[a4v]at h;exact h)
theorem Jk {α:Type} {Q:α→Sm→Prop} {tmps:Array Value} {C:Cx} :∀(ns:List Nat) {K:List V→Cmd α} {S:Sm} (hs:∀n,n<BOX→fE C (S n) (tmps.getD n Go.undef))
  (hK:∀vs,aY C vs (ns.map fun n=>tmps.getD n Go.undef)→(K vs).post S Q),(RZ ns K).post S Q
 | [],K,S,hs,hK=>hK [] rfl
 | n::ns,K,S,hs,hK=>by
  unfold RZ
  cases hb:Nat.blt n BOX
  ·trivial
  ·simp only[cond_true]
   show Cmd.post _ S Q
   refine Jk ns hs fun vs hvs=>?_
   exact hK _ ⟨_,_,rfl,hs n (by rw[Nat.blt_eq]at hb;exact hb),hvs⟩
def WY (h:Array Obj) (ok:Nat→Ty→Prop) (sg:Sig) (x:iF sg) (tmps:Array Value) (O:List Nat):Prop:=
 kS h ok (sg.ms.map (·.2)) x ((sg.ms.map (·.1)).map fun n=>tmps.getD n Go.undef) O∧∀p∈sg.als,tmps.getD p.1 Go.undef=tmps.getD p.2 Go.undef
theorem a6g {C:Cx} {v u:V} {x y:Value} (h:b2F v u=true) (hv:fE C v x) (hu:fE C u y):x=y:=by
 cases v <;> try (cases h;done)
 case own a vw=>
 cases u <;> try (cases vw <;> cases h;done)
 case own b vu=>
 cases vw <;> cases vu <;> try (cases h;done)
 have:=aV (show Nat.beq a b=true from h)
 subst this
 obtain⟨l,hm,h1⟩:=hv
 obtain⟨l',hm',h2⟩:=hu
 rw[hm]at hm';cases hm'
 cases l with
 | nil=>exact(show x=_ from h1).trans (show y=_ from h2).symm
 | st b=>cases h1
 | mp b=>exact(show x=_ from h1).trans (show y=_ from h2).symm
 | arr blk off len cap sz=>exact(show x=_ from h1).trans (show y=_ from h2).symm
theorem PX {α:Type} {Q:α→Sm→Prop} {tmps:Array Value} {C:Cx} :∀(als:List (Nat×Nat)) {K:Cmd α} {S:Sm} (hs:∀n,n<BOX→fE C (S n) (tmps.getD n Go.undef))
  (hK:(∀p∈als,tmps.getD p.1 Go.undef=tmps.getD p.2 Go.undef)→K.post S Q),(a7v als K).post S Q
 | [],K,S,hs,hK=>hK (fun p hp=>by cases hp)
 | (n,k)::r,K,S,hs,hK=>by
  unfold a7v
  refine az fun hb=>?_
  simp only[Bool.and_eq_true]at hb
  show Cmd.post _ S Q
  refine az fun hv=>PX r hs fun h=>hK fun p hp=>?_
  rcases List.mem_cons.1 hp with rfl | hp
  ·have h1:=hb.1;have h2:=hb.2
   rw[Nat.blt_eq]at h1 h2
   exact a6g hv (hs n h1) (hs k h2)
  ·exact h p hp
theorem Xv {sg:Sig} {Q:iF sg→Sm→Prop} (R:Rel X cl ch S m ok a w)
  (hK:∀S' ok' y O,Rel X cl ch S' m ok' a w→Tk X S' m ok' w O→(∀b t,ok b t→ok' b t)→X8 S S' →
   WY w.heap ok' sg y a.tmps O→Q y S'):(a3D sg).post S Q:=by
 unfold a3D
 refine PX _ R.slot fun hals=>Jk _ R.slot fun vs hvs=>?_
 refine UK (T:=[]) _ R Tk.nil hvs fun S' ok' y O R' T' k s h=>?_
 exact hK S' ok' y O R' T' k s ⟨h,hals⟩
theorem Rel.chmono (R:Rel X cl ch S m ok a w) {ch' :Nat} (h:ch≤ch'):Rel X cl ch' S m ok a w:={ R with strict:=fun n hn=>R.strict n (by omega) }
theorem qx {α:Type} {Q:α→Sm→Prop} {n:Nat} {v:V} {K:Cmd α} (hK:S (BOX+n)= .undef→K.post (upd S (BOX+n) v) Q):(qC n v K).post S Q:=by
 unfold qC
 show Cmd.post (match S (BOX+n)with | .undef=>_ | _=>_) S Q
 split
 ·rename_i h;exact hK h
 ·trivial
theorem Rel.adopt (R:Rel X cl ch S m ok a w) {n:Nat} {l:Loc} {ks:List Nat} {v:V} {O:List Nat} (hn:S (BOX+n)= .undef) (hcl:cl≤n) (hv:v≠.undef)
  (hT:Tk X S m ok w (O++T)) (ho:∀b∈J9 (fG m n l ks) n v,b∈O) (hnd:(J9 (fG m n l ks) n v).Nodup) (hB:vP ⟨w.heap,ok,fG m n l ks⟩ n v):
  Rel X cl (max ch (n+1)) (upd S (BOX+n) v) (fG m n l ks) ok a w∧Tk X (upd S (BOX+n) v) (fG m n l ks) ok w T∧(∀k l',m k=some l' →fG m n l ks k=some l'):=by
 have hm:m n=none:=R.fresh n hcl hn
 refine⟨(R.chmono (Nat.le_max_left ch (n+1))).lay hn hcl (by omega) hv rfl rfl rfl (Nat.le_refl _) (fun _ _ _=>rfl) hnd (fun b hb=>hT.free b (by simp[ho b hb])) hB,⟨?_,fun b hb=>?_⟩,fun k l' h=>?_⟩
 ·exact(List.nodup_append.1 hT.nodup).2.1
 ·obtain⟨h1,h2,h3,h4⟩:=hT.free b (by simp[hb])
  refine⟨h1,h2,h3,fun k e=>?_⟩
  by_cases ek:k=n
  ·subst ek;rw[dL]at e
   exact(List.nodup_append.1 hT.nodup).2.2 b (ho b e) b hb rfl
  ·rw[U6 _ _ (by omega)]at e
   refine h4 k ?_
   rw[←yX (m:=m) (dh m l ks ek) (Je m l ks ek)];exact e
 ·by_cases ek:k=n
  ·subst ek;simp[hm]at h
  ·rw[dh _ _ _ ek];exact h
theorem EO {h:Array Obj} {ok:Nat→Ty→Prop} {m m' :Mp} {t:Ty} {xs:List t.den} {l:Loc} (hr:arrOk ⟨h,ok,m⟩ t xs l):arrOk ⟨h,ok,m'⟩ t xs l:=by cases l <;> exact hr
theorem a2w {α:Type} {Q:α→Sm→Prop} {S:Sm} {k:Nat} {v:V} {c:Cmd α} (h:c.post (upd S k v) Q):(Cmd.set k v c).post S Q:=h
theorem xJ {α:Type} {Q:α→Sm→Prop} :∀(md:M) {x:md.den} {n:Nat} {r:List V} {K:List V→Nat→Cmd α} {S:Sm} {m:Mp} {ch:Nat} {us us' :List Value} {O T:List Nat}
  (R:Rel X cl ch S m ok a w) (hcl:cl≤n) (hT:Tk X S m ok w (O++T)) (h:gI w.heap ok md none x us O) (hL:aF ⟨w.heap,ok,m⟩ r us')
  (hK:∀S' m' cs n' ch',Rel X cl ch' S' m' ok a w→ch' ≤max ch n' →Tk X S' m' ok w T→(∀k l,m k=some l→m' k=some l)→X8 S S' →aF ⟨w.heap,ok,m'⟩ cs (us++us')→n≤n' →(K cs n').post S' Q),
  (emM md x n r K).post S Q
 | .dat t,x,n,r,K,S,m,ch,us,us',O,T,R,hcl,hT,h,hL,hK=>by
  unfold emM
  obtain⟨hr,rfl⟩:=h
  refine hK S m _ n ch R (Nat.le_max_left _ _) (by simpa using hT) (fun _ _ h=>h) (X8.refl _) ?_ (Nat.le_refl _)
  rw[dQ]
  exact mV (iV (C:=⟨w.heap,ok,m⟩) hr) hL
 | .own t,x,n,r,K,S,m,ch,us,us',O,T,R,hcl,hT,h,hL,hK=>by
  unfold emM
  obtain⟨l,v,rfl,hv,ha,rfl⟩:=oO.1 h
  refine qx fun hn=>?_
  have hob:J9 (fG m n l []) n (.barr t x)=l.blks:=by cases l <;> first | (simp[J9,Loc.blks];done) | cases ha
  obtain⟨R',T',k'⟩:=R.adopt (l:=l) (ks:=[]) (v:=.barr t x) hn hcl (by simp) hT (fun b hb=>by rw[hob]at hb;exact hb) (by rw[hob];exact Loc.blks_nodup l) ⟨l,Y8 _ _ _ _,EO ha⟩
  exact hK _ _ _ _ _ R' (by omega) T' k' (X8.box _ _ _) ⟨v,us',rfl,⟨l,Y8 _ _ _ _,hv⟩,jm hv,Bj k' hL⟩ (by omega)
 | .ownb t,x,n,r,K,S,m,ch,us,us',O,T,R,hcl,hT,h,hL,hK=>by
  unfold emM
  obtain⟨l,v,rfl,hv,ha,rfl⟩:=h
  refine qx fun hn=>?_
  have hob:J9 (fG m n l []) n (.barr t x)=l.blks:=by cases l <;> first | (simp[J9,Loc.blks];done) | cases ha
  obtain⟨R',T',k'⟩:=R.adopt (l:=l) (ks:=[]) (v:=.barr t x) hn hcl (by simp) hT (fun b hb=>by rw[hob]at hb;exact hb) (by rw[hob];exact Loc.blks_nodup l) ⟨l,Y8 _ _ _ _,EO ha⟩
  exact hK _ _ _ _ _ R' (by omega) T' k' (X8.box _ _ _) ⟨v,us',rfl,⟨l,Y8 _ _ _ _,hv⟩,jm hv,Bj k' hL⟩ (by omega)
 | .owns md,x,n,r,K,S,m,ch,us,us',O,T,R,hcl,hT,h,hL,hK=>by
  unfold emM
  obtain⟨hw,l,v,Os,rfl,hv,ha,rfl⟩:=qA.1 h
  refine qx fun hn=>?_
  have hob:J9 (fG m n l Os.flatten) n (.barrs md x none)=l.blks++Os.flatten:=by cases l <;> first | (simp[J9,Loc.blks];done) | cases ha
  obtain⟨R',T',k'⟩:=R.adopt (l:=l) (ks:=Os.flatten) (v:=.barrs md x none) hn hcl (by simp) hT (fun b hb=>by rw[hob]at hb;exact hb) (by rw[hob];exact(List.nodup_append.1 hT.nodup).1)
   ⟨hw,l,Os,Y8 _ _ _ _,⟨ha,trivial⟩,by simp⟩
  refine a2w ?_
  have T2:=T'.killV R' (GZ+n) (v:=.blen (o8 x) md.size) rfl (bs:=[]) (fun b h=>by cases h) List.nodup_nil
  rw[List.append_nil]at T2
  exact hK _ _ _ _ _ (R'.mark (dL _ _ _)) (by omega) T2 k' ((X8.box _ _ _).trans (X8.box _ _ _)) ⟨v,us',rfl,⟨l,Y8 _ _ _ _,hv⟩,jm hv,Bj k' hL⟩ (by omega)
 | .pair p q,x,n,r,K,S,m,ch,us,us',O,T,R,hcl,hT,h,hL,hK=>by
  unfold emM
  obtain⟨c,d,O1,O2,rfl,rfl,h1,h2⟩:=a2q.1 h
  have hT1:Tk X S m ok w (O2++(O1++T)):=hT.perm (by
   rw[List.append_assoc]
   exact(List.perm_append_comm_assoc _ _ _))
  refine xJ q R hcl hT1 h2 hL fun S1 m1 cs1 n1 ch1 R1 c1 T1 k1 s1 l1 e1=>?_
  refine xJ p R1 (by omega) T1 h1 l1 fun S2 m2 cs2 n2 ch2 R2 c2 T2 k2 s2 l2 e2=>?_
  exact hK _ _ _ _ _ R2 (by omega) T2 (fun k l h=>k2 k l (k1 k l h)) (s1.trans s2) (by simpa using l2) (by omega)
 | .unit,x,n,r,K,S,m,ch,us,us',O,T,R,hcl,hT,h,hL,hK=>by
  unfold emM
  obtain⟨rfl,rfl⟩:=h
  exact hK S m _ n ch R (Nat.le_max_left _ _) (by simpa using hT) (fun _ _ h=>h) (X8.refl _) (by simpa using hL) (Nat.le_refl _)
 | .box md,x,n,r,K,S,m,ch,us,us',O,T,R,hcl,hT,h,hL,hK=>by
  unfold emM
  obtain⟨blk,arr,Tt,O',rfl,hh,hr,rfl⟩:=h
  have hT1:Tk X S m ok w (O' ++([blk]++T)):=hT.perm (by simpa using List.perm_middle.symm)
  refine xJ md (r:=[]) (us' :=[]) R (by omega) hT1 hr rfl fun S1 m1 cs1 n1 ch1 R1 c1 T1 k1 s1 l1 e1=>?_
  refine qx fun hn=>?_
  obtain⟨R',T',k'⟩:=R1.adopt (l:=.st blk) (ks:=[]) (v:=.bcells cs1) hn hcl (by simp) T1 (fun b hb=>by
   simp only[J9,Y8]at hb;simp at hb;simp[hb]) (by simp[J9]) ⟨blk,arr,Tt,Y8 _ _ _ _,hh,Bj (fun k l (h:m1 k=some l)=>by
    by_cases ek:k=n
    ·subst ek;have:=R1.fresh k hcl hn;rw[this]at h;cases h
    ·rw[dh _ _ _ ek];exact h) (by simpa using l1)⟩
  refine hK _ _ _ _ _ R' (by omega) T' (fun k l h=>k' k l (k1 k l h)) (s1.trans (X8.box _ _ _)) ⟨_,us',rfl,⟨blk,Y8 _ _ _ _,rfl⟩,rfl,Bj k' (Bj k1 hL)⟩ (by omega)
 | .rp t,x,n,r,K,S,m,ch,us,us',O,T,R,hcl,hT,h,hL,hK=>by
  unfold emM
  obtain⟨v,rfl,hv,rfl⟩:=h
  exact hK S m _ n ch R (Nat.le_max_left _ _) (by simpa using hT) (fun _ _ h=>h) (X8.refl _) ⟨v,us',rfl,hv,Md hv,hL⟩ (Nat.le_refl _)
 | .fn f ts,x,n,r,K,S,m,ch,us,us',O,T,R,hcl,hT,h,hL,hK=>by
  unfold emM
  obtain⟨vs,rfl,hv,rfl⟩:=h
  exact hK S m _ n ch R (Nat.le_max_left _ _) (by simpa using hT) (fun _ _ h=>h) (X8.refl _) ⟨_,us',rfl,⟨vs,rfl,hv⟩,rfl,hL⟩ (Nat.le_refl _)
 | .ifc t md,x,n,r,K,S,m,ch,us,us',O,T,R,hcl,hT,h,hL,hK=>by
  unfold emM
  obtain⟨u,rfl,h1⟩:=h
  refine xJ md (r:=[]) (us' :=[]) R hcl hT h1 rfl fun S1 m1 cs1 n1 ch1 R1 c1 T1 k1 s1 l1 e1=>?_
  split
  ·rename_i c
   obtain⟨v',r',e,h1',h2',h3'⟩:=l1
   simp only[List.append_nil,List.cons_append,List.nil_append,List.cons.injEq]at e
   obtain⟨rfl,rfl⟩:=e
   exact hK _ _ _ _ _ R1 c1 T1 k1 s1 ⟨_,us',rfl,⟨u,rfl,h2',h1'⟩,rfl,Bj k1 hL⟩ e1
  ·trivial
 | .cell (some none),x,n,r,K,S,m,ch,us,us',O,T,R,hcl,hT,h,hL,hK=>by
  unfold emM
  obtain⟨v,rfl,hv,h2,h4,rfl⟩:=h
  exact hK S m _ n ch R (Nat.le_max_left _ _) (by simpa using hT) (fun _ _ h=>h) (X8.refl _) ⟨v,us',rfl,h2 rfl,hv,hL⟩ (Nat.le_refl _)
 | .cell (some (some b)),x,n,r,K,S,m,ch,us,us',O,T,R,hcl,hT,h,hL,hK=>by
  unfold emM
  obtain⟨v,rfl,hv,h2,h4,rfl⟩:=h
  exact hK S m _ n ch R (Nat.le_max_left _ _) (by simpa using hT) (fun _ _ h=>h) (X8.refl _) ⟨v,us',rfl,h4 _ rfl,hv,hL⟩ (Nat.le_refl _)
 | .cell none,x,n,r,K,S,m,ch,us,us',O,T,R,hcl,hT,h,hL,hK=>by
  unfold emM
  obtain⟨v,rfl,hv,h2,h4,rfl⟩:=h
  exact hK S m _ n ch R (Nat.le_max_left _ _) (by simpa using hT) (fun _ _ h=>h) (X8.refl _) ⟨v,us',rfl,trivial,hv,hL⟩ (Nat.le_refl _)
theorem Gl {C:Cx} {ag:Bool} {cs:List V} {us:List Value} {x:Value} (hg:IE ag x us) (hl:aF C cs us):fE C (mkV ag cs) x:=by
 cases ag
 ·simp only[IE]at hg;subst hg
  cases cs with
  | nil=>simp[aF]at hl
  | cons c r=>
   obtain⟨v,r',e,h1,h2,h3⟩:=hl
   simp at e;obtain⟨rfl,rfl⟩:=e
   cases r with
   | nil=>exact uD h1
   | cons d r=>obtain⟨_,_,e,_⟩:=h3;cases e
 ·obtain⟨arr,rfl,rfl⟩:=hg
  exact⟨arr,rfl,hl⟩
theorem yG {α:Type} {Q:α→Sm→Prop} :∀(ms:List MG) {x:aK ms} {n:Nat} {K:List V→Nat→Cmd α} {S:Sm} {m:Mp} {ch:Nat} {xs:List Value} {O T:List Nat}
  (R:Rel X cl ch S m ok a w) (hcl:cl≤n) (hT:Tk X S m ok w (O++T)) (h:kS w.heap ok ms x xs O)
  (hK:∀S' m' vs n' ch',Rel X cl ch' S' m' ok a w→ch' ≤max ch n' →Tk X S' m' ok w T→(∀k l,m k=some l→m' k=some l)→X8 S S' →aY ⟨w.heap,ok,m'⟩ vs xs→n≤n' →(K vs n').post S' Q),
  (Dy ms x n K).post S Q
 | [],x,n,K,S,m,ch,xs,O,T,R,hcl,hT,h,hK=>by
  unfold Dy
  obtain⟨rfl,rfl⟩:=h
  exact hK S m [] n ch R (Nat.le_max_left _ _) (by simpa using hT) (fun _ _ h=>h) (X8.refl _) rfl (Nat.le_refl _)
 | [md],x,n,K,S,m,ch,xs,O,T,R,hcl,hT,h,hK=>by
  unfold Dy
  obtain⟨v,cs,rfl,hg,hr⟩:=h
  refine xJ md.2 (us' :=[]) R hcl hT hr rfl fun S1 m1 cs1 n1 ch1 R1 c1 T1 k1 s1 l1 e1=>?_
  exact hK _ _ _ _ _ R1 c1 T1 k1 s1 ⟨v,[],rfl,Gl hg (by simpa using l1),rfl⟩ e1
 | md::md' ::r,x,n,K,S,m,ch,xs,O,T,R,hcl,hT,h,hK=>by
  unfold Dy
  obtain⟨v,cs,vs',O1,O2,rfl,rfl,hg,h1,h2⟩:=h
  refine xJ md.2 (us' :=[]) R hcl (by simpa using hT) h1 rfl fun S1 m1 cs1 n1 ch1 R1 c1 T1 k1 s1 l1 e1=>?_
  refine yG (md' ::r) R1 (by omega) T1 h2 fun S2 m2 vs2 n2 ch2 R2 c2 T2 k2 s2 l2 e2=>?_
  exact hK _ _ _ _ _ R2 (by omega) T2 (fun k l h=>k2 k l (k1 k l h)) (s1.trans s2) ⟨v,vs',rfl,Gl hg (Bj k2 (by simpa using l1)),l2⟩ (by omega)
theorem JL {Q:Unit→Sm→Prop} :∀(ns:List Nat) {vs:List V} {S:Sm} (R:Rel X cl ch S m ok a w) (hv:aY ⟨w.heap,ok,m⟩ vs (ns.map fun n=>a.tmps.getD n Go.undef))
  (hK:∀S',Rel X cl ch S' m ok a w→Q () S'),(OI ns vs).post S Q
 | [],vs,S,R,hv,hK=>by
  cases vs with
  | nil=>exact hK S R
  | cons v vs=>trivial
 | n::ns,vs,S,R,hv,hK=>by
  cases vs with
  | nil=>trivial
  | cons v vs=>
   unfold OI
   obtain⟨x,r,e,h1,h2⟩:=hv
   simp only[List.map_cons,List.cons.injEq]at e
   obtain⟨rfl,rfl⟩:=e
   cases hb:Nat.blt n BOX
   ·trivial
   ·simp only[cond_true]
    show Cmd.post _ (upd S n v) Q
    exact JL ns (R.slotV (by rw[Nat.blt_eq]at hb;exact hb) h1) h2 hK
theorem Gy {Q:Unit→Sm→Prop} :∀(ns:List Nat) {vs:List V} {S:Sm} {K:Cmd Unit} (R:Rel X cl ch S m ok a w) (hv:aY ⟨w.heap,ok,m⟩ vs (ns.map fun n=>a.tmps.getD n Go.undef))
  (hK:∀S',Rel X cl ch S' m ok a w→K.post S' Q),(KP ns vs K).post S Q
 | [],vs,S,K,R,hv,hK=>by
  simp only[List.map_nil]at hv
  cases vs with
  | nil=>exact hK S R
  | cons _ _=>obtain⟨_,_,e,_⟩:=hv;cases e
 | n::ns,vs,S,K,R,hv,hK=>by
  cases vs with
  | nil=>trivial
  | cons v vs=>
   obtain⟨x,r,e,h1,h2⟩:=hv
   simp only[List.map_cons,List.cons.injEq]at e
   obtain⟨rfl,rfl⟩:=e
   unfold KP
   refine az fun hb=>?_
   show Cmd.post _ (upd S n v) Q
   exact Gy ns (R.slotV (by rw[Nat.blt_eq]at hb;exact hb) h1) h2 hK
theorem JM {Q:Unit→Sm→Prop} :∀(als:List (Nat×Nat)) {S:Sm} (R:Rel X cl ch S m ok a w) (h:∀p∈als,a.tmps.getD p.1 Go.undef=a.tmps.getD p.2 Go.undef)
  (hK:∀S',Rel X cl ch S' m ok a w→Q () S'),(TL als).post S Q
 | [],S,R,h,hK=>hK S R
 | (n,k)::r,S,R,h,hK=>by
  unfold TL
  refine az fun hb=>?_
  simp only[Bool.and_eq_true]at hb
  have h1:=hb.1;have h2:=hb.2
  rw[Nat.blt_eq]at h1 h2
  show Cmd.post _ (upd S n (S k)) Q
  refine JM r (R.slotV h1 ?_) (fun p hp=>h p (List.mem_cons_of_mem _ hp)) hK
  rw[h (n,k) List.mem_cons_self]
  exact R.slot k h2
theorem Xp {sg:Sig} {x:iF sg} {nb lim:Nat} {Q:Unit→Sm→Prop} {O:List Nat} (R:Rel X cl ch S m ok a w) (hcl:cl≤nb) (hT:Tk X S m ok w O)
  (h:WY w.heap ok sg x a.tmps O)
  (hK:∀S' m',Rel X cl (max ch lim) S' m' ok a w→(∀k l,m k=some l→m' k=some l)→Q () S'):(a3s sg x nb lim).post S Q:=by
 unfold a3s
 refine yG (T:=[]) _ R hcl (by simpa using hT) h.1 fun S1 m1 vs n1 ch1 R1 c1 T1 k1 s1 l1 e1=>?_
 cases hb:Nat.ble n1 lim
 ·trivial
 ·simp only[cond_true]
  have:n1≤lim:=Nat.le_of_ble_eq_true hb
  exact Gy _ (R1.chmono (ch' :=max ch lim) (by omega)) l1 fun S' R' =>JM _ R' h.2 fun S'' R'' =>hK S'' m1 R'' k1
end
end Go.GP
namespace Go.GP
def a7g (P:Program) (t:TypeId):TD→Prop
 | .bool=>P.underlying t=some .bool
 | .int k=>P.underlying t=some (.int k)
 | .str=>P.underlying t=some .string
 | .sl e=>P.underlying t=some (.slice e)
 | .ptr e=>P.underlying t=some (.pointer e)
 | .struct fs=>∃fields,P.underlying t=some (.struct fields)∧fields.toList.map (fun f=>(f.type,f.offset))=fs
 | .arr n e=>P.underlying t=some (.array n e)
 | .map k e=>P.underlying t=some (.map k e)
 | .other=>∃d,P.underlying t=some d∧(match d with | .struct _ | .array _ _=>False | _=>True)
structure TiOk (P:Program) (t:TypeId) (i:TI):Prop where
 info:∃inf,P.info? t=some inf∧inf.size=i.size∧inf.bytes=i.bytes∧
  (i.zero.length=i.size→∃z,inf.zero=some z∧aF ⟨#[],fun _ _=>False,nom⟩ i.zero z.cells.toList)∧
  (∀u,i.ty=some u→u.size=i.size∧∃z,inf.zero=some z∧rep #[] (fun _ _=>False) u u.zero z.cells.toList)
 td:a7g P t i.td
 one:U4 i.td=false→i.size=1
 agg:∀inf z,P.info? t=some inf→inf.zero=some z→(U4 i.td=true→∃arr,z= .agg arr)∧(U4 i.td=false→z.oneCell' =true)
def WX (n:Nat) (v:Value) (rs:List Value):Prop:=rs.length=n∧v=(match rs with | [x]=>x | l=> .tuple l.toArray)
def pV (h:Array Obj):List MG→List Value→List Value→List Nat→Prop
 | [],[],os,B=>os=[]∧B=[]
 | (_,.box _)::ms,v::vs,os,B=>∃b arr T os' B',v= .pointer (some ⟨b,0,none⟩)∧h[b]? =some (.cells arr T (0,0))∧os= .agg arr::os' ∧B=b::B' ∧pV h ms vs os' B'
 | (_,.ifc _ (.box _))::ms,v::vs,os,B=>∃t b arr T os' B',v= .iface t (.pointer (some ⟨b,0,none⟩))∧h[b]? =some (.cells arr T (0,0))∧os= .agg arr::os' ∧B=b::B' ∧pV h ms vs os' B'
 | (_,.ownb _)::ms,v::vs,os,B=>∃os',os=v::os' ∧pV h ms vs os' B
 | _::ms,_::vs,os,B=>pV h ms vs os B
 | _,_,_,_=>False
def D5 (P:Program) (gl:List (Nat×(t:Ty)×List t.den)) (f:FuncId) (s:FSpec):Prop:=
 ∀(w:World) (ok:Nat→Ty→Prop) (O:List Nat) (vals:List Value) (x:aK s.ps) (r:aK (s.rs++s.outs)),
  (∀b t,ok b t→b<w.heap.size)→O.Nodup→(∀b∈O,(∀t,¬ok b t)∧b<w.heap.size)→(∀g u,Y3 gl g=some u→GX ⟨w.heap,ok,nom⟩ g u.1 u.2)→
  kS w.heap ok s.ps x vals O→s.fn x=some r→
  Calls P f vals.toArray w fun e w' =>∃v ok' O' rs os B,e= .returned v∧Frame' w w' O∧(∀b t,ok b t→ok' b t)∧(∀b t,ok' b t→b<w'.heap.size∧(ok b t∨w.heap.size≤b∨b∈O))∧
   (O' ++B).Nodup∧(∀b∈O' ++B,(∀t,¬ok' b t)∧b<w'.heap.size∧(w.heap.size≤b∨b∈O))∧
   WX s.rs.length v rs∧pV w'.heap s.ps vals os B∧kS w'.heap ok' (s.rs++s.outs) r (rs++os) O'
def bz:List Ty→List Value→Prop
 | [],vs=>vs=[]
 | .bool::ts,vs=>∃b r,vs= .bool b::r∧bz ts r
 | .int k::ts,vs=>∃b r,vs= .int k b::r∧bz ts r
 | .str::ts,vs=>∃b r,vs= .string b::r∧bz ts r
 | _::_,_=>False
def a2J (P:Program) (t:TypeId) (sh:List Ty):Prop:=
 ∀(w:World) (C:Cx) (cs ds:List V) (xs ys:Array Value) (e:Bool) (op:BinOp) (x y:Operand),rq sh cs=true→rq sh ds=true→aF C cs xs.toList→aF C ds ys.toList→qJ cs ds=some e→
  (op= .eql∨op= .neq)→(do eqGuard op t x y (.agg xs) (.agg ys);binOp op t (.agg xs) (.agg ys):Sem Value).run P w= .ok (.bool (if op= .eql then e else !e)) w
def Uf (P:Program) (t:TypeId) (sh:List Ty):Prop:=
 (∃fs,P.underlying t=some (.struct fs))∧∀(w:World) (xs:Array Value),bz sh xs.toList→(∀em,(Instr.checkKey em 10000 t (.agg xs)).run P w= .ok () w)∧
  ∀ys:Array Value,bz sh ys.toList→∃r,(Op.equal t (.agg xs) (.agg ys)).run P w= .ok r w∧(r=true↔xs.toList=ys.toList)
def BU (P:Program) (t:TypeId) (sh:List Ty):Prop:=a2J P t sh∧Uf P t sh
def uQ (P:Program) (t:Nat) (n:String) (f:Nat) (d:Option Nat):Prop:=
 ∀(v:Value) (w:World),match d with
  | none=>(method (P.types.size+Made.depth) t v n).run P w= .ok (f,v) w
  | some e=>∀ad,v= .pointer (some ad)→(method (P.types.size+Made.depth) t v n).run P w=((loadVar e ad).run P w).andThen fun u w' => .ok (f,u) w'
structure FxOk (X:Fx):Prop where
 nt:64*X.E.nt≤999936
 tt:∀t i,Y3 X.E.tt t=some i→TiOk X.P t i
 fs:∀p∈X.E.fs,D5 X.P X.E.gl p.1 p.2
 eqs:∀t sh,Y3 X.E.eqs t=some sh→BU X.P t sh
 ms:∀p∈X.E.ms,uQ X.P p.1.1 p.1.2 p.2.1 p.2.2
 fn:∀p∈X.E.fs,∃fn,X.P.funcs[p.1]? =some fn∧fn.body.isSome=true∧(fn.name== "runtime.NumGoroutine")=false
theorem FxOk.ntB {X:Fx} (H:FxOk X):X.E.nt≤BOX:=by have:=H.nt;show X.E.nt≤1000000;omega
def bM (X:Fx) (cl ch:Nat) (o:Oper) (a:Act) (w:World) (m:Mp) (ok:Nat→Ty→Prop) (S' :Sm):Prop:=
 ∀(next:Act→World→Prop) (Q:Exit→Act→World→Prop),
  (∀m' ok' a' w',Rel X cl ch S' m' ok' a' w' →(∀k l,m k=some l→m' k=some l)→(∀b t,ok b t→ok' b t)→next a' w')→o.wp X.P a w next Q
theorem xY {α:Type} {ι:Sort _} {Q:ι→α→Sm→Prop} :∀{c:Cmd α} {S:Sm},(∀i,c.post S (Q i))→c.post S (fun x S' =>∀i,Q i x S')
 | .ret x,S,h=>fun i=>h i
 | .fail,S,h=>trivial
 | .get k c,S,h=>xY (c:=c (S k)) h
 | .set k v c,S,h=>xY (c:=c) h
 | .opt o c,S,h=>fun x e=>xY (c:=c x) fun i=>h i x e
 | .br b c d,S,h=>⟨fun e=>xY (c:=c) fun i=>(h i).1 e,fun e=>xY (c:=d) fun i=>(h i).2 e⟩
section
variable {X:Fx} {cl ch:Nat} {S:Sm} {m:Mp} {ok:Nat→Ty→Prop} {a:Act} {w:World} {o:Oper}
theorem Y4 {α:Type} {Q:α→Sm→Prop} {b:Bool} {c:Cmd α} {S:Sm} (h:b=true→c.post S Q):(bif b then c else Cmd.fail).post S Q:=by
 cases b
 ·trivial
 ·exact h rfl
theorem DY {a b:Nat} (h:Nat.blt a b=true):a<b:=by rw[Nat.blt_eq]at h;exact h
theorem oC (H:FxOk X) {S:Sm} {m0 m:Mp} {ok0 ok:Nat→Ty→Prop} {w0 w:World} {a:Act} (R:Rel X cl ch S m ok a w) (hm:∀k l,m0 k=some l→m k=some l) (hok:∀b t,ok0 b t→ok b t)
  {v:V} {x:Value} (hv:fE ⟨w.heap,ok,m⟩ v x) (run:(execOp a.eval o).run X.P w0= .ok (.value x) w):
  (Z9 X.E o.dst v).post S (fun _ S' =>bM X cl ch o a w0 m0 ok0 S'):=by
 unfold Z9
 cases hd:o.dst with
 | none=>
  intro next Q hn
  unfold Oper.wp
  rw[run,Oper.upon_value,hd]
  exact hn m ok a w R hm hok
 | some d=>
  refine Y4 fun hb=>?_
  intro next Q hn
  unfold Oper.wp
  rw[run,Oper.upon_value,hd]
  exact hn m ok _ w (R.put H.ntB hb hv) hm hok
theorem Xj (C:Cx) (v:Value):fE C (Xi v) v:=by
 unfold Xi
 split <;> first | exact rfl | trivial
theorem O7 {α:Type} {Q:α→Sm→Prop} (R:Rel X cl ch S m ok a w) {x:Operand} {K:V→Cmd α} (hK:∀v,fE ⟨w.heap,ok,m⟩ v (a.eval x)→(K v).post S Q):(iO x K).post S Q:=by
 unfold iO
 cases x with
 | tmp t=>
  exact Y4 fun hb=>hK (S t) (R.slot t (DY hb))
 | const v=>exact hK _ (Xj _ v)
 | global g=>exact hK _ rfl
 | func f=>exact hK _ rfl
theorem fZ {α:Type} {Q:α→Sm→Prop} (R:Rel X cl ch S m ok a w):∀(xs:List Operand) {K:List V→Cmd α} (hK:∀vs,aY ⟨w.heap,ok,m⟩ vs (xs.map a.eval)→(K vs).post S Q),(Jy xs K).post S Q
 | [],K,hK=>hK [] rfl
 | x::r,K,hK=>by
  unfold Jy
  refine O7 R fun v hv=>?_
  exact fZ R r fun vs hvs=>hK _ ⟨_,_,rfl,hv,hvs⟩
theorem O9 (H:FxOk X) (R:Rel X cl ch S m ok a w) {v:V} {x:Value} (hv:fE ⟨w.heap,ok,m⟩ v x) (run:(execOp a.eval o).run X.P w= .ok (.value x) w):
  (Z9 X.E o.dst v).post S (fun _ S' =>bM X cl ch o a w m ok S'):=oC H R (fun _ _ h=>h) (fun _ _ h=>h) hv run
theorem IG {C:Cx} {x:Bool} {v:Value} (h:fE C (.b x) v):v= .bool x:=h
theorem kE {C:Cx} {k:IntKind} {n:Int} {v:Value} (h:fE C (.i k n) v):v= .int k n:=h
theorem ED {C:Cx} {l:List UInt8} {v:Value} (h:fE C (.s l) v):v= .string ⟨l.toArray⟩:=h
theorem a0e (H:FxOk X) (R:Rel X cl ch S m ok a w) {x:Operand} (ho:o.op= .move x∨o.op= .assign x):(iO x fun v=>Z9 X.E o.dst v).post S (fun _ S' =>bM X cl ch o a w m ok S'):=by
 refine O7 R fun v hv=>O9 H R hv ?_
 rcases ho with ho | ho <;> simp[execOp,ho]
theorem a8r (H:FxOk X) (R:Rel X cl ch S m ok a w) {c x y:Operand} {q:Nat} (ho:o.op= .pick c x y):(V7 X.E q o).post S (fun _ S' =>bM X cl ch o a w m ok S'):=by
 unfold V7
 simp only[ho]
 refine O7 R fun v hv=>?_
 split <;> try trivial
 rename_i t
 have hc:=IG hv
 cases t
 ·simp only[cond_false]
  refine O7 R fun v hv=>O9 H R hv ?_
  simp[execOp,ho,hc,asBool]
 ·simp only[cond_true]
  refine O7 R fun v hv=>O9 H R hv ?_
  simp[execOp,ho,hc,asBool]
theorem ay {α β:Type} {Q:α→Sm→Prop} {x:Option β} {c:β→Cmd α} {S:Sm} (h:∀y,x=some y→(c y).post S Q):(Cmd.opt x c).post S Q:=h
theorem a1c {yc:Operand} {a:Act} {k:IntKind} {b:Int} (h:uJ yc=false) (he:a.eval yc= .int k b):b≠0:=by
 unfold uJ at h
 split at h
 ·simp[Act.eval]at he;obtain⟨_,rfl⟩:=he;simpa using h
 ·simp at h
theorem a4l {yc:Operand} {a:Act} {k:IntKind} {b:Int} (h:xP yc=false) (he:a.eval yc= .int k b):¬b<0:=by
 unfold xP at h
 split at h
 ·simp[Act.eval]at he;obtain⟨_,rfl⟩:=he;simpa using h
 ·simp at h
theorem a2a (H:FxOk X) (R:Rel X cl ch S m ok a w) {op:BinOp} {t:TypeId} {x y:Operand} {yt:TypeId} (ho:o.op= .binOp op t x y yt) {k k' :IntKind} {p q:Int}
  (hx:a.eval x= .int k p) (hy:a.eval y= .int k' q):(Ae X.E t op y (.i k p) (.i k' q) fun v=>Z9 X.E o.dst v).post S (fun _ S' =>bM X cl ch o a w m ok S'):=by
 have run:∀v,(binOp op t (.int k p) (.int k' q)).run X.P w= .ok v w→(execOp a.eval o).run X.P w= .ok (.value v) w:=fun v h=>by
  simp[execOp,ho,hx,hy,eqGuard_at_int,h]
 have fin:∀(v:V) (u:Value),fE ⟨w.heap,ok,m⟩ v u→(binOp op t (.int k p) (.int k' q)).run X.P w= .ok u w→(Z9 X.E o.dst v).post S (fun _ S' =>bM X cl ch o a w m ok S'):=
  fun v u hv h=>O9 H R hv (run u h)
 unfold Ae
 cases op <;> simp only[]
 case shl=>
  cases hn:xP y
  ·simp only[cond_false]
   have h0:=a4l hn hy
   exact fin _ _ rfl (by simp[binOp,Op.shift,h0,a3M])
  ·simp only[cond_true]
   refine ay fun r hr=>?_
   unfold Na at hr
   split at hr
   ·cases hr
   ·rename_i h0;cases hr
    exact fin _ _ rfl (by simp[binOp,Op.shift,h0,a3M])
 case shr=>
  cases hn:xP y
  ·simp only[cond_false]
   have h0:=a4l hn hy
   exact fin _ _ rfl (by simp[binOp,Op.shift,h0,jA])
  ·simp only[cond_true]
   refine ay fun r hr=>?_
   unfold Nb at hr
   split at hr
   ·cases hr
   ·rename_i h0;cases hr
    exact fin _ _ rfl (by simp[binOp,Op.shift,h0,jA])
 all_goals
  refine Y4 fun hk=>?_
  have hk' :k=k' :=of_decide_eq_true hk
  subst hk'
 case quo=>
  cases hz:uJ y
  ·simp only[cond_false]
   have h0:=a1c hz hy
   exact fin _ _ rfl (by simp[binOp,Op.intDiv,h0,aN])
  ·simp only[cond_true]
   refine ay fun r hr=>?_
   unfold uZ at hr
   split at hr
   ·cases hr
   ·rename_i h0;cases hr
    exact fin _ _ rfl (by simp[binOp,Op.intDiv,h0])
 case rem=>
  cases hz:uJ y
  ·simp only[cond_false]
   have h0:=a1c hz hy
   exact fin _ _ rfl (by simp[binOp,Op.intDiv,h0,dV])
  ·simp only[cond_true]
   refine ay fun r hr=>?_
   unfold AO at hr
   split at hr
   ·cases hr
   ·rename_i h0;cases hr
    exact fin _ _ rfl (by simp[binOp,Op.intDiv,h0])
 case add=>exact fin _ _ rfl (by simp[binOp,Op.intArith,A7])
 case sub=>exact fin _ _ rfl (by simp[binOp,Op.intArith,G8])
 case mul=>exact fin _ _ rfl (by simp[binOp,Op.intArith,W9])
 case and=>exact fin _ _ rfl (by simp[binOp,Op.intBits,Va])
 case or=>exact fin _ _ rfl (by simp[binOp,Op.intBits,ior])
 case xor=>exact fin _ _ rfl (by simp[binOp,Op.intBits,a3O])
 case andNot=>exact fin _ _ rfl (by simp[binOp,Op.intBits,ZH])
 case eql=>exact fin _ _ rfl (by simp[binOp,Op.intCmp,ieq];rfl)
 case neq=>exact fin _ _ rfl (by simp[binOp,Op.intCmp,ieq,E5];rfl)
 case lss=>exact fin _ _ rfl (by simp[binOp,Op.intCmp,ilt])
 case leq=>exact fin _ _ rfl (by simp[binOp,Op.intCmp,ile])
 case gtr=>exact fin _ _ rfl (by simp[binOp,Op.intCmp,ilt])
 case geq=>exact fin _ _ rfl (by simp[binOp,Op.intCmp,ile])
theorem a2b (H:FxOk X) (R:Rel X cl ch S m ok a w) {op:BinOp} {t:TypeId} {x y:Operand} {yt:TypeId} (ho:o.op= .binOp op t x y yt) {p q:List UInt8}
  (hx:a.eval x= .string ⟨p.toArray⟩) (hy:a.eval y= .string ⟨q.toArray⟩):(Ae X.E t op y (.s p) (.s q) fun v=>Z9 X.E o.dst v).post S (fun _ S' =>bM X cl ch o a w m ok S'):=by
 have run:∀v,(Op.stringOp op ⟨p.toArray⟩ ⟨q.toArray⟩).run X.P w= .ok v w→(execOp a.eval o).run X.P w= .ok (.value v) w:=fun v h=>by
  simp[execOp,ho,hx,hy,eqGuard_at_string,binOp,h]
 have fin:∀(v:V) (u:Value),fE ⟨w.heap,ok,m⟩ v u→(Op.stringOp op ⟨p.toArray⟩ ⟨q.toArray⟩).run X.P w= .ok u w→(Z9 X.E o.dst v).post S (fun _ S' =>bM X cl ch o a w m ok S'):=
  fun v u hv h=>O9 H R hv (run u h)
 unfold Ae
 cases op <;> simp only[] <;> try trivial
 case add=>
  refine ay fun r hr=>?_
  unfold c1V at hr
  split at hr
  ·rename_i hle;cases hr
   have e:(⟨p.toArray⟩:ByteArray)++⟨q.toArray⟩=⟨(p++q).toArray⟩:=by
    apply ByteArray.ext
    apply Array.ext'
    simp[ByteArray.data_append]
   refine fin _ (.string ⟨(p++q).toArray⟩) rfl ?_
   have hs:¬((9223372036854775807:Int)<(p.length:Int)+(q.length:Int)):=by omega
   simp[Op.stringOp,e,ByteArray.size,hs]
  ·cases hr
 case eql=>exact fin _ _ rfl (by simp only[Op.stringOp,ByteArray.toList_mk,seq,Sem.run_pure];rw[show(p==q)=decide (p=q) by rw[Bool.eq_iff_iff];simp])
 case neq=>exact fin _ _ rfl (by simp only[Op.stringOp,ByteArray.toList_mk,seq,E5,Sem.run_pure];rw[show(p==q)=decide (p=q) by rw[Bool.eq_iff_iff];simp])
 case lss=>exact fin _ _ rfl (by simp[Op.stringOp,ByteArray.toList_mk,slt])
theorem XX (H:FxOk X) (R:Rel X cl ch S m ok a w) {op:BinOp} {t:TypeId} {x y:Operand} {yt:TypeId} (ho:o.op= .binOp op t x y yt) {p q:Bool}
  (hx:a.eval x= .bool p) (hy:a.eval y= .bool q):(Ae X.E t op y (.b p) (.b q) fun v=>Z9 X.E o.dst v).post S (fun _ S' =>bM X cl ch o a w m ok S'):=by
 unfold Ae
 cases hi:Y3 X.E.tt t with
 | none=>trivial
 | some i=>
 have ht' :=(H.tt t i hi).td
 simp only[]
 cases hd:i.td <;> try trivial
 rw[hd]at ht'
 have ht:X.P.underlying t=some .bool:=ht'
 have he' :∀d,(Op.equalIn (d+1) t (.bool p) (.bool q)).run X.P w= .ok (p==q) w:=fun d=>by
  simp[Op.equalIn,run_underlying ht]
 have he:(Op.equal t (.bool p) (.bool q)).run X.P w= .ok (p==q) w:=he' 9999
 have run:∀v,(binOp op t (.bool p) (.bool q)).run X.P w= .ok v w→(execOp a.eval o).run X.P w= .ok (.value v) w:=fun v h=>by
  simp[execOp,ho,hx,hy,eqGuard_at_bool,h]
 have fin:∀(v:V) (u:Value),fE ⟨w.heap,ok,m⟩ v u→(binOp op t (.bool p) (.bool q)).run X.P w= .ok u w→(Z9 X.E o.dst v).post S (fun _ S' =>bM X cl ch o a w m ok S'):=
  fun v u hv h=>O9 H R hv (run u h)
 cases op <;> try trivial
 case eql=>exact fin _ _ rfl (by simp[binOp,he,bZ])
 case neq=>exact fin _ _ rfl (by simp[binOp,he,bZ,E5])
end
end Go.GP
namespace Go.GP
section
variable {X:Fx} {cl ch:Nat} {S:Sm} {m:Mp} {ok:Nat→Ty→Prop} {a:Act} {w:World} {o:Oper}
theorem ji {α:Type} {Q:α→Sm→Prop} (H:FxOk X) {t:Nat} {K:TI→Cmd α} (hK:∀i,TiOk X.P t i→(K i).post S Q):(tiC X.E t K).post S Q:=by
 unfold tiC
 cases hi:Y3 X.E.tt t with
 | none=>trivial
 | some i=>exact hK i (H.tt t i hi)
theorem a2y {P:Program} {t:TypeId} :∀{d:TD},a7g P t d→∃e,P.underlying t=some e
 | .bool,h=>⟨_,h⟩
 | .int _,h=>⟨_,h⟩
 | .str,h=>⟨_,h⟩
 | .sl _,h=>⟨_,h⟩
 | .ptr _,h=>⟨_,h⟩
 | .struct _,⟨_,h,_⟩=>⟨_,h⟩
 | .arr _ _,h=>⟨_,h⟩
 | .map _ _,h=>⟨_,h⟩
 | .other,⟨_,h,_⟩=>⟨_,h⟩
theorem SX (H:FxOk X) (R:Rel X cl ch S m ok a w) {op:BinOp} {t:TypeId} {x y:Operand} {yt:TypeId} (ho:o.op= .binOp op t x y yt) {ad:Option Addr} {n c:Nat}
  (hx:a.eval x= .slice ad n c) (hy:a.eval y= .slice none 0 0):(a4n X.E t op ad.isNone fun v=>Z9 X.E o.dst v).post S (fun _ S' =>bM X cl ch o a w m ok S'):=by
 unfold a4n
 cases hi:Y3 X.E.tt t with
 | none=>trivial
 | some i=>
 have ht' :=(H.tt t i hi).td
 simp only[]
 cases hd:i.td <;> try trivial
 rename_i e
 rw[hd]at ht'
 have ht:X.P.underlying t=some (.slice e):=ht'
 have he' :∀d,(Op.equalIn (d+1) t (.slice ad n c) (.slice none 0 0)).run X.P w= .ok ad.isNone w:=fun d=>by
  cases ad <;> simp[Op.equalIn,run_underlying ht]
 have he:(Op.equal t (.slice ad n c) (.slice none 0 0)).run X.P w= .ok ad.isNone w:=he' 9999
 have run:∀v,(binOp op t (.slice ad n c) (.slice none 0 0)).run X.P w= .ok v w→(execOp a.eval o).run X.P w= .ok (.value v) w:=fun v h=>by
  simp[execOp,ho,hx,hy,eqGuard_at_slice,h]
 cases op <;> try trivial
 case eql=>exact O9 H R (v:=.b ad.isNone) (x:=.bool ad.isNone) rfl (run _ (by simp[binOp,he]))
 case neq=>exact O9 H R (v:=.b (E5 ad.isNone)) (x:=.bool (!ad.isNone)) rfl (run _ (by simp[binOp,he]))
theorem a4y (H:FxOk X) (R:Rel X cl ch S m ok a w) {op:BinOp} {t:TypeId} {x y:Operand} {yt:TypeId} {q:Nat} (ho:o.op= .binOp op t x y yt):
  (V7 X.E q o).post S (fun _ S' =>bM X cl ch o a w m ok S'):=by
 unfold V7
 simp only[ho]
 refine O7 R fun u hu=>O7 R fun v hv=>?_
 cases u <;> try (unfold Ae;trivial)
 case b p=>
  cases v <;> try (unfold Ae;trivial)
  exact XX H R ho (IG hu) (IG hv)
 case i k p=>
  cases v <;> try (unfold Ae;trivial)
  exact a2a H R ho (kE hu) (kE hv)
 case s p=>
  cases v <;> try (unfold Ae;trivial)
  exact a2b H R ho (ED hu) (ED hv)
 case nl=>
  cases v <;> try (unfold Ae;trivial)
  exact SX H R ho (ad:=none) (show a.eval x= .slice none 0 0 from hu) hv
 case ne=>
  cases v <;> try (unfold Ae;trivial)
  obtain⟨ad,c,hx,hb⟩:=hu
  subst hb
  exact SX H R ho (ad:=ad) hx hv
 case sl t' xs=>
  cases v <;> try (unfold Ae;trivial)
  unfold Ae
  simp only[]
  cases ht:t'.isEnt
  ·simp only[cond_false]
   obtain⟨ad,c,hx,hle,hx'⟩:=(uk ht).1 (show rep w.heap ok (.sl t') xs [a.eval x]from hu)
   cases xs with
   | nil=>exact⟨fun _=>trivial,fun h=>by simp[ieq,o8]at h⟩
   | cons z zs=>
    obtain⟨blk,off,es,rfl,_⟩:=hx' 0 z rfl
    exact⟨fun _=>trivial,fun _=>SX H R ho (ad:=some _) (by simpa using hx) hv⟩
  ·trivial
 case agg cs=>
  cases v <;> try (unfold Ae;trivial)
  case agg ds=>
  obtain⟨xs,hx,hl⟩:=hu
  obtain⟨ys,hy,hl'⟩:=hv
  unfold Ae
  simp only[]
  cases hq:Y3 X.E.eqs t with
  | none=>trivial
  | some sh=>
  simp only[]
  refine Y4 fun hm=>?_
  simp only[Bool.and_eq_true]at hm
  have hE:=(H.eqs t sh hq).1
  cases he:qJ cs ds with
  | none=>cases op <;> trivial
  | some e=>
   cases op <;> try trivial
   case eql=>
    refine O9 H R (v:=.b e) (x:=.bool e) rfl ?_
    have h:=hE w _ cs ds xs ys e .eql x y hm.1 hm.2 hl hl' he (.inl rfl)
    simp only[execOp,ho,hx,hy]
    rw[Sem.run_bind,h];rfl
   case neq=>
    refine O9 H R (v:=.b (E5 e)) (x:=.bool (!e)) rfl ?_
    have h:=hE w _ cs ds xs ys e .neq x y hm.1 hm.2 hl hl' he (.inr rfl)
    simp only[execOp,ho,hx,hy]
    rw[Sem.run_bind,h];rfl
theorem a8s (H:FxOk X) (R:Rel X cl ch S m ok a w) {op:UnOp} {t:TypeId} {x:Operand} {q:Nat} (ho:o.op= .unOp op t x):
  (V7 X.E q o).post S (fun _ S' =>bM X cl ch o a w m ok S'):=by
 unfold V7
 simp only[ho]
 refine O7 R fun u hu=>?_
 cases u <;> cases op <;> try (unfold unC;trivial)
 case b.not p=>exact O9 H R (v:=.b (E5 p)) (x:=.bool (!p)) rfl (by simp[execOp,ho,IG hu,Op.unary])
 case i.neg k p=>exact O9 H R (v:=.i k (G8 k 0 p)) (x:=.int k (k.wrap (0 -p))) rfl (by simp[execOp,ho,kE hu,Op.unary,Op.intArith])
 case i.xor k p=>exact O9 H R (v:=.i k (a3O k (bif k.signed then -1 else k.max) p)) rfl (by
   simp only[execOp,ho,kE hu,Op.unary,Op.intBits,a3O]
   cases k.signed <;> simp)
theorem a4N {α:Type} {Q:α→Sm→Prop} (R:Rel X cl ch S m ok a w) {u:Ty} {y:V} {vy:Value} {K:List u.den→Cmd α} (hy:fE ⟨w.heap,ok,m⟩ y vy)
  (hK:∀xs,rep w.heap (fun _ _=>True) (.sl u) xs [vy]→(K xs).post S Q):(a2j u y K).post S Q:=by
 unfold a2j
 split <;> try trivial
 ·have hv:vy= .slice none 0 0:=hy
  subst hv
  cases ht:u.isEnt
  ·exact hK [] (.inl ⟨ht,none,0,rfl,Nat.le_refl _,fun i x hi=>by simp at hi⟩)
  ·trivial
 ·obtain⟨ad,c,rfl,_⟩:=(show ∃a c,vy=Value.slice a 0 c∧a.isNone=_ from hy)
  cases ht:u.isEnt
  ·exact hK [] (.inl ⟨ht,ad,c,rfl,Nat.zero_le _,fun i x hi=>by simp at hi⟩)
  ·trivial
 ·refine aA fun e=>?_
  subst e
  exact hK _ (Y0 (fun _ _ _=>trivial) (fun _ _ _=>rfl) (show rep w.heap ok (.sl _) _ [vy]from hy))
 ·rename_i bx vw
  obtain⟨l,hm,hv⟩:=hy
  show Cmd.post (match S (BOX+bx)with | .barr t' xs=>_ | .bfrz t' xs=>_ | _=>_) S Q
  have hb:=R.box bx
  split <;> try trivial
  ·rename_i t' xs hS
   rw[hS]at hb
   obtain⟨l',hm',ha⟩:=hb
   simp only at hm hm'
   rw[hm]at hm';cases hm'
   refine aA fun e=>?_
   subst e
   exact hK _ (iE (C:=⟨w.heap,ok,m⟩) ha hv (fun _ _ _=>trivial) (fun _ _=>trivial))
  ·rename_i t' xs hS
   rw[hS]at hb
   obtain⟨l',hm',ha,hok⟩:=hb
   simp only at hm hm'
   rw[hm]at hm';cases hm'
   refine aA fun e=>?_
   subst e
   exact hK _ (iE (C:=⟨w.heap,ok,m⟩) ha hv (fun _ _ _=>trivial) (fun _ _=>trivial))
theorem XY (H:FxOk X) (R:Rel X cl ch S m ok a w) {src t:TypeId} {x:Operand} {q:Nat} (ho:o.op= .convert src t x):
  (V7 X.E q o).post S (fun _ S' =>bM X cl ch o a w m ok S'):=by
 unfold V7
 simp only[ho]
 refine O7 R fun u hu=>ji H fun j hj=>ji H fun i hi=>?_
 obtain⟨e,he⟩:=a2y hj.td
 have hd:=hi.td
 split <;> try trivial
 ·rename_i k' n k htd
  rw[htd]at hd
  exact O9 H R (v:=.i k (wrap k n)) (x:=.int k (k.wrap n)) rfl (by simp[execOp,ho,kE hu,convert,run_underlying he,run_underlying (show X.P.underlying t=some (.int k)from hd),Conv.intToInt])
 ·rename_i l htd
  rw[htd]at hd
  refine O9 H R (v:=.s l) (x:=.string ⟨l.toArray⟩) rfl ?_
  simp only[execOp,ho,ED hu,convert,Sem.run_bind,run_underlying he,run_underlying (show X.P.underlying t=some .string from hd),Result.andThen_ok]
  cases e <;> simp
 ·rename_i hns htd
  rw[htd]at hd
  split <;> try trivial
  rename_i el hjd
  have hjs:=hj.td
  rw[hjd]at hjs
  refine ji H fun k hk=>?_
  have hkd:=hk.td
  split <;> try trivial
  rename_i hke
  rw[hke]at hkd
  refine a4N R hu fun xs hr=>?_
  obtain⟨ad,cap,hv,hcap,hcells⟩:=(uk rfl).1 hr
  have hv:=(List.cons.inj hv).1
  refine O9 H R (v:=.s (a3h xs)) (x:=.string ⟨(a3h xs).toArray⟩) rfl ?_
  have hh:(convert src t (a.eval x)).run X.P w= .ok (.string ⟨(a3h xs).toArray⟩) w:=by
   rw[hv]
   cases xs with
   | nil=>
    have:=run_convert_bytes_nil (P:=X.P) w src el hjs hkd 0 cap t hd
    cases ad with
    | none=>exact this
    | some ad=>
     obtain⟨b,o,s⟩:=ad
     rw[run_convert_bytes_string w src t el _ _ cap hjs hkd hd]
     simp[Conv.bytesToString,a3h]
     rfl
   | cons y ys=>
    obtain⟨blk,off,es,rfl,_,_,_⟩:=hcells 0 y rfl
    have:=run_convert_bytes_arg (P:=X.P) w src el hjs hkd blk off (y::ys).length cap (y::ys) rfl (fun i hi=>?_) t hd
    ·exact this
    ·obtain⟨blk2,off2,es2,e2,_,hc,hr2⟩:=hcells i _ (Y6 hi)
     simp only[Option.some.injEq,Addr.mk.injEq]at e2
     obtain⟨rfl,rfl,_⟩:=e2
     obtain⟨c,T,f,hb,hn,rfl⟩:=lY hc
     have hr3:((c.toList.drop (off+i*1)).take 1)=[.int .u8 (y::ys)[i]]:=hr2
     have h5:=congrArg (fun l=>l[0]?) hr3
     simp only[List.getElem?_take_of_lt (show 0<1 by omega),List.getElem?_drop,Nat.add_zero,Nat.mul_one,List.getElem?_cons_zero,Array.getElem?_toList]at h5
     simp only[World.cell?,hb,h5,Option.isSome_none]
     simp[List.getD,Y6 hi]
  simp only[execOp,ho]
  rw[Sem.run_bind,hh]
  rfl
theorem XZ (H:FxOk X) (R:Rel X cl ch S m ok a w) {x:Operand} {n:Nat} {q:Nat} (ho:o.op= .extract x n):
  (V7 X.E q o).post S (fun _ S' =>bM X cl ch o a w m ok S'):=by
 unfold V7
 simp only[ho]
 refine O7 R fun u hu=>?_
 cases u <;> try trivial
 case tup vs=>
 obtain⟨arr,hx,hl⟩:=hu
 have key:∀(vs:List V) (us:List Value) (n:Nat) (v:V),TA ⟨w.heap,ok,m⟩ vs us→vs[n]? =some v→∃u,us[n]? =some u∧fE ⟨w.heap,ok,m⟩ v u:=by
  intro vs
  induction vs with
  | nil=>intro us n v _ h;simp at h
  | cons c cs ih=>
   rintro us n v ⟨u,r,rfl,h1,h2⟩ h
   cases n with
   | zero=>
    simp at h;subst h
    refine⟨u,rfl,?_⟩
    cases c <;> first | exact h1 | exact h1.elim
   | succ n=>simpa using ih r n v h2 (by simpa using h)
 simp only[]
 split
 ·rename_i v hv
  obtain⟨u,hu,hr⟩:=key vs arr.toList n v hl hv
  refine O9 H R hr ?_
  have:arr[n]? =some u:=by simpa using hu
  simp[execOp,ho,hx,Instr.extract,this]
 ·trivial
theorem a4C (H:FxOk X) (R:Rel X cl ch S m ok a w) {t:TypeId} {x ix:Operand} {q:Nat} (ho:o.op= .index t x ix):
  (V7 X.E q o).post S (fun _ S' =>bM X cl ch o a w m ok S'):=by
 unfold V7
 simp only[ho]
 refine O7 R fun u hu=>O7 R fun v hv=>ji H fun i hi=>?_
 have hd:=hi.td
 split <;> try trivial
 rename_i l k n htd
 rw[htd]at hd
 refine ay fun c hc=>?_
 unfold sat at hc
 split at hc
 ·rename_i h0
  cases hl:l[n.toNat]? with
  | none=>simp[hl]at hc
  | some b=>
   simp[hl]at hc;subst hc
   refine O9 H R (v:=.i .u8 b.toNat) (x:=.int .u8 b.toNat) rfl ?_
   have e:(⟨l.toArray⟩:ByteArray)[n.toNat]? =some b:=by
    obtain⟨h1,h2⟩:=J7.1 hl
    have hs:n.toNat<(⟨l.toArray⟩:ByteArray).size:=by simpa[ByteArray.size]using h1
    show decidableGetElem? _ _=_
    unfold decidableGetElem?
    rw[dif_pos hs,←h2];rfl
   simp[execOp,ho,ED hu,kE hv,Instr.index,asIntOf,run_underlying (show X.P.underlying t=some .string from hd),h0,e]
 ·cases hc
theorem VL (H:FxOk X) (R:Rel X cl ch S m ok a w) {x:Operand} {q:Nat} (ho:o.op= .nilCheck x):
  (V7 X.E q o).post S (fun _ S' =>bM X cl ch o a w m ok S'):=by
 unfold V7
 simp only[ho]
 refine O7 R fun u hu=>?_
 cases u <;> try trivial
 case ptr bx f=>
  obtain⟨b,h1,h2⟩:=hu
  exact O9 H R (v:=.ptr bx f) ⟨b,h1,h2⟩ (by simp[execOp,ho,h2])
 case ep bx ix f=>
  obtain⟨_,_,_,_,_,h1,h2,h3⟩:=hu
  exact O9 H R (v:=.ep bx ix f) ⟨_,_,_,_,_,h1,h2,h3⟩ (by simp[execOp,ho,h3])
 case dp u y f=>
  obtain⟨_,_,_,h1,h2⟩:=hu
  exact O9 H R (v:=.dp u y f) ⟨_,_,_,h1,h2⟩ (by simp[execOp,ho,h1])
 case glob g=>exact O9 H R (v:=.glob g) hu (by have hu:a.eval x=_:=hu;simp[execOp,ho,hu])
end
end Go.GP
namespace Go.GP
theorem pg {w:World} {blk off n:Nat} {es:List Value} (e:Y1 w.heap blk off n=some es) {j:Nat} {v:Value} (h:es[j]? =some v):w.cell? ⟨blk,off+j,none⟩=some v:=by
 obtain⟨c,T,f,hb,hn,rfl⟩:=lY e
 rw[cell_of_row w blk (off+j) c T f hb]
 have hj:j<n:=by
  have:=(J7.1 h).1
  simp at this;omega
 rw[List.getElem?_take,if_pos hj,List.getElem?_drop]at h
 simpa using h
theorem uM {P:Program} {t:TypeId} {d:TD} (h:a7g P t d) (w:World):(isAgg t).run P w= .ok (U4 d) w:=by
 unfold isAgg
 cases d <;> simp only[a7g]at h
 case struct fs=>
  obtain⟨fields,hu,_⟩:=h
  rw[Sem.run_bind,run_underlying hu];rfl
 case other=>
  obtain⟨e,hu,hn⟩:=h
  rw[Sem.run_bind,run_underlying hu]
  cases e <;> first | rfl | exact hn.elim
 all_goals (rw[Sem.run_bind,run_underlying h];rfl)
theorem kU {P:Program} {t:TypeId} {i:TI} (h:TiOk P t i) (w:World):(sizeOf t).run P w= .ok i.size w:=by
 obtain⟨inf,h1,h2,_⟩:=h.info
 simp[sizeOf,typeInfo,h1,h2]
def GM (ag:Bool) (es:List Value):Value:=match ag with | true=> .agg es.toArray | false=>es.headD Go.undef
theorem ng {P:Program} {t:TypeId} {i:TI} (hi:TiOk P t i) (w:World) {blk off:Nat} {es:List Value} (e:Y1 w.heap blk off i.size=some es):
  (loadVar t ⟨blk,off,none⟩).run P w= .ok (GM (U4 i.td) es) w:=by
 have hl:=gZ e
 unfold loadVar
 rw[Sem.run_bind,uM hi.td]
 simp only[Result.andThen_ok]
 cases ha:U4 i.td
 ·have h1:=hi.one ha
  rw[h1]at hl
  obtain⟨v,rfl⟩:∃v,es=[v]:=by
   cases es with
   | nil=>simp at hl
   | cons v r=>cases r with
    | nil=>exact⟨v,rfl⟩
    | cons _ _=>simp at hl
  have hc:=pg e (j:=0) (v:=v) rfl
  simp only[Nat.add_zero]at hc
  simp[hc,GM]
 ·have hc:=run_loadCells_list (P:=P) w ⟨blk,off,none⟩ es (fun j v h=>by rw[Addr.add_lit];exact pg e h)
  rw[hl]at hc
  simp[kU hi,hc,GM]
theorem sN {C:Cx} {ag:Bool} {cs:List V} {es:List Value} (h:aF C cs es) (h1:ag=false→es.length=1):fE C (mkV ag cs) (GM ag es):=by
 refine Gl (us:=es) ?_ h
 cases ag
 ·have:=h1 rfl
  obtain⟨v,rfl⟩:∃v,es=[v]:=by
   cases es with
   | nil=>simp at this
   | cons v r=>cases r with
    | nil=>exact⟨v,rfl⟩
    | cons _ _=>simp at this
  rfl
 ·exact⟨es.toArray,rfl,by simp⟩
theorem MB:∀(n:Nat) (cs r:List V),Me n cs=some r→n≤cs.length∧r=cs.drop n
 | 0,cs,r,h=>by simp[Me]at h;simp[h]
 | n+1,[],r,h=>by simp[Me]at h
 | n+1,c::cs,r,h=>by
  obtain⟨h1,h2⟩:=MB n cs r (by simpa[Me]using h)
  exact⟨by simp;omega,by simpa using h2⟩
theorem OT {α:Type} {Q:α→Sm→Prop} {S:Sm} :∀(n:Nat) (cs:List V) {K:List V→Cmd α} (hK:n≤cs.length→(K (cs.take n)).post S Q),(WO n cs K .fail).post S Q
 | 0,cs,K,hK=>by simpa[WO]using hK (Nat.zero_le _)
 | n+1,[],K,hK=>trivial
 | n+1,c::cs,K,hK=>by
  unfold WO
  exact OT n cs fun h=>by simpa using hK (by simp;omega)
theorem uN {α:Type} {Q:α→Sm→Prop} {S:Sm} {off n:Nat} {cs:List V} {K:List V→Cmd α} (hK:off+n≤cs.length→(K ((cs.drop off).take n)).post S Q):(PQ off n cs K .fail).post S Q:=by
 unfold PQ
 split
 ·rename_i r hr
  obtain⟨h1,rfl⟩:=MB _ _ _ hr
  refine OT n _ fun h=>hK ?_
  simp at h;omega
 ·trivial
def U8 {α:Type} (off:Nat) (vs cs:List α):List α:=cs.take off++vs++cs.drop (off+vs.length)
theorem uK {α:Type} {Q:α→Sm→Prop} {S:Sm} :∀(off:Nat) (vs cs:List V) {K:List V→Cmd α} (hK:off+vs.length≤cs.length→(K (U8 off vs cs)).post S Q),(IB off vs cs K .fail).post S Q
 | 0,[],cs,K,hK=>by
  have:=hK (by simp)
  cases cs <;> simpa[IB,U8]using this
 | 0,v::vs,[],K,hK=>by simp[IB];trivial
 | 0,v::vs,c::cs,K,hK=>by
  unfold IB
  exact uK 0 vs cs fun h=>by simpa[U8]using hK (by simp at h ⊢;omega)
 | n+1,vs,[],K,hK=>by cases vs <;> simp[IB] <;> trivial
 | n+1,vs,c::cs,K,hK=>by
  have e:IB (n+1) vs (c::cs) K Cmd.fail=IB n vs cs (fun r=>K (c::r)) Cmd.fail:=by cases vs <;> rfl
  rw[e]
  refine uK n vs cs fun h=>?_
  have:=hK (by simp;omega)
  have e2:n+1+vs.length=(n+vs.length)+1:=by omega
  simpa[U8,e2]using this
theorem xe {C:Cx} {off:Nat} {vs cs:List V} {us xs:List Value} (hv:aF C vs us) (hc:aF C cs xs):aF C (U8 off vs cs) (U8 off us xs):=by
 unfold U8
 rw[←fD hv]
 exact mV (mV (qy off hc) hv) (og _ hc)
theorem uF {P:Program} {t:TypeId} {i:TI} (hi:TiOk P t i) (w:World) {blk off:Nat} {c:Array Value} {T:TypeId} (hb:w.heap[blk]? =some (.cells c T (0,0))) {v:Value}
  (hs:v.cells.size=i.size) (ho:off+i.size≤c.size) (h1:∀u∈v.cells.toList,u.oneCell' =true):
  (storeVar t ⟨blk,off,none⟩ v).run P w= .ok () (w.setRow blk (U8 off v.cells.toList c.toList).toArray):=by
 have h:=run_storeCells_at P blk off T v.cells.toList 0 c w hb (by simp;omega) h1
 simp only[Nat.add_zero]at h
 unfold storeVar
 simp[kU hi,hs,h,U8]
section
variable {X:Fx} {cl ch:Nat} {S:Sm} {m:Mp} {ok:Nat→Ty→Prop} {a:Act} {w:World} {o:Oper}
theorem Rel.own_cells (R:Rel X cl ch S m ok a w) {n:Nat} {cs:List V} (h:S (BOX+n)= .bcells cs):∃blk arr T,m n=some (.st blk)∧w.heap[blk]? =some (.cells arr T (0,0))∧aF ⟨w.heap,ok,m⟩ cs arr.toList:=by
 have:=R.box n
 rw[h]at this
 exact this
theorem Rel.own_arr (R:Rel X cl ch S m ok a w) {n:Nat} {t:Ty} {xs:List t.den} (h:S (BOX+n)= .barr t xs):∃l,m n=some l∧arrOk ⟨w.heap,ok,m⟩ t xs l:=by
 have:=R.box n
 rw[h]at this
 exact this
theorem Rel.own_frz (R:Rel X cl ch S m ok a w) {n:Nat} {t:Ty} {xs:List t.den} (h:S (BOX+n)= .bfrz t xs):∃l,m n=some l∧arrOk ⟨w.heap,ok,m⟩ t xs l∧(∀blk,blk∈l.blks→ok blk t):=by
 have:=R.box n
 rw[h]at this
 exact this
theorem Rel.own_barrs (R:Rel X cl ch S m ok a w) {n:Nat} {md:M} {xs:List md.den} {hole:Option (Nat×Nat×Option Nat)} (h:S (BOX+n)= .barrs md xs hole):md.el=true∧∃l Os,m n=some l∧Zr ⟨w.heap,ok,m⟩ md xs hole Os l∧m.kid n=Os.flatten:=by
 have:=R.box n
 rw[h]at this
 exact this
theorem Rel.own_fc (R:Rel X cl ch S m ok a w) {n:Nat} {t:Ty} {x:t.den} (h:S (BOX+n)= .bfc t x):∃blk es,m n=some (.st blk)∧ok blk t∧Y1 w.heap blk 0 t.size=some es∧rep w.heap ok t x es:=by
 have:=R.box n
 rw[h]at this
 exact this
theorem qL:∀(m:M) (x:m.den) (r:List V),zG m x r=zG m x []++r
 | .dat t,x,r=>dQ t x r
 | .pair a b,x,r=>by
  simp only[zG]
  rw[qL a x.1 (zG b x.2 r),qL b x.2 r,qL a x.1 (zG b x.2 [])]
  simp
 | .unit,_,_=>rfl
 | .own _,_,_=>rfl
 | .owns _,_,_=>rfl
 | .box _,_,_=>rfl
 | .ownb _,_,_=>rfl
 | .rp _,_,_=>rfl
 | .fn _ _,_,_=>rfl
 | .ifc _ _,_,_=>rfl
 | .cell _,_,_=>rfl
theorem yM:∀(m:M) (x:m.den),(zG m x []).length=m.size
 | .dat t,x=>gK t x
 | .pair a b,x=>by
  simp only[zG,M.size]
  rw[qL a,List.length_append,yM a x.1,yM b x.2]
 | .unit,_=>rfl
 | .own _,_=>rfl
 | .owns _,_=>rfl
 | .box _,_=>rfl
 | .ownb _,_=>rfl
 | .rp _,_=>rfl
 | .fn _ _,_=>rfl
 | .ifc _ _,_=>rfl
 | .cell _,_=>rfl
theorem mW {C:Cx} {cs:List Value} (h:cs.length=1) (h1:∀v∈cs,v.oneCell' =true):aF C [.undef] cs:=by
 match cs,h with
 | [v],_=>exact⟨v,[],rfl,trivial,h1 v (by simp),rfl⟩
theorem EC {C:Cx} :∀{m:M} {ho:Option Nat} {x:m.den} {cs:List Value} {O:List Nat},gI C.h C.ok m ho x cs O→aF C (zG m x []) cs
 | .dat t,_,_,_,_,h=>iV h.1
 | .pair a b,_,x,_,_,h=>by
  obtain⟨c,d,O1,O2,rfl,rfl,h1,h2⟩:=h
  simp only[zG]
  rw[qL a]
  exact mV (EC h1) (EC h2)
 | .unit,_,_,_,_,h=>by obtain⟨rfl,_⟩:=h;rfl
 | .own _,_,_,_,_,h=>mW (Z4 h) (mX h)
 | .owns _,_,_,_,_,h=>mW (Z4 h) (mX h)
 | .box _,_,_,_,_,h=>mW (Z4 h) (mX h)
 | .ownb _,_,_,_,_,h=>mW (Z4 h) (mX h)
 | .rp _,_,_,_,_,h=>mW (Z4 h) (mX h)
 | .fn _ _,_,_,_,_,h=>mW (Z4 h) (mX h)
 | .ifc _ _,_,_,_,_,h=>mW (Z4 h) (mX h)
 | .cell _,_,_,_,_,h=>mW (Z4 h) (mX h)
theorem ae {α:Type} {Q:α→Sm→Prop} {S:Sm} {k:Nat} {c:V→Cmd α} (h:(c (S k)).post S Q):(Cmd.get k c).post S Q:=h
theorem dX {α:Type} {Q:α→Sm→Prop} {S:Sm} {k:Nat} {v:V} {c:Cmd α} (h:c.post (upd S k v) Q):(Cmd.set k v c).post S Q:=h
theorem yQ {α:Type} {Q:α→Sm→Prop} (H:FxOk X) (R:Rel X cl ch S m ok a w) {t:Nat} {p:V} {x:Value} (hp:fE ⟨w.heap,ok,m⟩ p x) {K:V→Cmd α}
  (hK:∀v u ad,fE ⟨w.heap,ok,m⟩ v u→x= .pointer (some ad)→(loadVar t ad).run X.P w= .ok u w→(K v).post S Q):(DF X.E t p K).post S Q:=by
 unfold DF
 refine ji H fun i hi=>?_
 cases p <;> try trivial
 case ptr bx off=>
  obtain⟨blk,hm,rfl⟩:=hp
  refine ae ?_
  split <;> try trivial
  ·rename_i cs hS
   obtain⟨blk',arr,T,hm',hh,hl⟩:=R.own_cells hS
   simp only at hm
   rw[hm]at hm';cases hm'
   refine uN fun hle=>?_
   have hlen:=fD hl
   have e:=fM hh off i.size (by simp at hlen;omega)
   refine hK _ _ _ (sN (qy _ (og _ hl)) (fun ha=>by have:=gZ e;rw[hi.one ha]at this;rw[hi.one ha];exact this)) rfl ?_
   exact ng hi w e
  ·rename_i u y hS
   obtain⟨blk',es,hm',hok,he,hr⟩:=R.own_fc hS
   simp only at hm
   rw[hm]at hm';cases hm'
   refine uN fun hle=>?_
   rw[gK]at hle
   have e:=tJ he off i.size hle
   rw[Nat.zero_add]at e
   refine hK _ _ _ (sN (qy _ (og _ (iV (C:=⟨w.heap,ok,m⟩) hr))) (fun ha=>by have:=gZ e;rw[hi.one ha]at this;rw[hi.one ha];exact this)) rfl ?_
   exact ng hi w e
 case ep bx ix off=>
  obtain⟨blk,o',len,cap,sz,hm,hlt,rfl⟩:=hp
  refine ae ?_
  have key:∀{u:Ty} {xs:List u.den},arrOk ⟨w.heap,ok,m⟩ u xs (.arr blk o' len cap sz)→(Cmd.opt (L8 xs ix) fun x=>PQ off i.size (flat u x []) (fun r=>K (mkV (U4 i.td) r)) Cmd.fail).post S Q:=by
   intro u xs ha
   obtain⟨_,rfl,rfl,h3,c,T,hh,hs,hx⟩:=ha
   refine ay fun y hy=>?_
   obtain⟨es,he,hr⟩:=hx ix y hy
   refine uN fun hle=>?_
   rw[gK]at hle
   have e:=tJ he off i.size hle
   refine hK _ _ _ (sN (qy _ (og _ (iV (C:=⟨w.heap,ok,m⟩) hr))) (fun ha=>by have:=gZ e;rw[hi.one ha]at this;rw[hi.one ha];exact this)) rfl ?_
   exact ng hi w e
  split <;> try trivial
  ·rename_i u xs hS
   obtain⟨l,hm',ha⟩:=R.own_arr hS
   simp only at hm
   rw[hm]at hm';cases hm'
   exact key ha
  ·rename_i u xs hS
   obtain⟨l,hm',ha,_⟩:=R.own_frz hS
   simp only at hm
   rw[hm]at hm';cases hm'
   exact key ha
  ·rename_i md xs hole hS
   obtain⟨_,l,Os,hm',⟨ha,hho⟩,_⟩:=R.own_barrs hS
   simp only at hm
   rw[hm]at hm';cases hm'
   obtain⟨rfl,rfl,h3,h7,c,T,hh,hs,hx⟩:=ha
   refine ay fun y hy=>?_
   obtain⟨es,O,hO,he,hr⟩:=hx ix y hy
   refine uN fun hle=>?_
   rw[yM]at hle
   have e:=tJ he off i.size hle
   refine hK _ _ _ (sN (qy _ (og _ (EC (C:=⟨w.heap,ok,m⟩) hr))) (fun ha=>by have:=gZ e;rw[hi.one ha]at this;rw[hi.one ha];exact this)) rfl ?_
   exact ng hi w e
 case dp u y off=>
  obtain⟨blk,o',es,rfl,hb,he,hr⟩:=hp
  refine uN fun hle=>?_
  rw[gK]at hle
  have e:=tJ he off i.size hle
  refine hK _ _ _ (sN (qy _ (og _ (iV (C:=⟨w.heap,ok,m⟩) hr))) (fun ha=>by have:=gZ e;rw[hi.one ha]at this;rw[hi.one ha];exact this)) rfl ?_
  exact ng hi w e
theorem oI (h:Array Obj) (o:Obj) {b:Nat} (hb:b<h.size):(h.push o)[b]? =h[b]?:=by rw[Array.getElem?_push,if_neg (by omega)]
theorem Rel.new (R:Rel X cl ch S m ok a w) {n:Nat} {l:Loc} {ks:List Nat} {v:V} {obj:Obj} (hn:S (BOX+n)= .undef) (hcl:cl≤n) (hch:n<ch) (hv:v≠.undef)
  (hb:J9 (fG m n l ks) n v=[w.heap.size]) (hB:vP ⟨(w.alloc obj).heap,ok,fG m n l ks⟩ n v):
  Rel X cl ch (upd S (BOX+n) v) (fG m n l ks) ok a (w.alloc obj):=by
 refine R.lay hn hcl hch hv rfl rfl rfl (by simp) (fun b hb' _=>oI _ _ hb') (by rw[hb];simp) (fun b h=>?_) hB
 rw[hb]at h
 simp only[List.mem_singleton]at h
 subst h
 refine⟨fun t h' =>Nat.lt_irrefl _ (R.okLt _ t h'),by simp,.inl R.frame.size,fun k h' =>Nat.lt_irrefl _ (R.sep k _ h').2.1⟩
theorem Rel.newK (R:Rel X cl ch S m ok a w) {T:List Nat} (hT:Tk X S m ok w T) {n:Nat} {l:Loc} {ks:List Nat} {v:V} {obj:Obj} (hn:S (BOX+n)= .undef) (hcl:cl≤n) (hch:n<ch) (hv:v≠.undef)
  (hb:J9 (fG m n l ks) n v=w.heap.size::ks) (hnd:ks.Nodup) (hks:∀b∈ks,b∈T) (hB:vP ⟨(w.alloc obj).heap,ok,fG m n l ks⟩ n v):
  Rel X cl ch (upd S (BOX+n) v) (fG m n l ks) ok a (w.alloc obj):=by
 refine R.lay hn hcl hch hv rfl rfl rfl (by simp) (fun b hb' _=>oI _ _ hb') (by rw[hb];exact List.nodup_cons.2 ⟨fun h=>Nat.lt_irrefl _ (hT.free _ (hks _ h)).2.1,hnd⟩) (fun b h=>?_) hB
 rw[hb]at h
 rcases List.mem_cons.1 h with rfl | h
 ·exact⟨fun t h' =>Nat.lt_irrefl _ (R.okLt _ t h'),by simp,.inl R.frame.size,fun k h' =>Nat.lt_irrefl _ (R.sep k _ h').2.1⟩
 ·obtain⟨h1,h2,h3,h4⟩:=hT.free b (hks b h)
  exact⟨h1,by simp;omega,h3,h4⟩
theorem Rel.le_new (R:Rel X cl ch S m ok a w) {n:Nat} {l:Loc} {ks:List Nat} {obj:Obj} (hn:S (BOX+n)= .undef) (hcl:cl≤n):Cx.le ⟨w.heap,ok,m⟩ ⟨(w.alloc obj).heap,ok,fG m n l ks⟩:=
 ⟨fun _ _ h=>h,fun b t hb=>oI _ _ (R.okLt b t hb),fun k x h=>by
  by_cases e:k=n
  ·subst e;have:=R.fresh k hcl hn;simp only at h;rw[this]at h;cases h
  ·show fG m n l ks k=some x;rw[dh _ _ _ e];exact h⟩
theorem jq (H:FxOk X) {q:Nat} (d:Option Tmp) (hd:∀t,d=some t→t<X.E.nt):CB*q≤H5 q d∧H5 q d+64≤CB*q+CB:=by
 have:=H.nt
 cases d with
 | none=>simp only[H5];show 1000000*q≤1000000*q+999936∧1000000*q+999936+64≤1000000*q+1000000;omega
 | some t=>simp only[H5];have h2:LT.lt (α:=Nat) t X.E.nt:=hd t rfl;clear hd;generalize X.E.nt=n at*;revert this h2;generalize (t:Nat)=t';intro this h2;show 1000000*q≤1000000*q+64*t' ∧1000000*q+64*t' +64≤1000000*q+1000000;omega
theorem Ip (H:FxOk X) {q:Nat} (R:Rel X (CB*q) (CB*q+CB) S m ok a w) {v:V} {l:Loc} {obj:Obj} {vv:V} {x:Value} (hv:v≠.undef)
  (hb:J9 (fG m (H5 q o.dst) l []) (H5 q o.dst) v=[w.heap.size]) (hB:S (BOX+H5 q o.dst)= .undef→CB*q≤H5 q o.dst→vP ⟨(w.alloc obj).heap,ok,fG m (H5 q o.dst) l []⟩ (H5 q o.dst) v)
  (hx:fE ⟨(w.alloc obj).heap,ok,fG m (H5 q o.dst) l []⟩ vv x) (run:(execOp a.eval o).run X.P w= .ok (.value x) (w.alloc obj)):
  (qC (H5 q o.dst) v (Z9 X.E o.dst vv)).post S (fun _ S' =>bM X (CB*q) (CB*q+CB) o a w m ok S'):=by
 refine qx fun hn=>?_
 cases hd:o.dst with
 | none=>
  have hin:=jq H (q:=q) none (fun t h=>by cases h)
  rw[hd]at hn hB hb hx
  have R' :=R.new hn hin.1 (by omega) hv hb (hB hn hin.1)
  have:=oC (o:=o) H R' (m0:=m) (ok0:=ok) (fun k l' h=>(R.le_new (obj:=obj) hn hin.1).m k l' h) (fun _ _ h=>h) hx run
  rw[hd]at this
  exact this
 | some t=>
  unfold Z9
  refine Y4 fun hb' =>?_
  have hin:=jq H (q:=q) (some t) (fun t' h=>by cases h;exact(sH hb').1)
  rw[hd]at hn hB hb hx
  have R' :=R.new hn hin.1 (by omega) hv hb (hB hn hin.1)
  have:=oC (o:=o) H R' (m0:=m) (ok0:=ok) (fun k l' h=>(R.le_new (obj:=obj) hn hin.1).m k l' h) (fun _ _ h=>h) hx run
  rw[hd]at this
  unfold Z9 at this
  simp only[hb',cond_true]at this
  exact this
theorem Oo {C:Cx} :∀{cs:List V} {vs:List Value},aF ⟨#[],fun _ _=>False,nom⟩ cs vs→aF C cs vs:=by
 intro cs vs h
 exact wZ (C:=⟨#[],fun _ _=>False,nom⟩) ⟨fun _ _ h=>h.elim,fun _ _ h=>h.elim,fun _ _ h=>by cases h⟩ h
theorem a4x (H:FxOk X) {q:Nat} (R:Rel X (CB*q) (CB*q+CB) S m ok a w) {t:TypeId} (ho:o.op= .alloc t):(V7 X.E q o).post S (fun _ S' =>bM X (CB*q) (CB*q+CB) o a w m ok S'):=by
 unfold V7
 simp only[ho]
 refine ji H fun i hi=>Y4 fun hz=>?_
 obtain⟨inf,h1,h2,h3,h4,h5⟩:=hi.info
 obtain⟨z,hz1,hz2⟩:=h4 (aV hz)
 refine Ip (l:=.st w.heap.size) (obj:=.cells z.cells t) H R (by simp) (by simp[J9]) (fun hn hc=>?_) ⟨w.heap.size,by simp,rfl⟩ ?_
 ·exact⟨w.heap.size,z.cells,t,by simp,heap_alloc_new w _,Oo hz2⟩
 ·simp[execOp,ho,Instr.alloc,zeroValue,typeInfo,h1,hz1,newVar,newRow]
theorem b4j (H:FxOk X) {q:Nat} (R:Rel X (CB*q) (CB*q+CB) S m ok a w) {t:TypeId} {x:Operand} (ho:o.op= .box t x):(V7 X.E q o).post S (fun _ S' =>bM X (CB*q) (CB*q+CB) o a w m ok S'):=by
 unfold V7
 simp only[ho]
 refine O7 R fun u hu=>lZ hu fun cs hcs=>?_
 refine Ip (l:=.st w.heap.size) (obj:=.cells (a.eval x).cells t) H R (by simp) (by simp[J9]) (fun hn hc=>?_) ⟨w.heap.size,by simp,rfl⟩ ?_
 ·exact⟨w.heap.size,(a.eval x).cells,t,by simp,heap_alloc_new w _,wZ (R.le_new hn hc) hcs⟩
 ·simp[execOp,ho,Instr.box,newVar,newRow]
end
end Go.GP
namespace Go.GP
theorem jE {α:Type} {p:Nat} {us L:List α} (h:p+us.length≤L.length) (i:Nat):
  (U8 p us L)[i]? =if i<p then L[i]? else if i<p+us.length then us[i -p]? else L[i]?:=by
 unfold U8
 rw[List.append_assoc]
 by_cases h1:i<p
 ·rw[if_pos h1,List.getElem?_append_left (by simp;omega),List.getElem?_take,if_pos h1]
 ·rw[if_neg h1,List.getElem?_append_right (by simp;omega)]
  have e:(L.take p).length=p:=by simp;omega
  rw[e]
  by_cases h2:i<p+us.length
  ·rw[if_pos h2,List.getElem?_append_left (by omega)]
  ·rw[if_neg h2,List.getElem?_append_right (by omega),List.getElem?_drop]
   congr 1;omega
theorem oQ {α:Type} {p:Nat} {us L:List α} (h:p+us.length≤L.length):(U8 p us L).length=L.length:=by
 unfold U8;simp;omega
theorem YN {α:Type} {p b n:Nat} {us L:List α} (h:p+us.length≤L.length) (hd:b+n≤p∨p+us.length≤b):((U8 p us L).drop b).take n=(L.drop b).take n:=by
 apply List.ext_getElem?
 intro i
 rw[List.getElem?_take,List.getElem?_take]
 split
 ·rw[List.getElem?_drop,List.getElem?_drop,jE h]
  rcases hd with hd | hd
  ·rw[if_pos (by omega)]
  ·rw[if_neg (by omega),if_neg (by omega)]
 ·rfl
theorem IX {α:Type} {b off n:Nat} {us L:List α} (h:b+n≤L.length) (ho:off+us.length≤n):((U8 (b+off) us L).drop b).take n=U8 off us ((L.drop b).take n):=by
 have hl:((L.drop b).take n).length=n:=by simp;omega
 apply List.ext_getElem?
 intro i
 rw[List.getElem?_take,jE (by rw[hl];exact ho)]
 by_cases hi:i<n
 ·rw[if_pos hi,List.getElem?_drop,jE (by omega),List.getElem?_take,if_pos hi,List.getElem?_drop]
  by_cases h1:i<off
  ·rw[if_pos (by omega),if_pos h1]
  ·rw[if_neg (by omega),if_neg h1]
   by_cases h2:i<off+us.length
   ·rw[if_pos (by omega),if_pos h2];congr 1;omega
   ·rw[if_neg (by omega),if_neg h2]
 ·rw[if_neg hi,if_neg (by omega),if_neg (by omega),List.getElem?_take,if_neg hi]
theorem BI {w:World} {blk:Nat} {c:Array Value} {T:TypeId} (hb:w.heap[blk]? =some (.cells c T (0,0))) (L:List Value) (off n:Nat) (h:off+n≤L.length):
  Y1 (w.setRow blk L.toArray).heap blk off n=some ((L.drop off).take n):=by
 rw[fM (setRow_heap w blk c L.toArray T (0,0) hb) off n (by simpa using h)]
theorem a3e {a b:Nat} (h:a<b):Nat.blt a b=true:=by unfold Nat.blt;exact Nat.ble_eq_true_of_le h
theorem a3d {a b:Nat} (h:¬a<b):Nat.blt a b=false:=by
 cases e:Nat.blt a b
 ·rfl
 ·exact absurd (DY e) h
theorem uw {α:Type} :∀{Os:List (List α)} {i:Nat} {O1 P O2:List α},Os[i]? =some (O1++P++O2)→Os.flatten.Perm ((Os.set i (O1++O2)).flatten++P)
 | [],i,_,_,_,h=>by simp at h
 | A::Os,0,O1,P,O2,h=>by
  simp at h;subst h
  simp only[List.set_cons_zero,List.flatten_cons,List.append_assoc]
  refine List.Perm.append_left O1 ?_
  have:=(List.perm_append_comm (l₁:=P) (l₂:=O2++Os.flatten))
  simpa using this
 | A::Os,i+1,O1,P,O2,h=>by
  simp at h
  simp only[List.set_cons_succ,List.flatten_cons,List.append_assoc]
  exact List.Perm.append_left A (uw (by simpa using h))
section
variable {X:Fx} {cl ch:Nat} {S:Sm} {m:Mp} {ok:Nat→Ty→Prop} {a:Act} {w:World} {o:Oper}
theorem b4n {h h' :Array Obj} {ok:Nat→Ty→Prop} {m:Mp} (k:∀b t,ok b t→h'[b]? =h[b]?) {cs:List V} {vs:List Value} (hr:aF ⟨h,ok,m⟩ cs vs):aF ⟨h',ok,m⟩ cs vs:=
 wZ (C:=⟨h,ok,m⟩) (D:=⟨h',ok,m⟩) ⟨fun _ _ h=>h,k,fun _ _ h=>h⟩ hr
theorem Ey {α:Type} {Q:α→Sm→Prop} {S:Sm} {h:Array Obj} {ok:Nat→Ty→Prop} :∀(md:M) (off:Nat) {x:md.den} {es:List Value} {O:List Nat} {K:V→Cmd α} (hr:gI h ok md none x es O)
  (hK:∀v l ks u O1 Op O2,O=O1++Op++O2→gI h ok md (some off) x es (O1++O2)→es[off]? =some u→l.view none u→
   (∀mp n,vP ⟨h,ok,fG mp n l ks⟩ n v∧J9 (fG mp n l ks) n v=Op∧fG mp n l ks n=some l)→v≠.undef→(K v).post S Q),
  (NW md off x K .fail).post S Q
 | .own t,off,x,es,O,K,hr,hK=>by
  unfold NW
  refine Y4 fun hb=>?_
  have:=aV hb
  subst this
  obtain⟨l,v,rfl,hv,ha,rfl⟩:=oO.1 hr
  refine hK _ l [] v [] l.blks [] (by simp) ⟨v,rfl,jm hv,rfl⟩ rfl hv (fun mp n=>⟨⟨l,by simp,EO ha⟩,?_,by simp⟩) (by simp)
  cases l <;> first | (simp[J9,Loc.blks];done) | cases ha
 | .owns md,off,x,es,O,K,hr,hK=>by
  unfold NW
  refine Y4 fun hb=>?_
  have:=aV hb
  subst this
  obtain⟨he,l,v,Os,rfl,hv,ha,rfl⟩:=qA.1 hr
  refine hK _ l Os.flatten v [] (l.blks++Os.flatten) [] (by simp) ⟨v,rfl,jm hv,rfl⟩ rfl hv (fun mp n=>⟨⟨he,l,Os,by simp,⟨ha,trivial⟩,by simp⟩,?_,by simp⟩) (by simp)
  cases l <;> first | (simp[J9,Loc.blks];done) | cases ha
 | .pair p q,off,x,es,O,K,hr,hK=>by
  unfold NW
  obtain⟨c,d,O1,O2,rfl,rfl,h1,h2⟩:=hr
  have hc:=Z4 h1
  by_cases hlt:off<p.size
  ·have hb:Nat.blt off p.size=true:=a3e hlt
   simp only[hb,cond_true]
   refine Ey p off h1 fun v l ks u A Op B e1 e2 e3 e4 e5 e6=>?_
   refine hK v l ks u A Op (B++O2) (by subst e1;simp) ⟨c,d,A++B,O2,rfl,by simp,?_,?_⟩ (by rw[List.getElem?_append_left (by rw[hc];exact hlt)];exact e3) e4 e5 e6
   ·simp only[hlt,if_true];exact e2
   ·simp only[hlt,if_true];exact h2
  ·have hb:Nat.blt off p.size=false:=a3d hlt
   simp only[hb,cond_false]
   refine Ey q (off -p.size) h2 fun v l ks u A Op B e1 e2 e3 e4 e5 e6=>?_
   refine hK v l ks u (O1++A) Op B (by subst e1;simp) ⟨c,d,O1,A++B,rfl,by simp,?_,?_⟩ (by rw[List.getElem?_append_right (by omega),hc];exact e3) e4 e5 e6
   ·simp only[hlt,if_false];exact h1
   ·simp only[hlt,if_false];exact e2
 | .dat _,_,_,_,_,_,_,_=>trivial
 | .unit,_,_,_,_,_,_,_=>trivial
 | .box _,_,_,_,_,_,_,_=>trivial
 | .ownb _,_,_,_,_,_,_,_=>trivial
 | .cell _,_,_,_,_,_,_,_=>trivial
 | .rp _,_,_,_,_,_,_,_=>trivial
 | .fn _ _,_,_,_,_,_,_,_=>trivial
 | .ifc _ _,_,_,_,_,_,_,_=>trivial
def Ry (h:Array Obj) (ok:Nat→Ty→Prop) (v:V) (u:Value) (Op:List Nat):Prop:=
 (v= .nl∧u= .slice none 0 0∧Op=[])∨(∃t ys l,v= .barr t ys∧l.view none u∧arrOk ⟨h,ok,nom⟩ t ys l∧Op=l.blks)∨
 (∃md ys l Os,v= .barrs md ys none∧md.el=true∧l.view none u∧tZ h md.size (fun _ x es O=>gI h ok md none x es O) ys Os l∧Op=l.blks++Os.flatten)
theorem Ry.one {h:Array Obj} {v:V} {u:Value} {Op:List Nat} (k:Ry h ok v u Op):u.oneCell' =true:=by
 rcases k with⟨_,rfl,_⟩ | ⟨_,_,l,_,hv,_⟩ | ⟨_,_,l,_,_,_,hv,_⟩
 ·rfl
 ·exact jm hv
 ·exact jm hv
theorem Ii {α:Type} {Q:α→Sm→Prop} {S:Sm} {h:Array Obj} {ok:Nat→Ty→Prop} {v:V} {u:Value} {Op:List Nat} (hp:Ry h ok v u Op):∀(md:M) (off:Nat) {ho:Option Nat} {x:md.den} {es:List Value} {O:List Nat} {K:md.den→Cmd α}
  (hr:gI h ok md ho x es O) (hh:ho=none∨ho=some off) (hel:md.el=true)
  (hK:∀y O1 Old O2,O=O1++Old++O2→gI h ok md none y (es.set off u) (O1++Op++O2)→off<es.length→(K y).post S Q),
  (XH md off v x K .fail).post S Q
 | .own t,off,ho,x,es,O,K,hr,hh,hel,hK=>by
  unfold XH
  refine Y4 fun hb=>?_
  have:=aV hb
  subst this
  obtain⟨v0,rfl,_,_⟩:=hr
  rcases hp with⟨rfl,rfl,rfl⟩ | ⟨t',ys,l,rfl,hv,ha,rfl⟩ | ⟨md',ys,l,Os,rfl,_,hv,ha,rfl⟩
  ·have ht:t.isEnt=false:=by simpa[M.el]using hel
   simp only[ht,cond_false]
   exact hK [] [] O [] (by simp) ⟨_,rfl,rfl,.nil,rfl,⟨rfl,ht⟩,rfl⟩ (by simp)
  ·simp only
   refine aA fun e=>?_
   subst e
   exact hK _ [] O [] (by simp) ⟨u,rfl,jm hv,l,hv,ha,by simp⟩ (by simp)
  ·trivial
 | .owns md,off,ho,x,es,O,K,hr,hh,hel,hK=>by
  unfold XH
  refine Y4 fun hb=>?_
  have:=aV hb
  subst this
  obtain⟨v0,rfl,_,_⟩:=hr
  rcases hp with⟨rfl,rfl,rfl⟩ | ⟨t',ys,l,rfl,hv,ha,rfl⟩ | ⟨md',ys,l,Os,rfl,he,hv,ha,rfl⟩
  ·exact hK [] [] O [] (by simp) ⟨_,rfl,rfl,by simpa[M.el]using hel,.nil,[],rfl,⟨rfl,rfl⟩,rfl⟩ (by simp)
  ·trivial
  ·simp only
   refine Lt fun e=>?_
   subst e
   exact hK _ [] O [] (by simp) ⟨u,rfl,jm hv,he,l,Os,hv,ha,by simp⟩ (by simp)
 | .pair p q,off,ho,x,es,O,K,hr,hh,hel,hK=>by
  unfold XH
  obtain⟨c,d,O1,O2,rfl,rfl,h1,h2⟩:=hr
  have hc:=Z4 h1
  have hel' :p.el=true∧q.el=true:=by simpa[M.el]using hel
  by_cases hlt:off<p.size
  ·have hb:Nat.blt off p.size=true:=a3e hlt
   simp only[hb,cond_true]
   have h2' :gI h ok q none x.2 d O2:=by
    rcases hh with rfl | rfl
    ·exact h2
    ·simpa only[hlt,if_true]using h2
   refine Ii hp p off h1 (by rcases hh with rfl | rfl <;> first | exact .inl rfl | (right;simp only[hlt,if_true])) hel'.1 fun y A Old B e1 e2 e3=>?_
   refine hK _ A Old (B++O2) (by subst e1;simp) ⟨c.set off u,d,A++Op++B,O2,?_,by simp,e2,h2'⟩ (by simp;omega)
   rw[List.set_append_left _ _ (by omega)]
  ·have hb:Nat.blt off p.size=false:=a3d hlt
   simp only[hb,cond_false]
   have h1' :gI h ok p none x.1 c O1:=by
    rcases hh with rfl | rfl
    ·exact h1
    ·simpa only[hlt,if_false]using h1
   refine Ii hp q (off -p.size) h2 (by rcases hh with rfl | rfl <;> first | exact .inl rfl | (right;simp only[hlt,if_false])) hel'.2 fun y A Old B e1 e2 e3=>?_
   refine hK _ (O1++A) Old B (by subst e1;simp) ⟨c,d.set (off -p.size) u,O1,A++Op++B,?_,by simp,h1',e2⟩ (by simp;omega)
   rw[List.set_append_right _ _ (by omega),hc]
 | .dat _,_,_,_,_,_,_,_,_,_,_=>trivial
 | .unit,_,_,_,_,_,_,_,_,_,_=>trivial
 | .box _,_,_,_,_,_,_,_,_,_,_=>trivial
 | .ownb _,_,_,_,_,_,_,_,_,_,_=>trivial
 | .cell _,_,_,_,_,_,_,_,_,_,_=>trivial
 | .rp _,_,_,_,_,_,_,_,_,_,_=>trivial
 | .fn _ _,_,_,_,_,_,_,_,_,_,_=>trivial
 | .ifc _ _,_,_,_,_,_,_,_,_,_,_=>trivial
theorem BM {α:Type} {Q:α→Sm→Prop} {C:Cx} {ln:Ty→Bool} :∀(t:Ty) {cs:List V} {K:t.den→List V→Cmd α} {S:Sm} {vs:List Value} (hf:t.flat=true) (hL:aF C cs vs)
  (hK:∀x r us us',vs=us++us' →(∀h ok,rep h ok t x us)→aF C r us' →(K x r).post S Q),(gJ ln t cs K).post S Q
 | .bool,cs,K,S,vs,hf,hL,hK=>by
  unfold gJ
  split
  ·obtain⟨v,r,rfl,h1,_,h3⟩:=hL
   exact hK _ _ [v] r rfl (fun _ _=>by simp only[oN]at h1;simp[rep,h1]) h3
  ·trivial
 | .int k,cs,K,S,vs,hf,hL,hK=>by
  unfold gJ
  split
  ·obtain⟨v,r,rfl,h1,_,h3⟩:=hL
   refine az fun e=>?_
   have e:=of_decide_eq_true e
   subst e
   exact hK _ _ [v] r rfl (fun _ _=>by simp only[oN]at h1;simp[rep,h1]) h3
  ·trivial
 | .str,cs,K,S,vs,hf,hL,hK=>by
  unfold gJ
  split
  ·obtain⟨v,r,rfl,h1,_,h3⟩:=hL
   exact hK _ _ [v] r rfl (fun _ _=>by simp only[oN]at h1;simp[rep,h1]) h3
  ·trivial
 | .unit,cs,K,S,vs,hf,hL,hK=>by
  unfold gJ
  exact hK _ _ [] vs rfl (fun _ _=>rfl) hL
 | .prod p q,cs,K,S,vs,hf,hL,hK=>by
  unfold gJ
  simp[Ty.flat]at hf
  refine BM p hf.1 hL fun x r us us' e1 h1 l1=>?_
  refine BM q hf.2 l1 fun y r' vs2 vs2' e2 h2 l2=>?_
  subst e1;subst e2
  exact hK _ _ (us++vs2) vs2' (by simp) (fun h ok=>⟨us,vs2,rfl,h1 h ok,h2 h ok⟩) l2
 | .sl t,cs,K,S,vs,hf,hL,hK=>by simp[Ty.flat]at hf
theorem WJ {α:Type} {off:Nat} {us c d:List α} (h:off+us.length≤c.length):U8 off us (c++d)=U8 off us c++d:=by
 apply List.ext_getElem?
 intro i
 have hs:=oQ h
 rw[jE (by simp;omega)]
 by_cases hi:i<c.length
 ·rw[List.getElem?_append_left hi,List.getElem?_append_left (l₁:=U8 off us c) (by rw[hs];exact hi),jE h]
 ·rw[List.getElem?_append_right (by omega),List.getElem?_append_right (l₁:=U8 off us c) (by rw[hs];omega),hs,if_neg (by omega),if_neg (by omega)]
theorem TS {α:Type} {off:Nat} {us c d:List α} (h:(off -c.length)+us.length≤d.length) (h' :c.length≤off):U8 off us (c++d)=c++U8 (off -c.length) us d:=by
 apply List.ext_getElem?
 intro i
 rw[jE (by simp;omega)]
 by_cases hi:i<c.length
 ·rw[List.getElem?_append_left hi,if_pos (by omega),List.getElem?_append_left hi]
 ·rw[List.getElem?_append_right (by omega),List.getElem?_append_right (l₂:=U8 (off -c.length) us d) (by omega),jE h]
  by_cases h1:i<off
  ·simp only[h1,if_true,show i -c.length<off -c.length by omega]
  ·by_cases h2:i<off+us.length
   ·simp only[h1,if_false,h2,if_true,show ¬(i -c.length<off -c.length) by omega,show i -c.length<off -c.length+us.length by omega];congr 1;omega
   ·simp only[h1,if_false,h2,show ¬(i -c.length<off -c.length) by omega,show ¬(i -c.length<off -c.length+us.length) by omega]
theorem Ht {α:Type} {Q:α→Sm→Prop} {h:Array Obj} {ok:Nat→Ty→Prop} {m:Mp} :∀(md:M) (off:Nat) {ho:Option Nat} {x:md.den} {es us:List Value} {vs:List V} {O:List Nat} {K:md.den→Cmd α} {S:Sm}
  (hr:gI h ok md ho x es O) (hv:aF ⟨h,ok,m⟩ vs us)
  (hK:∀y,off+us.length≤es.length→gI h ok md ho y (U8 off us es) O→(K y).post S Q),(a1q md off vs x K).post S Q
 | .dat t,off,ho,x,es,us,vs,O,K,S,hr,hv,hK=>by
  unfold a1q
  refine az fun hf=>uK _ _ _ fun hle=>?_
  rw[gK]at hle
  obtain⟨hr,rfl⟩:=hr
  have hl:=au hr
  have hlv:=fD hv
  have hnew:=xe (off:=off) hv (iV (C:=⟨h,ok,m⟩) hr)
  refine BM t hf hnew fun y q vs1 vs2 e1 h1 l1=>?_
  cases q with
  | cons _ _=>trivial
  | nil=>
  simp only[aF]at l1
  subst l1
  simp only[List.append_nil]at e1
  subst e1
  exact hK y (by omega) ⟨h1 _ _,rfl⟩
 | .pair p q,off,ho,x,es,us,vs,O,K,S,hr,hv,hK=>by
  unfold a1q
  obtain⟨c,d,O1,O2,rfl,rfl,h1,h2⟩:=hr
  have hc:=Z4 h1
  by_cases hlt:off<p.size
  ·have hb:Nat.blt off p.size=true:=a3e hlt
   simp only[hb,cond_true]
   refine Ht p off h1 hv fun y hle e2=>?_
   exact hK _ (by simp;omega) ⟨_,d,O1,O2,WJ hle,rfl,e2,h2⟩
  ·have hb:Nat.blt off p.size=false:=a3d hlt
   simp only[hb,cond_false]
   refine Ht q (off -p.size) h2 hv fun y hle e2=>?_
   refine hK _ (by simp;omega) ⟨c,_,O1,O2,?_,rfl,h1,e2⟩
   rw[TS (by omega) (by omega),hc]
 | .own _,_,_,_,_,_,_,_,_,_,_,_,_=>trivial
 | .owns _,_,_,_,_,_,_,_,_,_,_,_,_=>trivial
 | .unit,_,_,_,_,_,_,_,_,_,_,_,_=>trivial
 | .box _,_,_,_,_,_,_,_,_,_,_,_,_=>trivial
 | .ownb _,_,_,_,_,_,_,_,_,_,_,_,_=>trivial
 | .cell _,_,_,_,_,_,_,_,_,_,_,_,_=>trivial
 | .rp _,_,_,_,_,_,_,_,_,_,_,_,_=>trivial
 | .fn _ _,_,_,_,_,_,_,_,_,_,_,_,_=>trivial
 | .ifc _ _,_,_,_,_,_,_,_,_,_,_,_,_=>trivial
theorem a1D (i:Nat):Pz none i=none:=rfl
theorem MS {i o j:Nat} {k:Option Nat} (h:j≠i):Pz (some (i,o,k)) j=none:=by simp[Pz,h]
theorem Qw {i o:Nat} {k:Option Nat} :Pz (some (i,o,k)) i=some o:=by simp[Pz]
theorem Om {C:Cx} {n:Nat} {md:M} {xs:List md.den} {hole:Option (Nat×Nat×Option Nat)} {blk off len cap sz:Nat} {Os:List (List Nat)} (he:md.el=true) (hm:C.m n=some (.arr blk off len cap sz))
  (ha:tZ C.h md.size (fun i x es O=>gI C.h C.ok md (Pz hole i) x es O) xs Os (.arr blk off len cap sz)) (hk:C.m.kid n=Os.flatten) (hh:MV C md.size (.arr blk off len cap sz) hole):vP C n (.barrs md xs hole):=⟨he,_,Os,hm,⟨ha,hh⟩,hk⟩
theorem AC {j o2 idx off:Nat} {k:Option Nat} (h:Sj (some (j,o2,k)) idx off=true):j=idx∧o2=off:=by
 simp only[Sj]at h
 cases hb:Nat.beq o2 off <;> rw[hb]at h
 ·cases h
 ·exact⟨aV h,aV hb⟩
theorem a1T (H:FxOk X) {q:Nat} {S1:Sm} {m1:Mp} {ok1:Nat→Ty→Prop} {w0:World} {Op:List Nat} (R:Rel X (CB*q) (CB*q+CB) S1 m1 ok1 a w) (hT:Tk X S1 m1 ok1 w Op)
  (hm:∀k l,m k=some l→m1 k=some l) (hok:∀b t,ok b t→ok1 b t) {v:V} {l:Loc} {ks:List Nat} {x:Value} (hv:v≠.undef)
  (ho:J9 (fG m1 (H5 q o.dst) l ks) (H5 q o.dst) v=Op) (hB:vP ⟨w.heap,ok1,fG m1 (H5 q o.dst) l ks⟩ (H5 q o.dst) v)
  (hx:l.view none x) {bx idx off:Nat} {md:M} {xs:List md.den} (hS:S1 (BOX+bx)= .barrs md xs (some (idx,off,none))) {blk o' len cap sz:Nat} (hmb:m1 bx=some (.arr blk o' len cap sz))
  (hc:Y1 w.heap blk (o' +idx*md.size+off) 1=some [x]) (hsz:sz=md.size)
  (run:(execOp a.eval o).run X.P w0= .ok (.value x) w):
  (qC (H5 q o.dst) v (Cmd.set (BOX+bx) (.barrs md xs (some (idx,off,some (H5 q o.dst)))) (Z9 X.E o.dst (.own (H5 q o.dst) none)))).post S1 (fun _ S' =>bM X (CB*q) (CB*q+CB) o a w0 m ok S'):=by
 refine qx fun hn=>?_
 have key:∀n,n=H5 q o.dst→CB*q≤n→n<CB*q+CB→∃R2:Rel X (CB*q) (CB*q+CB) (upd (upd S1 (BOX+n) v) (BOX+bx) (.barrs md xs (some (idx,off,some n)))) (fG m1 n l ks) ok1 a w,∀k l',m k=some l' →fG m1 n l ks k=some l' :=by
  rintro n rfl h1 h2
  obtain⟨R',_,hm'⟩:=R.adopt (T:=[]) hn h1 hv (by simpa using hT) (fun b h=>by rw[ho]at h;exact h) (by rw[ho];exact hT.nodup) hB
  rw[Nat.max_eq_left (by omega)]at R'
  have hne:bx≠H5 q o.dst:=fun e=>by
   have:=R.fresh _ h1 hn
   rw[←e,hmb]at this;cases this
  have hS' :upd S1 (BOX+H5 q o.dst) v (BOX+bx)= .barrs md xs (some (idx,off,none)):=by rw[U6 _ _ (by omega)];exact hS
  have hb:=R'.box bx
  rw[hS']at hb
  obtain⟨hel,l0,Os,hm0,⟨ha,_⟩,hk⟩:=hb
  have hmb' :=hm' _ _ hmb
  simp only at hm0
  rw[hmb']at hm0;cases hm0
  refine⟨R'.mod (by rw[hS'];rfl) (by simp) rfl rfl rfl rfl (fun _ _=>rfl) ⟨hel,_,Os,hmb',⟨?_,?_⟩,hk⟩,fun k l' h=>hm' k l' (hm k l' h)⟩
  ·exact wz (fun _ _=>rfl) (fun i x es O _ hr=>hr) ha
  ·exact⟨blk,o',len,cap,x,l,by rw[hsz],hc,Y8 _ _ _ _,hx⟩
 cases hd:o.dst with
 | none=>
  have hin:=jq H (q:=q) none (fun t h=>by cases h)
  obtain⟨R2,hm2⟩:=key (H5 q none) (by rw[hd]) hin.1 (by omega)
  have:=oC (o:=o) H R2 (m0:=m) (ok0:=ok) hm2 hok (v:=.own (H5 q none) none) ⟨l,Y8 _ _ _ _,hx⟩ run
  rw[hd]at this
  exact this
 | some t=>
  unfold Z9
  refine dX (Y4 fun hb' =>?_)
  have hin:=jq H (q:=q) (some t) (fun t' h=>by cases h;exact(sH hb').1)
  obtain⟨R2,hm2⟩:=key (H5 q (some t)) (by rw[hd]) hin.1 (by omega)
  have:=oC (o:=o) H R2 (m0:=m) (ok0:=ok) hm2 hok (v:=.own (H5 q (some t)) none) ⟨l,Y8 _ _ _ _,hx⟩ run
  rw[hd]at this
  unfold Z9 at this
  simp only[hb',cond_true]at this
  exact this
theorem a8q (H:FxOk X) {q:Nat} (R:Rel X (CB*q) (CB*q+CB) S m ok a w) {t:TypeId} {x:Operand} (ho:o.op= .load t x):(V7 X.E q o).post S (fun _ S' =>bM X (CB*q) (CB*q+CB) o a w m ok S'):=by
 unfold V7
 simp only[ho]
 refine O7 R fun p hp=>?_
 have plain:(DF X.E t p fun v=>Z9 X.E o.dst v).post S (fun _ S' =>bM X (CB*q) (CB*q+CB) o a w m ok S'):=by
  refine yQ H R hp fun v u ad hv hx hr=>O9 H R hv ?_
  simp[execOp,ho,hx,Instr.loadAt,Instr.sureAddr,hr]
 unfold a9r
 split
 ·rename_i bx idx off
  refine ae ?_
  split
  ·rename_i md xs hS
   cases hown:md.ownAt off
   ·simpa only[cond_false]using plain
   simp only[cond_true]
   refine ji H fun i hi=>az fun hi1=>?_
   simp only[Bool.and_eq_true,Bool.not_eq_true']at hi1
   obtain⟨hsz,hagg⟩:=hi1
   have hsz:=aV hsz
   have hp' :=hp
   obtain⟨blk,o',len,cap,sz,hm,hlt,hx⟩:=hp
   obtain⟨hel,l,Os,hm',⟨ha,hho⟩,hk⟩:=R.own_barrs hS
   simp only at hm
   rw[hm]at hm';cases hm'
   cases vH (match o.dst with | some d=>d | none=>BOX) X.E.tk <;> simp only[cond_true,cond_false]
   ·refine uO (T:=[]) (.sl md.ty) R Tk.nil (cs:=[.own bx none]) (vs:=[.slice (some ⟨blk,o',none⟩) len cap]) ⟨_,_,rfl,⟨_,hm,rfl⟩,rfl,rfl⟩ fun S1 ok1 _ _ us us' R1 T1 k1 s1 e1 h1 l1=>?_
    refine yQ H R1 (Dj k1 hp') fun v u ad hv hx hr=>oC H R1 (fun _ _ h=>h) k1 hv ?_
    simp[execOp,ho,hx,Instr.loadAt,Instr.sureAddr,hr]
   ·refine ay fun e0 he0=>?_
    obtain⟨rfl,rfl,h3,h7,c,T,hh,hs,hxs⟩:=ha
    obtain⟨es,O,hO,he,hr⟩:=hxs idx e0 he0
    refine Ey md off hr fun v l2 ks u O1 Op O2 eO hr' hu hv hB hvu=>?_
    refine dX ?_
    have hOs:Os.flatten.Perm ((Os.set idx (O1++O2)).flatten++Op):=uw (by rw[hO,eO])
    have hown0:J9 m bx (S (BOX+bx))=blk::Os.flatten:=by simp[J9,hS,hm,hk]
    have hown1:J9 (vZ m bx (Os.set idx (O1++O2)).flatten) bx (.barrs md xs (some (idx,off,none)))=blk::(Os.set idx (O1++O2)).flatten:=by simp[J9,hm]
    have hnd:=R.nd bx
    rw[hown0]at hnd
    have hperm:(blk::Os.flatten).Perm ((blk::(Os.set idx (O1++O2)).flatten)++Op):=by simpa using hOs.cons blk
    have hnd' :=List.nodup_append.1 (hperm.nodup_iff.1 hnd)
    have hB1:vP ⟨w.heap,ok,vZ m bx (Os.set idx (O1++O2)).flatten⟩ bx (.barrs md xs (some (idx,off,none))):=by
     refine Om (Os:=Os.set idx (O1++O2)) hel hm ⟨rfl,rfl,h3,by simp[h7],c,T,hh,hs,fun j z hz=>?_⟩ (by simp) trivial
     by_cases hj:j=idx
     ·subst hj
      rw[show xs[j]? =some e0 from he0]at hz;cases hz
      refine⟨es,O1++O2,?_,he,by simp only[Qw];exact hr'⟩
      rw[List.getElem?_set,if_pos rfl,if_pos (by rw[h7];exact hlt)]
     ·obtain⟨es2,O',hO2,he2,hr2⟩:=hxs j z hz
      refine⟨es2,O',?_,he2,by simp only[MS hj];exact hr2⟩
      rw[List.getElem?_set,if_neg (fun e=>hj e.symm)];exact hO2
    obtain⟨R1,T1⟩:=R.modK (T:=[]) Tk.nil (n:=bx) (v:=.barrs md xs (some (idx,off,none))) (ks:=(Os.set idx (O1++O2)).flatten) (w' :=w) (T' :=Op) (by simp) (by rw[hown1];exact hnd'.1)
     (fun b hb=> .inl (by rw[hown0];rw[hown1]at hb;exact hperm.mem_iff.2 (List.mem_append_left _ hb))) rfl rfl rfl rfl (fun _ _=>rfl) hB1 hnd'.2.1
     (fun b hb=>⟨.inl (by rw[hown0];exact hperm.mem_iff.2 (List.mem_append_right _ hb)),fun h=>hnd'.2.2 b (by rw[hown1]at h;exact h) b hb rfl⟩)
    obtain⟨hB2,hB3,hB4⟩:=hB (vZ m bx (Os.set idx (O1++O2)).flatten) (H5 q o.dst)
    have hlt2:=(J7.1 hu)
    have hle:off+1≤md.size:=by have:=Z4 hr;have:=hlt2.1;omega
    have e:=tJ he off i.size (by omega)
    have hr2:=ng hi w e
    have h1:(es.drop off).take i.size=[u]:=by
     obtain⟨hlt3,rfl⟩:=hlt2
     rw[hsz,List.drop_eq_getElem_cons hlt3];rfl
    refine a1T (ok:=ok) (m:=m) H R1 T1 (fun _ _ h=>h) (fun _ _ h=>h) hvu hB3 hB2 hv (by rw[dL]) hm (by rw[←h1,←hsz];exact e) rfl ?_
    rw[h1,hagg]at hr2
    simp[execOp,ho,hx,Instr.loadAt,Instr.sureAddr,hr2,GM]
  ·rename_i md xs i2 o2 n2 hS
   cases hown:md.ownAt off
   ·simpa only[cond_false]using plain
   simp only[cond_true]
   refine ji H fun i hi=>az fun hi1=>⟨fun hat=>?_,fun _=>trivial⟩
   simp only[Bool.and_eq_true,Bool.not_eq_true']at hi1
   obtain⟨hsz,hagg⟩:=hi1
   have hsz:=aV hsz
   obtain⟨e1,e2⟩:=AC hat
   subst e1;subst e2
   obtain⟨blk,o',len,cap,sz,hm,hlt,hx⟩:=hp
   obtain⟨hel,l,Os,hm',⟨ha,blk',off',len',cap',u,l',hl,hc,hmn,hvw⟩,hk⟩:=R.own_barrs hS
   simp only at hm
   rw[hm]at hm';cases hm'
   cases hl
   have e:Y1 w.heap blk (o' +i2*md.size+o2) i.size=some [u]:=by rw[hsz];exact hc
   have hr2:=ng hi w e
   rw[hagg]at hr2
   refine O9 H R (v:=.own n2 none) (x:=u) ⟨l',hmn,hvw⟩ ?_
   simp[execOp,ho,hx,Instr.loadAt,Instr.sureAddr,hr2,GM]
  ·exact plain
 ·exact plain
theorem zo {S' :Sm} {t:TypeId} {x y:Operand} {w' :World} {m' :Mp} {ok' :Nat→Ty→Prop} (ho:o.op= .store t x y) (hd:o.dst=none) (run:(Instr.storeAt t (a.eval x) (a.eval y)).run X.P w= .ok () w')
  (R:Rel X cl ch S' m' ok' a w') (hm:∀k l,m k=some l→m' k=some l) (hok:∀b t,ok b t→ok' b t):bM X cl ch o a w m ok S' :=by
 intro next Q hn
 unfold Oper.wp
 have e:(execOp a.eval o).run X.P w= .ok .skip w' :=by simp[execOp,ho,run]
 rw[e,Oper.upon_skip,hd]
 exact hn m' ok' a w' R hm hok
theorem YM {α:Type} {off:Nat} {u:α} {L:List α} (h:off<L.length):U8 off [u] L=L.set off u:=by
 apply List.ext_getElem?
 intro i
 rw[jE (by simp;omega),List.getElem?_set]
 by_cases h1:i=off
 ·subst h1;rw[if_neg (by omega),if_pos (by simp),if_pos rfl,if_pos h];simp
 ·by_cases h2:i<off
  ·rw[if_pos h2,if_neg (by omega)]
  ·rw[if_neg h2,if_neg (by simp;omega),if_neg (by omega)]
theorem a1o {u:Value} (h:u.oneCell' =true):u.cells.toList=[u]:=by cases u <;> simp[Value.oneCell',Value.cells]at*
theorem OA {w:World} {blk o' sz len cap off idx:Nat} {c:Array Value} {T:TypeId} (hh:w.heap[blk]? =some (.cells c T (0,0))) (hs:o' +cap*sz≤c.size) (hlc:len≤cap) (hlt:idx<len) {us es:List Value}
  (he:Y1 w.heap blk (o' +idx*sz) sz=some es) (hf:off+us.length≤sz):
  o' +idx*sz+off+us.length≤c.size∧(U8 (o' +idx*sz+off) us c.toList).length=c.size∧
  Y1 (w.setRow blk (U8 (o' +idx*sz+off) us c.toList).toArray).heap blk (o' +idx*sz) sz=some (U8 off us es)∧
  (∀j,j<len→j≠idx→Y1 (w.setRow blk (U8 (o' +idx*sz+off) us c.toList).toArray).heap blk (o' +j*sz) sz=Y1 w.heap blk (o' +j*sz) sz):=by
 have hcap:(idx+1)*sz≤cap*sz:=Nat.mul_le_mul_right _ (by omega)
 rw[Nat.add_mul,Nat.one_mul]at hcap
 have hfit:o' +idx*sz+off+us.length≤c.size:=by omega
 have hcl:c.toList.length=c.size:=by simp
 have hsp:(U8 (o' +idx*sz+off) us c.toList).length=c.size:=by rw[oQ (by rw[hcl];exact hfit)];exact hcl
 refine⟨hfit,hsp,?_,fun j hj hne=>?_⟩
 ·rw[BI hh _ _ _ (by rw[hsp];omega),IX (by rw[hcl];omega) (by omega)]
  obtain⟨c2,T2,f2,hb2,hn2,rfl⟩:=lY he
  rw[hh]at hb2;cases hb2
  rfl
 ·have hcap' :(j+1)*sz≤cap*sz:=Nat.mul_le_mul_right _ (by omega)
  rw[Nat.add_mul,Nat.one_mul]at hcap'
  rw[BI hh _ _ _ (by rw[hsp];omega),fM hh _ _ (by omega),YN (by rw[hcl];exact hfit)]
  rcases Nat.lt_or_gt_of_ne hne with hlt' | hgt
  ·left
   have:(j+1)*sz≤idx*sz:=Nat.mul_le_mul_right _ (by omega)
   rw[Nat.add_mul,Nat.one_mul]at this;omega
  ·right
   have:(idx+1)*sz≤j*sz:=Nat.mul_le_mul_right _ (by omega)
   rw[Nat.add_mul,Nat.one_mul]at this;omega
theorem JQ {Q:Unit→Sm→Prop} (R:Rel X cl ch S m ok a w) {Op:List Nat} (hT:Tk X S m ok w Op) {t:TypeId} {i:TI} (hi:TiOk X.P t i) (h1:i.size=1) {bx idx off:Nat} {md:M} {xs:List md.den} {hole:Option (Nat×Nat×Option Nat)}
  (hS:S (BOX+bx)= .barrs md xs hole) {blk o' len cap sz:Nat} (hm:m bx=some (.arr blk o' len cap sz)) {v:V} {u:Value} (hp:Ry w.heap ok v u Op)
  (hK:∀S' m' w',Rel X cl ch S' m' ok a w' →(∀k l,m k=some l→m' k=some l)→(storeVar t ⟨blk,o' +idx*sz+off,none⟩ u).run X.P w= .ok () w' →Q () S'):
  (TU bx idx off md xs hole v (.ret ())).post S Q:=by
 unfold TU
 refine⟨fun hb=>?_,fun _=>trivial⟩
 refine ay fun e0 he0=>?_
 have he0' :xs[idx]? =some e0:=he0
 obtain⟨hel,l,Os,hm',⟨ha,hho⟩,hk⟩:=R.own_barrs hS
 rw[hm]at hm';cases hm'
 obtain⟨rfl,rfl,h3,h7,c,T,hh,hs,hxs⟩:=ha
 obtain⟨es,O,hO,he,hr⟩:=hxs idx e0 he0'
 have hho:Pz hole idx=none∨Pz hole idx=some off:=by
  rcases hole with _ | ⟨j,o2,o3⟩
  ·exact .inl rfl
  ·obtain⟨e1,e2⟩:=AC hb
   subst e1;subst e2
   exact .inr Qw
 have hho' :∀j,j≠idx→Pz hole j=none:=fun j hj=>by
  rcases hole with _ | ⟨j',o2,o3⟩
  ·rfl
  ·obtain⟨e1,_⟩:=AC hb
   subst e1
   exact MS hj
 refine Ii hp md off hr hho hel fun y O1 Old O2 eO hr' hoff=>dX ?_
 have hlt:idx<xs.length:=(J7.1 he0').1
 have hes:es.length=md.size:=Z4 hr
 have hu1:=hp.one
 have huc:=a1o hu1
 obtain⟨hfit,hsp,hnew,hold⟩:=OA (us:=[u]) (off:=off) hh hs h3 hlt he (by simp;omega)
 have run:=uF hi w (off:=o' +idx*md.size+off) hh (v:=u) (by have:=congrArg List.length huc;simp at this;omega) (by simpa[h1]using hfit) (by rw[huc];simp[hu1])
 rw[huc]at run
 generalize hw' :w.setRow blk (U8 (o' +idx*md.size+off) [u] c.toList).toArray=w' at run hnew hold
 have hrow:w'.heap[blk]? =some (.cells (U8 (o' +idx*md.size+off) [u] c.toList).toArray T (0,0)):=by subst hw';exact setRow_heap w blk c _ T (0,0) hh
 have hoth:∀b,b≠blk→w'.heap[b]? =w.heap[b]?:=fun b hb=>by subst hw';exact setRow_other w blk b _ hb
 have hsize:w'.heap.size=w.heap.size:=by subst hw';simp
 have hos:w'.os=w.os:=by subst hw';rfl
 have htp:w'.tape=w.tape:=by subst hw';rfl
 have hout:w'.output=w.output:=by subst hw';rfl
 have hO1:Os.flatten.Perm ((Os.set idx (O1++O2)).flatten++Old):=uw (by rw[hO,eO])
 have hO2:(Os.set idx (O1++Op++O2)).flatten.Perm ((Os.set idx (O1++O2)).flatten++Op):=by
  have:=uw (Os:=Os.set idx (O1++Op++O2)) (i:=idx) (O1:=O1) (P:=Op) (O2:=O2) (by rw[List.getElem?_set,if_pos rfl,if_pos (by rw[h7];exact hlt)])
  rwa[List.set_set]at this
 have hown0:J9 m bx (S (BOX+bx))=blk::Os.flatten:=by simp[J9,hS,hm,hk]
 have hown1:J9 (vZ m bx (Os.set idx (O1++Op++O2)).flatten) bx (.barrs md (U5 xs idx y) none)=blk::(Os.set idx (O1++Op++O2)).flatten:=by simp[J9,hm]
 have hnd:=R.nd bx
 rw[hown0]at hnd
 have hnd0:=List.nodup_cons.1 hnd
 have hndA:=List.nodup_append.1 (hO1.nodup_iff.1 hnd0.2)
 have hfreeOp:∀b∈Op,b∉blk::Os.flatten:=fun b hb h=>(hT.free b hb).2.2.2 bx (by rw[hown0];exact h)
 have hsubA:∀b∈(Os.set idx (O1++O2)).flatten,b∈Os.flatten:=fun b hb=>hO1.mem_iff.2 (List.mem_append_left _ hb)
 have hneO:∀b∈Os.flatten,b≠blk:=fun b hb e=>hnd0.1 (e▸hb)
 have hneP:∀b∈Op,b≠blk:=fun b hb e=>hfreeOp b hb (by simp[e])
 have hkeep:∀b t,ok b t→w'.heap[b]? =w.heap[b]?:=fun b t hb=>hoth b (fun e=>(R.sep bx blk (by rw[hown0];simp)).1 t (e▸hb))
 have hB:vP ⟨w'.heap,ok,vZ m bx (Os.set idx (O1++Op++O2)).flatten⟩ bx (.barrs md (U5 xs idx y) none):=by
  refine Om (Os:=Os.set idx (O1++Op++O2)) hel hm ⟨rfl,by simp[U5],h3,by simp[h7,U5],_,T,hrow,by simp[hsp];exact hs,fun j z hz=>?_⟩ (by simp) trivial
  unfold U5 at hz
  rw[List.getElem?_set]at hz
  split at hz
  ·rename_i hj
   subst hj
   cases hz
   refine⟨_,O1++Op++O2,by rw[List.getElem?_set,if_pos rfl,if_pos (by rw[h7];exact hlt)],hnew,?_⟩
   rw[YM (by omega)]
   refine bK (fun _ _ h=>h) hkeep (fun b hb=>hoth b ?_) hr'
   rcases List.mem_append.1 hb with hb | hb
   ·rcases List.mem_append.1 hb with hb | hb
    ·exact hneO b (List.mem_flatten.2 ⟨O,dG hO,by rw[eO];simp[hb]⟩)
    ·exact hneP b hb
   ·exact hneO b (List.mem_flatten.2 ⟨O,dG hO,by rw[eO];simp[hb]⟩)
  ·rename_i hj
   obtain⟨es2,O',hO2',he2,hr2⟩:=hxs j z hz
   refine⟨es2,O',by rw[List.getElem?_set,if_neg hj];exact hO2',by rw[←he2];exact hold j (J7.1 hz).1 (fun e=>hj e.symm),?_⟩
   simp only[a1D]
   rw[hho' j (fun e=>hj e.symm)]at hr2
   exact bK (fun _ _ h=>h) hkeep (fun b hb=>hoth b (hneO b (List.mem_flatten.2 ⟨O',dG hO2',hb⟩))) hr2
 have hmod:=R.modK hT (n:=bx) (v:=.barrs md (U5 xs idx y) none) (ks:=(Os.set idx (O1++Op++O2)).flatten) (w' :=w') (T' :=[]) (by simp)
  (by
   rw[hown1]
   refine List.nodup_cons.2 ⟨fun h=>?_,hO2.nodup_iff.2 (List.nodup_append.2 ⟨hndA.1,hT.nodup,fun x hx z hz e=>?_⟩)⟩
   ·rcases List.mem_append.1 (hO2.mem_iff.1 h)with h | h
    ·exact hnd0.1 (hsubA _ h)
    ·exact hneP _ h rfl
   ·subst e;exact hfreeOp x hz (by simp[hsubA x hx]))
  (fun b hb=>by
   rw[hown1]at hb;rw[hown0]
   rcases List.mem_cons.1 hb with hb | hb
   ·exact .inl (by simp[hb])
   ·rcases List.mem_append.1 (hO2.mem_iff.1 hb)with h | h
    ·exact .inl (by simp[hsubA _ h])
    ·exact .inr h)
  hos htp hout hsize (fun b hb=>hoth b (fun e=>hb (by rw[hown0,e];simp))) hB List.nodup_nil (fun b hb=>by cases hb)
 exact hK _ _ w' hmod.1 (fun _ _ h=>h) run
theorem a4E (H:FxOk X) (R:Rel X cl ch S m ok a w) {t:TypeId} {x y:Operand} {q:Nat} (ho:o.op= .store t x y):(V7 X.E q o).post S (fun _ S' =>bM X cl ch o a w m ok S'):=by
 unfold V7
 simp only[ho]
 cases hd:o.dst with
 | some d=>trivial
 | none=>
 refine O7 R fun p hp=>O7 R fun v hv=>?_
 unfold a6X
 refine ji H fun i hi=>?_
 cases p <;> try trivial
 case ptr bx off=>
  obtain⟨blk,hm,hx⟩:=hp
  refine ae ?_
  split <;> try trivial
  rename_i cs hS
  obtain⟨blk',arr,T,hm',hh,hl⟩:=R.own_cells hS
  simp only at hm hm'
  rw[hm]at hm';cases hm'
  refine lZ hv fun vs hvs=>az fun hlen=>uK _ _ _ fun hle=>dX ?_
  have hlen' :=aV hlen
  have hL:=fD hl
  have hL2:=fD hvs
  have hsz:(a.eval y).cells.size=i.size:=by simp at hL2;omega
  have hown:J9 m bx (S (BOX+bx))=[blk]:=by simp[J9,hS,hm]
  have hfit:off+i.size≤arr.size:=by simp at hL;omega
  have run:=uF hi w hh (v:=a.eval y) hsz hfit (Gh hvs)
  refine zo ho hd (w' :=w.setRow blk (U8 off (a.eval y).cells.toList arr.toList).toArray) (by simp[Instr.storeAt,Instr.sureAddr,hx,run]) ?_ (fun _ _ h=>h) (fun _ _ h=>h)
  refine R.mod (by rw[hown];simp[J9,hm]) (by simp) rfl rfl rfl (by simp) (fun b hb=>setRow_other w blk b _ (by rw[hown]at hb;simpa using hb)) ?_
  refine⟨blk,_,T,hm,setRow_heap w blk arr _ T (0,0) hh,?_⟩
  refine b4n (fun b t hb=>setRow_other w blk b _ (fun e=>(R.sep bx blk (by rw[hown];simp)).1 t (e▸hb))) ?_
  simpa using xe hvs hl
 case ep bx ix off=>
  obtain⟨blk,o',len,cap,sz,hm,hlt,hx⟩:=hp
  simp only at hm
  refine ae ?_
  split <;> try trivial
  ·rename_i u xs hS
   obtain⟨l,hm',ha⟩:=R.own_arr hS
   rw[hm]at hm';cases hm'
   obtain⟨hE0,rfl,rfl,h3,c,T,hh,hs,hxs⟩:=ha
   refine ay fun e0 he0=>?_
   obtain⟨es,he,hr⟩:=hxs ix e0 he0
   refine lZ hv fun vs hvs=>az fun hlen=>uK _ _ _ fun hle=>?_
   rw[gK]at hle
   have hlen' :=aV hlen
   have hL2:=fD hvs
   have hsz:(a.eval y).cells.size=i.size:=by simp at hL2;omega
   have hes:=gZ he
   have hnew:=xe (off:=off) hvs (iV (C:=⟨w.heap,ok,m⟩) hr)
   refine uO (T:=[]) u R Tk.nil hnew fun S1 ok1 y1 q1 us us' R1 T1 k1 s1 e1 h1 l1=>?_
   cases q1 with
   | cons _ _=>trivial
   | nil=>
   simp only[aF]at l1
   subst l1
   simp only[List.append_nil]at e1
   subst e1
   refine ae ?_
   split <;> try trivial
   rename_i u' xs' hS1
   refine aA fun e=>?_
   subst e
   refine dX ?_
   obtain⟨l,hm',ha⟩:=R1.own_arr hS1
   rw[hm]at hm';cases hm'
   obtain⟨_,hszu,hlen2,h3',c',T',hh',hs',hxs'⟩:=ha
   rw[hh]at hh';cases hh'
   have hown:J9 m bx (S1 (BOX+bx))=[blk]:=by simp[J9,hS1,hm]
   have hvl:(a.eval y).cells.toList.length=i.size:=by simpa using hsz
   obtain⟨hfit,hsp,hnew2,hold⟩:=OA (us:=(a.eval y).cells.toList) (off:=off) hh hs h3 hlt he (by rw[hvl];omega)
   have run:=uF hi w (off:=o' +ix*u'.size+off) hh (v:=a.eval y) hsz (by rw[hvl]at hfit;exact hfit) (Gh hvs)
   refine zo ho hd (w' :=w.setRow blk (U8 (o' +ix*u'.size+off) (a.eval y).cells.toList c.toList).toArray) (by simp[Instr.storeAt,Instr.sureAddr,hx,run]) ?_ (fun _ _ h=>h) k1
   refine R1.mod (by rw[hown];simp[J9,hm]) (by simp) rfl rfl rfl (by simp) (fun b hb=>setRow_other w blk b _ (by rw[hown]at hb;simpa using hb)) ?_
   have hkeep:∀b t,ok1 b t→(w.setRow blk (U8 (o' +ix*u'.size+off) (a.eval y).cells.toList c.toList).toArray).heap[b]? =w.heap[b]?:=
    fun b t hb=>setRow_other w blk b _ (fun e=>(R1.sep bx blk (by rw[hown];simp)).1 t (e▸hb))
   refine⟨_,hm,hE0,rfl,by simp[U5,hlen2],h3,_,T,setRow_heap w blk c _ T (0,0) hh,by simp[hsp];exact hs,fun j z hz=>?_⟩
   unfold U5 at hz
   rw[List.getElem?_set]at hz
   split at hz
   ·rename_i hj
    subst hj
    split at hz
    ·cases hz
     exact⟨_,hnew2,Y0 (fun _ _ h=>h) hkeep h1⟩
    ·cases hz
   ·rename_i hj
    obtain⟨es2,he2,hr2⟩:=hxs' j z hz
    have hj2:=(J7.1 hz).1
    exact⟨_,(hold j (by rw[hlen2];exact hj2) (fun e=>hj e.symm)).trans he2,Y0 (fun _ _ h=>h) hkeep hr2⟩
  ·rename_i md xs hole hS
   cases hcd:(md.ownAt off&&Nat.beq i.size 1&&!U4 i.td)
   ·simp only[cond_false]
    cases hole with
    | some _=>trivial
    | none=>
    refine lZ hv fun vs hvs=>az fun hlen=>ay fun e0 he0=>?_
    have he0' :xs[ix]? =some e0:=he0
    obtain⟨hel,l,Os,hm',⟨ha,hho⟩,hk⟩:=R.own_barrs hS
    rw[hm]at hm';cases hm'
    obtain⟨rfl,rfl,h3,h7,c,T,hh,hs,hxs⟩:=ha
    obtain⟨es,O,hO,he,hr⟩:=hxs ix e0 he0'
    refine Ht md off hr hvs fun y1 hle hr' =>dX ?_
    have hes:es.length=md.size:=Z4 hr
    have hlen' :=aV hlen
    have hL2:=fD hvs
    have hsz:(a.eval y).cells.size=i.size:=by simp at hL2;omega
    have hvl:(a.eval y).cells.toList.length=i.size:=by simpa using hsz
    obtain⟨hfit,hsp,hnew2,hold⟩:=OA (us:=(a.eval y).cells.toList) (off:=off) hh hs h3 hlt he (by omega)
    have run:=uF hi w (off:=o' +ix*md.size+off) hh (v:=a.eval y) hsz (by rw[hvl]at hfit;exact hfit) (Gh hvs)
    have hown:J9 m bx (S (BOX+bx))=blk::Os.flatten:=by simp[J9,hS,hm,hk]
    have hnd:=R.nd bx
    rw[hown]at hnd
    have hnd0:=List.nodup_cons.1 hnd
    have hneO:∀b∈Os.flatten,b≠blk:=fun b hb e=>hnd0.1 (e▸hb)
    refine zo ho hd (w' :=w.setRow blk (U8 (o' +ix*md.size+off) (a.eval y).cells.toList c.toList).toArray) (by simp[Instr.storeAt,Instr.sureAddr,hx,run]) ?_ (fun _ _ h=>h) (fun _ _ h=>h)
    have hkeep:∀b t,ok b t→(w.setRow blk (U8 (o' +ix*md.size+off) (a.eval y).cells.toList c.toList).toArray).heap[b]? =w.heap[b]?:=
     fun b t hb=>setRow_other w blk b _ (fun e=>(R.sep bx blk (by rw[hown];simp)).1 t (e▸hb))
    refine R.mod (by rw[hown];simp[J9,hm,hk]) (by simp) rfl rfl rfl (by simp) (fun b hb=>setRow_other w blk b _ (fun e=>hb (by rw[hown,e];simp))) ?_
    refine Om (Os:=Os) hel hm ⟨rfl,by simp[U5],h3,by simp[h7,U5],_,T,setRow_heap w blk c _ T (0,0) hh,by simp[hsp];exact hs,fun j z hz=>?_⟩ hk trivial
    unfold U5 at hz
    rw[List.getElem?_set]at hz
    split at hz
    ·rename_i hj
     subst hj
     cases hz
     exact⟨_,O,hO,hnew2,bK (fun _ _ h=>h) hkeep (fun b hb=>setRow_other w blk b _ (hneO b (List.mem_flatten.2 ⟨O,dG hO,hb⟩))) hr'⟩
    ·rename_i hj
     obtain⟨es2,O2,hO2,he2,hr2⟩:=hxs j z hz
     have hj2:=(J7.1 hz).1
     exact⟨_,O2,hO2,(hold j (by omega) (fun e=>hj e.symm)).trans he2,bK (fun _ _ h=>h) hkeep (fun b hb=>setRow_other w blk b _ (hneO b (List.mem_flatten.2 ⟨O2,dG hO2,hb⟩))) hr2⟩
   ·simp only[cond_true]
    simp only[Bool.and_eq_true,Bool.not_eq_true']at hcd
    obtain⟨⟨_,hsz1⟩,_⟩:=hcd
    have hsz1:=aV hsz1
    have fin:∀{S' :Sm} {m' :Mp} {w' :World},Rel X cl ch S' m' ok a w' →(∀k l,m k=some l→m' k=some l)→(storeVar t ⟨blk,o' +ix*sz+off,none⟩ (a.eval y)).run X.P w= .ok () w' →bM X cl ch o a w m ok S' :=
     fun R' hm' run=>zo ho hd (by simp[Instr.storeAt,Instr.sureAddr,hx,run]) R' hm' (fun _ _ h=>h)
    split
    ·have hv' :a.eval y= .slice none 0 0:=hv
     exact JQ (Op:=[]) R Tk.nil hi hsz1 hS hm (.inl ⟨rfl,hv',rfl⟩) (fun S' m' w' R' h' run=>fin R' h' run)
    ·rename_i b2
     obtain⟨l2,hm2,hv2⟩:=hv
     simp only at hm2
     refine ae ?_
     refine az fun harr=>dX (ae ?_)
     split <;> try trivial
     rename_i md2 xs2 hole2 hS2
     have T1:=Tk.kill R (T:=[]) Tk.nil b2 (bs:=J9 m b2 (S (BOX+b2))) (fun _ h=>h) (R.nd b2)
     rw[List.nil_append]at T1
     refine JQ (R.kill b2) T1 hi hsz1 hS2 hm ?_ (fun S' m' w' R' h' run=>fin R' h' run)
     cases hb2:S (BOX+b2) <;> rw[hb2]at harr <;> try cases harr
     ·rename_i t2 ys
      obtain⟨l',hm',ha'⟩:=R.own_arr hb2
      rw[hm2]at hm';cases hm'
      refine .inr (.inl ⟨t2,ys,l2,rfl,hv2,EO ha',?_⟩)
      cases l2 <;> first | (simp[J9,hm2,Loc.blks];done) | cases ha'
     ·rename_i md3 ys hole3
      obtain⟨hel3,l',Os,hm',⟨ha',hho⟩,hk'⟩:=R.own_barrs hb2
      rw[hm2]at hm';cases hm'
      rcases hole3 with _ | ⟨p1,p2,p3⟩
      ·refine .inr (.inr ⟨md3,ys,l2,Os,rfl,hel3,hv2,ha',?_⟩)
       cases l2 <;> first | (simp[J9,hm2,Loc.blks,hk'];done) | cases ha'
      ·cases harr
    ·trivial
end
end Go.GP
namespace Go.GP
section
variable {X:Fx} {cl ch:Nat} {S:Sm} {m:Mp} {ok:Nat→Ty→Prop} {a:Act} {w:World} {o:Oper}
theorem xx (H:FxOk X) {t f off n:Nat} {ag:Bool} (h:Aq X.E t f=some (off,n,ag)):
  ∃fields fld j,X.P.underlying t=some (.struct fields)∧fields[f]? =some fld∧fld.offset=off∧TiOk X.P fld.type j∧j.size=n∧n≠0∧ag=U4 j.td:=by
 unfold Aq at h
 cases hi:Y3 X.E.tt t with
 | none=>simp[hi]at h
 | some i=>
  have Hi:=H.tt t i hi
  have htd:=Hi.td
  simp only[hi]at h
  cases hd:i.td <;> simp only[hd]at h <;> try (simp at h;done)
  rename_i fs
  rw[hd]at htd
  obtain⟨fields,hu,hf⟩:=htd
  cases hfs:fs[f]? with
  | none=>simp[hfs]at h
  | some x=>
   obtain⟨ft,off'⟩:=x
   simp only[hfs]at h
   cases hj:Y3 X.E.tt ft with
   | none=>simp[hj]at h
   | some j=>
    simp only[hj]at h
    cases hb:Nat.beq j.size 0
    ·simp only[hb,cond_false,Option.some.injEq,Prod.mk.injEq]at h
     obtain⟨rfl,rfl,rfl⟩:=h
     rw[←hf]at hfs
     simp only[List.getElem?_map,Option.map_eq_some_iff]at hfs
     obtain⟨fld,hfl,he⟩:=hfs
     simp only[Prod.mk.injEq]at he
     obtain⟨rfl,rfl⟩:=he
     refine⟨fields,fld,j,hu,by simpa using hfl,rfl,H.tt _ _ hj,rfl,fun e=>?_,rfl⟩
     rw[e]at hb;simp at hb
    ·simp[hb]at h
theorem BC {P:Program} {t f off:Nat} {fields:Array Field} {fld:Field} {j:TI} (w:World) (hu:P.underlying t=some (.struct fields)) (hf:fields[f]? =some fld) (ho:fld.offset=off)
  (hj:TiOk P fld.type j) (hn:j.size≠0) (b p:Nat):(Instr.fieldAt t (.pointer (some ⟨b,p,none⟩)) f).run P w= .ok (.pointer (some ⟨b,p+off,none⟩)) w:=by
 simp[Instr.fieldAt,run_underlying hu,hf,Instr.sureAddr,fieldPlace,kU hj,hn,Addr.add_lit,ho]
theorem SQ (H:FxOk X) (R:Rel X cl ch S m ok a w) {t:TypeId} {x:Operand} {f q:Nat} (ho:o.op= .fieldAddr t x f):(V7 X.E q o).post S (fun _ S' =>bM X cl ch o a w m ok S'):=by
 unfold V7
 simp only[ho]
 refine O7 R fun p hp=>?_
 split <;> try trivial
 rename_i off n ag hfo
 obtain⟨fields,fld,j,hu,hf,hoff,hj,hn,hn0,_⟩:=xx H hfo
 have hj0:j.size≠0:=by omega
 cases p <;> try trivial
 case ptr bx o' =>
  obtain⟨blk,h1,h2⟩:=hp
  exact O9 H R (v:=.ptr bx (o' +off)) ⟨blk,h1,rfl⟩ (by simp[execOp,ho,h2,BC w hu hf hoff hj hj0])
 case ep bx ix o' =>
  obtain⟨blk,o2,len,cap,sz,h1,h2,h3⟩:=hp
  exact O9 H R (v:=.ep bx ix (o' +off)) ⟨blk,o2,len,cap,sz,h1,h2,rfl⟩ (by simp[execOp,ho,h3,BC w hu hf hoff hj hj0,Nat.add_assoc])
 case dp u y o' =>
  obtain⟨blk,o2,es,h1,h2⟩:=hp
  exact O9 H R (v:=.dp u y (o' +off)) ⟨blk,o2,es,rfl,h2⟩ (by simp[execOp,ho,h1,BC w hu hf hoff hj hj0,Nat.add_assoc])
theorem a4B (H:FxOk X) (R:Rel X cl ch S m ok a w) {t:TypeId} {x:Operand} {f q:Nat} (ho:o.op= .field t x f):(V7 X.E q o).post S (fun _ S' =>bM X cl ch o a w m ok S'):=by
 unfold V7
 simp only[ho]
 refine O7 R fun p hp=>?_
 split <;> try trivial
 rename_i off n ag hfo
 obtain⟨fields,fld,j,hu,hf,hoff,hj,hn,hn0,rfl⟩:=xx H hfo
 refine wE hp fun ps us hg hl=>uN fun hle=>?_
 obtain⟨arr,hx,rfl⟩:=hg
 have hL:=fD hl
 have hlen:((arr.toList.drop off).take n).length=n:=by simp at hL ⊢;omega
 refine O9 H R (sN (qy n (og off hl)) (fun ha=>by rw[hlen,←hn];exact hj.one ha)) ?_
 have hpart:(part fld.type arr off).run X.P w= .ok (GM (U4 j.td) ((arr.toList.drop off).take n)) w:=by
  unfold part
  rw[Sem.run_bind,uM hj.td]
  simp only[Result.andThen_ok]
  cases ha:U4 j.td
  ·have h1:=hj.one ha
   have hlt:off<arr.size:=by simp at hL;omega
   simp only[Bool.false_eq_true,if_false,GM]
   rw[show arr[off]? =some arr[off]from by simp[hlt]]
   have:n=1:=by omega
   subst this
   simp[List.take_one,hlt]
  ·simp only[if_true,GM,Sem.run_bind,kU hj,Result.andThen_ok,hn,Sem.run_pure]
   congr 2
   apply Array.ext'
   simp[List.extract_eq_take_drop]
 simp[execOp,ho,hx,Instr.field,run_underlying hu,hf,asAgg,hoff,hpart]
theorem yE (H:FxOk X) {t n sz:Nat} (h:yD X.E t=some (false,n,sz)):∃e j,X.P.underlying t=some (.slice e)∧TiOk X.P e j∧j.size=sz:=by
 unfold yD at h
 cases hi:Y3 X.E.tt t with
 | none=>simp[hi]at h
 | some i=>
  have htd:=(H.tt t i hi).td
  simp only[hi]at h
  cases hd:i.td <;> simp only[hd]at h <;> try (simp at h;done)
  ·rename_i e
   rw[hd]at htd
   cases hj:Y3 X.E.tt e with
   | none=>simp[hj]at h
   | some j=>simp[hj]at h;exact⟨e,j,htd,H.tt _ _ hj,h.2⟩
  ·rename_i l e
   cases hj:Y3 X.E.tt e <;> simp[hj]at h
theorem Xo (H:FxOk X) {t n sz:Nat} (h:yD X.E t=some (true,n,sz)):∃e j,X.P.underlying t=some (.array n e)∧TiOk X.P e j∧j.size=sz:=by
 unfold yD at h
 cases hi:Y3 X.E.tt t with
 | none=>simp[hi]at h
 | some i=>
  have htd:=(H.tt t i hi).td
  simp only[hi]at h
  cases hd:i.td <;> simp only[hd]at h <;> try (simp at h;done)
  ·rename_i e
   cases hj:Y3 X.E.tt e <;> simp[hj]at h
  ·rename_i l e
   rw[hd]at htd
   cases hj:Y3 X.E.tt e with
   | none=>simp[hj]at h
   | some j=>simp[hj]at h;obtain⟨rfl,h⟩:=h;exact⟨e,j,htd,H.tt _ _ hj,h⟩
theorem AP {α:Type} {l:List α} {n:Int} {y:α} (h:lat l n=some y):0≤n∧l[n.toNat]? =some y∧n.toNat<l.length∧n<l.length:=by
 unfold lat at h
 split at h
 ·rename_i h0
  have:=(J7.1 h).1
  exact⟨h0,h,this,by omega⟩
 ·cases h
theorem mZ {P:Program} {t e:TypeId} {j:TI} (w:World) (hu:P.underlying t=some (.slice e)) (hj:TiOk P e j) {k:IntKind} {n:Int} {b p len cap:Nat} (h0:0≤n) (hlt:n<len):
  (Instr.indexAt t (.slice (some ⟨b,p,none⟩) len cap) (.int k n)).run P w= .ok (.pointer (some ⟨b,p+n.toNat*j.size,none⟩)) w:=by
 simp[Instr.indexAt,asIntOf,run_underlying hu,h0,hlt,kU hj,Addr.add_lit]
theorem TE {P:Program} {t e:TypeId} {j:TI} (w:World) {len:Nat} (hu:P.underlying t=some (.array len e)) (hj:TiOk P e j) {k:IntKind} {n:Int} {b p:Nat} (h0:0≤n) (hlt:n<len):
  (Instr.indexAt t (.pointer (some ⟨b,p,none⟩)) (.int k n)).run P w= .ok (.pointer (some ⟨b,p+n.toNat*j.size,none⟩)) w:=by
 simp[Instr.indexAt,asIntOf,run_underlying hu,h0,hlt,kU hj,Addr.add_lit,Instr.sureAddr]
theorem yN {P:Program} {w:World} {r:Nat} {es:Array MapEntry} {ck:Nat} (hb:w.heap[r]? =some (.map es ck)):(getObj r).run P w= .ok (.map es ck) w:=by
 simp[getObj,Sem.run,hb]
theorem BL {sz:Nat} {u:Ty} (h:szB sz u=true):u.isEnt=false∧sz=u.size:=by
 unfold szB at h
 cases hu:u.isEnt <;> rw[hu]at h
 ·exact⟨rfl,aV h⟩
 ·cases h
theorem a2F {C:Cx} {t:Ty} {xs:List t.den} {l:Loc} {vw:Option (Nat×Nat)} {v:Value} (h0:t.isEnt=false) (ha:arrOk C t xs l) (hv:l.view vw v) {i:Nat} {y:t.den} (hy:(aX vw xs)[i]? =some y):
  ∃blk off len cap,l= .arr blk off len cap t.size∧xs[Vm vw+i]? =some y∧∃p c,v= .slice (some ⟨blk,p,none⟩) (aX vw xs).length c∧p+i*t.size=off+(Vm vw+i)*t.size:=by
 cases l with
 | nil=>
  obtain⟨ha,_⟩:=ha;subst ha
  rcases vw with _ | ⟨lo,hi⟩ <;> simp[aX,gQ]at hy
 | st b=>cases ha
 | mp b=>exact absurd ha.1 (by simp[h0])
 | arr blk off len cap sz=>
  obtain⟨_,rfl,rfl,hc,_⟩:=ha
  rcases vw with _ | ⟨lo,hi⟩
  ·simp only[Loc.view]at hv;subst hv
   exact⟨blk,off,_,cap,rfl,by simpa[Vm,aX]using hy,off,cap,rfl,by simp[Vm]⟩
  ·obtain⟨h1,h2,rfl⟩:=hv
   have hl:(aX (some (lo,hi)) xs).length=hi -lo:=by simp[aX,gQ];omega
   have hi' :i<hi -lo:=by rw[←hl];exact(J7.1 hy).1
   have hx' :xs[lo+i]? =some y:=by
    simp only[aX,gQ,List.getElem?_drop,List.getElem?_take]at hy
    split at hy
    ·exact hy
    ·cases hy
   have hne:cap≠lo:=by omega
   exact⟨blk,off,_,cap,rfl,hx',off+lo*t.size,cap -lo,by rw[hl];simp[hne],by simp[Vm,Nat.add_mul];omega⟩
theorem SS (H:FxOk X) (R:Rel X cl ch S m ok a w) {t:TypeId} {x ix:Operand} {q:Nat} (ho:o.op= .indexAddr t x ix):(V7 X.E q o).post S (fun _ S' =>bM X cl ch o a w m ok S'):=by
 unfold V7
 simp only[ho]
 refine O7 R fun u hu=>O7 R fun v hv=>?_
 unfold MX
 split <;> try trivial
 ·
  rename_i k n l sz hsz
  obtain⟨e,j,hut,hj,hjs⟩:=yE H hsz
  have hix:=kE hv
  cases u <;> try trivial
  case sl u xs=>
   refine Y4 fun hb=>ay fun y hy=>?_
   obtain⟨hE0,hb'⟩:=BL hb
   obtain⟨h0,hget,hlt,hlt'⟩:=AP hy
   obtain⟨ad,cap,hx,hc,hel⟩:=(uk hE0).1 hu
   simp only[List.cons.injEq,and_true]at hx
   obtain⟨blk,off,es,rfl,hok,he,hr⟩:=hel _ y hget
   refine O9 H R (v:=.dp u y 0) (x:=.pointer (some ⟨blk,off+n.toNat*u.size,none⟩)) ⟨blk,off+n.toNat*u.size,es,rfl,hok,he,hr⟩ ?_
   simp[execOp,ho,hx,hix,mZ w hut hj h0 hlt',hjs,hb']
  case own bx vw=>
   obtain⟨loc,hm,hview⟩:=hu
   refine ae ?_
   split
   ·rename_i ln sz' hSl
    split <;> try trivial
    refine az fun hb=>⟨fun hin=>?_,fun _=>trivial⟩
    have hb' :=aV hb
    have hin' :=of_decide_eq_true (show decide (0≤n∧n<ln)=true from hin)
    have hbx:=R.box (GZ+bx)
    rw[hSl]at hbx
    obtain⟨k',l',e,hm',hl⟩:=hbx
    have e' :k' =bx:=by omega
    subst e'
    simp only at hm hm'
    rw[hm]at hm';cases hm'
    cases loc with
    | nil=>simp only at hl;omega
    | st b=>cases hl
    | mp b=>cases hl
    | arr blk off len cap sz2=>
     obtain⟨rfl,rfl⟩:=hl
     simp only[Loc.view]at hview
     refine O9 H R (v:=.ep k' (toN n) 0) (x:=.pointer (some ⟨blk,off+n.toNat*sz',none⟩)) ⟨blk,off,len,cap,sz',hm,by unfold toN;omega,rfl⟩ ?_
     simp[execOp,ho,hview,hix,mZ w hut hj hin'.1 hin'.2,hjs,hb']
   refine ae ?_
   split <;> try trivial
   ·rename_i u xs hS
    refine Y4 fun hb=>ay fun y hy=>?_
    obtain⟨hE0,hb'⟩:=BL hb
    obtain⟨h0,hget,hlt,hlt'⟩:=AP hy
    obtain⟨loc',hm',ha⟩:=R.own_arr hS
    simp only at hm
    rw[hm]at hm';cases hm'
    obtain⟨blk,off,len,cap,rfl,hx2,p,c,hvv,hp⟩:=a2F hE0 ha hview hget
    have hlen:=ha.2.2.1
    have hlt2:=(J7.1 hx2).1
    rw[a8b]
    refine O9 H R (v:=.ep bx (Vm vw+toN n) 0) (x:=.pointer (some ⟨blk,p+n.toNat*u.size,none⟩)) ⟨blk,off,len,cap,u.size,hm,by rw[hlen];exact hlt2,by rw[hp];rfl⟩ ?_
    simp[execOp,ho,hvv,hix,mZ w hut hj h0 hlt',hjs,hb']
   ·rename_i u xs hS
    refine Y4 fun hb=>ay fun y hy=>?_
    obtain⟨hE0,hb'⟩:=BL hb
    obtain⟨h0,hget,hlt,hlt'⟩:=AP hy
    obtain⟨loc',hm',ha,hok⟩:=R.own_frz hS
    simp only at hm
    rw[hm]at hm';cases hm'
    obtain⟨ad,cap,hx,hc,hel⟩:=(uk hE0).1 (iE (C:=⟨w.heap,ok,m⟩) ha hview (fun _ _ h=>h) hok)
    simp only[List.cons.injEq,and_true]at hx
    obtain⟨blk,off,es,rfl,hok',he,hr⟩:=hel _ y hget
    refine O9 H R (v:=.dp u y 0) (x:=.pointer (some ⟨blk,off+n.toNat*u.size,none⟩)) ⟨blk,off+n.toNat*u.size,es,rfl,hok',he,hr⟩ ?_
    simp[execOp,ho,hx,hix,mZ w hut hj h0 hlt',hjs,hb']
   ·rename_i md xs hole hS
    split <;> try trivial
    refine az fun hb=>ay fun y hy=>?_
    have hb' :=aV hb
    obtain⟨h0,hget,hlt,hlt'⟩:=AP hy
    obtain⟨hel,loc',Os,hm',⟨ha,hho⟩,hk⟩:=R.own_barrs hS
    simp only at hm
    rw[hm]at hm';cases hm'
    cases loc with
    | st b=>cases ha
    | mp b=>cases ha
    | nil=>obtain⟨e1,_⟩:=ha;subst e1;simp at hlt
    | arr blk off len cap sz' =>
     obtain⟨rfl,rfl,h3,_⟩:=ha
     simp only[Loc.view]at hview
     refine O9 H R (v:=.ep bx (toN n) 0) (x:=.pointer (some ⟨blk,off+n.toNat*md.size,none⟩)) ⟨blk,off,xs.length,cap,md.size,hm,hlt,rfl⟩ ?_
     simp[execOp,ho,hview,hix,mZ w hut hj h0 hlt',hjs,hb']
 ·
  rename_i k n l sz hsz
  obtain⟨e,j,hut,hj,hjs⟩:=Xo H hsz
  have hix:=kE hv
  cases u <;> try trivial
  case glob g=>
   cases hg:Y3 X.E.gl g with
   | none=>simp only[hg];trivial
   | some p=>
   obtain⟨u,xs⟩:=p
   simp only[hg]
   refine Y4 fun hb=>ay fun y hy=>?_
   simp only[Bool.and_eq_true]at hb
   have hb1:=aV hb.1
   have hb2:=aV hb.2
   obtain⟨h0,hget,hlt,hlt'⟩:=AP hy
   obtain⟨hok,_,hel⟩:=R.gl g _ hg
   obtain⟨es,he,hr⟩:=hel _ y hget
   have hx:a.eval x= .pointer (some ⟨g,0,none⟩):=hu
   refine O9 H R (v:=.dp u y 0) (x:=.pointer (some ⟨g,0+n.toNat*u.size,none⟩)) ⟨g,n.toNat*u.size,es,by simp,hok,he,hr⟩ ?_
   have:=TE w hut hj (k:=k) (b:=g) (p:=0) h0 (by rw[hb2];exact hlt')
   simp only[hjs,hb1]at this
   simp[execOp,ho,hx,hix,this]
theorem a3Z {α β:Type} {f:α→β} {args:Array α} {u:β} (h:args.toList.map f=[u]):∃y,args=#[y]∧f y=u:=by
 obtain⟨l⟩:=args
 simp only[List.map_eq_cons_iff,List.map_eq_nil_iff]at h
 obtain⟨y,r,h1,h2,h3⟩:=h
 subst h3
 exact⟨y,by rw[h1],h2⟩
theorem Vj {α β:Type} {f:α→β} {args:Array α} {u v:β} (h:args.toList.map f=[u,v]):∃y z,args=#[y,z]∧f y=u∧f z=v:=by
 obtain⟨l⟩:=args
 simp only[List.map_eq_cons_iff,List.map_eq_nil_iff]at h
 obtain⟨y,r,h1,h2,z,r',h3,h4,h5⟩:=h
 subst h5
 subst h3
 exact⟨y,z,by rw[h1],h2,h4⟩
theorem b4l (H:FxOk X) (R:Rel X cl ch S m ok a w) {c:Call} {q:Nat} (ho:o.op= .call c) (hc:c.callee= .builtin .len):(V7 X.E q o).post S (fun _ S' =>bM X cl ch o a w m ok S'):=by
 obtain⟨cal,args,ats⟩:=c
 simp only at hc;subst hc
 unfold V7
 simp only[ho]
 refine fZ R _ fun vs hvs=>?_
 split <;> try trivial
 rename_i t rt x hat
 obtain⟨u,r,he,hx,hr⟩:=hvs
 simp only[aY]at hr;subst hr
 refine ji H fun i hi=>?_
 have htd:=hi.td
 obtain⟨y,rfl,rfl⟩:=a3Z he
 have h0:ats[0]? =some t:=by
  obtain⟨l⟩:=ats
  simp only at hat
  simp[hat]
 have fin:∀(v:V) (n:Nat),fE ⟨w.heap,ok,m⟩ v (.int .i64 n)→(Builtin.len_ ats o.type #[a.eval y]).run X.P w= .ok (.int .i64 n) w→(Z9 X.E o.dst v).post S (fun _ S' =>bM X cl ch o a w m ok S'):=fun v n hv h=>
  O9 H R hv (by simp[execOp,ho,resolve,invoke,builtin,h])
 have mapLen:∀{ke e n:Nat},X.P.underlying t=some (.map ke e)→(∃mv,a.eval y= .map mv∧(mv=none→n=0)∧∀blk,mv=some blk→∃es ck,w.heap[blk]? =some (.map es ck)∧es.size=n)→
   (Z9 X.E o.dst (.i .i64 n)).post S (fun _ S' =>bM X cl ch o a w m ok S'):=fun {ke e n} hu ⟨mv,hv,h1,h2⟩=>by
  refine fin _ n rfl ?_
  cases mv with
  | none=>rw[h1 rfl];simp[Builtin.len_,h0,run_underlying hu,hv,goInt]
  | some blk=>
   obtain⟨es,ck,h3,h4⟩:=h2 blk rfl
   simp[Builtin.len_,h0,run_underlying hu,hv,goInt,yN h3,h4]
 unfold b7L
 split <;> try trivial
 ·rename_i l htd'
  rw[htd']at htd
  refine fin _ l.length rfl ?_
  simp[Builtin.len_,h0,run_underlying (show X.P.underlying t=some .string from htd),ED hx,goInt]
  rfl
 ·rename_i e u xs htd'
  rw[htd']at htd
  cases hE0:u.isEnt
  ·simp only[cond_false]
   obtain⟨ad,cap,hv,_⟩:=(uk hE0).1 hx
   simp only[List.cons.injEq,and_true]at hv
   refine fin _ xs.length rfl ?_
   simp[Builtin.len_,h0,run_underlying (show X.P.underlying t=some (.slice e)from htd),hv,goInt]
  ·trivial
 ·rename_i ke e u xs htd'
  rw[htd']at htd
  cases hE0:u.isEnt
  ·trivial
  ·simp only[cond_true]
   refine mapLen htd ?_
   obtain⟨mv,hv,h1,h2⟩:=(Yk hE0).1 hx
   exact⟨mv,by simpa using hv,(fun e=>by simp[h1 e]),fun blk hb=>by obtain⟨_,es,ck,h3,h4,_⟩:=h2 blk hb;exact⟨es,ck,h3,h4⟩⟩
 ·rename_i ke e bx htd'
  rw[htd']at htd
  obtain⟨loc,hm,hview⟩:=hx
  simp only at hm
  refine ae ?_
  have key:∀{u:Ty} {xs:List u.den},u.isEnt=true→arrOk ⟨w.heap,ok,m⟩ u xs loc→(Z9 X.E o.dst (.i .i64 (o8 xs))).post S (fun _ S' =>bM X cl ch o a w m ok S'):=fun {u xs} hE0 ha=>by
   refine mapLen htd ?_
   cases loc with
   | nil=>exact absurd ha.2 (by simp[hE0])
   | st b=>cases ha
   | arr blk off len cap sz=>exact absurd ha.1 (by simp[hE0])
   | mp b=>
    simp only[Loc.view]at hview
    obtain⟨_,es,ck,h3,h4,_⟩:=ha
    exact⟨some b,hview,(fun h=>nomatch h),fun blk hb=>by cases hb;exact⟨es,ck,h3,h4⟩⟩
  split <;> try trivial
  ·rename_i u xs hS
   obtain⟨loc',hm',ha⟩:=R.own_arr hS
   rw[hm]at hm';cases hm'
   cases hE0:u.isEnt
   ·trivial
   ·exact key hE0 ha
  ·rename_i u xs hS
   obtain⟨loc',hm',ha,_⟩:=R.own_frz hS
   rw[hm]at hm';cases hm'
   cases hE0:u.isEnt
   ·trivial
   ·exact key hE0 ha
 ·rename_i e htd'
  rw[htd']at htd
  have hv:a.eval y= .slice none 0 0:=hx
  refine fin _ 0 rfl ?_
  simp[Builtin.len_,h0,run_underlying (show X.P.underlying t=some (.slice e)from htd),hv,goInt]
 ·rename_i e bx vw htd'
  rw[htd']at htd
  obtain⟨loc,hm,hview⟩:=hx
  refine ae ?_
  split
  ·rename_i ln sz' hSl
   split <;> try trivial
   have hbx:=R.box (GZ+bx)
   rw[hSl]at hbx
   obtain⟨k',l',e',hm',hl⟩:=hbx
   have e2:k' =bx:=by omega
   subst e2
   simp only at hm hm'
   rw[hm]at hm';cases hm'
   cases loc with
   | nil=>
    simp only at hl;subst hl
    simp only[Loc.view]at hview
    refine fin _ 0 rfl ?_
    simp[Builtin.len_,h0,run_underlying (show X.P.underlying t=some (.slice e)from htd),hview,goInt]
   | st b=>cases hl
   | mp b=>cases hl
   | arr blk off len cap sz2=>
    obtain⟨rfl,rfl⟩:=hl
    simp only[Loc.view]at hview
    refine fin _ len rfl ?_
    simp[Builtin.len_,h0,run_underlying (show X.P.underlying t=some (.slice e)from htd),hview,goInt]
  refine ae ?_
  have key:∀{u:Ty} {xs:List u.den},u.isEnt=false→arrOk ⟨w.heap,ok,m⟩ u xs loc→(Z9 X.E o.dst (.i .i64 (o8 (aX vw xs)))).post S (fun _ S' =>bM X cl ch o a w m ok S'):=fun {u xs} hE0 ha=>by
   obtain⟨ad,cap,hv,_⟩:=(uk hE0).1 (iE (C:=⟨w.heap,ok,m⟩) (ok' :=fun _ _=>True) ha hview (fun _ _ _=>trivial) (fun _ _=>trivial))
   simp only[List.cons.injEq,and_true]at hv
   refine fin _ (aX vw xs).length rfl ?_
   simp[Builtin.len_,h0,run_underlying (show X.P.underlying t=some (.slice e)from htd),hv,goInt]
  split <;> try trivial
  ·rename_i u xs hS
   obtain⟨loc',hm',ha⟩:=R.own_arr hS
   simp only at hm
   rw[hm]at hm';cases hm'
   cases hE0:u.isEnt
   ·exact key hE0 ha
   ·trivial
  ·rename_i u xs hS
   obtain⟨loc',hm',ha,_⟩:=R.own_frz hS
   simp only at hm
   rw[hm]at hm';cases hm'
   cases hE0:u.isEnt
   ·exact key hE0 ha
   ·trivial
  ·rename_i md xs hole hS
   split <;> try trivial
   obtain⟨hel,loc',Os,hm',⟨ha,hho⟩,hk⟩:=R.own_barrs hS
   simp only at hm
   rw[hm]at hm';cases hm'
   cases loc with
   | st b=>cases ha
   | mp b=>cases ha
   | nil=>
    obtain⟨e1,_⟩:=ha;subst e1
    simp only[Loc.view]at hview
    refine fin _ 0 rfl ?_
    simp[Builtin.len_,h0,run_underlying (show X.P.underlying t=some (.slice e)from htd),hview,goInt]
   | arr blk off len cap sz' =>
    obtain⟨rfl,rfl,h3,_⟩:=ha
    simp only[Loc.view]at hview
    refine fin _ xs.length rfl ?_
    simp[Builtin.len_,h0,run_underlying (show X.P.underlying t=some (.slice e)from htd),hview,goInt]
theorem QR (H:FxOk X) (R:Rel X cl ch S m ok a w) {c:Call} {q:Nat} (ho:o.op= .call c) (hc:c.callee= .builtin .min∨c.callee= .builtin .max):(V7 X.E q o).post S (fun _ S' =>bM X cl ch o a w m ok S'):=by
 obtain⟨cal,args,ats⟩:=c
 simp only at hc
 rcases hc with rfl | rfl
 all_goals
  unfold V7
  simp only[ho]
  refine fZ R _ fun vs hvs=>?_
  split <;> try trivial
  rename_i k p k' r
  obtain⟨u,r',he,hx,v,r'',he',hy,hr⟩:=hvs
  simp only[aY]at hr;subst hr
  rw[he']at he
  refine Y4 fun hk=>?_
  have hk' :k=k' :=of_decide_eq_true hk
  subst hk'
  obtain⟨y,z,rfl,rfl,rfl⟩:=Vj he
 ·refine O9 H R (v:=.i k (kG p r)) rfl ?_
  simp[execOp,ho,resolve,invoke,builtin,Builtin.min_,Builtin.min2,kE hx,kE hy,kG]
 ·refine O9 H R (v:=.i k (gV p r)) rfl ?_
  simp[execOp,ho,resolve,invoke,builtin,Builtin.max_,Builtin.max2,kE hx,kE hy,gV]
end
end Go.GP
namespace Go.GP
def Bnd (d:Int) (o:Option Value) (n:Int):Prop:=(o=none∧n=d)∨∃k,o=some (.int k n)
theorem zh {P:Program} {w:World} {isS:Bool} {len cap:Nat} {lo hi:Option Value} {x y:Int} (hlo:Bnd 0 lo x) (hhi:Bnd len hi y) (h0:0≤x) (h1:x≤y) (h2:y≤len) (hc:len≤cap):
  (Instr.sliceBounds isS len cap lo hi none).run P w= .ok (x.toNat,y.toNat,cap) w:=by
 have hyc:y≤cap:=by omega
 have hy0:0≤y:=by omega
 have e:((y.toNat:Nat):Int)=y:=by omega
 rcases hlo with⟨rfl,rfl⟩ | ⟨k,rfl⟩ <;> rcases hhi with⟨rfl,rfl⟩ | ⟨k',rfl⟩
 ·simp[Instr.sliceBounds]
 ·simp[Instr.sliceBounds,Instr.sliceBound,asIntOf,hy0,hyc]
 ·simp[Instr.sliceBounds,Instr.sliceBound,asIntOf,h0,h1]
 ·simp[Instr.sliceBounds,Instr.sliceBound,asIntOf,hy0,hyc,h0,e,h1]
theorem QF {α:Type} {l r:List α} {x y:Int} (h:AU l x y=some r):0≤x∧x≤y∧y≤l.length∧r=(l.take y.toNat).drop x.toNat:=by
 unfold AU at h
 split at h
 ·rename_i hh;cases h;exact⟨hh.1,hh.2.1,hh.2.2,rfl⟩
 ·cases h
theorem Pm (l:List UInt8) (x y:Nat):(⟨l.toArray⟩:ByteArray).extract x y=⟨((l.take y).drop x).toArray⟩:=by
 apply ByteArray.ext
 apply Array.ext'
 simp[ByteArray.data_extract,List.extract_eq_take_drop,List.drop_take]
theorem a8y {h:Array Obj} {ok:Nat→Ty→Prop} {t:Ty} (ht:t.isEnt=false) {xs:List t.den} {ad:Option Addr} {cap:Nat} {x y:Nat} (hr:rep h ok (.sl t) xs [.slice ad xs.length cap]) (h1:x≤y) (h2:y≤xs.length):
  rep h ok (.sl t) ((xs.take y).drop x) [.slice (if cap=x then ad else ad.map (·.add (x*t.size))) (y -x) (cap -x)]:=by
 obtain⟨ad',cap',e,hc,hel⟩:=(uk ht).1 hr
 simp only[List.cons.injEq,Value.slice.injEq,and_true,true_and]at e
 obtain⟨rfl,rfl⟩:=e
 have hl:((xs.take y).drop x).length=y -x:=by simp;omega
 refine(uk ht).2 ⟨_,cap -x,by rw[hl],by rw[hl];omega,fun i z hz=>?_⟩
 have hi:i<y -x:=by rw[←hl];exact(J7.1 hz).1
 have hz' :xs[x+i]? =some z:=by
  simp only[List.getElem?_drop,List.getElem?_take]at hz
  split at hz
  ·exact hz
  ·cases hz
 obtain⟨blk,off,es,rfl,hb,he,hrp⟩:=hel _ z hz'
 have hne:cap≠x:=by omega
 refine⟨blk,off+x*t.size,es,by simp[hne,Addr.add_lit],hb,?_,hrp⟩
 rw[←he];congr 1;rw[Nat.add_mul];omega
section
variable {X:Fx} {cl ch:Nat} {S:Sm} {m:Mp} {ok:Nat→Ty→Prop} {a:Act} {w:World} {o:Oper}
theorem lW {C:Cx} {d n:Int} {v:Option V} {u:Option Value} (h:rJ d v=some n) (hr:(v=none∧u=none)∨∃c x,v=some c∧u=some x∧fE C c x):Bnd d u n:=by
 rcases hr with⟨rfl,rfl⟩ | ⟨c,x,rfl,rfl,hr⟩
 ·simp[rJ]at h;subst h;exact .inl ⟨rfl,rfl⟩
 ·cases c <;> simp[rJ]at h
  subst h
  exact .inr ⟨_,by rw[kE hr]⟩
theorem xh (H:FxOk X) (R:Rel X cl ch S m ok a w) {t:TypeId} {x:V} {u:Value} {lo hi:Option V} {lv hv:Option Value} (hx:fE ⟨w.heap,ok,m⟩ x u)
  (hlo:(lo=none∧lv=none)∨∃c y,lo=some c∧lv=some y∧fE ⟨w.heap,ok,m⟩ c y) (hhi:(hi=none∧hv=none)∨∃c y,hi=some c∧hv=some y∧fE ⟨w.heap,ok,m⟩ c y)
  {K:V→Cmd Unit} {Q:Unit→Sm→Prop} (hK:∀v z,fE ⟨w.heap,ok,m⟩ v z→(Instr.sliceAt t u lv hv none).run X.P w= .ok z w→(K v).post S Q):(IV X.E t x lo hi K).post S Q:=by
 unfold IV
 cases x <;> try trivial
 case s l=>
  refine ji H fun i hi' =>?_
  have htd:=hi'.td
  split <;> try trivial
  rename_i p q htd' hp hq
  rw[htd']at htd
  refine ay fun r hr=>?_
  obtain⟨h0,h1,h2,rfl⟩:=QF hr
  have hb:=zh (P:=X.P) (w:=w) (isS:=false) (cap:=l.length) (lW hp hlo) (lW hq hhi) h0 h1 h2 (Nat.le_refl _)
  refine hK (.s _) (.string ⟨((l.take q.toNat).drop p.toNat).toArray⟩) rfl ?_
  have hus:X.P.underlying t=some .string:=htd
  have hs:(⟨l.toArray⟩:ByteArray).size=l.length:=rfl
  simp[Instr.sliceAt,run_underlying hus,Instr.slice,ED hx,hs,hb,Pm]
 case sl v l=>
  dsimp only
  split <;> try trivial
  rename_i n sz p q hsz hp hq
  obtain⟨e,j,hut,hj,hjs⟩:=yE H hsz
  refine Y4 fun hbq=>ay fun r hr=>?_
  obtain⟨hE0,hbq'⟩:=BL hbq
  obtain⟨h0,h1,h2,rfl⟩:=QF hr
  have hx' :rep w.heap ok (.sl v) l [u]:=hx
  obtain⟨ad,cap,hu,hc,_⟩:=(uk hE0).1 hx'
  simp only[List.cons.injEq,and_true]at hu
  subst hu
  have hb:=zh (P:=X.P) (w:=w) (isS:=true) (cap:=cap) (lW hp hlo) (lW hq hhi) h0 h1 h2 hc
  refine hK (.sl v _) _ (a8y hE0 (x:=p.toNat) (y:=q.toNat) hx' (by omega) (by omega)) ?_
  simp[Instr.sliceAt,run_underlying hut,Instr.slice,hb,kU hj,hjs,hbq']
 case own bx vw=>
  cases vw with
  | some _=>trivial
  | none=>
  obtain⟨loc,hm,hview⟩:=hx
  refine ae ?_
  have key:∀{v:Ty} {xs:List v.den} {n sz:Nat} {p q:Int},arrOk ⟨w.heap,ok,m⟩ v xs loc→yD X.E t=some (false,n,sz)→rJ 0 lo=some p→rJ (o8 xs) hi=some q→
    (bif szB sz v then Cmd.br (jG p q (o8 xs)) (K (.own bx (some (toN p,toN q)))) .fail else .fail).post S Q:=fun {v xs n sz p q} ha hsz hp hq=>by
   obtain⟨e,j,hut,hj,hjs⟩:=yE H hsz
   refine Y4 fun hbq=>⟨fun hr=>?_,fun _=>trivial⟩
   obtain⟨hE0,hbq'⟩:=BL hbq
   have hr' :=of_decide_eq_true (show decide (0≤p∧p≤q∧q≤o8 xs)=true from hr)
   obtain⟨h0,h1,h2⟩:=hr'
   have h2' :q≤(xs.length:Int):=h2
   cases loc with
   | st b=>cases ha
   | mp b=>exact absurd ha.1 (by simp[hE0])
   | nil=>
    obtain⟨ha,_⟩:=ha
    subst ha
    simp only[Loc.view]at hview
    subst hview
    have h2'' :q≤((0:Nat):Int):=by simpa using h2'
    have hb:=zh (P:=X.P) (w:=w) (isS:=true) (len:=0) (cap:=0) (lW hp hlo) (by have:=lW hq hhi;simpa[o8]using this) h0 h1 h2'' (Nat.le_refl _)
    have ep:p=0:=by omega
    have eq:q=0:=by omega
    subst ep;subst eq
    refine hK (.own bx (some (toN 0,toN 0))) (.slice none 0 0) ⟨.nil,hm,rfl,rfl,rfl⟩ ?_
    simp[Instr.sliceAt,run_underlying hut,Instr.slice,hb,kU hj]
   | arr blk off len cap sz' =>
    obtain⟨_,rfl,rfl,hc,_⟩:=ha
    simp only[Loc.view]at hview
    subst hview
    have hb:=zh (P:=X.P) (w:=w) (isS:=true) (cap:=cap) (lW hp hlo) (lW hq hhi) h0 h1 h2' hc
    refine hK (.own bx (some (toN p,toN q))) _ ⟨_,hm,by unfold toN;omega,by unfold toN;omega,rfl⟩ ?_
    have e1:(if cap=p.toNat then some (⟨blk,off,none⟩:Addr)else some ⟨blk,off+p.toNat*v.size,none⟩)=some (if cap=p.toNat then⟨blk,off,none⟩else⟨blk,off+p.toNat*v.size,none⟩):=by split <;> rfl
    simp[Instr.sliceAt,run_underlying hut,Instr.slice,hb,kU hj,hjs,hbq',Addr.add_lit,toN,e1]
    by_cases ecp:cap=p.toNat <;> simp[ecp]
  split <;> try trivial
  ·rename_i v xs hS
   obtain⟨loc',hm',ha⟩:=R.own_arr hS
   simp only at hm
   rw[hm]at hm';cases hm'
   split <;> try trivial
   rename_i n sz p q hsz hp hq
   exact key ha hsz hp hq
  ·rename_i v xs hS
   obtain⟨loc',hm',ha,_⟩:=R.own_frz hS
   simp only at hm
   rw[hm]at hm';cases hm'
   split <;> try trivial
   rename_i n sz p q hsz hp hq
   exact key ha hsz hp hq
theorem a4D (H:FxOk X) (R:Rel X cl ch S m ok a w) {t:TypeId} {x:Operand} {lo hi:Option Operand} {q:Nat} (ho:o.op= .slice t x lo hi none):(V7 X.E q o).post S (fun _ S' =>bM X cl ch o a w m ok S'):=by
 unfold V7
 simp only[ho]
 refine O7 R fun v hv=>fZ R _ fun bs hbs=>?_
 split <;> try trivial
 ·refine xh H R (lv:=none) (hv:=none) hv (.inl ⟨rfl,rfl⟩) (.inl ⟨rfl,rfl⟩) fun r z hr hz=>O9 H R hr ?_
  simp[execOp,ho,hz]
 ·rename_i l c
  obtain⟨y,r,he,h1,h2⟩:=hbs
  simp only[aY]at h2;subst h2
  simp at he;subst he
  refine xh H R (lv:=some (a.eval l)) (hv:=none) hv (.inr ⟨_,_,rfl,rfl,h1⟩) (.inl ⟨rfl,rfl⟩) fun r z hr hz=>O9 H R hr ?_
  simp[execOp,ho,hz]
 ·rename_i h c
  obtain⟨y,r,he,h1,h2⟩:=hbs
  simp only[aY]at h2;subst h2
  simp at he;subst he
  refine xh H R (lv:=none) (hv:=some (a.eval h)) hv (.inl ⟨rfl,rfl⟩) (.inr ⟨_,_,rfl,rfl,h1⟩) fun r z hr hz=>O9 H R hr ?_
  simp[execOp,ho,hz]
 ·rename_i l h c d
  obtain⟨y,r,he,h1,y',r',he',h2,h3⟩:=hbs
  simp only[aY]at h3;subst h3
  subst he'
  simp at he
  obtain⟨rfl,rfl⟩:=he
  refine xh H R (lv:=some (a.eval l)) (hv:=some (a.eval h)) hv (.inr ⟨_,_,rfl,rfl,h1⟩) (.inr ⟨_,_,rfl,rfl,h2⟩) fun r z hr hz=>O9 H R hr ?_
  simp[execOp,ho,hz]
end
end Go.GP
