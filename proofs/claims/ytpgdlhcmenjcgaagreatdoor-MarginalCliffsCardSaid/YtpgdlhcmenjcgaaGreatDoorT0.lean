import Derived.ProofKit
import Derived.Below
import Derived.Laws.CopyRow
import Derived.Laws.BytesArg
import Derived.Laws.Cells
import Derived.Laws.Append
import Derived.Laws.Strings
import Derived.Lib.SmallJoins
import Derived.Laws.MakeOwn
import Derived.ArgAppend
set_option linter.all false
namespace Go.GP
theorem O5 {α:Type _} {l:List α} {i:Nat} {a:α} :l[i]? =some a↔∃h:i<l.length,l[i]=a:=List.getElem?_eq_some_iff
theorem Y5 {α:Type _} {l:List α} {i:Nat} (h:i<l.length):l[i]? =some l[i]:=List.getElem?_eq_getElem h
theorem bz {n m:Nat} (h:Nat.beq n m=true):n=m:=Nat.eq_of_beq_eq_true h
theorem dN {α:Type _} {l:List α} {i:Nat} {a:α} (h:l[i]? =some a):a∈l:=List.mem_of_getElem? h
theorem qp {α:Type _} {l:List α} {i:Nat} {a:α} :l.getD i a=l[i]?.getD a:=List.getD_eq_getElem?_getD
universe u
set_option linter.unusedVariables false
inductive Ty where
 | bool | int (k:IntKind) | str | sl (t:Ty) | prod (a b:Ty) | unit
def Ty.beq:Ty→Ty→Bool
 | .bool,b=>match b with | .bool=>true | _=>false
 | .int k,b=>match b with | .int k' =>decide (k=k') | _=>false
 | .str,b=>match b with | .str=>true | _=>false
 | .sl t,b=>match b with | .sl u=>Ty.beq t u | _=>false
 | .prod p q,b=>match b with | .prod p' q' =>bif Ty.beq p p' then Ty.beq q q' else false | _=>false
 | .unit,b=>match b with | .unit=>true | _=>false
theorem Ty.beq_eq:∀{a b:Ty},Ty.beq a b=true→a=b
 | .bool,b,h=>by cases b <;> first | rfl | cases h
 | .int k,b,h=>by cases b <;> first | (cases h;done) | (rename_i k';have:=of_decide_eq_true (show decide (k=k')=true from h);subst this;rfl)
 | .str,b,h=>by cases b <;> first | rfl | cases h
 | .sl t,b,h=>by cases b <;> first | (cases h;done) | (rename_i u;have:=Ty.beq_eq (show Ty.beq t u=true from h);subst this;rfl)
 | .prod p q,b,h=>by
  cases b <;> try (cases h;done)
  rename_i p' q'
  cases hp:Ty.beq p p'
  ·have h' :(bif Ty.beq p p' then Ty.beq q q' else false)=true:=h
   rw[hp]at h';cases h'
  ·have h' :(bif Ty.beq p p' then Ty.beq q q' else false)=true:=h
   rw[hp]at h'
   rw[Ty.beq_eq hp,Ty.beq_eq (show Ty.beq q q' =true from h')]
 | .unit,b,h=>by cases b <;> first | rfl | cases h
theorem Ty.beq_refl:∀(a:Ty),Ty.beq a a=true
 | .bool=>rfl
 | .int k=>by show decide (k=k)=true;simp
 | .str=>rfl
 | .sl t=>Ty.beq_refl t
 | .prod p q=>by show(bif Ty.beq p p then Ty.beq q q else false)=true;rw[Ty.beq_refl p,Ty.beq_refl q];rfl
 | .unit=>rfl
instance:DecidableEq Ty:=fun a b=>match h:Ty.beq a b with
 | true=> .isTrue (Ty.beq_eq h)
 | false=> .isFalse (fun e=>by subst e;rw[Ty.beq_refl]at h;cases h)
@[reducible] def Ty.den:Ty→Type
 | .bool=>Bool
 | .int _=>Int
 | .str=>List UInt8
 | .sl t=>List t.den
 | .prod a b=>a.den×b.den
 | .unit=>Unit
def Ty.size:Ty→Nat
 | .bool | .int _ | .str | .sl _=>1
 | .prod a b=>a.size+b.size
 | .unit=>0
def Ty.flat:Ty→Bool
 | .bool | .int _ | .str | .unit=>true
 | .sl _=>false
 | .prod a b=>a.flat&&b.flat
def Ty.zero:(t:Ty)→t.den
 | .bool=>false
 | .int _=>(0:Int)
 | .str=>[]
 | .sl _=>[]
 | .prod a b=>(a.zero,b.zero)
 | .unit=>()
inductive M where
 | dat (t:Ty) | own (t:Ty) | pair (a b:M) | unit | box (m:M)
 | owns (el:M) | ownb (t:Ty) | rp (t:Ty) | fn (f:Nat) (ts:List Ty) | ifc (t:Nat) (m:M) | cell (n:Option (Option Bool))
def M.beq:M→M→Bool
 | .dat t,b=>match b with | .dat u=>Ty.beq t u | _=>false
 | .own t,b=>match b with | .own u=>Ty.beq t u | _=>false
 | .pair p q,b=>match b with | .pair p' q' =>bif M.beq p p' then M.beq q q' else false | _=>false
 | .unit,b=>match b with | .unit=>true | _=>false
 | .owns m,b=>match b with | .owns m' =>M.beq m m' | _=>false
 | _,_=>false
theorem M.beq_eq:∀{a b:M},M.beq a b=true→a=b
 | .dat t,b,h=>by cases b <;> first | (cases h;done) | (rename_i u;have:=Ty.beq_eq (show Ty.beq t u=true from h);subst this;rfl)
 | .own t,b,h=>by cases b <;> first | (cases h;done) | (rename_i u;have:=Ty.beq_eq (show Ty.beq t u=true from h);subst this;rfl)
 | .pair p q,b,h=>by
  cases b <;> try (cases h;done)
  rename_i p' q'
  cases hp:M.beq p p'
  ·have h' :(bif M.beq p p' then M.beq q q' else false)=true:=h
   rw[hp]at h';cases h'
  ·have h' :(bif M.beq p p' then M.beq q q' else false)=true:=h
   rw[hp]at h'
   rw[M.beq_eq hp,M.beq_eq (show M.beq q q' =true from h')]
 | .unit,b,h=>by cases b <;> first | rfl | cases h
 | .owns m,b,h=>by cases b <;> first | (cases h;done) | (rename_i u;have:=M.beq_eq (show M.beq m u=true from h);subst this;rfl)
 | .box _,b,h=>by cases h
 | .ownb _,b,h=>by cases h
 | .rp _,b,h=>by cases h
 | .fn _ _,b,h=>by cases h
 | .ifc _ _,b,h=>by cases h
 | .cell _,b,h=>by cases h
@[reducible] def KX:List Ty→Type
 | []=>Unit
 | [t]=>t.den
 | t::t' ::r=>t.den×KX (t' ::r)
@[reducible] def M.den:M→Type
 | .dat t=>t.den
 | .own t=>List t.den
 | .pair a b=>a.den×b.den
 | .unit=>Unit
 | .box m=>m.den
 | .owns el=>List el.den
 | .ownb t=>List t.den
 | .rp t=>t.den
 | .fn _ ts=>KX ts
 | .ifc _ m=>m.den
 | .cell _=>Unit
def M.size:M→Nat
 | .dat t=>t.size
 | .own _=>1
 | .pair a b=>a.size+b.size
 | .unit=>0
 | .box _=>1
 | .owns _ | .ownb _ | .rp _ | .fn _ _ | .ifc _ _ | .cell _=>1
def M.el:M→Bool
 | .dat _ | .own _ | .unit=>true
 | .owns m=>m.el
 | .pair a b=>a.el&&b.el
 | _=>false
def M.ty:M→Ty
 | .dat t=>t
 | .own t=> .sl t
 | .owns m=> .sl m.ty
 | .pair a b=> .prod a.ty b.ty
 | _=> .unit
theorem M.denEq:∀(m:M),m.el=true→m.den=m.ty.den
 | .dat _,_=>rfl
 | .own _,_=>rfl
 | .unit,_=>rfl
 | .owns m,h=>congrArg List (M.denEq m h)
 | .pair a b,h=>by
  have h' :a.el=true∧b.el=true:=by simpa[M.el]using h
  show(a.den×b.den)=(a.ty.den×b.ty.den)
  rw[M.denEq a h'.1,M.denEq b h'.2]
 | .box _,h=>by simp[M.el]at h
 | .ownb _,h=>by simp[M.el]at h
 | .rp _,h=>by simp[M.el]at h
 | .fn _ _,h=>by simp[M.el]at h
 | .ifc _ _,h=>by simp[M.el]at h
 | .cell _,h=>by simp[M.el]at h
def M.zero:(m:M)→m.el=true→m.den
 | m,h=>cast (M.denEq m h).symm m.ty.zero
abbrev MG:=Bool×M
@[reducible] def S9:List MG→Type
 | []=>Unit
 | [m]=>m.2.den
 | m::m' ::r=>m.2.den×S9 (m' ::r)
inductive V where
 | undef
 | un
 | b (x:Bool) | i (k:IntKind) (n:Int) | s (l:List UInt8)
 | nl
 | sl (t:Ty) (xs:List t.den)
 | own (bx:Nat) (vw:Option (Nat×Nat))
 | ptr (bx off:Nat)
 | ep (bx idx off:Nat)
 | dp (t:Ty) (x:t.den) (off:Nat)
 | agg (cs:List V) | tup (cs:List V)
 | glob (g:Nat) | fnv (f:Nat) | clos (f:Nat) (caps:List ((t:Ty)×t.den)) | ifc (t:Nat) (v:V)
 | bcells (cs:List V) | barr (t:Ty) (xs:List t.den) | bfrz (t:Ty) (xs:List t.den) | biter (l:List UInt8) (pos:Nat)
 | barrs (el:M) (xs:List el.den) (hole:Option (Nat×Nat)) | bfc (t:Ty) (x:t.den)
 | dead | gone (t:Ty) | blen (n:Int) (sz:Nat)
 | ne (b:Bool)
def l9 {α β:Type} (o:Option α) (f:α→Option β):Option β:=match o with | some x=>f x | none=>none
def l7 {α:Type} (b:Bool) (x y:α):α:=match b with | true=>x | false=>y
def ilt (a b:Int):Bool:=decide (a<b)
def ile (a b:Int):Bool:=decide (a≤b)
def ieq (a b:Int):Bool:=decide (a=b)
def bZ (a b:Bool):Bool:=a==b
def D6 (a:Bool):Bool:=!a
def aK (a b:Bool):Bool:=a&&b
def seq (a b:List UInt8):Bool:=decide (a=b)
def slt (a b:List UInt8):Bool:=Op.bytesLess a b
def wrap (k:IntKind) (n:Int):Int:=k.wrap n
def x9 (k:IntKind) (a b:Int):Int:=k.wrap (a+b)
def G5 (k:IntKind) (a b:Int):Int:=k.wrap (a -b)
def L9 (k:IntKind) (a b:Int):Int:=k.wrap (a*b)
def V5 (k:IntKind) (a b:Int):Int:=k.wrap (a.tdiv b)
def V6 (a b:Int):Int:=a.tmod b
def fH (k:IntKind) (a b:Int):Option Int:=if b=0 then none else some (k.wrap (a.tdiv b))
def qf (a b:Int):Option Int:=if b=0 then none else some (a.tmod b)
def VU (k:IntKind) (a b:Int):Int:=k.wrap (BitVec.ofInt k.bits a&&& BitVec.ofInt k.bits b).toNat
def ior (k:IntKind) (a b:Int):Int:=k.wrap (BitVec.ofInt k.bits a ||| BitVec.ofInt k.bits b).toNat
def a4s (k:IntKind) (a b:Int):Int:=k.wrap (BitVec.ofInt k.bits a^^^BitVec.ofInt k.bits b).toNat
def a0j (k:IntKind) (a b:Int):Int:=k.wrap (BitVec.ofInt k.bits a&&& ~~~(BitVec.ofInt k.bits b)).toNat
def a4r (k:IntKind) (a b:Int):Int:=k.wrap (a*2^(min b.toNat k.bits))
def jY (k:IntKind) (a b:Int):Int:=a.fdiv (2^(min b.toNat k.bits))
def OJ (k:IntKind) (a b:Int):Option Int:=if b<0 then none else some (a4r k a b)
def OL (k:IntKind) (a b:Int):Option Int:=if b<0 then none else some (jY k a b)
def eX (a b:Int):Int:=if b<a then b else a
def fO (a b:Int):Int:=if a<b then b else a
def o8 {α:Type} (l:List α):Int:=l.length
def d2Q (a b:List UInt8):Option (List UInt8):=if a.length+b.length≤4611686018427387904 then some (a++b)else none
def FZ (a b:Nat):Bool:=Nat.beq a b
def inb (i n:Int):Bool:=decide (0≤i∧i<n)
def lat {α:Type} (l:List α) (i:Int):Option α:=if 0≤i then l[i.toNat]? else none
def sat (l:List UInt8) (i:Int):Option Int:=if 0≤i then(l[i.toNat]?).map (fun c=>(c.toNat:Int))else none
def J4 {α:Type} (l:List α) (i:Nat):Option α:=l[i]?
def P6 {α:Type} (l:List α) (i:Nat) (x:α):List α:=l.set i x
def Ei {α:Type} (l:List α) (lo hi:Int):Option (List α):=if 0≤lo∧lo≤hi∧hi≤l.length then some ((l.take hi.toNat).drop lo.toNat)else none
def gq {α:Type} (l:List α) (lo hi:Nat):List α:=(l.take hi).drop lo
def ja (lo hi n:Int):Bool:=decide (0≤lo∧lo≤hi∧hi≤n)
def X9 {α:Type} (xs ys:List α):Option (List α):=if xs.length+ys.length≤1073741824 then some (xs++ys)else none
def iU {α:Type} (n:Int) (x:α):Option (List α):=if 0≤n∧n≤1073741824 then some (List.replicate n.toNat x)else none
def toN (i:Int):Nat:=i.toNat
def d9w (n:Int):UInt8:=UInt8.ofNat n.toNat
def a3T (l:List Int):List UInt8:=l.map d9w
inductive Out (σ ε ρ:Type) where
 | nx (s:σ) | ex (e:ε) | rt (r:ρ)
def J9 {σ ε α:Type} (o:σ⊕ε) (f:σ→α) (g:ε→α):α:=match o with | .inl s=>f s | .inr e=>g e
def dP {σ ε ρ:Type} (f:σ→Option (Out σ ε ρ)):Nat→σ→Option (ε⊕ρ)
 | 0,_=>none
 | n+1,s=>match f s with
  | some (.nx s')=>dP f n s'
  | some (.ex e)=>some (.inl e)
  | some (.rt r)=>some (.inr r)
  | none=>none
def ku {σ ε:Type} (f:σ→Option (σ⊕ε)):Nat→σ→Option ε
 | 0,_=>none
 | n+1,s=>match f s with
  | some (.inl s')=>ku f n s'
  | some (.inr e)=>some e
  | none=>none
def bK:Nat:=18446744073709551616
def J7 {σ ε ρ:Type} (f:σ→Option (Out σ ε ρ)) (s:σ):Option (ε⊕ρ):=dP f bK s
def P5 {σ ε:Type} (f:σ→Option (σ⊕ε)) (s:σ):Option ε:=ku f bK s
inductive Cmd (α:Type):Type 1 where
 | ret (x:α)
 | fail
 | get (k:Nat) (c:V→Cmd α)
 | set (k:Nat) (v:V) (c:Cmd α)
 | opt {β:Type} (o:Option β) (c:β→Cmd α)
 | br (b:Bool) (c d:Cmd α)
inductive Ent where
 | kv (k:Nat) (v:V) | mask (lo hi:Nat)
abbrev St:=List Ent
def aS:St→Nat→V
 | [],_=> .undef
 | .kv k v::r,n=>bif Nat.beq k n then v else aS r n
 | .mask lo hi::r,n=>bif Nat.ble lo n&&Nat.blt n hi then .undef else aS r n
abbrev Tr:=List Nat×List Nat
def V.force {R:Type} (v:V) (K:V→R):R:=
 match v with
 | .undef=>K .undef
 | .un=>K .un
 | .b x=>K (.b x)
 | .i k n=>match k with
  | .i8=>K (.i .i8 n) | .i16=>K (.i .i16 n) | .i32=>K (.i .i32 n) | .i64=>K (.i .i64 n)
  | .u8=>K (.i .u8 n) | .u16=>K (.i .u16 n) | .u32=>K (.i .u32 n) | .u64=>K (.i .u64 n)
 | .s l=>K (.s l)
 | .nl=>K .nl
 | .ne z=>K (.ne z)
 | .sl t xs=>K (.sl t xs)
 | .own bx vw=>match vw with | none=>K (.own bx none) | some p=>K (.own bx (some p))
 | .ptr bx off=>K (.ptr bx off)
 | .ep bx idx off=>K (.ep bx idx off)
 | .dp t x off=>K (.dp t x off)
 | .agg cs=>K (.agg cs)
 | .tup cs=>K (.tup cs)
 | .glob g=>K (.glob g)
 | .fnv f=>K (.fnv f)
 | .clos f bs=>K (.clos f bs)
 | .ifc t v=>v.force fun v=>K (.ifc t v)
 | .barrs t xs h=>match h with | none=>K (.barrs t xs none) | some (p1,p2)=>K (.barrs t xs (some (p1,p2)))
 | .bfc t x=>K (.bfc t x)
 | .bcells cs=>K (.bcells cs)
 | .barr t xs=>K (.barr t xs)
 | .bfrz t xs=>K (.bfrz t xs)
 | .biter l p=>K (.biter l p)
 | .dead=>K .dead
 | .gone t=>K (.gone t)
 | .blen n sz=>K (.blen n sz)
def JP {R:Type} :List V→(List V→R)→R
 | [],K=>K []
 | v::r,K=>v.force fun v' =>JP r fun r' =>K (v' ::r')
def V.force2 {R:Type} (v:V) (K:V→R):R:=
 v.force fun v=>match v with
  | .agg cs=>JP cs fun cs=>K (.agg cs)
  | .bcells cs=>JP cs fun cs=>K (.bcells cs)
  | .tup cs=>JP cs fun cs=>K (.tup cs)
  | v=>K v
def Cmd.runK {α R:Type} :Cmd α→St→Tr→(α→St→Tr→Option R)→Option R
 | .ret x,s,t,K=>K x s t
 | .fail,_,_,_=>none
 | .get k c,s,t,K=>(aS s k).force fun v=>(c v).runK s (k::t.1,t.2) K
 | .set k v c,s,t,K=>v.force2 fun v=>c.runK (.kv k v::s) (t.1,k::t.2) K
 | .opt o c,s,t,K=>l9 o fun x=>(c x).runK s t K
 | .br b c d,s,t,K=>l7 b (c.runK s t K) (d.runK s t K)
def Cmd.bind {α β:Type} :Cmd α→(α→Cmd β)→Cmd β
 | .ret x,f=>f x
 | .fail,_=> .fail
 | .get k c,f=> .get k fun v=>(c v).bind f
 | .set k v c,f=> .set k v (c.bind f)
 | .opt o c,f=> .opt o fun x=>(c x).bind f
 | .br b c d,f=> .br b (c.bind f) (d.bind f)
inductive TD where
 | bool | int (k:IntKind) | str
 | sl (elem:Nat) | ptr (elem:Nat)
 | struct (fs:List (Nat×Nat))
 | arr (n elem:Nat)
 | other
structure TI where
 size:Nat
 bytes:Nat
 td:TD
 ty:Option Ty
 zero:List V
def Y3 {α:Type} :List (Nat×α)→Nat→Option α
 | [],_=>none
 | (k,v)::r,n=>bif Nat.beq k n then some v else Y3 r n
structure FSpec where
 ps:List MG
 rs:List MG
 outs:List MG
 fn:S9 ps→Option (S9 (rs++outs))
structure Env where
 nt:Nat
 eqs:List (Nat×List Ty)
 tt:List (Nat×TI)
 gl:List (Nat×(t:Ty)×List t.den)
 fs:List (Nat×FSpec)
 om:List (Nat×M):=[]
 tk:List Nat:=[]
 ms:List ((Nat×String)×Nat×Option Nat):=[]
 kp:List Nat:=[]
abbrev BOX:Nat:=1000000
abbrev CB:Nat:=1000000
abbrev JA:Nat:=1000000000000
def Ty.castL {R:Type u} (a b:Ty) (xs:List a.den) (k:List b.den→R) (f:R):R:=if h:a=b then k (h▸xs)else f
def Rn {R:Type u} (a b:Ty) (x:a.den) (k:b.den→R) (f:R):R:=if h:a=b then k (h▸x)else f
def flat:(t:Ty)→t.den→List V→List V
 | .bool,x,r=> .b x::r
 | .int k,n,r=> .i k n::r
 | .str,l,r=> .s l::r
 | .sl t,xs,r=> .sl t xs::r
 | .prod a b,x,r=>flat a x.1 (flat b x.2 r)
 | .unit,_,r=>r
def aX {α:Type} (vw:Option (Nat×Nat)) (xs:List α):List α:=match vw with | none=>xs | some (lo,hi)=>gq xs lo hi
def Dx:(m:M)→m.den→List V→List V
 | .dat t,x,r=>flat t x r
 | .pair a b,x,r=>Dx a x.1 (Dx b x.2 r)
 | .unit,_,r=>r
 | _,_,r=> .undef::r
def ZZ {R:Type u} (a b:M) (xs:List a.den) (k:List b.den→R) (f:R):R:=match h:M.beq a b with
 | true=>k (M.beq_eq h▸xs)
 | false=>f
def Ya {R:Type u} (m:M) (t:Ty) (xs:List m.den) (k:List t.den→R) (f:R):R:=
 if h:m.el=true∧m.ty=t then k (cast (congrArg List ((M.denEq m h.1).trans (congrArg Ty.den h.2))) xs)else f
def M.owned:M→List Ty
 | .own t=>[t]
 | .owns m=>m.ty::m.owned
 | .pair a b=>a.owned++b.owned
 | _=>[]
def Vk (ln:Ty→Bool):List Ty→Bool | []=>true | t::r=>bif ln t then Vk ln r else false
def jl {α:Type} (ln:Ty→Bool):(t:Ty)→List V→(t.den→List V→Cmd α)→Cmd α
 | .bool,cs,K=>match cs with | .b x::r=>K x r | _=> .fail
 | .int k,cs,K=>match cs with | .i k' n::r=>(bif decide (k=k')then K n r else Cmd.fail) | _=> .fail
 | .str,cs,K=>match cs with | .s l::r=>K l r | _=> .fail
 | .prod a b,cs,K=>jl ln a cs fun x r=>jl ln b r fun y r' =>K (x,y) r'
 | .unit,cs,K=>K () cs
 | .sl t,cs,K=>match cs with
  | .nl::r=>K [] r
  | .sl t' xs::r=>Ty.castL t' t xs (fun ys=>K ys r) Cmd.fail
  | .own bx vw::r=> .get (BOX+bx) fun
   | .barr t' xs=>Ty.castL t' t xs (fun ys=>bif ln t then K (aX vw ys) r else Cmd.set (BOX+bx) (.bfrz t ys) (K (aX vw ys) r)) Cmd.fail
   | .bfrz t' xs=>Ty.castL t' t xs (fun ys=>K (aX vw ys) r) Cmd.fail
   | .barrs el xs none=>Ya el t xs (fun ys=>bif ln t&&Vk ln el.owned then K (aX vw ys) r else Cmd.set (BOX+bx) (.bfrz t ys) (K (aX vw ys) r)) Cmd.fail
   | _=> .fail
  | _=> .fail
def wK:Ty→Bool:=fun _=>false
def a2N {α:Type} (t:Ty) (v:V) (K:List t.den→Cmd α):Cmd α:=match v with
 | .nl=>K []
 | .ne _=>K []
 | .sl t' xs=>Ty.castL t' t xs K Cmd.fail
 | .own bx vw=> .get (BOX+bx) fun
  | .barr t' xs=>Ty.castL t' t xs (fun ys=>K (aX vw ys)) Cmd.fail
  | .bfrz t' xs=>Ty.castL t' t xs (fun ys=>K (aX vw ys)) Cmd.fail
  | _=> .fail
 | _=> .fail
def rpC {α:Type} (t:Ty) (v:V) (K:t.den→Cmd α):Cmd α:=match v with
 | .dp t' x 0=>Rn t' t x K .fail
 | .ptr bx 0=> .get (BOX+bx) fun
  | .bfc t' x=>Rn t' t x K .fail
  | .bcells bs=>jl wK t bs fun x q=>(match q with
   | []=> .get (BOX+bx) fun
    | .bcells _=>Cmd.set (BOX+bx) (.bfc t x) (K x)
    | _=> .fail
   | _=> .fail)
  | _=> .fail
 | _=> .fail
def JF {α:Type} :(ts:List Ty)→List ((t:Ty)×t.den)→(KX ts→Cmd α)→Cmd α
 | [],cs,K=>match cs with | []=>K () | _=> .fail
 | [t],cs,K=>match cs with | [⟨t',x⟩]=>Rn t' t x K .fail | _=> .fail
 | t::t' ::r,cs,K=>match cs with
  | ⟨u,x⟩::cs=>Rn u t x (fun x=>JF (t' ::r) cs fun y=>K (x,y)) .fail
  | []=> .fail
def KW:(ts:List Ty)→KX ts→List ((t:Ty)×t.den)
 | [],_=>[]
 | [t],x=>[⟨t,x⟩]
 | t::t' ::r,x=>⟨t,x.1⟩::KW (t' ::r) x.2
def exM {α:Type} (ln:Ty→Bool):(m:M)→List V→(m.den→List V→Cmd α)→Cmd α
 | .dat t,cs,K=>jl ln t cs K
 | .own t,cs,K=>match cs with
  | .nl::r=>K [] r
  | .own bx vw::r=> .get (BOX+bx) fun
   | .barr t' xs=>Ty.castL t' t xs (fun ys=>Cmd.set (BOX+bx) .dead (K (aX vw ys) r)) Cmd.fail
   | _=> .fail
  | _=> .fail
 | .pair a b,cs,K=>exM wK a cs fun x r=>exM wK b r fun y r' =>K (x,y) r'
 | .unit,cs,K=>K () cs
 | .box m,cs,K=>match cs with
  | .ptr bx 0::r=> .get (BOX+bx) fun
   | .bcells bs=>Cmd.set (BOX+bx) .dead (exM wK m bs fun x q=>match q with | []=>K x r | _=> .fail)
   | _=> .fail
  | _=> .fail
 | .owns m,cs,K=>match cs with
  | .nl::r=>bif m.el then K [] r else .fail
  | .own bx none::r=> .get (BOX+bx) fun
   | .barrs m' xs none=>ZZ m' m xs (fun ys=>Cmd.set (BOX+bx) .dead (K ys r)) Cmd.fail
   | _=> .fail
  | _=> .fail
 | .ownb t,cs,K=>match cs with
  | .nl::r=>K [] r
  | .own bx none::r=> .get (BOX+bx) fun
   | .barr t' xs=>Ty.castL t' t xs (fun ys=>Cmd.set (BOX+bx) (.gone t) (K ys r)) Cmd.fail
   | _=> .fail
  | _=> .fail
 | .rp t,cs,K=>match cs with
  | v::r=>rpC t v fun x=>K x r
  | _=> .fail
 | .fn f ts,cs,K=>match cs with
  | .clos g caps::r=>bif Nat.beq g f then JF ts caps fun x=>K x r else .fail
  | _=> .fail
 | .ifc t m,cs,K=>match cs with
  | .ifc t' v::r=>bif Nat.beq t' t then exM wK m [v] fun x q=>(match q with | []=>K x r | _=> .fail)else .fail
  | _=> .fail
 | .cell (some none),cs,K=>match cs with
  | .nl::r=>K () r
  | _=> .fail
 | .cell (some (some b)),cs,K=>match cs with
  | .ne true::r=>bif b then K () r else .fail
  | .ne false::r=>bif b then .fail else K () r
  | _=> .fail
 | .cell none,cs,K=>match cs with
  | _::r=>K () r
  | _=> .fail
def cellsOf (v:V):List V:=match v with | .agg cs=>cs | v=>[v]
def uo {α:Type} (n:Nat) (v:V) (K:Cmd α):Cmd α:=.get (BOX+n) fun
 | .undef=> .set (BOX+n) v K
 | _=> .fail
def emM {α:Type} :(m:M)→m.den→Nat→List V→(List V→Nat→Cmd α)→Cmd α
 | .dat t,x,n,r,K=>K (flat t x r) n
 | .own t,xs,n,r,K=>uo n (.barr t xs) (K (.own n none::r) (n+1))
 | .pair a b,x,n,r,K=>emM b x.2 n r fun r' n' =>emM a x.1 n' r' K
 | .unit,_,n,r,K=>K r n
 | .box m,x,n,r,K=>emM m x (n+1) [] fun cs n' =>uo n (.bcells cs) (K (.ptr n 0::r) n')
 | .owns m,xs,n,r,K=>uo n (.barrs m xs none) (.set (BOX+(JA+n)) (.blen (o8 xs) m.size) (K (.own n none::r) (n+1)))
 | .ownb t,xs,n,r,K=>uo n (.barr t xs) (K (.own n none::r) (n+1))
 | .rp t,x,n,r,K=>K (.dp t x 0::r) n
 | .fn f ts,x,n,r,K=>K (.clos f (KW ts x)::r) n
 | .ifc t m,x,n,r,K=>emM m x n [] fun cs n' =>match cs with | [c]=>K (.ifc t c::r) n' | _=> .fail
 | .cell (some none),_,n,r,K=>K (.nl::r) n
 | .cell (some (some b)),_,n,r,K=>K (.ne b::r) n
 | .cell none,_,n,r,K=>K (.undef::r) n
structure Sig where
 ms:List (Nat×MG)
 als:List (Nat×Nat)
@[reducible] def jc (s:Sig):Type:=S9 (s.ms.map (·.2))
def TB {α:Type} (ag:Bool) (v:V) (K:List V→Cmd α):Cmd α:=match ag,v with
 | true,.agg cs=>K cs
 | true,_=> .fail
 | false,.agg _=> .fail
 | false,.tup _=> .fail
 | false,.undef=> .fail
 | false,.un=> .fail
 | false,v=>K [v]
def BX {α:Type} (v:V) (K:List V→Cmd α):Cmd α:=match v with
 | .agg cs=>K cs
 | .tup _=> .fail
 | .undef=> .fail
 | .un=> .fail
 | v=>K [v]
def M.isDat:M→Bool | .dat _=>true | _=>false
def Oq {α:Type} (ln:Ty→Bool) (m:MG) (v:V) (K:m.2.den→Cmd α):Cmd α:=
 TB m.1 v fun cs=>exM ln m.2 cs fun x q=>match q with | []=>K x | _=> .fail
def Gq {α:Type} (ln:Ty→Bool):(ms:List MG)→List V→(S9 ms→Cmd α)→Cmd α
 | [],vs,K=>match vs with | []=>K () | _=> .fail
 | [m],vs,K=>match vs with
  | [v]=>Oq ln m v K
  | _=> .fail
 | m::m' ::r,vs,K=>match vs with
  | v::vs=>bif m.2.isDat then Gq ln (m' ::r) vs fun y=>Oq ln m v fun x=>K (x,y)
   else Oq ln m v fun x=>Gq ln (m' ::r) vs fun y=>K (x,y)
  | []=> .fail
def TS {α:Type} :List Nat→(List V→Cmd α)→Cmd α
 | [],K=>K []
 | s::r,K=>bif Nat.blt s BOX then .get s fun v=>TS r fun vs=>K (v::vs)else .fail
def b7y:V→V→Bool
 | .own a none,.own b none=>Nat.beq a b
 | _,_=>false
def a8d {α:Type} :List (Nat×Nat)→Cmd α→Cmd α
 | [],K=>K
 | (n,k)::r,K=>bif Nat.blt n BOX&&Nat.blt k BOX then .get n fun v=> .get k fun u=>bif b7y v u then a8d r K else .fail else .fail
def a4e (s:Sig):Cmd (jc s):=a8d s.als (TS (s.ms.map (·.1)) fun vs=>Gq wK (s.ms.map (·.2)) vs .ret)
def mkV (ag:Bool) (cs:List V):V:=match ag,cs with | true,cs=> .agg cs | false,[v]=>v | false,_=> .undef
def Gp {α:Type} :(ms:List MG)→S9 ms→Nat→(List V→Nat→Cmd α)→Cmd α
 | [],_,n,K=>K [] n
 | [m],x,n,K=>emM m.2 x n [] fun cs n' =>K [mkV m.1 cs] n'
 | m::m' ::r,x,n,K=>emM m.2 x.1 n [] fun cs n' =>Gp (m' ::r) x.2 n' fun vs n'' =>K (mkV m.1 cs::vs) n''
def PZ:List Nat→List V→Cmd Unit
 | [],[]=> .ret ()
 | n::ns,v::vs=>bif Nat.blt n BOX then .set n v (PZ ns vs)else .fail
 | _,_=> .fail
def Ny:List Nat→List V→Cmd Unit→Cmd Unit
 | [],[],K=>K
 | n::ns,v::vs,K=>bif Nat.blt n BOX then .set n v (Ny ns vs K)else .fail
 | _,_,_=> .fail
def UN:List (Nat×Nat)→Cmd Unit
 | []=> .ret ()
 | (n,k)::r=>bif Nat.blt n BOX&&Nat.blt k BOX then .get k fun v=> .set n v (UN r)else .fail
def a3Y (s:Sig) (x:jc s) (nb lim:Nat):Cmd Unit:=
 Gp (s.ms.map (·.2)) x nb fun vs n=>bif Nat.ble n lim then Ny (s.ms.map (·.1)) vs (UN s.als)else .fail
def XN:Value→V
 | .bool b=> .b b
 | .int k n=> .i k n
 | .string s=> .s s.data.toList
 | .slice none 0 0=> .nl
 | _=> .undef
def nH {α:Type} (x:Operand) (K:V→Cmd α):Cmd α:=
 match x with
 | .tmp t=>bif Nat.blt t BOX then .get t K else .fail
 | .const v=>K (XN v)
 | .global g=>K (.glob g)
 | .func f=>K (.fnv f)
def LW {α:Type} :List Operand→(List V→Cmd α)→Cmd α
 | [],K=>K []
 | x::r,K=>nH x fun v=>LW r fun vs=>K (v::vs)
def Oi (n:Nat) (cs:List V):Option (List V):=match n,cs with
 | 0,cs=>some cs
 | n+1,_::cs=>Oi n cs
 | _+1,[]=>none
def Xx {R:Type u} (n:Nat) (cs:List V) (K:List V→R) (f:R):R:=match n,cs with
 | 0,_=>K []
 | n+1,c::cs=>Xx n cs (fun r=>K (c::r)) f
 | _+1,[]=>f
def QT {R:Type u} (off n:Nat) (cs:List V) (K:List V→R) (f:R):R:=match Oi off cs with | some r=>Xx n r K f | none=>f
def Ky {R:Type u} (off:Nat) (vs cs:List V) (K:List V→R) (f:R):R:=match off,vs,cs with
 | 0,[],cs=>K cs
 | 0,v::vs,_::cs=>Ky 0 vs cs (fun r=>K (v::r)) f
 | n+1,vs,c::cs=>Ky n vs cs (fun r=>K (c::r)) f
 | _,_,[]=>f
def yf:Operand→Bool
 | .const (.int _ n)=>decide (n=0)
 | _=>true
def Bj:Operand→Bool
 | .const (.int _ n)=>decide (n<0)
 | _=>true
def eq1:V→V→Option Bool
 | .b x,.b y=>some (bZ x y)
 | .i j x,.i k y=>bif decide (j=k)then some (ieq x y)else none
 | .s x,.s y=>some (seq x y)
 | _,_=>none
def tH:List V→List V→Option Bool
 | [],[]=>some true
 | a::r,b::q=>match eq1 a b with
  | none=>none
  | some e=>match r,q with
   | [],[]=>some e
   | _,_=>(match tH r q with | some e' =>some (aK e e') | none=>none)
 | _,_=>none
def uH:List Ty→List V→Bool
 | [],[]=>true
 | .bool::ts,.b _::cs=>uH ts cs
 | .int k::ts,.i k' _::cs=>decide (k=k')&&uH ts cs
 | .str::ts,.s _::cs=>uH ts cs
 | _,_=>false
def zi (n:Nat):List Nat→Bool | []=>false | k::r=>bif Nat.beq k n then true else zi n r
def a4L {α:Type} (E:Env) (t:Nat) (op:BinOp) (b:Bool) (K:V→Cmd α):Cmd α:=
 match Y3 E.tt t with
 | some i=>match i.td,op with
  | .sl _,.eql=>K (.b b)
  | .sl _,.neq=>K (.b (D6 b))
  | _,_=> .fail
 | none=> .fail
def FX {α:Type} (E:Env) (t:Nat) (op:BinOp) (yc:Operand) (x y:V) (K:V→Cmd α):Cmd α:=
 match x,y with
 | .i k a,.i k' b=>
  match op with
  | .shl=>bif Bj yc then Cmd.opt (OJ k a b) fun r=>K (.i k r)else K (.i k (a4r k a b))
  | .shr=>bif Bj yc then Cmd.opt (OL k a b) fun r=>K (.i k r)else K (.i k (jY k a b))
  | _=>
  bif decide (k=k')then
   match op with
   | .add=>K (.i k (x9 k a b))
   | .sub=>K (.i k (G5 k a b))
   | .mul=>K (.i k (L9 k a b))
   | .quo=>bif yf yc then Cmd.opt (fH k a b) fun r=>K (.i k r)else K (.i k (V5 k a b))
   | .rem=>bif yf yc then Cmd.opt (qf a b) fun r=>K (.i k r)else K (.i k (V6 a b))
   | .and=>K (.i k (VU k a b))
   | .or=>K (.i k (ior k a b))
   | .xor=>K (.i k (a4s k a b))
   | .andNot=>K (.i k (a0j k a b))
   | .eql=>K (.b (ieq a b))
   | .neq=>K (.b (D6 (ieq a b)))
   | .lss=>K (.b (ilt a b))
   | .leq=>K (.b (ile a b))
   | .gtr=>K (.b (ilt b a))
   | .geq=>K (.b (ile b a))
   | _=> .fail
  else .fail
 | .s a,.s b=>
  match op with
  | .add=>Cmd.opt (d2Q a b) fun r=>K (.s r)
  | .eql=>K (.b (seq a b))
  | .neq=>K (.b (D6 (seq a b)))
  | .lss=>K (.b (slt a b))
  | _=> .fail
 | .b a,.b b=>
  match Y3 E.tt t with
  | some i=>match i.td,op with
   | .bool,.eql=>K (.b (bZ a b))
   | .bool,.neq=>K (.b (D6 (bZ a b)))
   | _,_=> .fail
  | none=> .fail
 | .agg xs,.agg ys=>
  match Y3 E.eqs t with
  | some sh=>bif uH sh xs&&uH sh ys then(match op,tH xs ys with
   | .eql,some e=>K (.b e)
   | .neq,some e=>K (.b (D6 e))
   | _,_=> .fail)else .fail
  | none=> .fail
 | .nl,.nl=>a4L E t op true K
 | .ne b,.nl=>a4L E t op b K
 | .sl _ xs,.nl=> .br (ieq (o8 xs) 0) .fail (a4L E t op false K)
 | _,_=> .fail
def unC {α:Type} (op:UnOp) (x:V) (K:V→Cmd α):Cmd α:=
 match op,x with
 | .neg,.i k a=>K (.i k (G5 k 0 a))
 | .xor,.i k a=>K (.i k (a4s k (bif k.signed then -1 else k.max) a))
 | .not,.b a=>K (.b (D6 a))
 | _,_=> .fail
def Sv (E:Env) (t:Nat):Bool:=bif Nat.blt t E.nt then !(zi t E.kp)else false
def aj (E:Env) (d:Option Tmp) (v:V):Cmd Unit:=match d with | some t=>bif Sv E t then .set t v (.ret ())else .fail | none=> .ret ()
def J8 (q:Nat) (d:Option Tmp):Nat:=match d with | some t=>CB*q+64*t | none=>CB*q+999936
def tiC {α:Type} (E:Env) (t:Nat) (K:TI→Cmd α):Cmd α:=match Y3 E.tt t with | some i=>K i | none=> .fail
def dR:TD→Bool | .struct _ | .arr _ _=>true | _=>false
def IR {α:Type} (E:Env) (t:Nat) (p:V) (K:V→Cmd α):Cmd α:=
 tiC E t fun i=>match p with
 | .ptr bx off=> .get (BOX+bx) fun
  | .bcells cs=>QT off i.size cs (fun r=>K (mkV (dR i.td) r)) Cmd.fail
  | .bfc u x=>QT off i.size (flat u x []) (fun r=>K (mkV (dR i.td) r)) Cmd.fail
  | _=> .fail
 | .ep bx idx off=> .get (BOX+bx) fun
  | .barr u xs=>Cmd.opt (J4 xs idx) fun x=>QT off i.size (flat u x []) (fun r=>K (mkV (dR i.td) r)) Cmd.fail
  | .bfrz u xs=>Cmd.opt (J4 xs idx) fun x=>QT off i.size (flat u x []) (fun r=>K (mkV (dR i.td) r)) Cmd.fail
  | .barrs m xs _=>Cmd.opt (J4 xs idx) fun x=>QT off i.size (Dx m x []) (fun r=>K (mkV (dR i.td) r)) Cmd.fail
  | _=> .fail
 | .dp u x off=>QT off i.size (flat u x []) (fun r=>K (mkV (dR i.td) r)) Cmd.fail
 | _=> .fail
def Pq {R:Type u} :(m:M)→Nat→m.den→(V→R)→R→R
 | .own t,off,xs,K,f=>bif Nat.beq off 0 then K (.barr t xs)else f
 | .owns m,off,xs,K,f=>bif Nat.beq off 0 then K (.barrs m xs none)else f
 | .pair a b,off,x,K,f=>bif Nat.blt off a.size then Pq a off x.1 K f else Pq b (off -a.size) x.2 K f
 | _,_,_,_,f=>f
def Ym {R:Type u} :(m:M)→Nat→V→m.den→(m.den→R)→R→R
 | .own t,off,v,_,K,f=>bif Nat.beq off 0 then(match v with | .barr t' ys=>Ty.castL t' t ys K f | .nl=>K [] | _=>f)else f
 | .owns m,off,v,_,K,f=>bif Nat.beq off 0 then(match v with | .barrs m' ys none=>ZZ m' m ys K f | .nl=>K [] | _=>f)else f
 | .pair a b,off,v,x,K,f=>bif Nat.blt off a.size then Ym a off v x.1 (fun y=>K (y,x.2)) f else Ym b (off -a.size) v x.2 (fun y=>K (x.1,y)) f
 | _,_,_,_,_,f=>f
def a2b {α:Type} :(m:M)→Nat→List V→m.den→(m.den→Cmd α)→Cmd α
 | .dat t,off,vs,x,K=>bif t.flat then Ky off vs (flat t x []) (fun r=>jl wK t r fun y q=>match q with | []=>K y | _=> .fail) .fail else .fail
 | .pair a b,off,vs,x,K=>bif Nat.blt off a.size then a2b a off vs x.1 (fun y=>K (y,x.2))else a2b b (off -a.size) vs x.2 (fun y=>K (x.1,y))
 | _,_,_,_,_=> .fail
def M.ownAt:M→Nat→Bool
 | .own _,off=>Nat.beq off 0
 | .owns _,off=>Nat.beq off 0
 | .pair a b,off=>bif Nat.blt off a.size then a.ownAt off else b.ownAt (off -a.size)
 | _,_=>false
def b0b {α:Type} (E:Env) (d:Option Tmp) (nm t:Nat) (p:V) (K:V→Cmd α):Cmd α:=
 match p with
 | .ep bx idx off=> .get (BOX+bx) fun
  | .barrs m xs none=>bif m.ownAt off then tiC E t fun i=>(bif Nat.beq i.size 1&&!dR i.td then
     (bif zi (match d with | some d=>d | none=>BOX) E.tk then
      Cmd.opt (J4 xs idx) fun x=>Pq m off x (fun v=>Cmd.set (BOX+bx) (.barrs m xs (some (idx,off))) (uo nm v (K (.own nm none)))) .fail
     else jl wK (.sl m.ty) [.own bx none] fun _ _=>IR E t p K)else .fail)
    else IR E t p K
  | _=>IR E t p K
 | _=>IR E t p K
def Yk (h:Option (Nat×Nat)) (idx off:Nat):Bool:=match h with | none=>true | some (i,o)=>bif Nat.beq o off then FZ i idx else false
def Va (bx idx off:Nat) (m:M) (xs:List m.den) (hole:Option (Nat×Nat)) (v:V) (K:Cmd Unit):Cmd Unit:=
 .br (Yk hole idx off) (Cmd.opt (J4 xs idx) fun x=>Ym m off v x (fun y=>Cmd.set (BOX+bx) (.barrs m (P6 xs idx y) none) K) .fail) .fail
def c6W:V→Bool | .barr ..=>true | .barrs _ _ none=>true | _=>false
def a7J (E:Env) (t:Nat) (p v:V):Cmd Unit:=
 tiC E t fun i=>match p with
 | .ptr bx off=> .get (BOX+bx) fun
  | .bcells cs=>BX v fun vs=>bif Nat.beq vs.length i.size then Ky off vs cs (fun r=>Cmd.set (BOX+bx) (.bcells r) (.ret ())) Cmd.fail else .fail
  | _=> .fail
 | .ep bx idx off=> .get (BOX+bx) fun
  | .barr u xs=>Cmd.opt (J4 xs idx) fun x=>BX v fun vs=>bif Nat.beq vs.length i.size then Ky off vs (flat u x []) (fun r=>
    jl wK u r fun y q=>match q with
     | []=> .get (BOX+bx) fun
      | .barr u' xs' =>Ty.castL u' u xs' (fun xs' =>Cmd.set (BOX+bx) (.barr u (P6 xs' idx y)) (.ret ())) Cmd.fail
      | _=> .fail
     | _=> .fail) Cmd.fail else .fail
  | .barrs m xs hole=>bif m.ownAt off&&Nat.beq i.size 1&&!dR i.td then(match v with
    | .nl=>Va bx idx off m xs hole .nl (.ret ())
    | .own b2 none=> .get (BOX+b2) fun w=>bif c6W w then Cmd.set (BOX+b2) .dead (.get (BOX+bx) fun
     | .barrs m xs hole=>Va bx idx off m xs hole w (.ret ())
     | _=> .fail)else .fail
    | _=> .fail)
   else BX v fun vs=>bif Nat.beq vs.length i.size then Cmd.opt (J4 xs idx) fun x=>a2b m off vs x fun y=>Cmd.set (BOX+bx) (.barrs m (P6 xs idx y) hole) (.ret ())else .fail
  | _=> .fail
 | _=> .fail
def Ec (E:Env) (t f:Nat):Option (Nat×Nat×Bool):=
 match Y3 E.tt t with
 | some i=>match i.td with
  | .struct fs=>match fs[f]? with
   | some (ft,off)=>match Y3 E.tt ft with | some j=>bif Nat.beq j.size 0 then none else some (off,j.size,dR j.td) | none=>none
   | none=>none
  | _=>none
 | none=>none
def We (vw:Option (Nat×Nat)):Nat:=match vw with | none=>0 | some (lo,_)=>lo
def b8T (vw:Option (Nat×Nat)) (n:Nat):Nat:=match vw with | none=>n | some (lo,_)=>lo+n
theorem a8G (vw:Option (Nat×Nat)) (n:Nat):b8T vw n=We vw+n:=by cases vw <;> simp[b8T,We]
def Cb (E:Env) (t:Nat):Option (Bool×Nat×Nat):=
 match Y3 E.tt t with
 | some i=>match i.td with
  | .sl e=>match Y3 E.tt e with | some j=>some (false,0,j.size) | none=>none
  | .arr n e=>match Y3 E.tt e with | some j=>some (true,n,j.size) | none=>none
  | _=>none
 | none=>none
def OI {α:Type} (E:Env) (t:Nat) (x ix:V) (K:V→Cmd α):Cmd α:=
 match ix,Cb E t with
 | .i _ n,some (false,_,sz)=>match x with
  | .sl u xs=>bif Nat.beq sz u.size then Cmd.opt (lat xs n) fun y=>K (.dp u y 0)else .fail
  | .own bx vw=> .get (BOX+(JA+bx)) fun
   | .blen ln sz' =>(match vw with | none=>bif Nat.beq sz sz' then .br (inb n ln) (K (.ep bx (toN n) 0)) .fail else .fail | _=> .fail)
   | _=> .get (BOX+bx) fun
   | .barr u xs=>bif Nat.beq sz u.size then Cmd.opt (lat (aX vw xs) n) fun _=>K (.ep bx (b8T vw (toN n)) 0)else .fail
   | .bfrz u xs=>bif Nat.beq sz u.size then Cmd.opt (lat (aX vw xs) n) fun y=>K (.dp u y 0)else .fail
   | .barrs m xs _=>(match vw with | none=>bif Nat.beq sz m.size then Cmd.opt (lat xs n) fun _=>K (.ep bx (toN n) 0)else .fail | _=> .fail)
   | _=> .fail
  | _=> .fail
 | .i _ n,some (true,l,sz)=>match x with
  | .glob g=>match Y3 E.gl g with
   | some ⟨u,xs⟩=>bif Nat.beq sz u.size&&Nat.beq l xs.length then Cmd.opt (lat xs n) fun y=>K (.dp u y 0)else .fail
   | none=> .fail
  | _=> .fail
 | _,_=> .fail
def c6Y {α:Type} (td:TD) (x:V) (K:V→Cmd α):Cmd α:=
 match td,x with
 | .str,.s l=>K (.i .i64 (o8 l))
 | .sl _,.sl _ xs=>K (.i .i64 (o8 xs))
 | .sl _,.nl=>K (.i .i64 0)
 | .sl _,.own bx vw=> .get (BOX+(JA+bx)) fun
  | .blen ln _=>(match vw with | none=>K (.i .i64 ln) | _=> .fail)
  | _=> .get (BOX+bx) fun
  | .barr _ xs=>K (.i .i64 (o8 (aX vw xs)))
  | .bfrz _ xs=>K (.i .i64 (o8 (aX vw xs)))
  | .barrs _ xs _=>(match vw with | none=>K (.i .i64 (o8 xs)) | _=> .fail)
  | _=> .fail
 | _,_=> .fail
def uT (d:Int):Option V→Option Int
 | none=>some d
 | some (.i _ n)=>some n
 | some _=>none
def KP {α:Type} (E:Env) (t:Nat) (x:V) (lo hi:Option V) (K:V→Cmd α):Cmd α:=
 match x with
 | .s l=>tiC E t fun i=>match i.td,uT 0 lo,uT (o8 l) hi with
  | .str,some a,some b=>Cmd.opt (Ei l a b) fun r=>K (.s r)
  | _,_,_=> .fail
 | .sl u l=>match Cb E t,uT 0 lo,uT (o8 l) hi with
  | some (false,_,sz),some a,some b=>bif Nat.beq sz u.size then Cmd.opt (Ei l a b) fun r=>K (.sl u r)else .fail
  | _,_,_=> .fail
 | .own bx none=> .get (BOX+bx) fun
  | .barr u xs=>match Cb E t,uT 0 lo,uT (o8 xs) hi with
   | some (false,_,sz),some a,some b=>bif Nat.beq sz u.size then .br (ja a b (o8 xs)) (K (.own bx (some (toN a,toN b)))) .fail else .fail
   | _,_,_=> .fail
  | .bfrz u xs=>match Cb E t,uT 0 lo,uT (o8 xs) hi with
   | some (false,_,sz),some a,some b=>bif Nat.beq sz u.size then .br (ja a b (o8 xs)) (K (.own bx (some (toN a,toN b)))) .fail else .fail
   | _,_,_=> .fail
  | _=> .fail
 | _=> .fail
def GV (E:Env) (t:Nat):Option (Nat×Ty):=
 match Y3 E.tt t with
 | some i=>match i.td with
  | .sl e=>match Y3 E.tt e with
   | some j=>match j.ty with | some u=>bif (Nat.beq u.size j.size&&Nat.ble j.bytes 65536)then some (e,u)else none | none=>none
   | none=>none
  | _=>none
 | none=>none
def ZW (E:Env) (nm:Nat) (t:Nat) (x y:V) (K:V→Cmd Unit):Cmd Unit:=
 match GV E t with
 | none=> .fail
 | some (_,u)=>match Y3 E.om t with
  | none=>
   a2N u y fun ys=>
   match x with
   | .nl=>Cmd.opt (X9 [] ys) fun zs=>uo nm (.barr u zs) (K (.own nm none))
   | .own bx vw=> .get (BOX+bx) fun
    | .barr u' xs=>Ty.castL u' u xs (fun xs=>Cmd.opt (X9 (aX vw xs) ys) fun zs=>Cmd.set (BOX+bx) .dead (uo nm (.barr u zs) (K (.own nm none)))) Cmd.fail
    | _=> .fail
   | _=> .fail
  | some m=>bif Nat.beq m.size u.size then exM wK (.owns m) [y] fun ys _=>exM wK (.owns m) [x] fun xs _=>Cmd.opt (X9 xs ys) fun zs=>uo nm (.barrs m zs none) (K (.own nm none))else .fail
def rE {α:Type} (u:Ty):List (Nat×V)→Nat→Nat→(List u.den→Cmd α)→Cmd α
 | [],_,0,K=>K []
 | (i,v)::r,n,m+1,K=>bif Nat.beq i n then BX v fun cs=>jl wK u cs fun x q=>match q with | []=>rE u r (n+1) m fun xs=>K (x::xs) | _=> .fail else .fail
 | _,_,_,_=> .fail
def nN {α:Type} (m:M):List (Nat×V)→Nat→Nat→(List m.den→Cmd α)→Cmd α
 | [],_,0,K=>K []
 | (i,v)::r,n,k+1,K=>bif Nat.beq i n then BX v fun cs=>exM wK m cs fun x q=>match q with | []=>nN m r (n+1) k fun xs=>K (x::xs) | _=> .fail else .fail
 | _,_,_,_=> .fail
def ZP (E:Env):List (Nat×Nat)→Bool
 | []=>true
 | (t,_)::r=>match Y3 E.tt t with | some _=>ZP E r | none=>false
def wR {α:Type} (E:Env) (t:Nat):List (Nat×V)→List V→(List V→Cmd α)→Cmd α
 | [],cs,K=>K cs
 | (f,v)::r,cs,K=>match Ec E t f with
  | some (off,n,_)=>BX v fun vs=>bif Nat.beq vs.length n then Ky off vs cs (fun cs' =>wR E t r cs' K) .fail else .fail
  | none=> .fail
def U9 {α:Type} :List MG→List V→List V→Cmd α→Cmd α
 | (_,.box _)::ms,.ptr bx _::vs,.agg cs::os,K=> .get (BOX+bx) fun
  | .dead=>Cmd.set (BOX+bx) (.bcells cs) (U9 ms vs os K)
  | _=> .fail
 | (_,.box _)::_,_,_,_=> .fail
 | (_,.ifc _ (.box _))::ms,.ifc _ (.ptr bx _)::vs,.agg cs::os,K=> .get (BOX+bx) fun
  | .dead=>Cmd.set (BOX+bx) (.bcells cs) (U9 ms vs os K)
  | _=> .fail
 | (_,.ifc _ (.box _))::_,_,_,_=> .fail
 | (_,.ownb _)::ms,.own bx none::vs,.own nm none::os,K=> .get (BOX+nm) fun
  | .barr u xs=>Cmd.set (BOX+nm) .dead (.get (BOX+bx) fun
   | .gone t=>Ty.castL u t xs (fun xs=>Cmd.set (BOX+bx) (.barr t xs) (U9 ms vs os K)) .fail
   | _=> .fail)
  | _=> .fail
 | (_,.ownb _)::ms,.nl::vs,.own nm none::os,K=>Cmd.set (BOX+nm) .dead (U9 ms vs os K)
 | (_,.ownb _)::_,_,_,_=> .fail
 | _::ms,_::vs,os,K=>U9 ms vs os K
 | [],[],[],K=>K
 | _,_,_,_=> .fail
def Ty.occ (t:Ty):Ty→Bool
 | .sl u=>decide (t=u) || Ty.occ t u
 | .prod a b=>Ty.occ t a || Ty.occ t b
 | _=>false
def LU (t:Ty):List Ty→Bool | []=>false | u::r=>decide (t=u) || Ty.occ t u || LU t r
def M.occ (t:Ty):M→Bool
 | .dat u=>Ty.occ t u
 | .own u=>Ty.occ t u
 | .pair a b=>a.occ t || b.occ t
 | .unit=>false
 | .box m=>m.occ t
 | .owns m=>m.occ t
 | .ownb u=>Ty.occ t u
 | .rp u=>decide (t=u) || Ty.occ t u
 | .fn _ ts=>LU t ts
 | .ifc _ m=>m.occ t
 | .cell _=>false
def Ep (t:Ty):List MG→Bool | []=>false | m::r=>m.2.occ t || Ep t r
def TZ (s:FSpec):Ty→Bool:=fun t=> !(Ep t s.rs || Ep t s.outs)
def Dl:Nat→List V→Option (List V×List V)
 | 0,vs=>some ([],vs)
 | n+1,v::vs=>match Dl n vs with | some (a,b)=>some (v::a,b) | none=>none
 | _+1,[]=>none
def Ai:List V→Bool | []=>false | .tup _::_=>true | _::r=>Ai r
def a9a:List V→V | [v]=>v | vs=> .tup vs
def Oz:List MG→List V→Bool
 | (_,.fn g _)::ms,.clos f _::vs=>Nat.beq f g&&Oz ms vs
 | (_,.ifc t _)::ms,.ifc t' _::vs=>Nat.beq t t' &&Oz ms vs
 | _::ms,_::vs=>Oz ms vs
 | _,_=>true
def WM:List (Nat×FSpec)→Nat→List V→Option FSpec
 | [],_,_=>none
 | (g,s)::r,f,vs=>bif Nat.beq g f&&Oz s.ps vs then some s else WM r f vs
def Rk (E:Env) (q:Nat) (d:Option Tmp) (f:Nat) (vs:List V):Cmd Unit:=
 match WM E.fs f vs with
 | none=> .fail
 | some s=>
  Gq (TZ s) s.ps vs fun x=>Cmd.opt (s.fn x) fun r=>
   Gp (s.rs++s.outs) r (J8 q d) fun ws n' =>bif Nat.ble n' (J8 q d+64)then(match Dl s.rs.length ws with
    | some (a,o)=>bif Ai a then .fail else U9 s.ps vs o (aj E d (a9a a))
    | none=> .fail)else .fail
def uS {α:Type} :List MG→List V→(List ((t:Ty)×t.den)→Cmd α)→Cmd α
 | (_,.rp t)::ms,v::vs,K=>rpC t v fun x=>uS ms vs fun cs=>K (⟨t,x⟩::cs)
 | [],[],K=>K []
 | _,_,_=> .fail
def c6M (c:(t:Ty)×t.den):V:=.dp c.1 c.2 0
def OZ:List ((Nat×String)×Nat×Option Nat)→Nat→String→Option (Nat×Option Nat)
 | [],_,_=>none
 | ((t,n),r)::l,u,m=>bif Nat.beq t u&&(n==m)then some r else OZ l u m
def LQ:M→List V→Bool
 | .dat _,_=>true
 | .unit,_=>true
 | .own _,cs=>match cs with | .nl::_=>true | _=>false
 | .owns _,cs=>match cs with | .nl::_=>true | _=>false
 | .pair a b,cs=>match Oi a.size cs with | some r=>bif LQ a cs then LQ b r else false | none=>false
 | _,_=>false
def a1N (E:Env) (t:Nat) (m:M):Bool:=
 match GV E t with
 | some (e,_)=>match Y3 E.tt e with | some j=>bif Nat.beq j.zero.length j.size then LQ m j.zero else false | none=>false
 | none=>false
def PY:Operand→Operand→Bool
 | .tmp a,.tmp b=>Nat.beq a b
 | _,_=>false
def X0 (E:Env) (q:Nat) (o:Oper):Cmd Unit:=
 match o.op with
 | .move x | .assign x=>nH x fun v=>aj E o.dst v
 | .pick c a b=>nH c fun
  | .b t=>bif t then nH a fun va=>aj E o.dst va else nH b fun vb=>aj E o.dst vb
  | _=> .fail
 | .alloc t=>tiC E t fun i=>bif Nat.beq i.zero.length i.size then uo (J8 q o.dst) (.bcells i.zero) (aj E o.dst (.ptr (J8 q o.dst) 0))else .fail
 | .box _ x=>nH x fun v=>BX v fun cs=>uo (J8 q o.dst) (.bcells cs) (aj E o.dst (.ptr (J8 q o.dst) 0))
 | .build t ps=>tiC E t fun i=>match i.td with
  | .struct fs=>bif ZP E fs&&Nat.beq i.zero.length i.size then(LW (ps.toList.map (·.2)) fun vs=>
    wR E t ((ps.toList.map (·.1)).zip vs) i.zero (fun cs=>aj E o.dst (.agg cs)))else .fail
  | _=> .fail
 | .buildSlice t n ps=>match GV E t with
  | some (_,u)=>bif Nat.ble (n*u.size) 16777216 then(LW (ps.toList.map (·.2)) fun vs=>match Y3 E.om t with
    | none=>rE u ((ps.toList.map (·.1)).zip vs) 0 n fun xs=>uo (J8 q o.dst) (.barr u xs) (aj E o.dst (.own (J8 q o.dst) none))
    | some m=>bif Nat.beq m.size u.size&&m.el then nN m ((ps.toList.map (·.1)).zip vs) 0 n fun xs=>uo (J8 q o.dst) (.barrs m xs none) (aj E o.dst (.own (J8 q o.dst) none))else .fail)else .fail
  | none=> .fail
 | .load t x=>nH x fun p=>b0b E o.dst (J8 q o.dst) t p fun v=>aj E o.dst v
 | .store t x y=>match o.dst with | none=>nH x fun p=>nH y fun v=>a7J E t p v | some _=> .fail
 | .binOp op t x y _=>nH x fun a=>nH y fun b=>FX E t op y a b fun v=>aj E o.dst v
 | .unOp op _ x=>nH x fun a=>unC op a fun v=>aj E o.dst v
 | .convert src t x=>nH x fun a=>tiC E src fun j=>tiC E t fun i=>match a,i.td with
  | .i _ n,.int k=>aj E o.dst (.i k (wrap k n))
  | .s l,.str=>aj E o.dst (.s l)
  | _,.str=>(match j.td with
   | .sl e=>tiC E e fun k=>(match k.td with
    | .int .u8=>a2N (.int .u8) a fun xs=>aj E o.dst (.s (a3T xs))
    | _=> .fail)
   | _=> .fail)
  | _,_=> .fail
 | .makeSlice t l c=>match Y3 E.om t with
  | some m=>(match GV E t with
   | some (_,u)=>nH l fun
    | .i _ n=>bif PY l c&&Nat.beq m.size u.size&&a1N E t m then(if h:m.el=true∧m.ty=u then Cmd.opt (iU n (m.zero h.1)) fun xs=>uo (J8 q o.dst) (.barrs m xs none) (.set (BOX+(JA+J8 q o.dst)) (.blen (o8 xs) m.size) (aj E o.dst (.own (J8 q o.dst) none)))else .fail)else .fail
    | _=> .fail
   | none=> .fail)
  | none=>match GV E t with
  | some (_,u)=>nH l fun
   | .i _ n=>bif PY l c then
     Cmd.opt (iU n u.zero) fun xs=>uo (J8 q o.dst) (.barr u xs) (aj E o.dst (.own (J8 q o.dst) none))
    else nH c fun
     | .i _ k=>Cmd.br (ja n k 1073741824) (Cmd.opt (iU n u.zero) fun xs=>uo (J8 q o.dst) (.barr u xs) (aj E o.dst (.own (J8 q o.dst) none))) .fail
     | _=> .fail
   | _=> .fail
  | none=> .fail
 | .slice t x lo hi none=>nH x fun v=>LW (lo.toList++hi.toList) fun bs=>
   match lo,hi,bs with
   | none,none,[]=>KP E t v none none fun r=>aj E o.dst r
   | some _,none,[a]=>KP E t v (some a) none fun r=>aj E o.dst r
   | none,some _,[b]=>KP E t v none (some b) fun r=>aj E o.dst r
   | some _,some _,[a,b]=>KP E t v (some a) (some b) fun r=>aj E o.dst r
   | _,_,_=> .fail
 | .fieldAddr t x f=>nH x fun p=>match Ec E t f with
  | some (off,_,_)=>match p with
   | .ptr bx o' =>aj E o.dst (.ptr bx (o' +off))
   | .ep bx ix o' =>aj E o.dst (.ep bx ix (o' +off))
   | .dp u y o' =>aj E o.dst (.dp u y (o' +off))
   | _=> .fail
  | none=> .fail
 | .field t x f=>nH x fun p=>match Ec E t f with
  | some (off,n,ag)=>TB true p fun ps=>QT off n ps (fun cs=>aj E o.dst (mkV ag cs)) Cmd.fail
  | none=> .fail
 | .indexAddr t x ix=>nH x fun v=>nH ix fun n=>OI E t v n fun r=>aj E o.dst r
 | .index t x ix=>nH x fun v=>nH ix fun n=>tiC E t fun i=>match i.td,v,n with
  | .str,.s l,.i _ k=>Cmd.opt (sat l k) fun c=>aj E o.dst (.i .u8 c)
  | _,_,_=> .fail
 | .extract x n=>nH x fun
  | .tup vs=>match vs[n]? with | some v=>aj E o.dst v | none=> .fail
  | _=> .fail
 | .nilCheck x=>nH x fun v=>match v with
  | .ptr .. | .ep .. | .dp .. | .glob _=>aj E o.dst v
  | _=> .fail
 | .call c=>LW c.args.toList fun vs=>match c.callee with
  | .builtin .len=>(match c.argTypes.toList,vs with
   | t::_,[x]=>tiC E t fun i=>c6Y i.td x fun v=>aj E o.dst v
   | _,_=> .fail)
  | .builtin .append=>(match c.argTypes.toList,vs with
   | [t,t'],[x,y]=>bif Nat.beq t t' then ZW E (J8 q o.dst) t x y fun v=>aj E o.dst v else .fail
   | _,_=> .fail)
  | .builtin .min=>(match vs with | [.i k a,.i k' b]=>bif decide (k=k')then aj E o.dst (.i k (eX a b))else .fail | _=> .fail)
  | .builtin .max=>(match vs with | [.i k a,.i k' b]=>bif decide (k=k')then aj E o.dst (.i k (fO a b))else .fail | _=> .fail)
  | .value (.func f)=>Rk E q o.dst f vs
  | .value x=>nH x fun
   | .clos f caps=>Rk E q o.dst f (vs++caps.map c6M)
   | _=> .fail
  | .invoke x n=>nH x fun
   | .ifc t v=>(match OZ E.ms t n with
    | some (f,none)=>Rk E q o.dst f (v::vs)
    | some (f,some e)=>IR E e v fun r=>Rk E q o.dst f (r::vs)
    | none=> .fail)
   | _=> .fail
  | _=> .fail
 | .makeFunc (.func f) first caps=>bif Nat.beq first.size 0 then(match Y3 E.fs f with
   | some s=>LW caps.toList fun vs=>uS (s.ps.drop (s.ps.length -vs.length)) vs fun cs=>aj E o.dst (.clos f cs)
   | none=> .fail)else .fail
 | .makeInterface t x=>tiC E t fun i=>(match i.td with
  | .bool | .int _ | .str | .ptr _=>nH x fun v=>(match v with
   | .b .. | .i .. | .s .. | .ptr ..=>aj E o.dst (.ifc t v)
   | _=> .fail)
  | _=> .fail)
 | .typeAssert x _ t ok=>tiC E t fun i=>(match i.td with
  | .other=> .fail
  | _=>nH x fun
   | .ifc t' v=>bif Nat.beq t' t then aj E o.dst (bif ok then .tup [v,.b true]else v)else .fail
   | _=> .fail)
 | _=> .fail
def rC (E:Env) (q:Nat) (ops:List Oper) (o:Oper):Cmd Unit:=
 match o.guard with
 | none=>X0 E q o
 | some (j,want)=>match ops[j]? with
  | some p=>match p.dst with
   | some t=>bif Nat.blt t BOX then(.get t fun
    | .b y=>bif (bif want then y else !y)then X0 E q o else aj E o.dst .un
    | .un=>aj E o.dst .un
    | _=> .fail)else .fail
   | none=> .fail
  | none=> .fail
def UD {R:Type} (t:Nat) (s:St) (K:St→Option R):Option R:=
 (aS s t).force fun
  | .b y=>l7 y (K (.kv t (.b true)::s)) (K (.kv t (.b false)::s))
  | .un=>K s
  | _=>none
def c6L (ops:List Oper) (o:Oper):Option Nat:=
 match o.guard with
 | some (j,_)=>match ops[j]? with | some p=>p.dst | none=>none
 | none=>match o.op with | .pick (.tmp t) _ _=>some t | _=>none
abbrev Trs:=List Tr
def HY {R:Type} (E:Env) (q:Nat) (all:List Oper):List Oper→St→Trs→(St→Trs→Option R)→Option R
 | [],s,t,K=>K s t
 | o::r,s,t,K=>match c6L all o with
  | none=>(rC E q all o).runK s ([],[]) fun _ s' tr=>HY E q all r s' (tr::t) K
  | some p=>UD p s fun s=>(rC E q all o).runK s ([],[]) fun _ s' tr=>HY E q all r s' (tr::t) K
def a2d (a b:List Nat):Bool:=match a with | []=>true | k::r=>bif zi k b then false else a2d r b
def Yw (ordered:Bool) (x y:Tr):Bool:=bif ordered then true else(a2d x.2 y.1&&a2d x.2 y.2&&a2d x.1 y.2)
def Nl (mask:Nat) (y:Tr):Trs→Nat→Bool
 | [],_=>true
 | x::r,i=>Yw (Nat.testBit mask (i -1)) x y&&Nl mask y r (i -1)
def Po:List Nat→Trs→Bool
 | m::ms,y::r=>Nl m y r r.length&&Po ms r
 | [],[]=>true
 | _,_=>false
inductive Flow (ρ:Type) where
 | nm | ex (id:Nat) | rt (r:ρ)
def Gn (acc:List Nat) (n:Nat):List Edge→Nat→Option Nat
 | [],m=>some m
 | e::r,m=>match e.ground with
  | .textOnly _=>Gn acc n r m
  | .gcOnly _=>Gn acc n r m
  | _=>bif Nat.blt e.on n then Gn acc n r (m ||| 2^e.on ||| acc.getD (n -1 -e.on) 0)else none
def a2P:List Oper→Nat→List Nat→Option (List Nat)
 | [],_,acc=>some acc
 | o::r,n,acc=>match Gn acc n o.after.toList 0 with
  | some m=>a2P r (n+1) (m::acc)
  | none=>none
def Ht (md:Region.Mode) (done:List Nat):List Edge→Bool
 | []=>true
 | e::r=>bif (!Region.binds md e || zi e.on done)then Ht md done r else false
def nX (md:Region.Mode) (done:List Nat):List Oper→Nat→Option Nat
 | [],_=>none
 | o::r,n=>bif zi n done then nX md done r (n+1)else bif Ht md done o.after.toList then some n else nX md done r (n+1)
def ZO:Nat→List Nat→Bool
 | 0,_=>true
 | n+1,d=>zi n d&&ZO n d
def a7T (md:Region.Mode) (ops:List Oper):Nat→List Nat→Bool
 | 0,d=>ZO ops.length d
 | k+1,done=>match nX md done ops 0 with | some n=>a7T md ops k (n::done) | none=>false
def Kv:List Edge→Bool
 | []=>true
 | e::r=>match e.ground with | .textOnly _=>false | .gcOnly _=>false | _=>Kv r
def Ew:List Oper→Bool | []=>true | o::r=>bif Kv o.after.toList then Ew r else false
def XV (ops:List Oper) (t:Trs):Bool:=
 match a2P ops 0 []with
 | some ms=>bif Po ms t then(bif Ew ops then true else a7T .text ops ops.length []&&a7T .gc ops ops.length [])else false
 | none=>false
abbrev Rgs:=List (Nat×Nat)
inductive Ann where
 | leaf
 | seq (a b:Ann) | cond (a b:Ann) | blk (a:Ann)
 | loop (rs:Rgs) (hd:Sig) (xid:Nat) (xs:Sig) (body:Ann)
 | loopR (rs:Rgs) (hd:Sig) (xid:Nat) (xs:Sig) (body:Ann)
 | join (rs:Rgs) (nm:Sig) (inner:Ann)
 | joinR (rs:Rgs) (nm:Sig) (inner:Ann)
structure Ret where
 rs:List (ResultVar×MG)
 outs:List (Nat×MG)
@[reducible] def Ret.den (r:Ret):Type:=S9 (r.rs.map (·.2)++r.outs.map (·.2))
def KI {α:Type} (E:Env):List ResultVar→(List V→Cmd α)→Cmd α
 | [],K=>K []
 | .tmp t::r,K=>bif Nat.blt t BOX then(.get t fun v=>KI E r fun vs=>K (v::vs))else .fail
 | .cell a t::r,K=>bif Nat.blt a BOX then(.get a fun p=>IR E t p fun v=>KI E r fun vs=>K (v::vs))else .fail
def Ku {α:Type} :List Nat→(List V→Cmd α)→Cmd α
 | [],K=>K []
 | n::r,K=>bif Nat.blt n BOX then .get n fun v=>(match v with
  | .ptr bx 0=> .get (BOX+bx) fun
   | .bcells cs=>Cmd.set (BOX+bx) .dead (Ku r fun vs=>K (.agg cs::vs))
   | _=> .fail
  | .ifc _ u=>(match u with
   | .ptr bx 0=> .get (BOX+bx) fun
    | .bcells cs=>Cmd.set (BOX+bx) .dead (Ku r fun vs=>K (.agg cs::vs))
    | _=> .fail
   | _=> .fail)
  | .own bx none=>Ku r fun vs=>K (.own bx none::vs)
  | _=> .fail)else .fail
def a9e (E:Env) (r:Ret):Cmd r.den:=
 KI E (r.rs.map (·.1)) fun vs=>Ku (r.outs.map (·.1)) fun ws=>Gq wK (r.rs.map (·.2)++r.outs.map (·.2)) (vs++ws) .ret
def Ann.l:Ann→Ann | .seq a _=>a | .cond a _=>a | .blk a=>a | _=> .leaf
def Ann.r:Ann→Ann | .seq _ b=>b | .cond _ b=>b | _=> .leaf
def rO:Code→Nat
 | .region ..=>2
 | .seq x y=>1+rO x+rO y
 | .cond _ x y=>1+rO x+rO y
 | .block _ x=>1+rO x
 | .loop x=>3+rO x
 | _=>1
abbrev Den (ρ:Type):=Nat→Ann→St→Rgs→(R:Type)→(Flow ρ→St→Rgs→Option R)→Option R
def a2q (lo hi:Nat):Rgs→Bool | []=>false | (a,b)::r=>bif Nat.ble a lo&&Nat.ble hi b then true else a2q lo hi r
def Oa (lim:Nat) (rs:Rgs):Rgs→Bool | []=>true | (a,b)::w=>bif Nat.ble lim a || a2q a b rs then Oa lim rs w else false
def IM (ks:List Nat) (w:Rgs):Rgs:=match ks with | []=>w | k::r=>(k,k+1)::IM r w
def yK (rs:Rgs) (s:St):St:=match rs with | []=>s | (a,b)::r=> .mask a b::yK r s
def Gu {R:Type} (q:Nat) (sg:Sig) (rs:Rgs) (s:St) (w:Rgs) (K:jc sg→Option R):Option R:=
 (a4e sg).runK s ([],[]) fun x _ tr=>bif Oa (BOX+CB*q) rs (IM tr.2 w)then K x else none
def enter {R:Type} (q:Nat) (sg:Sig) (rs:Rgs) (s:St) (x:jc sg) (K:St→Rgs→Option R):Option R:=
 (a3Y sg x (CB*q) (CB*q+CB)).runK (yK rs s) ([],[]) fun _ s' tr=>K s' (IM tr.2 rs)
def NJ (a b:Rgs):Rgs:=match a with | []=>b | x::r=>x::NJ r b
def DI {ρ:Type} (core:Den ρ):Den ρ:=fun q a s w R K=>
 match a with
 | .join rs nm a=>l9 (core (q+1) a s [] (jc nm) fun fl s' w' =>match fl with
   | .nm=>Gu q nm rs s' w' some
   | _=>none) fun x=>enter q nm rs s x fun s' w' =>K .nm s' (NJ w' w)
 | .joinR rs nm a=>l9 (core (q+1) a s [] (jc nm⊕ρ) fun fl s' w' =>match fl with
   | .nm=>Gu q nm rs s' w' fun x=>some (Sum.inl x)
   | .rt r=>some (Sum.inr r)
   | _=>none) fun o=>J9 o (fun x=>enter q nm rs s x fun s' w' =>K .nm s' (NJ w' w)) (fun r=>K (.rt r) [] [])
 | a=>core (q+1) a s w R K
def a5M {ρ:Type} (core:Den ρ) (q:Nat) (rs:Rgs) (hd:Sig) (xid:Nat) (xs:Sig) (a:Ann) (s:St) (x:jc hd):Option (jc hd⊕jc xs):=
 enter q hd rs s x fun s w=>core (q+2) a s w (jc hd⊕jc xs) fun fl s' w' =>match fl with
  | .nm=>Gu q hd rs s' w' fun x=>some (Sum.inl x)
  | .ex id=>bif Nat.beq id xid then Gu q xs rs s' w' fun y=>some (Sum.inr y)else none
  | .rt _=>none
def a5N {ρ:Type} (core:Den ρ) (q:Nat) (rs:Rgs) (hd:Sig) (xid:Nat) (xs:Sig) (a:Ann) (s:St) (x:jc hd):Option (Out (jc hd) (jc xs) ρ):=
 enter q hd rs s x fun s w=>core (q+2) a s w (Out (jc hd) (jc xs) ρ) fun fl s' w' =>match fl with
  | .nm=>Gu q hd rs s' w' fun x=>some (.nx x)
  | .ex id=>bif Nat.beq id xid then Gu q xs rs s' w' fun y=>some (.ex y)else none
  | .rt r=>some (.rt r)
def Wi {ρ:Type} (core:Den ρ):Den ρ:=fun q a s w R K=>
 match a with
 | .loop rs hd xid xs a=>Gu q hd rs s [] fun x0=>
  l9 (P5 (fun x=>a5M core q rs hd xid xs a s x) x0) fun y=>enter (q+1) xs rs s y fun s' w' =>K (.ex xid) s' (NJ w' w)
 | .loopR rs hd xid xs a=>Gu q hd rs s [] fun x0=>
  l9 (J7 (fun x=>a5N core q rs hd xid xs a s x) x0) fun o=>J9 o (fun y=>enter (q+1) xs rs s y fun s' w' =>K (.ex xid) s' (NJ w' w)) (fun r=>K (.rt r) [] [])
 | _=>none
def Ic (t:Trs) (w:Rgs):Rgs:=match t with | []=>w | x::r=>IM x.2 (Ic r w)
def UF {R:Type} (E:Env) (q:Nat) (ops:Array Oper) (draw:Bool) (s:St) (w:Rgs) (K:St→Rgs→Option R):Option R:=
 HY E q ops.toList ops.toList s [] fun s' t=>
  bif draw then(bif XV ops.toList t then K s' (Ic t w)else none)else K s' (Ic t w)
def den (E:Env) (rt:Ret):Code→Den rt.den
 | .skip=>DI fun _ _ s w _ K=>K .nm s w
 | .label _=>DI fun _ _ s w _ K=>K .nm s w
 | .region _ ops draw=>DI fun q _ s w _ K=>UF E q ops draw s w fun s' w' =>K .nm s' w'
 | .seq x y=>DI fun q a s w R K=>den E rt x q a.l s w R fun fl s' w' =>match fl with
   | .nm=>den E rt y (q+rO x) a.r s' w' R K
   | .ex id=>K (.ex id) s' w'
   | .rt r=>K (.rt r) s' w'
 | .cond c x y=>DI fun q a s w R K=>(nH c fun v=>Cmd.ret v:Cmd V).runK s ([],[]) fun v s' _=>match v with
   | .b t=>l7 t (den E rt x q a.l s' w R K) (den E rt y (q+rO x) a.r s' w R K)
   | _=>none
 | .block id x=>DI fun q a s w R K=>den E rt x q a.l s w R fun fl s' w' =>match fl with
   | .nm=>K .nm s' w'
   | .ex j=>bif Nat.beq j id then K .nm s' w' else K (.ex j) s' w'
   | .rt r=>K (.rt r) s' w'
 | .loop x=>DI (Wi fun q a s w R K=>den E rt x q a s w R K)
 | .exit id=>DI fun _ _ s w _ K=>K (.ex id) s w
 | .ret=>DI fun _ _ s _ _ K=>(a9e E rt).runK s ([],[]) fun r _ _=>K (.rt r) [] []
 | _=>fun _ _ _ _ _ _=>none
def dV:List MG→Nat→List Nat
 | [],_=>[]
 | (_,.box _)::ms,n=>n::dV ms (n+1)
 | (_,.ifc _ (.box _))::ms,n=>n::dV ms (n+1)
 | (_,.ownb _)::ms,n=>n::dV ms (n+1)
 | _::ms,n=>dV ms (n+1)
def Xi:List Nat→List Nat→Bool
 | [],[]=>true
 | a::r,b::q=>bif Nat.beq a b then Xi r q else false
 | _,_=>false
def a7L:List Nat→List Nat→Bool
 | [],_=>true
 | a::r,b=>bif zi a b then a7L r b else false
def b8y (E:Env) (ps:List MG) (rt:Ret) (body:Code) (a:Ann) (x:S9 ps):Option rt.den:=
 bif Nat.ble ps.length E.nt&&Xi (rt.outs.map (·.1)) (dV ps 0)&&a7L (rt.outs.map (·.1)) E.kp then
 (Gp ps x 0 fun vs n=>bif Nat.ble n CB then PZ (List.range vs.length) vs else .fail).runK [] ([],[]) fun _ s _=>
  den E rt body 1 a s [] rt.den fun fl s' _=>match fl with
   | .rt r=>some r
   | .nm=>(a9e E rt).runK s' ([],[]) fun r _ _=>some r
   | .ex _=>none
 else none
end Go.GP
namespace Go.GP
open RowKit
def Z9 (h:Array Obj) (blk off n:Nat):Option (List Value):=
 match h[blk]? with
 | some (.cells c _ _)=>if off+n≤c.size then some ((c.toList.drop off).take n)else none
 | _=>none
theorem mD {h h' :Array Obj} {blk:Nat} (e:h'[blk]? =h[blk]?) (off n:Nat):Z9 h' blk off n=Z9 h blk off n:=by
 simp[Z9,e]
theorem iP {h:Array Obj} {blk off n:Nat} {es:List Value} (e:Z9 h blk off n=some es):es.length=n:=by
 unfold Z9 at e
 split at e
 ·split at e
  ·cases e;simp;omega
  ·cases e
 ·cases e
theorem gU {h:Array Obj} {blk:Nat} {c:Array Value} {T:TypeId} {f:Nat×Nat} (hb:h[blk]? =some (.cells c T f)) (off n:Nat) (hn:off+n≤c.size):
  Z9 h blk off n=some ((c.toList.drop off).take n):=by simp[Z9,hb,hn]
theorem nO {h:Array Obj} {blk off n:Nat} {es:List Value} (e:Z9 h blk off n=some es):
  ∃c T f,h[blk]? =some (.cells c T f)∧off+n≤c.size∧es=(c.toList.drop off).take n:=by
 unfold Z9 at e
 split at e
 ·rename_i c T f hb
  split at e
  ·cases e;exact⟨c,T,f,hb,by assumption,rfl⟩
  ·cases e
 ·cases e
theorem wG {h:Array Obj} {blk off n:Nat} {es:List Value} (e:Z9 h blk off n=some es) (a k:Nat) (hk:a+k≤n):
  Z9 h blk (off+a) k=some ((es.drop a).take k):=by
 obtain⟨c,T,f,hb,hn,rfl⟩:=nO e
 rw[gU hb _ _ (by omega)]
 congr 1
 rw[List.drop_take,List.take_take,List.drop_drop]
 congr 1;omega
def rep (h:Array Obj) (ok:Nat→Ty→Prop):(t:Ty)→t.den→List Value→Prop
 | .bool,x,cs=>cs=[.bool x]
 | .int k,n,cs=>cs=[.int k n]
 | .str,l,cs=>cs=[.string ⟨l.toArray⟩]
 | .prod a b,x,cs=>∃c d,cs=c++d∧rep h ok a x.1 c∧rep h ok b x.2 d
 | .unit,_,cs=>cs=[]
 | .sl t,xs,cs=>∃a cap,cs=[.slice a xs.length cap]∧xs.length≤cap∧
   ∀i x,xs[i]? =some x→∃blk off es,a=some ⟨blk,off,none⟩∧ok blk t∧Z9 h blk (off+i*t.size) t.size=some es∧rep h ok t x es
theorem dY {h:Array Obj} {ok:Nat→Ty→Prop} :∀{t:Ty} {x:t.den} {cs:List Value},rep h ok t x cs→cs.length=t.size
 | .bool,_,_,e=>by simp[rep]at e;simp[e,Ty.size]
 | .int _,_,_,e=>by simp[rep]at e;simp[e,Ty.size]
 | .str,_,_,e=>by simp[rep]at e;simp[e,Ty.size]
 | .unit,_,_,e=>by simp[rep]at e;simp[e,Ty.size]
 | .prod a b,_,_,e=>by
  obtain⟨c,d,rfl,h1,h2⟩:=e
  simp[dY h1,dY h2,Ty.size]
 | .sl t,_,_,e=>by
  obtain⟨a,cap,rfl,_⟩:=e
  simp[Ty.size]
theorem bI {h h' :Array Obj} {ok ok' :Nat→Ty→Prop} (hok:∀b t,ok b t→ok' b t) (hh:∀b t,ok b t→h'[b]? =h[b]?):
  ∀{t:Ty} {x:t.den} {cs:List Value},rep h ok t x cs→rep h' ok' t x cs
 | .bool,_,_,e=>e
 | .int _,_,_,e=>e
 | .str,_,_,e=>e
 | .unit,_,_,e=>e
 | .prod a b,_,_,e=>by
  obtain⟨c,d,rfl,h1,h2⟩:=e
  exact⟨c,d,rfl,bI hok hh h1,bI hok hh h2⟩
 | .sl t,xs,_,e=>by
  obtain⟨a,cap,rfl,hc,hx⟩:=e
  refine⟨a,cap,rfl,hc,fun i x hi=>?_⟩
  obtain⟨blk,off,es,ha,hb,he,hr⟩:=hx i x hi
  exact⟨blk,off,es,ha,hok _ _ hb,by rw[mD (hh _ _ hb)];exact he,bI hok hh hr⟩
theorem zT {h:Array Obj} {ok:Nat→Ty→Prop} :∀{t:Ty} {x:t.den} {cs:List Value},rep h ok t x cs→∀v∈cs,v.oneCell' =true
 | .bool,_,_,e=>by simp[rep]at e;subst e;simp[Value.oneCell']
 | .int _,_,_,e=>by simp[rep]at e;subst e;simp[Value.oneCell']
 | .str,_,_,e=>by simp[rep]at e;subst e;simp[Value.oneCell']
 | .unit,_,_,e=>by simp[rep]at e;subst e;simp
 | .prod a b,_,_,e=>by
  obtain⟨c,d,rfl,h1,h2⟩:=e
  intro v hv
  rcases List.mem_append.1 hv with hv | hv
  ·exact zT h1 v hv
  ·exact zT h2 v hv
 | .sl t,xs,_,e=>by
  obtain⟨a,cap,rfl,_⟩:=e
  simp[Value.oneCell']
theorem zS {h:Array Obj} {ok ok' :Nat→Ty→Prop} :∀{t:Ty} {x:t.den} {cs:List Value},(∀b u,ok b u→Ty.occ u t=true→ok' b u)→rep h ok t x cs→rep h ok' t x cs
 | .bool,_,_,_,e=>e
 | .int _,_,_,_,e=>e
 | .str,_,_,_,e=>e
 | .unit,_,_,_,e=>e
 | .prod a b,_,_,f,e=>by
  obtain⟨c,d,rfl,h1,h2⟩:=e
  exact⟨c,d,rfl,zS (fun b u h k=>f b u h (by simp[Ty.occ,k])) h1,zS (fun b u h k=>f b u h (by simp[Ty.occ,k])) h2⟩
 | .sl t,xs,_,f,e=>by
  obtain⟨a,cap,rfl,hc,hx⟩:=e
  refine⟨a,cap,rfl,hc,fun i x hi=>?_⟩
  obtain⟨blk,off,es,ha,hb,he,hr⟩:=hx i x hi
  exact⟨blk,off,es,ha,f _ _ hb (by simp[Ty.occ]),he,zS (fun b u h k=>f b u h (by simp[Ty.occ,k])) hr⟩
inductive Loc where
 | nil | arr (blk off len cap sz:Nat) | st (blk:Nat)
structure Mp where
 loc:Nat→Option Loc
 kid:Nat→List Nat
instance:CoeFun Mp (fun _=>Nat→Option Loc):=⟨Mp.loc⟩
def nom:Mp:=⟨fun _=>none,fun _=>[]⟩
structure Cx where
 h:Array Obj
 ok:Nat→Ty→Prop
 m:Mp
def Loc.view:Loc→Option (Nat×Nat)→Value→Prop
 | .nil,none,v=>v= .slice none 0 0
 | .nil,some (lo,hi),v=>lo=0∧hi=0∧v= .slice none 0 0
 | .arr blk off len cap _,none,v=>v= .slice (some ⟨blk,off,none⟩) len cap
 | .arr blk off len cap sz,some (lo,hi),v=>lo≤hi∧hi≤len∧v= .slice (some (if cap=lo then⟨blk,off,none⟩else⟨blk,off+lo*sz,none⟩)) (hi -lo) (cap -lo)
 | .st _,_,_=>False
def Loc.blks:Loc→List Nat
 | .nil=>[]
 | .arr b _ _ _ _=>[b]
 | .st b=>[b]
def XU (h:Array Obj) (ok:Nat→Ty→Prop) (t:Ty) (x:t.den) (o:Nat) (v:Value):Prop:=
 ∃blk off es,v= .pointer (some ⟨blk,off+o,none⟩)∧ok blk t∧Z9 h blk off t.size=some es∧rep h ok t x es
def yD (h:Array Obj) (ok:Nat→Ty→Prop):List ((t:Ty)×t.den)→List Value→Prop
 | [],vs=>vs=[]
 | c::cs,vs=>∃v r,vs=v::r∧XU h ok c.1 c.2 0 v∧yD h ok cs r
def sV (C:Cx):V→Value→Prop
 | .undef,_=>True
 | .un,v=>v=Go.undef
 | .b x,v=>v= .bool x
 | .i k n,v=>v= .int k n
 | .s l,v=>v= .string ⟨l.toArray⟩
 | .nl,v=>v= .slice none 0 0
 | .ne b,v=>∃a c,v= .slice a 0 c∧a.isNone=b
 | .sl t xs,v=>rep C.h C.ok (.sl t) xs [v]
 | .own bx vw,v=>∃loc,C.m bx=some loc∧loc.view vw v
 | .ptr bx o,v=>∃blk,C.m bx=some (.st blk)∧v= .pointer (some ⟨blk,o,none⟩)
 | .ep bx ix o,v=>∃blk off len cap sz,C.m bx=some (.arr blk off len cap sz)∧ix<len∧v= .pointer (some ⟨blk,off+ix*sz+o,none⟩)
 | .dp t x o,v=>XU C.h C.ok t x o v
 | .glob g,v=>v= .pointer (some ⟨g,0,none⟩)
 | .fnv f,v=>v= .func (.func f) #[] #[]
 | .clos f caps,v=>∃vs,v= .func (.func f) #[] vs∧yD C.h C.ok caps vs.toList
 | .ifc t c,v=>∃u,v= .iface t u∧u.oneCell' =true∧sV C c u
 | _,_=>False
def aH (C:Cx):List V→List Value→Prop
 | [],vs=>vs=[]
 | c::cs,vs=>∃v r,vs=v::r∧sV C c v∧v.oneCell' =true∧aH C cs r
def UH (C:Cx):V→Value→Prop
 | .agg cs,v=>∃arr,v= .agg arr∧aH C cs arr.toList
 | c,v=>sV C c v
def UJ (C:Cx):List V→List Value→Prop
 | [],vs=>vs=[]
 | c::cs,vs=>∃v r,vs=v::r∧UH C c v∧UJ C cs r
def gJ (C:Cx):V→Value→Prop
 | .tup cs,v=>∃arr,v= .tuple arr∧UJ C cs arr.toList
 | c,v=>UH C c v
def arrOk (C:Cx) (t:Ty) (xs:List t.den):Loc→Prop
 | .nil=>xs=[]
 | .arr blk off len cap sz=>sz=t.size∧len=xs.length∧len≤cap∧∃c T,C.h[blk]? =some (.cells c T (0,0))∧off+cap*sz≤c.size∧
   ∀i x,xs[i]? =some x→∃es,Z9 C.h blk (off+i*sz) sz=some es∧rep C.h C.ok t x es
 | .st _=>False
def wU {α:Type} (h:Array Obj) (sz:Nat) (R:Nat→α→List Value→List Nat→Prop) (xs:List α) (Os:List (List Nat)):Loc→Prop
 | .nil=>xs=[]∧Os=[]
 | .arr blk off len cap sz' =>sz' =sz∧len=xs.length∧len≤cap∧Os.length=xs.length∧∃c T,h[blk]? =some (.cells c T (0,0))∧off+cap*sz≤c.size∧
   ∀i x,xs[i]? =some x→∃es O,Os[i]? =some O∧Z9 h blk (off+i*sz) sz=some es∧R i x es O
 | .st _=>False
def iO (h:Array Obj) (ok:Nat→Ty→Prop):(m:M)→Option Nat→m.den→List Value→List Nat→Prop
 | .dat t,_,x,cs,O=>rep h ok t x cs∧O=[]
 | .own t,ho,xs,cs,O=>∃v,cs=[v]∧v.oneCell' =true∧(match ho with | some 0=>O=[] | _=>∃l,l.view none v∧arrOk ⟨h,ok,nom⟩ t xs l∧O=l.blks)
 | .pair a b,ho,x,cs,O=>∃c d O1 O2,cs=c++d∧O=O1++O2∧iO h ok a (match ho with | some o=>if o<a.size then some o else none | none=>none) x.1 c O1∧
   iO h ok b (match ho with | some o=>if o<a.size then none else some (o -a.size) | none=>none) x.2 d O2
 | .unit,_,_,cs,O=>cs=[]∧O=[]
 | .box m,_,x,cs,O=>∃blk arr T O',cs=[.pointer (some ⟨blk,0,none⟩)]∧h[blk]? =some (.cells arr T (0,0))∧iO h ok m none x arr.toList O' ∧O=blk::O'
 | .owns m,ho,xs,cs,O=>∃v,cs=[v]∧v.oneCell' =true∧(match ho with | some 0=>O=[] | _=>m.el=true∧∃l Os,l.view none v∧wU h m.size (fun _ x es O=>iO h ok m none x es O) xs Os l∧O=l.blks++Os.flatten)
 | .ownb t,_,xs,cs,O=>∃l v,cs=[v]∧l.view none v∧arrOk ⟨h,ok,nom⟩ t xs l∧O=l.blks
 | .rp t,_,x,cs,O=>∃v,cs=[v]∧XU h ok t x 0 v∧O=[]
 | .fn f ts,_,x,cs,O=>∃vs,cs=[.func (.func f) #[] vs]∧yD h ok (KW ts x) vs.toList∧O=[]
 | .ifc t m,_,x,cs,O=>∃u,cs=[.iface t u]∧iO h ok m none x [u] O
 | .cell b,_,x,cs,O=>∃v,cs=[v]∧v.oneCell' =true∧(b=some none→v= .slice none 0 0)∧(∀b',b=some (some b')→∃a c,v= .slice a 0 c∧a.isNone=b')∧O=[]
def TV (hole:Option (Nat×Nat)) (i:Nat):Option Nat:=match hole with | some (j,o)=>if i=j then some o else none | none=>none
def TA (C:Cx) (m:M) (xs:List m.den) (hole:Option (Nat×Nat)) (Os:List (List Nat)) (l:Loc):Prop:=
 wU C.h m.size (fun i x es O=>iO C.h C.ok m (TV hole i) x es O) xs Os l
def yV (C:Cx) (n:Nat):V→Prop
 | .bcells cs=>∃blk arr T,C.m n=some (.st blk)∧C.h[blk]? =some (.cells arr T (0,0))∧aH C cs arr.toList
 | .barr t xs=>∃loc,C.m n=some loc∧arrOk C t xs loc
 | .bfrz t xs=>∃loc,C.m n=some loc∧arrOk C t xs loc∧(∀blk off len cap sz,loc= .arr blk off len cap sz→C.ok blk t)
 | .barrs m xs hole=>m.el=true∧∃loc Os,C.m n=some loc∧TA C m xs hole Os loc∧C.m.kid n=Os.flatten
 | .bfc t x=>∃blk es,C.m n=some (.st blk)∧C.ok blk t∧Z9 C.h blk 0 t.size=some es∧rep C.h C.ok t x es
 | .gone t=>∃l,C.m n=some l∧∀blk off len cap sz,l= .arr blk off len cap sz→sz=t.size
 | .blen ln sz=>∃k l,n=JA+k∧C.m k=some l∧(match l with | .arr _ _ len _ sz' =>ln=(len:Int)∧sz=sz' | .nil=>ln=0 | .st _=>False)
 | _=>True
def O6 (m:Mp) (n:Nat):V→List Nat
 | .bcells _=>match m n with | some (.st blk)=>[blk] | _=>[]
 | .barr _ _=>match m n with | some (.arr blk _ _ _ _)=>[blk] | _=>[]
 | .barrs _ _ _=>(match m n with | some (.arr blk _ _ _ _)=>[blk] | _=>[])++m.kid n
 | _=>[]
def a5d:V→List Ty
 | .barr t _=>[t]
 | .barrs m _ _=>m.ty::m.owned
 | _=>[]
structure Cx.le (C D:Cx):Prop where
 ok:∀b t,C.ok b t→D.ok b t
 h:∀b t,C.ok b t→D.h[b]? =C.h[b]?
 m:∀n l,C.m n=some l→D.m n=some l
theorem Cx.le.refl (C:Cx):C.le C:=⟨fun _ _ h=>h,fun _ _ _=>rfl,fun _ _ h=>h⟩
theorem Cx.le.trans {A B C:Cx} (h:A.le B) (k:B.le C):A.le C:=
 ⟨fun b t x=>k.ok _ _ (h.ok _ _ x),fun b t x=>(k.h _ _ (h.ok _ _ x)).trans (h.h _ _ x),fun n l x=>k.m _ _ (h.m _ _ x)⟩
theorem Fq {h h' :Array Obj} {ok ok' :Nat→Ty→Prop} (hok:∀b t,ok b t→ok' b t) (hh:∀b t,ok b t→h'[b]? =h[b]?) {t:Ty} {x:t.den} {o:Nat} {v:Value} (hr:XU h ok t x o v):XU h' ok' t x o v:=by
 obtain⟨b,o',es,hv,hb,hc,hp⟩:=hr
 exact⟨b,o',es,hv,hok _ _ hb,by rw[mD (hh _ _ hb)];exact hc,bI hok hh hp⟩
theorem DV {h h' :Array Obj} {ok ok' :Nat→Ty→Prop} (hok:∀b t,ok b t→ok' b t) (hh:∀b t,ok b t→h'[b]? =h[b]?):∀{cs:List ((t:Ty)×t.den)} {vs:List Value},yD h ok cs vs→yD h' ok' cs vs
 | [],_,hr=>hr
 | _::_,_,⟨v,r,e,h1,h2⟩=>⟨v,r,e,Fq hok hh h1,DV hok hh h2⟩
theorem a1c {C D:Cx} (h:C.le D):∀{c:V} {v:Value},sV C c v→sV D c v:=by
 intro c
 induction c using V.rec (motive_2:=fun _=>True) <;> try trivial
 all_goals
  intro v hr
  simp only[sV]at hr ⊢
  try exact hr
 case sl t xs=>exact bI h.ok h.h hr
 case own bx vw=>obtain⟨l,hm,hv⟩:=hr;exact⟨l,h.m _ _ hm,hv⟩
 case ptr bx o=>obtain⟨b,hm,hv⟩:=hr;exact⟨b,h.m _ _ hm,hv⟩
 case ep bx ix o=>obtain⟨b,o',l,c,s,hm,hv⟩:=hr;exact⟨b,o',l,c,s,h.m _ _ hm,hv⟩
 case dp t x o=>exact Fq h.ok h.h hr
 case clos f caps=>obtain⟨vs,e,hc⟩:=hr;exact⟨vs,e,DV h.ok h.h hc⟩
 case ifc t c ih=>obtain⟨u,e,h1,hc⟩:=hr;exact⟨u,e,h1,ih hc⟩
theorem zO {C D:Cx} (h:C.le D):∀{cs:List V} {vs:List Value},aH C cs vs→aH D cs vs
 | [],_,hr=>hr
 | _::_,_,⟨v,r,e,h1,h2,h3⟩=>⟨v,r,e,a1c h h1,h2,zO h h3⟩
theorem a1b {C D:Cx} (h:C.le D) {c:V} {v:Value} (hr:UH C c v):UH D c v:=by
 cases c <;> simp only[UH]at hr ⊢ <;> try exact a1c h hr
 case agg cs=>obtain⟨arr,e,hl⟩:=hr;exact⟨arr,e,zO h hl⟩
theorem a1d {C D:Cx} (h:C.le D):∀{cs:List V} {vs:List Value},UJ C cs vs→UJ D cs vs
 | [],_,hr=>hr
 | _::_,_,⟨v,r,e,h1,h3⟩=>⟨v,r,e,a1b h h1,a1d h h3⟩
theorem Jl {C D:Cx} (h:C.le D) {c:V} {v:Value} (hr:gJ C c v):gJ D c v:=by
 cases c <;> simp only[gJ]at hr ⊢ <;> try exact a1b h hr
 case tup cs=>obtain⟨arr,e,hl⟩:=hr;exact⟨arr,e,a1d h hl⟩
theorem nJ {h h' :Array Obj} {ok ok' :Nat→Ty→Prop} {m m' :Mp} {t:Ty} {xs:List t.den} {l:Loc} (hok:∀b t,ok b t→ok' b t) (hh:∀b t,ok b t→h'[b]? =h[b]?)
  (hb:∀b∈l.blks,h'[b]? =h[b]?) (hr:arrOk ⟨h,ok,m⟩ t xs l):arrOk ⟨h',ok',m'⟩ t xs l:=by
 cases l with
 | nil=>exact hr
 | st b=>exact hr
 | arr blk off len cap sz=>
  have e:=hb blk (by simp[Loc.blks])
  obtain⟨h1,h2,h3,c,T,h4,h5,h6⟩:=hr
  refine⟨h1,h2,h3,c,T,by show h'[blk]? =_;rw[e];exact h4,h5,fun i x hi=>?_⟩
  obtain⟨es,he,hp⟩:=h6 i x hi
  exact⟨es,by show Z9 h' _ _ _=_;rw[mD e];exact he,bI hok hh hp⟩
theorem Vo {C D:Cx} (h:C.le D) {t:Ty} {xs:List t.den} {l:Loc} (hb:∀b∈l.blks,D.h[b]? =C.h[b]?) (hr:arrOk C t xs l):arrOk D t xs l:=
 nJ h.ok h.h hb hr
theorem DT {α:Type} {h h' :Array Obj} {sz:Nat} {R R' :Nat→α→List Value→List Nat→Prop} {xs:List α} {Os:List (List Nat)} {l:Loc} (hb:∀b∈l.blks,h'[b]? =h[b]?)
  (hR:∀i x es O,O∈Os→R i x es O→R' i x es O) (hr:wU h sz R xs Os l):wU h' sz R' xs Os l:=by
 cases l with
 | nil=>exact hr
 | st b=>exact hr
 | arr blk off len cap sz=>
  have e:=hb blk (by simp[Loc.blks])
  obtain⟨h1,h2,h3,h7,c,T,h4,h5,h6⟩:=hr
  refine⟨h1,h2,h3,h7,c,T,by rw[e];exact h4,h5,fun i x hi=>?_⟩
  obtain⟨es,O,hO,he,hp⟩:=h6 i x hi
  exact⟨es,O,hO,by rw[mD e];exact he,hR _ _ _ _ (dN hO) hp⟩
theorem cu {h h' :Array Obj} {ok ok' :Nat→Ty→Prop} (hok:∀b t,ok b t→ok' b t) (hh:∀b t,ok b t→h'[b]? =h[b]?):
  ∀{m:M} {ho:Option Nat} {x:m.den} {cs:List Value} {O:List Nat},(∀b∈O,h'[b]? =h[b]?)→iO h ok m ho x cs O→iO h' ok' m ho x cs O
 | .dat t,_,_,_,_,_,e=>⟨bI hok hh e.1,e.2⟩
 | .own t,ho,_,_,O,hb,⟨v,e,h1,ha⟩=>by
  refine⟨v,e,h1,?_⟩
  split at ha
  ·exact ha
  ·obtain⟨l,hv,ha,ho⟩:=ha
   exact⟨l,hv,nJ hok hh (by subst ho;exact hb) ha,ho⟩
 | .pair a b,_,_,_,_,hb,⟨c,d,O1,O2,e,eo,h1,h2⟩=>by
  subst eo
  exact⟨c,d,O1,O2,e,rfl,cu hok hh (fun b h=>hb b (by simp[h])) h1,cu hok hh (fun b h=>hb b (by simp[h])) h2⟩
 | .unit,_,_,_,_,_,e=>e
 | .box m,_,_,_,_,hb,⟨blk,arr,T,O',e,hh',hr,eo⟩=>by
  subst eo
  exact⟨blk,arr,T,O',e,by rw[hb blk (by simp)];exact hh',cu hok hh (fun b h=>hb b (by simp[h])) hr,rfl⟩
 | .owns m,ho,_,_,O,hb,⟨v,e,h1,ha⟩=>by
  refine⟨v,e,h1,?_⟩
  split at ha
  ·exact ha
  ·obtain⟨he,l,Os,hv,ha,ho⟩:=ha
   subst ho
   exact⟨he,l,Os,hv,DT (fun b h=>hb b (by simp[h])) (fun i x es O hO hr=>cu hok hh (fun b h=>hb b (by
    simp only[List.mem_append,List.mem_flatten];exact .inr ⟨O,hO,h⟩)) hr) ha,rfl⟩
 | .ownb t,_,_,_,_,hb,⟨l,v,e,hv,ha,ho⟩=>⟨l,v,e,hv,nJ hok hh (by subst ho;exact hb) ha,ho⟩
 | .rp t,_,_,_,_,_,⟨v,e,h1,h2⟩=>⟨v,e,Fq hok hh h1,h2⟩
 | .fn f ts,_,_,_,_,_,⟨vs,e,h1,h2⟩=>⟨vs,e,DV hok hh h1,h2⟩
 | .ifc t m,_,_,_,_,hb,⟨u,e,h1⟩=>⟨u,e,cu hok hh hb h1⟩
 | .cell b,_,_,_,_,_,h=>h
theorem Nq {C D:Cx} (h:C.le D) {n:Nat} {v:V} (hk:D.m.kid n=C.m.kid n) (hb:∀b∈O6 C.m n v,D.h[b]? =C.h[b]?) (hr:yV C n v):yV D n v:=by
 cases v <;> simp only[yV]at hr ⊢
 case bcells cs=>
  obtain⟨blk,arr,T,hm,hh,hl⟩:=hr
  exact⟨blk,arr,T,h.m _ _ hm,by rw[hb blk (by simp[O6,hm])];exact hh,zO h hl⟩
 case barr t xs=>
  obtain⟨l,hm,ha⟩:=hr
  refine⟨l,h.m _ _ hm,Vo h ?_ ha⟩
  intro b hbl
  refine hb b ?_
  cases l <;> simp[Loc.blks]at hbl
  ·subst hbl;simp[O6,hm]
  ·cases ha
 case bfrz t xs=>
  obtain⟨l,hm,ha,hok⟩:=hr
  refine⟨l,h.m _ _ hm,Vo h ?_ ha,fun blk off len cap sz e=>h.ok _ _ (hok _ _ _ _ _ e)⟩
  intro b hbl
  cases l <;> simp[Loc.blks]at hbl
  ·subst hbl;exact h.h _ _ (hok _ _ _ _ _ rfl)
  ·cases ha
 case barrs m xs hole=>
  obtain⟨he,l,Os,hm,ha,ho⟩:=hr
  refine⟨he,l,Os,h.m _ _ hm,DT ?_ ?_ ha,hk.trans ho⟩
  ·intro b hbl
   refine hb b ?_
   cases l <;> simp[Loc.blks]at hbl
   ·subst hbl;simp[O6,hm]
   ·cases ha
  ·intro i x es O hO hr
   refine cu h.ok h.h (fun b hbO=>hb b ?_) hr
   simp only[O6,List.mem_append]
   right;rw[ho];exact List.mem_flatten.2 ⟨O,hO,hbO⟩
 case bfc t x=>
  obtain⟨blk,es,hm,hok,he,hr⟩:=hr
  exact⟨blk,es,h.m _ _ hm,h.ok _ _ hok,by rw[mD (h.h _ _ hok)];exact he,bI h.ok h.h hr⟩
 case gone t=>
  obtain⟨l,hm,hs⟩:=hr
  exact⟨l,h.m _ _ hm,hs⟩
 case blen ln sz=>
  obtain⟨k,l,e,hm,hs⟩:=hr
  exact⟨k,l,e,h.m _ _ hm,hs⟩
theorem gB {C:Cx} :∀{cs:List V} {vs:List Value},aH C cs vs→cs.length=vs.length
 | [],_,h=>by simp[aH]at h;simp[h]
 | _::_,_,⟨v,r,e,_,_,h3⟩=>by subst e;simp[gB h3]
theorem sO {C:Cx} :∀{a:List V} {va:List Value} {b:List V} {vb:List Value},aH C a va→aH C b vb→aH C (a++b) (va++vb)
 | [],_,_,_,h,k=>by simp[aH]at h;subst h;exact k
 | _::_,_,_,_,⟨v,r,e,h1,h2,h3⟩,k=>by subst e;exact⟨v,r++_,rfl,h1,h2,sO h3 k⟩
theorem Jj {C:Cx} :∀{cs:List V} {vs:List Value},aH C cs vs→∀v∈vs,v.oneCell' =true
 | [],_,h=>by simp[aH]at h;simp[h]
 | _::_,_,⟨v,r,e,_,h2,h3⟩=>by
  subst e;intro u hu
  rcases List.mem_cons.1 hu with rfl | hu
  ·exact h2
  ·exact Jj h3 u hu
theorem pW {C:Cx} :∀(n:Nat) {cs:List V} {vs:List Value},aH C cs vs→aH C (cs.drop n) (vs.drop n)
 | 0,_,_,h=>by simpa using h
 | n+1,[],_,h=>by simp[aH]at h;subst h;simp[aH]
 | n+1,_::_,_,⟨v,r,e,_,_,h3⟩=>by subst e;simpa using pW n h3
theorem sQ {C:Cx} :∀(n:Nat) {cs:List V} {vs:List Value},aH C cs vs→aH C (cs.take n) (vs.take n)
 | 0,_,_,h=>by simp[aH]
 | n+1,[],_,h=>by simp[aH]at h;subst h;simp[aH]
 | n+1,_::_,_,⟨v,r,e,h1,h2,h3⟩=>by subst e;exact⟨v,r.take n,by simp,h1,h2,sQ n h3⟩
theorem nY:∀(t:Ty) (x:t.den) (r:List V),flat t x r=flat t x []++r
 | .bool,_,_=>rfl
 | .int _,_,_=>rfl
 | .str,_,_=>rfl
 | .sl _,_,_=>rfl
 | .unit,_,_=>rfl
 | .prod a b,x,r=>by
  simp only[flat]
  rw[nY a x.1 (flat b x.2 r),nY b x.2 r,nY a x.1 (flat b x.2 [])]
  simp
theorem pX {C:Cx} :∀{t:Ty} {x:t.den} {cs:List Value},rep C.h C.ok t x cs→aH C (flat t x []) cs
 | .bool,x,_,h=>by simp[rep]at h;subst h;exact⟨_,_,rfl,rfl,rfl,rfl⟩
 | .int _,x,_,h=>by simp[rep]at h;subst h;exact⟨_,_,rfl,rfl,rfl,rfl⟩
 | .str,x,_,h=>by simp[rep]at h;subst h;exact⟨_,_,rfl,rfl,rfl,rfl⟩
 | .unit,_,_,h=>by simp[rep]at h;subst h;rfl
 | .sl t,xs,_,h=>by
  have h' :=h
  obtain⟨a,cap,rfl,_⟩:=h
  exact⟨_,_,rfl,h',rfl,rfl⟩
 | .prod a b,x,_,h=>by
  obtain⟨c,d,rfl,h1,h2⟩:=h
  simp only[flat]
  rw[nY a]
  exact sO (pX h1) (pX h2)
theorem lD:∀(t:Ty) (x:t.den),(flat t x []).length=t.size
 | .bool,_=>rfl
 | .int _,_=>rfl
 | .str,_=>rfl
 | .sl _,_=>rfl
 | .unit,_=>rfl
 | .prod a b,x=>by
  simp only[flat,Ty.size]
  rw[nY a,List.length_append,lD a x.1,lD b x.2]
theorem iZ {C:Cx} {ok' :Nat→Ty→Prop} {t:Ty} {xs:List t.den} {l:Loc} {vw:Option (Nat×Nat)} {v:Value} (ha:arrOk C t xs l) (hv:l.view vw v)
  (hok:∀b t,C.ok b t→ok' b t) (hb:∀blk off len cap sz,l= .arr blk off len cap sz→ok' blk t):rep C.h ok' (.sl t) (aX vw xs) [v]:=by
 cases l with
 | st b=>cases ha
 | nil=>
  simp only[arrOk]at ha;subst ha
  cases vw with
  | none=>simp only[Loc.view]at hv;subst hv;exact⟨none,0,rfl,Nat.le_refl _,fun i x hi=>by simp[aX]at hi⟩
  | some p=>
   obtain⟨lo,hi⟩:=p
   obtain⟨rfl,rfl,rfl⟩:=hv
   exact⟨none,0,by simp[aX,gq],by simp[aX,gq],fun i x hi=>by simp[aX,gq]at hi⟩
 | arr blk off len cap sz=>
  obtain⟨rfl,rfl,hc,c,T,hh,hs,hx⟩:=ha
  have hbk:=hb _ _ _ _ _ rfl
  cases vw with
  | none=>
   simp only[Loc.view]at hv;subst hv
   refine⟨_,cap,rfl,hc,fun i x hi=>?_⟩
   obtain⟨es,he,hr⟩:=hx i x hi
   exact⟨blk,off,es,rfl,hbk,he,bI hok (fun _ _ _=>rfl) hr⟩
  | some p=>
   obtain⟨lo,hi⟩:=p
   obtain⟨h1,h2,rfl⟩:=hv
   have hl:(aX (some (lo,hi)) xs).length=hi -lo:=by simp[aX,gq];omega
   refine⟨_,cap -lo,by rw[hl],by rw[hl];omega,fun i x hix=>?_⟩
   have hi' :i<hi -lo:=by rw[←hl];exact(O5.1 hix).1
   have hx' :xs[lo+i]? =some x:=by
    simp only[aX,gq,List.getElem?_drop,List.getElem?_take]at hix
    split at hix
    ·exact hix
    ·cases hix
   obtain⟨es,he,hr⟩:=hx _ x hx'
   have hne:cap≠lo:=by omega
   refine⟨blk,off+lo*t.size,es,by simp[hne],hbk,?_,bI hok (fun _ _ _=>rfl) hr⟩
   rw[←he];congr 1;rw[Nat.add_mul];omega
end Go.GP
namespace Go.GP
abbrev Sm:=Nat→V
def upd (S:Sm) (k:Nat) (v:V):Sm:=fun n=>if n=k then v else S n
@[simp] theorem eY (S:Sm) (k:Nat) (v:V):upd S k v k=v:=by simp[upd]
theorem U8 (S:Sm) {k n:Nat} (v:V) (h:n≠k):upd S k v n=S n:=by simp[upd,h]
def Cmd.eval {α:Type} :Cmd α→Sm→Tr→Option (α×Sm×Tr)
 | .ret x,S,t=>some (x,S,t)
 | .fail,_,_=>none
 | .get k c,S,t=>(c (S k)).eval S (k::t.1,t.2)
 | .set k v c,S,t=>c.eval (upd S k v) (t.1,k::t.2)
 | .opt o c,S,t=>match o with | some x=>(c x).eval S t | none=>none
 | .br b c d,S,t=>if b=true then c.eval S t else d.eval S t
def Cmd.post {α:Type} :Cmd α→Sm→(α→Sm→Prop)→Prop
 | .ret x,S,Q=>Q x S
 | .fail,_,_=>True
 | .get k c,S,Q=>(c (S k)).post S Q
 | .set k v c,S,Q=>c.post (upd S k v) Q
 | .opt o c,S,Q=>∀x,o=some x→(c x).post S Q
 | .br b c d,S,Q=>(b=true→c.post S Q)∧(b=false→d.post S Q)
theorem kW {α:Type} {Q:α→Sm→Prop} :∀{c:Cmd α} {S S' :Sm} {t t' :Tr} {x:α},c.post S Q→c.eval S t=some (x,S',t')→Q x S'
 | .ret x,_,_,_,_,_,h,e=>by simp[Cmd.eval]at e;obtain⟨rfl,rfl,rfl⟩:=e;exact h
 | .fail,_,_,_,_,_,h,e=>by simp[Cmd.eval]at e
 | .get k c,_,_,_,_,_,h,e=>kW (c:=c _) h e
 | .set k v c,_,_,_,_,_,h,e=>kW (c:=c) h e
 | .opt o c,_,_,_,_,_,h,e=>by
  cases o with
  | none=>simp[Cmd.eval]at e
  | some x=>exact kW (c:=c x) (h x rfl) e
 | .br b c d,_,_,_,_,_,h,e=>by
  cases b
  ·exact kW (c:=d) (h.2 rfl) (by simpa[Cmd.eval]using e)
  ·exact kW (c:=c) (h.1 rfl) (by simpa[Cmd.eval]using e)
theorem vJ {α:Type} {Q Q' :α→Sm→Prop} (hq:∀x S,Q x S→Q' x S):∀{c:Cmd α} {S:Sm},c.post S Q→c.post S Q'
 | .ret x,_,h=>hq _ _ h
 | .fail,_,_=>trivial
 | .get k c,_,h=>vJ hq (c:=c _) h
 | .set k v c,_,h=>vJ hq (c:=c) h
 | .opt o c,_,h=>fun x e=>vJ hq (c:=c x) (h x e)
 | .br b c d,_,h=>⟨fun e=>vJ hq (c:=c) (h.1 e),fun e=>vJ hq (c:=d) (h.2 e)⟩
theorem IB {R:Type} :∀(v:V) (K:V→R),v.force K=K v:=by
 intro v
 induction v using V.rec (motive_2:=fun _=>True) <;> try trivial
 all_goals intro K
 all_goals try rfl
 case i k n=>cases k <;> rfl
 case own bx vw=>cases vw <;> rfl
 case barrs m xs h=>rcases h with _ | ⟨p,q⟩ <;> rfl
 case ifc t v ih=>simp only[V.force];rw[ih]
theorem RH {R:Type} :∀(l:List V) (K:List V→R),JP l K=K l
 | [],_=>rfl
 | v::r,K=>by simp[JP,IB,RH r]
theorem a2j {R:Type} (v:V) (K:V→R):v.force2 K=K v:=by
 unfold V.force2;rw[IB]
 cases v <;> simp[RH]
theorem a0p (k:Nat) (v:V) (s:St):aS (.kv k v::s)=upd (aS s) k v:=by
 funext n
 simp only[aS,upd]
 by_cases h:n=k
 ·subst h;simp
 ·have:Nat.beq k n=false:=by
   cases hb:Nat.beq k n with
   | false=>rfl
   | true=>exact absurd (bz hb).symm h
  simp[h,this]
theorem yN {α β:Type} {o:Option α} {f:α→Option β} {r:β} (h:l9 o f=some r):∃x,o=some x∧f x=some r:=by
 cases o with
 | none=>simp[l9]at h
 | some x=>exact⟨x,rfl,h⟩
theorem lu {α R:Type} :∀{c:Cmd α} {s:St} {t:Tr} {K:α→St→Tr→Option R} {r:R},c.runK s t K=some r→
  ∃x s' t',c.eval (aS s) t=some (x,aS s',t')∧K x s' t' =some r
 | .ret x,s,t,K,r,h=>⟨x,s,t,rfl,h⟩
 | .fail,_,_,_,_,h=>by simp[Cmd.runK]at h
 | .get k c,s,t,K,r,h=>by
  simp only[Cmd.runK,IB]at h
  exact lu (c:=c _) h
 | .set k v c,s,t,K,r,h=>by
  simp only[Cmd.runK,a2j]at h
  obtain⟨x,s',t',e,hk⟩:=lu (c:=c) h
  exact⟨x,s',t',by simpa[Cmd.eval,a0p]using e,hk⟩
 | .opt o c,s,t,K,r,h=>by
  simp only[Cmd.runK]at h
  obtain⟨y,rfl,h⟩:=yN h
  exact lu (c:=c y) h
 | .br b c d,s,t,K,r,h=>by
  simp only[Cmd.runK]at h
  cases b
  ·obtain⟨x,s',t',e,hk⟩:=lu (c:=d) (show d.runK s t K=some r from h)
   exact⟨x,s',t',by simpa[Cmd.eval]using e,hk⟩
  ·obtain⟨x,s',t',e,hk⟩:=lu (c:=c) (show c.runK s t K=some r from h)
   exact⟨x,s',t',by simpa[Cmd.eval]using e,hk⟩
theorem uY {α:Type} :∀{c:Cmd α} {S S' :Sm} {t t' :Tr} {x:α},c.eval S t=some (x,S',t')→(∀k∈t.1,k∈t'.1)∧(∀k∈t.2,k∈t'.2)
 | .ret x,_,_,_,_,_,e=>by simp[Cmd.eval]at e;obtain⟨rfl,rfl,rfl⟩:=e;exact⟨fun _ h=>h,fun _ h=>h⟩
 | .fail,_,_,_,_,_,e=>by simp[Cmd.eval]at e
 | .get k c,_,_,_,_,_,e=>by
  have h:=uY (c:=c _) e
  exact⟨fun n hn=>h.1 n (by simp[hn]),h.2⟩
 | .set k v c,_,_,_,_,_,e=>by
  have h:=uY (c:=c) e
  exact⟨h.1,fun n hn=>h.2 n (by simp[hn])⟩
 | .opt o c,_,_,_,_,_,e=>by
  cases o with
  | none=>simp[Cmd.eval]at e
  | some x=>exact uY (c:=c x) e
 | .br b c d,_,_,_,_,_,e=>by
  cases b
  ·exact uY (c:=d) (by simpa[Cmd.eval]using e)
  ·exact uY (c:=c) (by simpa[Cmd.eval]using e)
theorem rH {α:Type} :∀{c:Cmd α} {S S' :Sm} {t t' :Tr} {x:α},c.eval S t=some (x,S',t')→∀T:Sm,(∀k∈t'.1,T k=S k)→
  ∃T',c.eval T t=some (x,T',t')∧(∀k,T k=S k→T' k=S' k)∧(∀k,k∉t'.2→T' k=T k)∧(∀k,k∈t'.2→k∉t.2→T' k=S' k)
 | .ret x,_,_,_,_,_,e,T,hT=>by
  simp[Cmd.eval]at e;obtain⟨rfl,rfl,rfl⟩:=e
  exact⟨T,rfl,fun k h=>h,fun _ _=>rfl,fun k h1 h2=>absurd h1 h2⟩
 | .fail,_,_,_,_,_,e,_,_=>by simp[Cmd.eval]at e
 | .get k c,S,_,t,t',_,e,T,hT=>by
  have hk:T k=S k:=hT k ((uY (c:=c _) e).1 k (by simp))
  obtain⟨T',h1,h2,h3,h4⟩:=rH (c:=c _) e T hT
  exact⟨T',by simpa[Cmd.eval,hk]using h1,h2,h3,h4⟩
 | .set k v c,S,_,t,t',_,e,T,hT=>by
  obtain⟨T',h1,h2,h3,h4⟩:=rH (c:=c) e (upd T k v) (fun n hn=>by
   by_cases h:n=k
   ·subst h;simp
   ·rw[U8 _ _ h,U8 _ _ h];exact hT n hn)
  have hkin:k∈t'.2:=(uY (c:=c) e).2 k (by simp)
  refine⟨T',h1,fun n hn=>h2 n ?_,fun n hn=>?_,fun n hn hn' =>?_⟩
  ·by_cases h:n=k
   ·subst h;simp
   ·rw[U8 _ _ h,U8 _ _ h];exact hn
  ·have:n≠k:=fun h=>hn (h▸hkin)
   rw[h3 n hn,U8 _ _ this]
  ·by_cases h:n=k
   ·subst h;exact h2 n (by simp)
   ·exact h4 n hn (by simp[h,hn'])
 | .opt o c,_,_,_,_,_,e,T,hT=>by
  cases o with
  | none=>simp[Cmd.eval]at e
  | some x=>exact rH (c:=c x) e T hT
 | .br b c d,_,_,_,_,_,e,T,hT=>by
  cases b
  ·obtain⟨T',h1,h2⟩:=rH (c:=d) (by simpa[Cmd.eval]using e) T hT
   exact⟨T',by simpa[Cmd.eval]using h1,h2⟩
  ·obtain⟨T',h1,h2⟩:=rH (c:=c) (by simpa[Cmd.eval]using e) T hT
   exact⟨T',by simpa[Cmd.eval]using h1,h2⟩
theorem Cf {α:Type} {c:Cmd α} {S S' :Sm} {t t' :Tr} {x:α} (e:c.eval S t=some (x,S',t')) (k:Nat) (h:k∉t'.2):S' k=S k:=by
 obtain⟨T',h1,_,h3,_⟩:=rH e S (fun _ _=>rfl)
 rw[e]at h1
 simp at h1
 rw[h1];exact h3 k h
section draws
variable {n:Nat} {c:Nat→Cmd Unit} {S:Nat→Sm} {T:Nat→Tr}
def SD (S:Nat→Sm) (T:Nat→Tr) (D:List Nat):Nat→Sm
 | 0=>S 0
 | m+1=>fun k=>if m∈D∧k∈(T m).2 then S (m+1) k else SD S T D m k
theorem JB (hs:∀i,i<n→(c i).eval (S i) ([],[])=some ((),S (i+1),T i)) (D:List Nat) (k:Nat):
  ∀m,m≤n→(∀j,j<m→k∈(T j).2→j∈D)→SD S T D m k=S m k
 | 0,_,_=>rfl
 | m+1,hm,h=>by
  have ih:=JB hs D k m (by omega) (fun j hj=>h j (by omega))
  simp only[SD]
  by_cases hk:k∈(T m).2
  ·rw[if_pos ⟨h m (by omega) hk,hk⟩]
  ·rw[if_neg (fun x=>hk x.2),ih,Cf (hs m (by omega)) k hk]
theorem Vh (D:List Nat) (k i:Nat):∀m,i≤m→(∀j,i≤j→j<m→k∈(T j).2→j∉D)→SD S T D m k=SD S T D i k
 | m,hm,h=>by
  induction m with
  | zero=>
   have:i=0:=by omega
   subst this;rfl
  | succ m ih=>
   by_cases e:i=m+1
   ·subst e;rfl
   ·simp only[SD]
    rw[if_neg (fun x=>h m (by omega) (by omega) x.2 x.1)]
    exact ih (by omega) (fun j h1 h2=>h j h1 (by omega))
theorem ZM (D:List Nat) (i k:Nat) (hk:k∉(T i).2):∀m,SD S T (i::D) m k=SD S T D m k
 | 0=>rfl
 | m+1=>by
  simp only[SD,ZM D i k hk m]
  by_cases e:m=i
  ·subst e;simp[hk]
  ·simp[List.mem_cons,e]
theorem a8b (hs:∀i,i<n→(c i).eval (S i) ([],[])=some ((),S (i+1),T i)) {ord:Nat→Nat→Prop}
  (hc:∀i j,i<j→j<n→ord i j∨((∀k∈(T i).2,k∉(T j).1∧k∉(T j).2)∧∀k∈(T i).1,k∉(T j).2))
  {D:List Nat} {i:Nat} (hi:i<n) (hD:i∉D) (hlt:∀j∈D,j<n) (hp:∀j,ord j i→j∈D) (hdown:∀j∈D,∀k,ord k j→k∈D):
  (c i).eval (SD S T D n) ([],[])=some ((),SD S T (i::D) n,T i):=by
 have before:∀k,(k∈(T i).1∨k∈(T i).2)→∀j,j<i→k∈(T j).2→j∈D:=fun k hk j hj hw=>by
  rcases hc j i hj hi with h | ⟨h1,_⟩
  ·exact hp j h
  ·rcases hk with hk | hk
   ·exact absurd hk (h1 k hw).1
   ·exact absurd hk (h1 k hw).2
 have after:∀k,(k∈(T i).1∨k∈(T i).2)→∀j,i<j→j<n→k∈(T j).2→j∉D:=fun k hk j hj hjn hw hjD=>by
  rcases hc i j hj hjn with h | ⟨h1,h2⟩
  ·exact hD (hdown j hjD i h)
  ·rcases hk with hk | hk
   ·exact h2 k hk hw
   ·exact(h1 k hk).2 hw
 have read:∀k∈(T i).1,SD S T D n k=S i k:=fun k hk=>by
  rw[Vh D k i n (by omega) (fun j h1 h2 hw=>by
   by_cases e:j=i
   ·subst e;exact hD
   ·exact after k (.inl hk) j (by omega) h2 hw)]
  exact JB hs D k i (by omega) (before k (.inl hk))
 obtain⟨T',h1,_,h3,h4⟩:=rH (hs i hi) (SD S T D n) read
 rw[h1]
 have:T' =SD S T (i::D) n:=by
  funext k
  by_cases hk:k∈(T i).2
  ·rw[h4 k hk (by simp)]
   rw[Vh (i::D) k (i+1) n (by omega) (fun j h1 h2 hw=>by
    simp only[List.mem_cons,not_or]
    exact⟨by omega,after k (.inr hk) j (by omega) h2 hw⟩)]
   simp[SD,hk]
  ·rw[h3 k hk,ZM D i k hk]
 rw[this]
theorem a3C (hs:∀i,i<n→(c i).eval (S i) ([],[])=some ((),S (i+1),T i)) {D:List Nat} (hD:∀i,i<n→i∈D):SD S T D n=S n:=by
 funext k
 exact JB hs D k n (by omega) (fun j hj _=>hD j hj)
theorem b7W (n:Nat):SD S T [] n=S 0:=by
 induction n with
 | zero=>rfl
 | succ m ih=>funext k;simp[SD,ih]
end draws
end Go.GP
namespace Go.GP
structure Fx where
 P:Program
 E:Env
 w0:World
 O:List Nat
 ok0:Nat→Ty→Prop
 tm0:Array Value
structure Frame' (w0 w:World) (O:List Nat):Prop where
 os:w.os=w0.os
 tape:w.tape=w0.tape
 output:w.output=w0.output
 size:w0.heap.size≤w.heap.size
 block:∀b,b<w0.heap.size→b∉O→w.heap[b]? =w0.heap[b]?
theorem Frame'.refl (w:World) (O:List Nat):Frame' w w O:=⟨rfl,rfl,rfl,Nat.le_refl _,fun _ _ _=>rfl⟩
def a9X (h:Array Obj) (g n:Nat):Prop:=∃c T f,h[g]? =some (.cells c T f)∧c.size=n
def BP (C:Cx) (g:Nat) (t:Ty) (xs:List t.den):Prop:=
 C.ok g t∧a9X C.h g (xs.length*t.size)∧∀i x,xs[i]? =some x→∃es,Z9 C.h g (i*t.size) t.size=some es∧rep C.h C.ok t x es
theorem BP.le {C D:Cx} (h:C.le D) {g:Nat} {t:Ty} {xs:List t.den} (k:BP C g t xs):BP D g t xs:=by
 obtain⟨h1,h3,h2⟩:=k
 refine⟨h.ok _ _ h1,by unfold a9X at h3 ⊢;rw[h.h _ _ h1];exact h3,fun i x hi=>?_⟩
 obtain⟨es,he,hr⟩:=h2 i x hi
 exact⟨es,by rw[mD (h.h _ _ h1)];exact he,bI h.ok h.h hr⟩
structure Rel (X:Fx) (cl ch:Nat) (S:Sm) (m:Mp) (ok:Nat→Ty→Prop) (a:Act) (w:World):Prop where
 size:a.tmps.size=X.E.nt
 nodef:a.defers=[]
 slot:∀n,n<BOX→gJ ⟨w.heap,ok,m⟩ (S n) (a.tmps.getD n Go.undef)
 box:∀n,yV ⟨w.heap,ok,m⟩ n (S (BOX+n))
 inj:∀n n' b,b∈O6 m n (S (BOX+n))→b∈O6 m n' (S (BOX+n'))→n=n'
 nd:∀n,(O6 m n (S (BOX+n))).Nodup
 sep:∀n b,b∈O6 m n (S (BOX+n))→(∀t,¬ok b t)∧b<w.heap.size∧(X.w0.heap.size≤b∨b∈X.O)
 okLt:∀b t,ok b t→b<w.heap.size
 okIn:∀b t,X.ok0 b t→ok b t
 okOut:∀b t,ok b t→X.ok0 b t∨X.w0.heap.size≤b∨b∈X.O
 frame:Frame' X.w0 w X.O
 fresh:∀n,cl≤n→S (BOX+n)= .undef→m n=none
 strict:∀n,ch≤n→m n=none
 gl:∀g u,Y3 X.E.gl g=some u→BP ⟨w.heap,ok,m⟩ g u.1 u.2
 kept:∀n∈X.E.kp,a.tmps.getD n Go.undef=X.tm0.getD n Go.undef
def ig (m:Mp) (n:Nat) (l:Loc) (ks:List Nat):Mp:=⟨fun k=>if k=n then some l else m k,fun k=>if k=n then ks else m.kid k⟩
@[simp] theorem au (m:Mp) (n:Nat) (l:Loc) (ks:List Nat):ig m n l ks n=some l:=by simp[ig]
theorem dG (m:Mp) {n k:Nat} (l:Loc) (ks:List Nat) (h:k≠n):ig m n l ks k=m k:=by simp[ig,h]
@[simp] theorem d3V (m:Mp) (n:Nat) (l:Loc) (ks:List Nat):(ig m n l ks).kid n=ks:=by simp[ig]
theorem KY (m:Mp) {n k:Nat} (l:Loc) (ks:List Nat) (h:k≠n):(ig m n l ks).kid k=m.kid k:=by simp[ig,h]
def zk (m:Mp) (n:Nat) (ks:List Nat):Mp:=⟨m.loc,fun k=>if k=n then ks else m.kid k⟩
@[simp] theorem d2U (m:Mp) (n k:Nat) (ks:List Nat):zk m n ks k=m k:=rfl
@[simp] theorem d2T (m:Mp) (n:Nat) (ks:List Nat):(zk m n ks).kid n=ks:=by simp[zk]
theorem SX (m:Mp) {n k:Nat} (ks:List Nat) (h:k≠n):(zk m n ks).kid k=m.kid k:=by simp[zk,h]
theorem pY (m:Mp) (n:Nat):zk m n (m.kid n)=m:=by
 cases m with | mk l k=>
 simp only[zk,Mp.mk.injEq,true_and]
 funext j;split
 ·rename_i e;rw[e]
 ·rfl
theorem CP {m m' :Mp} {n:Nat} {v:V} (h:m' n=m n) (k:m'.kid n=m.kid n):O6 m' n v=O6 m n v:=by
 cases v <;> simp only[O6,h,k]
theorem QD {tmps:Array Value} {d:Nat} (h:d<tmps.size) (x e:Value):(tmps.setIfInBounds d x).getD d e=x:=by
 simp[Array.getD,h]
theorem Ee {tmps:Array Value} {d n:Nat} (h:n≠d) (x e:Value):(tmps.setIfInBounds d x).getD n e=tmps.getD n e:=by
 simp only[Array.getD_eq_getD_getElem?]
 rw[Array.getElem?_setIfInBounds]
 simp[Ne.symm h]
structure Tk (X:Fx) (S:Sm) (m:Mp) (ok:Nat→Ty→Prop) (w:World) (T:List Nat):Prop where
 nodup:T.Nodup
 free:∀b∈T,(∀t,¬ok b t)∧b<w.heap.size∧(X.w0.heap.size≤b∨b∈X.O)∧∀n,b∉O6 m n (S (BOX+n))
theorem Tk.nil {X:Fx} {S:Sm} {m:Mp} {ok:Nat→Ty→Prop} {w:World} :Tk X S m ok w []:=⟨List.nodup_nil,fun b h=>by cases h⟩
def okW (ok:Nat→Ty→Prop) (bs:List Nat) (Ts:List Ty):Nat→Ty→Prop:=fun b t=>ok b t∨(b∈bs∧t∈Ts)
section
variable {X:Fx} {cl ch:Nat} {S:Sm} {m:Mp} {ok:Nat→Ty→Prop} {a:Act} {w:World} {T:List Nat}
theorem Tk.perm {T T' :List Nat} (h:Tk X S m ok w T) (p:T.Perm T'):Tk X S m ok w T' :=
 ⟨p.nodup_iff.1 h.nodup,fun b hb=>h.free b (p.mem_iff.2 hb)⟩
theorem Tk.left {T T' :List Nat} (h:Tk X S m ok w (T++T')):Tk X S m ok w T:=
 ⟨(List.nodup_append.1 h.nodup).1,fun b hb=>h.free b (List.mem_append_left _ hb)⟩
theorem Tk.right {T T' :List Nat} (h:Tk X S m ok w (T++T')):Tk X S m ok w T' :=
 ⟨(List.nodup_append.1 h.nodup).2.1,fun b hb=>h.free b (List.mem_append_right _ hb)⟩
theorem OX {n:Nat} :∀{l:List Nat},zi n l=false→n∉l
 | [],_,h=>by cases h
 | k::r,hb,h=>by
  unfold zi at hb
  cases hk:Nat.beq k n <;> rw[hk]at hb
  ·rcases List.mem_cons.1 h with e | h
   ·subst e;rw[show Nat.beq n n=true from Nat.beq_refl n]at hk;cases hk
   ·exact OX hb h
  ·cases hb
theorem Sj {n:Nat} :∀{l:List Nat},zi n l=true→n∈l
 | [],h=>by cases h
 | k::r,hb=>by
  unfold zi at hb
  cases hk:Nat.beq k n <;> rw[hk]at hb
  ·exact List.mem_cons_of_mem _ (Sj hb)
  ·have:=bz hk
   subst this;exact List.mem_cons_self
theorem vH {E:Env} {t:Nat} (h:Sv E t=true):t<E.nt∧t∉E.kp:=by
 unfold Sv at h
 cases hb:Nat.blt t E.nt <;> rw[hb]at h
 ·cases h
 ·simp only[cond_true,Bool.not_eq_true']at h
  exact⟨by rw[Nat.blt_eq]at hb;exact hb,OX h⟩
theorem Rel.put (R:Rel X cl ch S m ok a w) (hnt:X.E.nt≤BOX) {d:Nat} {v:V} {x:Value} (hd:Sv X.E d=true) (hv:gJ ⟨w.heap,ok,m⟩ v x):
  Rel X cl ch (upd S d v) m ok (a.put (some d) x) w:=by
 obtain⟨hd,hkp⟩:=vH hd
 have hb:∀n,upd S d v (BOX+n)=S (BOX+n):=fun n=>U8 _ _ (by omega)
 have hkept:∀n∈X.E.kp,(a.put (some d) x).tmps.getD n Go.undef=X.tm0.getD n Go.undef:=fun n hn=>by
  have e:n≠d:=fun e=>hkp (e▸hn)
  simp only[Act.put]
  rw[Ee e];exact R.kept n hn
 refine { R with size:=(by simp[Act.put,R.size]),nodef:=(by simp[Act.put,R.nodef]),slot:=fun n hn=>?_,box:=fun n=>(by rw[hb];exact R.box n),inj:=fun n n' b=>(by rw[hb,hb];exact R.inj n n' b),nd:=fun n=>(by rw[hb];exact R.nd n),sep:=fun n b=>(by rw[hb];exact R.sep n b),fresh:=fun n h1 h2=>R.fresh n h1 (by rwa[hb]at h2),kept:=hkept }
 by_cases e:n=d
 ·subst e
  simp only[eY,Act.put]
  rw[QD (by rw[R.size];exact hd)];exact hv
 ·rw[U8 _ _ e]
  simp only[Act.put]
  rw[Ee e];exact R.slot n hn
theorem Rel.slotV (R:Rel X cl ch S m ok a w) {d:Nat} {v:V} (hd:d<BOX) (hv:gJ ⟨w.heap,ok,m⟩ v (a.tmps.getD d Go.undef)):
  Rel X cl ch (upd S d v) m ok a w:=by
 have hb:∀n,upd S d v (BOX+n)=S (BOX+n):=fun n=>U8 _ _ (by omega)
 refine { R with slot:=fun n hn=>?_,box:=fun n=>(by rw[hb];exact R.box n),inj:=fun n n' b=>(by rw[hb,hb];exact R.inj n n' b),nd:=fun n=>(by rw[hb];exact R.nd n),sep:=fun n b=>(by rw[hb];exact R.sep n b),fresh:=fun n h1 h2=>R.fresh n h1 (by rwa[hb]at h2) }
 by_cases e:n=d
 ·subst e;simp only[eY];exact hv
 ·rw[U8 _ _ e];exact R.slot n hn
theorem Rel.world (R:Rel X cl ch S m ok a w) {ok' :Nat→Ty→Prop} {w' :World} (hos:w'.os=w.os) (htp:w'.tape=w.tape) (hout:w'.output=w.output) (hsz:w.heap.size≤w'.heap.size)
  (hkeep:∀b,b<w.heap.size→((∃t,ok b t)∨(∃n,b∈O6 m n (S (BOX+n)))∨¬(X.w0.heap.size≤b∨b∈X.O))→w'.heap[b]? =w.heap[b]?)
  (hok:∀b t,ok b t→ok' b t) (hok' :∀b t,ok' b t→b<w'.heap.size∧(ok b t∨((X.w0.heap.size≤b∨b∈X.O)∧∀n,b∉O6 m n (S (BOX+n))))):
  Rel X cl ch S m ok' a w' :=by
 have hle:Cx.le ⟨w.heap,ok,m⟩ ⟨w'.heap,ok',m⟩:=⟨hok,fun b t hb=>hkeep b (R.okLt b t hb) (.inl ⟨t,hb⟩),fun _ _ h=>h⟩
 refine { kept:=R.kept,size:=R.size,nodef:=R.nodef,inj:=R.inj,nd:=R.nd,fresh:=R.fresh,strict:=R.strict,slot:=fun n hn=>Jl hle (R.slot n hn),box:=fun n=>Nq hle rfl (fun b hb=>hkeep b (R.sep n b hb).2.1 (.inr (.inl ⟨n,hb⟩))) (R.box n),sep:=fun n b hb=>?_,okLt:=fun b t hb=>(hok' b t hb).1,okIn:=fun b t hb=>hok b t (R.okIn b t hb),okOut:=fun b t hb=>?_,frame:=?_,gl:=fun g u hg=>BP.le hle (R.gl g u hg) }
 ·obtain⟨h1,h2,h3⟩:=R.sep n b hb
  refine⟨fun t h=>?_,by omega,h3⟩
  rcases(hok' b t h).2 with h | ⟨_,h⟩
  ·exact h1 t h
  ·exact h n hb
 ·rcases(hok' b t hb).2 with h | ⟨h,_⟩
  ·exact R.okOut b t h
  ·exact .inr h
 ·obtain⟨f1,f2,f3,f4,f5⟩:=R.frame
  refine⟨hos.trans f1,htp.trans f2,hout.trans f3,by omega,fun b hb hO=>?_⟩
  rw[hkeep b (by omega) (.inr (.inr (by simp[hO];omega)))]
  exact f5 b hb hO
theorem Rel.same (R:Rel X cl ch S m ok a w) {w' :World} (hos:w'.os=w.os) (htp:w'.tape=w.tape) (hout:w'.output=w.output) (hh:w'.heap=w.heap):Rel X cl ch S m ok a w' :=by
 refine R.world hos htp hout (by rw[hh];exact Nat.le_refl _) (fun b _ _=>by rw[hh]) (fun _ _ h=>h) (fun b t h=>⟨by rw[hh];exact R.okLt b t h,.inl h⟩)
theorem vI {n k b:Nat} {v:V} (hv:O6 m n v=[]) (h:b∈O6 m k (upd S (BOX+n) v (BOX+k))):k≠n∧b∈O6 m k (S (BOX+k)):=by
 by_cases e:k=n
 ·subst e;rw[eY,hv]at h;cases h
 ·rw[U8 _ _ (by omega)]at h;exact⟨e,h⟩
theorem Rel.killV (R:Rel X cl ch S m ok a w) (n:Nat) {v:V} (hv:v≠.undef) (hw:O6 m n v=[]) (hB:yV ⟨w.heap,ok,m⟩ n v):Rel X cl ch (upd S (BOX+n) v) m ok a w:=by
 have ho:∀k b,b∈O6 m k (upd S (BOX+n) v (BOX+k))→k≠n∧b∈O6 m k (S (BOX+k)):=fun k b h=>vI hw h
 refine { R with slot:=fun k hk=>(by rw[U8 _ _ (by omega)];exact R.slot k hk),box:=fun k=>?_,inj:=fun k k' b h h' =>R.inj k k' b (ho _ _ h).2 (ho _ _ h').2,nd:=fun k=>?_,sep:=fun k b h=>R.sep k b (ho _ _ h).2,fresh:=fun k h1 h2=>?_ }
 ·by_cases e:k=n
  ·subst e;rw[eY];exact hB
  ·rw[U8 _ _ (by omega)];exact R.box k
 ·by_cases e:k=n
  ·subst e;rw[eY,hw];exact List.nodup_nil
  ·rw[U8 _ _ (by omega)];exact R.nd k
 ·by_cases e:k=n
  ·subst e;rw[eY]at h2;exact absurd h2 hv
  ·rw[U8 _ _ (by omega)]at h2;exact R.fresh k h1 h2
theorem Rel.kill (R:Rel X cl ch S m ok a w) (n:Nat):Rel X cl ch (upd S (BOX+n) .dead) m ok a w:=R.killV n (by simp) rfl trivial
theorem Tk.killV (R:Rel X cl ch S m ok a w) (h:Tk X S m ok w T) (n:Nat) {v:V} (hw:O6 m n v=[]) {bs:List Nat} (hbs:∀b,b∈bs→b∈O6 m n (S (BOX+n))) (hnd:bs.Nodup):
  Tk X (upd S (BOX+n) v) m ok w (T++bs):=by
 refine⟨List.nodup_append.2 ⟨h.nodup,hnd,fun x hx y hy e=>?_⟩,fun b hb=>?_⟩
 ·subst e;exact(h.free x hx).2.2.2 n (hbs x hy)
 ·rcases List.mem_append.1 hb with hb | hb
  ·obtain⟨h1,h2,h3,h4⟩:=h.free b hb
   exact⟨h1,h2,h3,fun k e=>h4 k (vI hw e).2⟩
  ·obtain⟨h1,h2,h3⟩:=R.sep n b (hbs b hb)
   exact⟨h1,h2,h3,fun k e=>(vI hw e).1 (R.inj k n b (vI hw e).2 (hbs b hb))⟩
theorem Rel.mark (R:Rel X cl ch S m ok a w) {n:Nat} {md:M} {xs:List md.den} (hS:S (BOX+n)= .barrs md xs none):Rel X cl ch (upd S (BOX+(JA+n)) (.blen (o8 xs) md.size)) m ok a w:=by
 refine R.killV (JA+n) (by simp) rfl ?_
 have hb:=R.box n
 rw[hS]at hb
 obtain⟨_,l,Os,hm,ha,_⟩:=hb
 refine⟨n,l,rfl,hm,?_⟩
 cases l with
 | nil=>obtain⟨rfl,_⟩:=ha;rfl
 | st b=>cases ha
 | arr blk off len cap sz=>exact⟨by rw[ha.2.1];rfl,ha.1.symm⟩
theorem Tk.kill (R:Rel X cl ch S m ok a w) (h:Tk X S m ok w T) (n:Nat) {bs:List Nat} (hbs:∀b,b∈bs→b∈O6 m n (S (BOX+n))) (hnd:bs.Nodup):
  Tk X (upd S (BOX+n) .dead) m ok w (T++bs):=h.killV R n rfl hbs hnd
theorem Rel.lay (R:Rel X cl ch S m ok a w) {n:Nat} {l:Loc} {ks:List Nat} {v:V} {w' :World} (hn:S (BOX+n)= .undef) (hcl:cl≤n) (hch:n<ch) (hv:v≠.undef)
  (hos:w'.os=w.os) (htp:w'.tape=w.tape) (hout:w'.output=w.output) (hsz:w.heap.size≤w'.heap.size)
  (hkeep:∀b,b<w.heap.size→b∉O6 (ig m n l ks) n v→w'.heap[b]? =w.heap[b]?)
  (hnd:(O6 (ig m n l ks) n v).Nodup)
  (hfree:∀b∈O6 (ig m n l ks) n v,(∀t,¬ok b t)∧b<w'.heap.size∧(X.w0.heap.size≤b∨b∈X.O)∧∀k,b∉O6 m k (S (BOX+k)))
  (hB:yV ⟨w'.heap,ok,ig m n l ks⟩ n v):Rel X cl ch (upd S (BOX+n) v) (ig m n l ks) ok a w' :=by
 have hm:m n=none:=R.fresh n hcl hn
 have hR:Rel X cl ch S m ok a w' :=by
  refine R.world hos htp hout hsz (fun b hb h=>?_) (fun _ _ h=>h) (fun b t h=>⟨by have:=R.okLt b t h;omega,.inl h⟩)
  refine hkeep b hb (fun e=>?_)
  obtain⟨h1,h2,h3,h4⟩:=hfree b e
  rcases h with⟨t,h⟩ | ⟨k,h⟩ | h
  ·exact h1 t h
  ·exact h4 k h
  ·exact h h3
 have hle:Cx.le ⟨w'.heap,ok,m⟩ ⟨w'.heap,ok,ig m n l ks⟩:=⟨fun _ _ h=>h,fun _ _ _=>rfl,fun k x h=>by
  by_cases e:k=n
  ·subst e;simp[hm]at h
  ·show ig m n l ks k=some x;rw[dG _ _ _ e];exact h⟩
 have hob:∀k,k≠n→O6 (ig m n l ks) k (upd S (BOX+n) v (BOX+k))=O6 m k (S (BOX+k)):=fun k e=>by
  rw[U8 _ _ (by omega)];exact CP (dG _ _ _ e) (KY _ _ _ e)
 have hobn:O6 (ig m n l ks) n (upd S (BOX+n) v (BOX+n))=O6 (ig m n l ks) n v:=by rw[eY]
 refine { kept:=hR.kept,size:=hR.size,nodef:=hR.nodef,okLt:=hR.okLt,okIn:=hR.okIn,okOut:=hR.okOut,frame:=hR.frame,slot:=fun k hk=>(by rw[U8 _ _ (by omega)];exact Jl hle (hR.slot k hk)),box:=fun k=>?_,inj:=fun k k' b h h' =>?_,nd:=fun k=>?_,sep:=fun k b h=>?_,fresh:=fun k h1 h2=>?_,strict:=fun k h=>?_,gl:=fun g u hg=>BP.le hle (hR.gl g u hg) }
 ·by_cases e:k=n
  ·subst e;rw[eY];exact hB
  ·rw[U8 _ _ (by omega)]
   refine Nq hle (KY _ _ _ e) (fun b hb=>rfl) (hR.box k)
 ·by_cases e:k=n
  ·by_cases e' :k' =n
   ·rw[e,e']
   ·subst e
    rw[hobn]at h;rw[hob k' e']at h'
    exact absurd h' ((hfree b h).2.2.2 k')
  ·by_cases e' :k' =n
   ·subst e'
    rw[hobn]at h';rw[hob k e]at h
    exact absurd h ((hfree b h').2.2.2 k)
   ·rw[hob k e]at h;rw[hob k' e']at h'
    exact R.inj k k' b h h'
 ·by_cases e:k=n
  ·subst e;rw[hobn];exact hnd
  ·rw[hob k e];exact R.nd k
 ·by_cases e:k=n
  ·subst e;rw[hobn]at h
   obtain⟨h1,h2,h3,_⟩:=hfree b h
   exact⟨h1,h2,h3⟩
  ·rw[hob k e]at h;exact hR.sep k b h
 ·by_cases e:k=n
  ·subst e;rw[eY]at h2;exact absurd h2 hv
  ·rw[U8 _ _ (by omega)]at h2
   rw[dG _ _ _ e];exact R.fresh k h1 h2
 ·have e:k≠n:=by omega
  rw[dG _ _ _ e];exact R.strict k h
theorem Rel.modK (R:Rel X cl ch S m ok a w) (hT:Tk X S m ok w T) {n:Nat} {v:V} {ks:List Nat} {w' :World} (hv:v≠.undef)
  (hnd:(O6 (zk m n ks) n v).Nodup) (hsub:∀b∈O6 (zk m n ks) n v,b∈O6 m n (S (BOX+n))∨b∈T)
  (hos:w'.os=w.os) (htp:w'.tape=w.tape) (hout:w'.output=w.output) (hsz:w'.heap.size=w.heap.size)
  (hkeep:∀b,b∉O6 m n (S (BOX+n))→w'.heap[b]? =w.heap[b]?) (hB:yV ⟨w'.heap,ok,zk m n ks⟩ n v)
  {T' :List Nat} (hnd' :T'.Nodup) (hT' :∀b∈T',(b∈O6 m n (S (BOX+n))∨b∈T)∧b∉O6 (zk m n ks) n v):
  Rel X cl ch (upd S (BOX+n) v) (zk m n ks) ok a w' ∧Tk X (upd S (BOX+n) v) (zk m n ks) ok w' T' :=by
 have hsep:∀b,b∈O6 m n (S (BOX+n))∨b∈T→(∀t,¬ok b t)∧b<w.heap.size∧(X.w0.heap.size≤b∨b∈X.O)∧∀k,k≠n→b∉O6 m k (S (BOX+k)):=fun b h=>by
  rcases h with h | h
  ·obtain⟨h1,h2,h3⟩:=R.sep n b h
   exact⟨h1,h2,h3,fun k e h' =>e (R.inj k n b h' h)⟩
  ·obtain⟨h1,h2,h3,h4⟩:=hT.free b h
   exact⟨h1,h2,h3,fun k _=>h4 k⟩
 have hle:Cx.le ⟨w.heap,ok,m⟩ ⟨w'.heap,ok,zk m n ks⟩:=⟨fun _ _ h=>h,fun b t hb=>hkeep b (fun e=>(R.sep n b e).1 t hb),fun _ _ h=>h⟩
 have hob:∀k,k≠n→O6 (zk m n ks) k (upd S (BOX+n) v (BOX+k))=O6 m k (S (BOX+k)):=fun k e=>by
  rw[U8 _ _ (by omega)];exact CP rfl (SX _ _ e)
 have hobn:O6 (zk m n ks) n (upd S (BOX+n) v (BOX+n))=O6 (zk m n ks) n v:=by rw[eY]
 refine⟨?_,hnd',fun b hb=>?_⟩
 ·refine { kept:=R.kept,size:=R.size,nodef:=R.nodef,okLt:=fun b t hb=>(by rw[hsz];exact R.okLt b t hb),okIn:=R.okIn,okOut:=R.okOut,strict:=R.strict,slot:=fun k hk=>(by rw[U8 _ _ (by omega)];exact Jl hle (R.slot k hk)),box:=fun k=>?_,inj:=fun k k' b h h' =>?_,nd:=fun k=>?_,sep:=fun k b h=>?_,fresh:=fun k h1 h2=>?_,frame:=?_,gl:=fun g u hg=>BP.le hle (R.gl g u hg) }
  ·by_cases e:k=n
   ·subst e;rw[eY];exact hB
   ·rw[U8 _ _ (by omega)]
    refine Nq hle (SX _ _ e) (fun b hb=>hkeep b (fun e' =>e (R.inj k n b hb e'))) (R.box k)
  ·by_cases e:k=n
   ·by_cases e' :k' =n
    ·rw[e,e']
    ·subst e
     rw[hobn]at h;rw[hob k' e']at h'
     exact absurd h' ((hsep b (hsub b h)).2.2.2 k' e')
   ·by_cases e' :k' =n
    ·subst e'
     rw[hobn]at h';rw[hob k e]at h
     exact absurd h ((hsep b (hsub b h')).2.2.2 k e)
    ·rw[hob k e]at h;rw[hob k' e']at h'
     exact R.inj k k' b h h'
  ·by_cases e:k=n
   ·subst e;rw[hobn];exact hnd
   ·rw[hob k e];exact R.nd k
  ·by_cases e:k=n
   ·subst e;rw[hobn]at h
    obtain⟨h1,h2,h3,_⟩:=hsep b (hsub b h)
    exact⟨h1,by rw[hsz];exact h2,h3⟩
   ·rw[hob k e]at h;obtain⟨h1,h2,h3⟩:=R.sep k b h;exact⟨h1,by rw[hsz];exact h2,h3⟩
  ·obtain⟨f1,f2,f3,f4,f5⟩:=R.frame
   refine⟨hos.trans f1,htp.trans f2,hout.trans f3,by rw[hsz];exact f4,fun b hb hO=>?_⟩
   rw[hkeep b (fun e=>?_)]
   ·exact f5 b hb hO
   ·rcases(R.sep n b e).2.2 with h | h
    ·omega
    ·exact hO h
  ·by_cases e:k=n
   ·subst e;rw[eY]at h2;exact absurd h2 hv
   ·rw[U8 _ _ (by omega)]at h2;exact R.fresh k h1 h2
 ·obtain⟨h0,h0'⟩:=hT' b hb
  obtain⟨h1,h2,h3,h4⟩:=hsep b h0
  refine⟨h1,by rw[hsz];exact h2,h3,fun k h=>?_⟩
  by_cases e:k=n
  ·subst e;rw[hobn]at h;exact h0' h
  ·rw[hob k e]at h;exact h4 k e h
theorem Rel.mod (R:Rel X cl ch S m ok a w) {n:Nat} {v:V} {w' :World} (ho:O6 m n v=O6 m n (S (BOX+n))) (hv:v≠.undef)
  (hos:w'.os=w.os) (htp:w'.tape=w.tape) (hout:w'.output=w.output) (hsz:w'.heap.size=w.heap.size)
  (hkeep:∀b,b∉O6 m n (S (BOX+n))→w'.heap[b]? =w.heap[b]?) (hB:yV ⟨w'.heap,ok,m⟩ n v):Rel X cl ch (upd S (BOX+n) v) m ok a w' :=by
 have h:=R.modK (T:=[]) Tk.nil (n:=n) (v:=v) (ks:=m.kid n) (w' :=w') (T' :=[]) hv (by rw[pY,ho];exact R.nd n) (by rw[pY,ho];exact fun b h=> .inl h) hos htp hout hsz hkeep (by rw[pY];exact hB) List.nodup_nil (fun b h=>by cases h)
 rw[pY]at h
 exact h.1
theorem Rel.widen (R:Rel X cl ch S m ok a w) {n:Nat} {v:V} (hv:v≠.undef) (ho:O6 m n v=[]) {Ts:List Ty} {bs:List Nat} (hbs:∀b∈bs,b∈O6 m n (S (BOX+n)))
  (hB:yV ⟨w.heap,okW ok bs Ts,m⟩ n v):Rel X cl ch (upd S (BOX+n) v) m (okW ok bs Ts) a w:=by
 have hmono:∀b t,ok b t→okW ok bs Ts b t:=fun b t h=> .inl h
 have hob:∀k b,b∈O6 m k (upd S (BOX+n) v (BOX+k))→k≠n∧b∈O6 m k (S (BOX+k)):=fun k b h=>vI ho h
 have hle:Cx.le ⟨w.heap,ok,m⟩ ⟨w.heap,okW ok bs Ts,m⟩:=⟨hmono,fun _ _ _=>rfl,fun _ _ h=>h⟩
 refine { kept:=R.kept,size:=R.size,nodef:=R.nodef,strict:=R.strict,frame:=R.frame,okIn:=fun b t h=>hmono b t (R.okIn b t h),slot:=fun k hk=>(by rw[U8 _ _ (by omega)];exact Jl hle (R.slot k hk)),box:=fun k=>?_,inj:=fun k k' b h h' =>R.inj k k' b (hob _ _ h).2 (hob _ _ h').2,nd:=fun k=>?_,sep:=fun k b h=>?_,okLt:=fun b t h=>?_,okOut:=fun b t h=>?_,fresh:=fun k h1 h2=>?_,gl:=fun g u hg=>BP.le hle (R.gl g u hg) }
 ·by_cases e:k=n
  ·subst e;rw[eY];exact hB
  ·rw[U8 _ _ (by omega)]
   exact Nq hle rfl (fun b hb=>rfl) (R.box k)
 ·by_cases e:k=n
  ·subst e;rw[eY,ho];exact List.nodup_nil
  ·rw[U8 _ _ (by omega)];exact R.nd k
 ·obtain⟨e,h⟩:=hob k b h
  obtain⟨h1,h2,h3⟩:=R.sep k b h
  refine⟨fun t h' =>?_,h2,h3⟩
  rcases h' with h' | ⟨h',_⟩
  ·exact h1 t h'
  ·exact e (R.inj k n b h (hbs b h'))
 ·rcases h with h | ⟨h,_⟩
  ·exact R.okLt b t h
  ·exact(R.sep n b (hbs b h)).2.1
 ·rcases h with h | ⟨h,_⟩
  ·exact R.okOut b t h
  ·exact .inr (R.sep n b (hbs b h)).2.2
 ·by_cases e:k=n
  ·subst e;rw[eY]at h2;exact absurd h2 hv
  ·rw[U8 _ _ (by omega)]at h2;exact R.fresh k h1 h2
theorem Tk.widen (h:Tk X S m ok w T) {n:Nat} {v:V} (ho:O6 m n v=[]) {Ts:List Ty} {bs:List Nat} (hbs:∀b∈bs,b∈O6 m n (S (BOX+n))):
  Tk X (upd S (BOX+n) v) m (okW ok bs Ts) w T:=by
 refine⟨h.nodup,fun b hb=>?_⟩
 obtain⟨h1,h2,h3,h4⟩:=h.free b hb
 refine⟨fun t e=>?_,h2,h3,fun k e=>h4 k (vI ho e).2⟩
 rcases e with e | ⟨e,_⟩
 ·exact h1 t e
 ·exact h4 n (hbs b e)
theorem Rel.backV (R:Rel X cl ch S m ok a w) {n:Nat} {v:V} {O1 B:List Nat} (hv:v≠.undef) (hT:Tk X S m ok w (O1++B)) (ho:O6 m n v=O1) (hB:yV ⟨w.heap,ok,m⟩ n v):
  Rel X cl ch (upd S (BOX+n) v) m ok a w∧Tk X (upd S (BOX+n) v) m ok w B:=by
 have hnd:=List.nodup_append.1 hT.nodup
 have h:=R.modK hT (n:=n) (v:=v) (ks:=m.kid n) (w' :=w) (T' :=B) hv (by rw[pY,ho];exact hnd.1) (by rw[pY,ho];exact fun b h=> .inr (by simp[h])) rfl rfl rfl rfl (fun _ _=>rfl) (by rw[pY];exact hB) hnd.2.1
  (fun b hb=>⟨.inr (by simp[hb]),by rw[pY,ho];exact fun h=>hnd.2.2 b h b hb rfl⟩)
 rw[pY]at h
 exact h
end
end Go.GP
namespace Go.GP
def Du:Loc→Option (Nat×Nat)→Loc
 | .arr blk off len cap sz,some (lo,hi)=>if cap=lo then .arr blk off 0 0 sz else .arr blk (off+lo*sz) (hi -lo) (cap -lo) sz
 | l,_=>l
theorem BR {C:Cx} {t:Ty} {xs:List t.den} {l:Loc} {vw:Option (Nat×Nat)} {v:Value} (ha:arrOk C t xs l) (hv:l.view vw v):
  arrOk C t (aX vw xs) (Du l vw)∧(Du l vw).view none v∧(Du l vw).blks=l.blks:=by
 cases l with
 | st b=>cases ha
 | nil=>
  simp only[arrOk]at ha;subst ha
  cases vw with
  | none=>exact⟨rfl,hv,rfl⟩
  | some p=>obtain⟨lo,hi⟩:=p;obtain⟨rfl,rfl,rfl⟩:=hv;exact⟨rfl,rfl,rfl⟩
 | arr blk off len cap sz=>
  cases vw with
  | none=>exact⟨ha,hv,rfl⟩
  | some p=>
   obtain⟨lo,hi⟩:=p
   obtain⟨rfl,rfl,hc,c,T,hh,hs,hx⟩:=ha
   obtain⟨h1,h2,rfl⟩:=hv
   have hl:(aX (some (lo,hi)) xs).length=hi -lo:=by simp[aX,gq];omega
   by_cases e:cap=lo
   ·subst e
    have e2:hi=cap:=by omega
    subst e2
    simp only[Du,if_true,Loc.view,Nat.sub_self]
    refine⟨⟨rfl,by rw[hl];omega,Nat.le_refl _,c,T,hh,?_,fun i x hi=>?_⟩,trivial,rfl⟩
    ·have:=Nat.zero_le (hi*t.size);omega
    ·have:i<0:=by
      have:=(O5.1 hi).1;rw[hl]at this;omega
     omega
   ·simp only[Du,e,if_false,Loc.view]
    refine⟨⟨rfl,by rw[hl],by omega,c,T,hh,?_,fun i x hix=>?_⟩,trivial,rfl⟩
    ·have:off+lo*t.size+(cap -lo)*t.size=off+cap*t.size:=by
      rw[Nat.add_assoc,←Nat.add_mul];congr 2;omega
     rw[this];exact hs
    ·have hi' :i<hi -lo:=by rw[←hl];exact(O5.1 hix).1
     have hx' :xs[lo+i]? =some x:=by
      simp only[aX,gq,List.getElem?_drop,List.getElem?_take]at hix
      split at hix
      ·exact hix
      ·cases hix
     obtain⟨es,he,hr⟩:=hx _ x hx'
     refine⟨es,?_,hr⟩
     rw[←he];congr 1;rw[Nat.add_mul];omega
def UI (ag:Bool) (v:Value) (cs:List Value):Prop:=match ag with
 | true=>∃arr,v= .agg arr∧arr.toList=cs
 | false=>cs=[v]
def lT (h:Array Obj) (ok:Nat→Ty→Prop):(ms:List MG)→S9 ms→List Value→List Nat→Prop
 | [],_,vs,O=>vs=[]∧O=[]
 | [m],x,vs,O=>∃v cs,vs=[v]∧UI m.1 v cs∧iO h ok m.2 none x cs O
 | m::m' ::r,x,vs,O=>∃v cs vs' O1 O2,vs=v::vs' ∧O=O1++O2∧UI m.1 v cs∧iO h ok m.2 none x.1 cs O1∧lT h ok (m' ::r) x.2 vs' O2
theorem jS {l:Loc} {vw:Option (Nat×Nat)} {v:Value} (h:l.view vw v):v.oneCell' =true:=by
 cases l <;> rcases vw with _ | ⟨lo,hi⟩ <;> simp only[Loc.view]at h
 ·subst h;rfl
 ·obtain⟨_,_,rfl⟩:=h;rfl
 ·subst h;rfl
 ·obtain⟨_,_,rfl⟩:=h;rfl
theorem Oh {h:Array Obj} {ok:Nat→Ty→Prop} {t:Ty} {x:t.den} {o:Nat} {v:Value} (k:XU h ok t x o v):v.oneCell' =true:=by
 obtain⟨_,_,_,rfl,_⟩:=k;rfl
section
variable {h:Array Obj} {ok:Nat→Ty→Prop}
theorem qG {t:Ty} {xs:List t.den} {cs:List Value} {O:List Nat} :iO h ok (.own t) none xs cs O↔∃l v,cs=[v]∧l.view none v∧arrOk ⟨h,ok,nom⟩ t xs l∧O=l.blks:=by
 constructor
 ·rintro⟨v,e,_,l,hv,ha,ho⟩;exact⟨l,v,e,hv,ha,ho⟩
 ·rintro⟨l,v,e,hv,ha,ho⟩;exact⟨v,e,jS hv,l,hv,ha,ho⟩
theorem sS {m:M} {xs:List m.den} {cs:List Value} {O:List Nat} :iO h ok (.owns m) none xs cs O↔m.el=true∧∃l v Os,cs=[v]∧l.view none v∧
  wU h m.size (fun _ x es O=>iO h ok m none x es O) xs Os l∧O=l.blks++Os.flatten:=by
 constructor
 ·rintro⟨v,e,_,he,l,Os,hv,ha,ho⟩;exact⟨he,l,v,Os,e,hv,ha,ho⟩
 ·rintro⟨he,l,v,Os,e,hv,ha,ho⟩;exact⟨v,e,jS hv,he,l,Os,hv,ha,ho⟩
theorem a2Z {a b:M} {x:a.den×b.den} {cs:List Value} {O:List Nat} :iO h ok (.pair a b) none x cs O↔∃c d O1 O2,cs=c++d∧O=O1++O2∧iO h ok a none x.1 c O1∧iO h ok b none x.2 d O2:=Iff.rfl
theorem oI:∀{m:M} {ho:Option Nat} {x:m.den} {cs:List Value} {O:List Nat},iO h ok m ho x cs O→∀v∈cs,v.oneCell' =true
 | .dat t,_,_,_,_,e=>zT e.1
 | .own t,_,_,_,_,⟨v,e,hv,_⟩=>by subst e;simp[hv]
 | .owns t,_,_,_,_,⟨v,e,hv,_⟩=>by subst e;simp[hv]
 | .ownb t,_,_,_,_,⟨l,v,e,hv,_⟩=>by subst e;simp[jS hv]
 | .pair a b,_,_,_,_,⟨c,d,_,_,e,_,h1,h2⟩=>by
  subst e;intro v hv
  rcases List.mem_append.1 hv with hv | hv
  ·exact oI h1 v hv
  ·exact oI h2 v hv
 | .unit,_,_,_,_,⟨e,_⟩=>by subst e;simp
 | .box m,_,_,_,_,⟨_,_,_,_,e,_⟩=>by subst e;simp[Value.oneCell']
 | .rp t,_,_,_,_,⟨v,e,hv,_⟩=>by subst e;simp[Oh hv]
 | .fn f ts,_,_,_,_,⟨vs,e,_⟩=>by subst e;simp[Value.oneCell']
 | .ifc t m,_,_,_,_,⟨u,e,_⟩=>by subst e;simp[Value.oneCell']
 | .cell _,_,_,_,_,⟨v,e,h,_⟩=>by subst e;simp[h]
theorem JG {α β α' β' :Type} (ea:α=α') (eb:β=β') (e:(α×β)=(α' ×β')) (x:α×β):cast e x=(cast ea x.1,cast eb x.2):=by subst ea;subst eb;rfl
theorem M.ty_size:∀{m:M},m.el=true→m.ty.size=m.size
 | .dat _,_=>rfl
 | .own _,_=>rfl
 | .owns _,_=>rfl
 | .unit,_=>rfl
 | .pair a b,h=>by
  have h' :a.el=true∧b.el=true:=by simpa[M.el]using h
  simp[M.ty,Ty.size,M.size,M.ty_size h'.1,M.ty_size h'.2]
 | .box _,h=>by simp[M.el]at h
 | .ownb _,h=>by simp[M.el]at h
 | .rp _,h=>by simp[M.el]at h
 | .fn _ _,h=>by simp[M.el]at h
 | .ifc _ _,h=>by simp[M.el]at h
 | .cell _,h=>by simp[M.el]at h
theorem Y9:∀{m:M} {ho:Option Nat} {x:m.den} {cs:List Value} {O:List Nat},iO h ok m ho x cs O→cs.length=m.size
 | .dat t,_,_,_,_,e=>dY e.1
 | .own t,_,_,_,_,⟨v,e,hv,_⟩=>by subst e;rfl
 | .owns t,_,_,_,_,⟨v,e,hv,_⟩=>by subst e;rfl
 | .ownb t,_,_,_,_,⟨l,v,e,hv,_⟩=>by subst e;rfl
 | .pair a b,_,_,_,_,⟨c,d,_,_,e,_,h1,h2⟩=>by subst e;simp[Y9 h1,Y9 h2,M.size]
 | .unit,_,_,_,_,⟨e,_⟩=>by subst e;rfl
 | .box m,_,_,_,_,⟨_,_,_,_,e,_⟩=>by subst e;rfl
 | .rp t,_,_,_,_,⟨v,e,hv,_⟩=>by subst e;rfl
 | .fn f ts,_,_,_,_,⟨vs,e,_⟩=>by subst e;rfl
 | .ifc t m,_,_,_,_,⟨u,e,_⟩=>by subst e;rfl
 | .cell _,_,_,_,_,⟨v,e,_⟩=>by subst e;rfl
theorem Vp {ok' :Nat→Ty→Prop} {α:Type} {t:Ty} {sz:Nat} {mp:Mp} (e:α=t.den) (e' :List α=List t.den) (hs:t.size=sz) {R:Nat→α→List Value→List Nat→Prop} {xs:List α} {Os:List (List Nat)} {l:Loc}
  (hR:∀i x es O,O∈Os→R i x es O→rep h ok' t (cast e x) es) (ha:wU h sz R xs Os l):arrOk ⟨h,ok',mp⟩ t (cast e' xs) l:=by
 subst e
 simp only[cast_eq]at hR ⊢
 cases l with
 | nil=>exact ha.1
 | st b=>exact ha
 | arr blk off len cap sz' =>
  obtain⟨h1,h2,h3,h7,c,T,h4,h5,h6⟩:=ha
  refine⟨by rw[hs];exact h1,h2,h3,c,T,h4,by rw[h1];exact h5,fun i x hi=>?_⟩
  obtain⟨es,O,hO,hc,hr⟩:=h6 i x hi
  exact⟨es,by rw[h1];exact hc,hR i x es O (dN hO) hr⟩
theorem Jk {ok' :Nat→Ty→Prop} (hok:∀b t,ok b t→ok' b t):∀{m:M} (he:m.el=true) {x:m.den} {cs:List Value} {O:List Nat},(∀b∈O,∀t∈m.owned,ok' b t)→iO h ok m none x cs O→rep h ok' m.ty (cast (M.denEq m he) x) cs
 | .dat t,_,_,_,_,_,e=>bI hok (fun _ _ _=>rfl) e.1
 | .unit,_,_,_,_,_,e=>e.1
 | .own t,he,xs,_,_,hO,e=>by
  obtain⟨l,v,rfl,hv,ha,rfl⟩:=qG.1 e
  exact iZ (C:=⟨h,ok,nom⟩) (vw:=none) ha hv hok (fun blk off len cap sz e=>by subst e;exact hO blk (by simp[Loc.blks]) t (by simp[M.owned]))
 | .pair a b,he,x,_,_,hO,e=>by
  obtain⟨c,d,O1,O2,rfl,rfl,h1,h2⟩:=e
  have h' :a.el=true∧b.el=true:=by simpa[M.el]using he
  have e:cast (M.denEq (.pair a b) he) x=(cast (M.denEq a h'.1) x.1,cast (M.denEq b h'.2) x.2):=JG _ _ _ _
  refine⟨c,d,rfl,?_,?_⟩
  ·rw[e];exact Jk hok h'.1 (fun b hb t ht=>hO b (by simp[hb]) t (by simp[M.owned,ht])) h1
  ·rw[e];exact Jk hok h'.2 (fun b hb t ht=>hO b (by simp[hb]) t (by simp[M.owned,ht])) h2
 | .owns m,he,xs,_,_,hO,e=>by
  obtain⟨_,l,v,Os,rfl,hv,ha,rfl⟩:=sS.1 e
  have he' :m.el=true:=he
  have hA:arrOk ⟨h,ok',nom⟩ m.ty (cast (congrArg List (M.denEq m he')) xs) l:=Vp (M.denEq m he') _ (M.ty_size he') (fun i x es O hOi hr=>Jk hok he' (fun b hb t ht=>hO b (by
   simp only[List.mem_append,List.mem_flatten];exact .inr ⟨O,hOi,hb⟩) t (by simp[M.owned,ht])) hr) ha
  exact iZ (C:=⟨h,ok',nom⟩) (t:=m.ty) (vw:=none) hA hv (fun _ _ h=>h) (fun blk off len cap sz e=>by subst e;exact hO blk (by simp[Loc.blks]) m.ty (by simp[M.owned]))
 | .box _,h,_,_,_,_,_=>by simp[M.el]at h
 | .ownb _,h,_,_,_,_,_=>by simp[M.el]at h
 | .rp _,h,_,_,_,_,_=>by simp[M.el]at h
 | .fn _ _,h,_,_,_,_,_=>by simp[M.el]at h
 | .ifc _ _,h,_,_,_,_,_=>by simp[M.el]at h
 | .cell _,h,_,_,_,_,_=>by simp[M.el]at h
theorem Gj {ok' :Nat→Ty→Prop} {m:M} {mp:Mp} (he:m.el=true) (hok:∀b t,ok b t→ok' b t) {xs:List m.den} {Os:List (List Nat)} {l:Loc} (hO:∀b∈Os.flatten,∀t∈m.owned,ok' b t)
  (ha:wU h m.size (fun _ x es O=>iO h ok m none x es O) xs Os l):arrOk ⟨h,ok',mp⟩ m.ty (cast (congrArg List (M.denEq m he)) xs) l:=
 Vp (M.denEq m he) _ (M.ty_size he) (fun i x es O hOi hr=>Jk hok he (fun b hb t ht=>hO b (List.mem_flatten.2 ⟨O,hOi,hb⟩) t ht) hr) ha
end
theorem MB {h h' :Array Obj} {ok ok' :Nat→Ty→Prop} (hok:∀b t,ok b t→ok' b t) (hh:∀b t,ok b t→h'[b]? =h[b]?):
  ∀{ms:List MG} {x:S9 ms} {vs:List Value} {O:List Nat},(∀b∈O,h'[b]? =h[b]?)→lT h ok ms x vs O→lT h' ok' ms x vs O
 | [],_,_,_,_,e=>e
 | [m],_,_,_,hb,⟨v,cs,e,hg,hr⟩=>⟨v,cs,e,hg,cu hok hh hb hr⟩
 | m::m' ::r,_,_,_,hb,⟨v,cs,vs',O1,O2,e,eo,hg,h1,h2⟩=>by
  subst eo
  exact⟨v,cs,vs',O1,O2,e,rfl,hg,cu hok hh (fun b h=>hb b (by simp[h])) h1,MB hok hh (fun b h=>hb b (by simp[h])) h2⟩
section
variable {X:Fx} {cl ch:Nat} {S:Sm} {m:Mp} {ok:Nat→Ty→Prop} {a:Act} {w:World} {T:List Nat}
theorem dC {α:Type} {Q:α→Sm→Prop} {p q:Ty} {xs:List p.den} {k:List q.den→Cmd α} {S:Sm}
  (h:∀e:p=q,(k (e▸xs)).post S Q):(Ty.castL p q xs k .fail).post S Q:=by
 unfold Ty.castL
 split
 ·rename_i e;exact h e
 ·trivial
theorem aG {α:Type} {Q:α→Sm→Prop} {b:Bool} {c:Cmd α} {S:Sm} (h:b=true→c.post S Q):(bif b then c else Cmd.fail).post S Q:=by
 cases b
 ·trivial
 ·exact h rfl
theorem BV {α:Type} {Q:α→Sm→Prop} {p q:Ty} {x:p.den} {k:q.den→Cmd α} {S:Sm}
  (h:∀e:p=q,(k (e▸x)).post S Q):(Rn p q x k .fail).post S Q:=by
 unfold Rn
 split
 ·rename_i e;exact h e
 ·trivial
theorem NT {α:Type} {Q:α→Sm→Prop} {p q:M} {xs:List p.den} {k:List q.den→Cmd α} {S:Sm}
  (h:∀e:p=q,(k (e▸xs)).post S Q):(ZZ p q xs k .fail).post S Q:=by
 unfold ZZ
 split
 ·rename_i e;exact h (M.beq_eq e)
 ·trivial
theorem VG {α:Type} {Q:α→Sm→Prop} {p:M} {t:Ty} {xs:List p.den} {k:List t.den→Cmd α} {S:Sm}
  (h:∀(e:p.el=true) (e' :p.ty=t),(k (e' ▸cast (congrArg List (M.denEq p e)) xs)).post S Q):(Ya p t xs k .fail).post S Q:=by
 unfold Ya
 split
 ·rename_i e
  obtain⟨e,rfl⟩:=e
  exact h e rfl
 ·trivial
theorem Ji {h:Array Obj} {ok ok' :Nat→Ty→Prop} {m:Mp} (k:∀b t,ok b t→ok' b t) {cs:List V} {vs:List Value} (hr:aH ⟨h,ok,m⟩ cs vs):aH ⟨h,ok',m⟩ cs vs:=
 zO (C:=⟨h,ok,m⟩) (D:=⟨h,ok',m⟩) ⟨k,fun _ _ _=>rfl,fun _ _ h=>h⟩ hr
theorem Nr {h:Array Obj} {ok ok' :Nat→Ty→Prop} {m:Mp} (k:∀b t,ok b t→ok' b t) {c:V} {v:Value} (hr:gJ ⟨h,ok,m⟩ c v):gJ ⟨h,ok',m⟩ c v:=
 Jl (C:=⟨h,ok,m⟩) (D:=⟨h,ok',m⟩) ⟨k,fun _ _ _=>rfl,fun _ _ h=>h⟩ hr
theorem Hm {bs:List Nat} {Ts:List Ty} :∀b t,ok b t→okW ok bs Ts b t:=fun _ _ h=> .inl h
def okL (ln:Ty→Bool) (S:Sm) (m:Mp) (ok:Nat→Ty→Prop):Nat→Ty→Prop:=fun b t=>ok b t∨(ln t=true∧∃n,b∈O6 m n (S (BOX+n))∧t∈a5d (S (BOX+n)))
theorem a4T:okL wK S m ok=ok:=by funext b t;simp[okL,wK]
theorem Sz {ln:Ty→Bool} {n:Nat} {v:V} (hv:O6 m n v=[]) {Ts:List Ty} {bs:List Nat} (hbs:O6 m n (S (BOX+n)) ⊆ bs) (hTs:a5d (S (BOX+n)) ⊆ Ts):
  ∀b t,okL ln S m ok b t→okL ln (upd S (BOX+n) v) m (okW ok bs Ts) b t:=by
 intro b t h
 rcases h with h | ⟨hl,k,hk,ht⟩
 ·exact .inl (.inl h)
 ·by_cases e:k=n
  ·subst e;exact .inl (.inr ⟨hbs hk,hTs ht⟩)
  ·exact .inr ⟨hl,k,by rw[U8 _ _ (by omega)];exact⟨hk,ht⟩⟩
def X7 (S S' :Sm):Prop:=∀n,n<BOX→S' n=S n
theorem X7.refl (S:Sm):X7 S S:=fun _ _=>rfl
theorem X7.trans {A B C:Sm} (h:X7 A B) (k:X7 B C):X7 A C:=fun n hn=>(k n hn).trans (h n hn)
theorem X7.box (S:Sm) (n:Nat) (v:V):X7 S (upd S (BOX+n) v):=fun k hk=>U8 _ _ (by omega)
theorem QY {ln:Ty→Bool} :∀{ts:List Ty},Vk ln ts=true→∀t∈ts,ln t=true
 | [],_,_,h=>by cases h
 | u::r,e,t,h=>by
  unfold Vk at e
  cases hl:ln u with
  | false=>rw[hl]at e;cases e
  | true=>
   rw[hl]at e
   rcases List.mem_cons.1 h with rfl | h
   ·exact hl
   ·exact QY e t h
theorem Ad {α:Type} {Q:α→Sm→Prop} (ln:Ty→Bool):∀(t:Ty) {cs:List V} {K:t.den→List V→Cmd α} {S:Sm} {ok:Nat→Ty→Prop} {vs:List Value} (R:Rel X cl ch S m ok a w) (hT:Tk X S m ok w T)
  (hL:aH ⟨w.heap,ok,m⟩ cs vs)
  (hK:∀S' ok' x r us us',Rel X cl ch S' m ok' a w→Tk X S' m ok' w T→(∀b t,ok b t→ok' b t)→(∀b t,okL ln S m ok b t→okL ln S' m ok' b t)→X7 S S' →vs=us++us' →rep w.heap (okL ln S' m ok') t x us→aH ⟨w.heap,ok',m⟩ r us' →(K x r).post S' Q),
  (jl ln t cs K).post S Q
 | .bool,cs,K,S,ok,vs,R,hT,hL,hK=>by
  unfold jl
  split
  ·obtain⟨v,r,rfl,h1,_,h3⟩:=hL
   exact hK _ _ _ _ [v] r R hT (fun _ _ h=>h) (fun _ _ h=>h) (X7.refl _) rfl (by simp only[sV]at h1;simp[rep,h1]) h3
  ·trivial
 | .int k,cs,K,S,ok,vs,R,hT,hL,hK=>by
  unfold jl
  split
  ·rename_i k' n r0
   obtain⟨v,r,rfl,h1,_,h3⟩:=hL
   by_cases e:k=k'
   ·subst e
    simp only[decide_true,cond_true]
    exact hK _ _ _ _ [v] r R hT (fun _ _ h=>h) (fun _ _ h=>h) (X7.refl _) rfl (by simp only[sV]at h1;simp[rep,h1]) h3
   ·simp only[e,decide_false,cond_false];trivial
  ·trivial
 | .str,cs,K,S,ok,vs,R,hT,hL,hK=>by
  unfold jl
  split
  ·obtain⟨v,r,rfl,h1,_,h3⟩:=hL
   exact hK _ _ _ _ [v] r R hT (fun _ _ h=>h) (fun _ _ h=>h) (X7.refl _) rfl (by simp only[sV]at h1;simp[rep,h1]) h3
  ·trivial
 | .unit,cs,K,S,ok,vs,R,hT,hL,hK=>by
  unfold jl
  exact hK _ _ _ _ [] vs R hT (fun _ _ h=>h) (fun _ _ h=>h) (X7.refl _) rfl rfl hL
 | .prod p q,cs,K,S,ok,vs,R,hT,hL,hK=>by
  unfold jl
  refine Ad ln p R hT hL fun S1 ok1 x r us us' R1 T1 k1 g1 s1 e1 h1 l1=>?_
  refine Ad ln q R1 T1 l1 fun S2 ok2 y r' vs2 vs2' R2 T2 k2 g2 s2 e2 h2 l2=>?_
  subst e1;subst e2
  exact hK _ _ _ _ (us++vs2) vs2' R2 T2 (fun b t h=>k2 b t (k1 b t h)) (fun b t h=>g2 b t (g1 b t h)) (s1.trans s2) (by simp) ⟨us,vs2,rfl,bI g2 (fun _ _ _=>rfl) h1,h2⟩ l2
 | .sl t,cs,K,S,ok,vs,R,hT,hL,hK=>by
  unfold jl
  split
  ·obtain⟨v,r,rfl,h1,_,h3⟩:=hL
   simp only[sV]at h1;subst h1
   exact hK _ _ _ _ [_] r R hT (fun _ _ h=>h) (fun _ _ h=>h) (X7.refl _) rfl ⟨none,0,rfl,Nat.le_refl _,fun i x hi=>by simp at hi⟩ h3
  ·rename_i t' xs r0
   obtain⟨v,r,rfl,h1,_,h3⟩:=hL
   refine dC fun e=>?_
   subst e
   exact hK _ _ _ _ [v] r R hT (fun _ _ h=>h) (fun _ _ h=>h) (X7.refl _) rfl (bI (fun _ _ h=> .inl h) (fun _ _ _=>rfl) h1) h3
  ·rename_i bx vw r0
   obtain⟨v,r,rfl,h1,_,h3⟩:=hL
   obtain⟨l,hm,hv⟩:=h1
   show Cmd.post (match S (BOX+bx)with | .barr t' xs=>_ | .bfrz t' xs=>_ | .barrs el xs none=>_ | _=>_) S Q
   have hb:=R.box bx
   split
   ·rename_i t' xs hS
    rw[hS]at hb
    obtain⟨l',hm',ha⟩:=hb
    simp only at hm hm'
    rw[hm]at hm';cases hm'
    refine dC fun e=>?_
    subst e
    have hob:O6 m bx (S (BOX+bx))=l.blks:=by
     rw[hS];cases l <;> first | (simp[O6,hm,Loc.blks];done) | cases ha
    cases hl:ln t'
    ·simp only[cond_false]
     show Cmd.post _ (upd S (BOX+bx) (.bfrz t' xs)) Q
     have hbs:∀b∈l.blks,b∈O6 m bx (S (BOX+bx)):=fun b h=>by rw[hob];exact h
     refine hK _ (okW ok l.blks [t']) _ _ [v] r (R.widen (by simp) rfl hbs ?_) (hT.widen rfl hbs) Hm (Sz rfl (by rw[hob];exact fun _ h=>h) (by rw[hS];exact fun _ h=>h)) (X7.box _ _ _) rfl ?_ (Ji Hm h3)
     ·refine⟨l,hm,nJ Hm (fun _ _ _=>rfl) (fun _ _=>rfl) ha,?_⟩
      rintro blk off len cap sz rfl
      exact .inr ⟨by simp[Loc.blks],by simp⟩
     ·exact iZ (C:=⟨w.heap,ok,m⟩) ha hv (fun b t h=> .inl (.inl h)) (fun blk off len cap sz e=>by subst e;exact .inl (.inr ⟨by simp[Loc.blks],by simp⟩))
    ·simp only[cond_true]
     refine hK _ _ _ _ [v] r R hT (fun _ _ h=>h) (fun _ _ h=>h) (X7.refl _) rfl ?_ h3
     refine iZ (C:=⟨w.heap,ok,m⟩) ha hv (fun b t h=> .inl h) (fun blk off len cap sz e=> .inr ⟨hl,bx,?_,by rw[hS];simp[a5d]⟩)
     rw[hob];subst e;simp[Loc.blks]
   ·rename_i t' xs hS
    rw[hS]at hb
    obtain⟨l',hm',ha,hok⟩:=hb
    simp only at hm hm'
    rw[hm]at hm';cases hm'
    refine dC fun e=>?_
    subst e
    exact hK _ _ _ _ [v] r R hT (fun _ _ h=>h) (fun _ _ h=>h) (X7.refl _) rfl (iZ (C:=⟨w.heap,ok,m⟩) ha hv (fun _ _ h=> .inl h) (fun blk off len cap sz e=> .inl (hok _ _ _ _ _ e))) h3
   ·rename_i md xs hS
    rw[hS]at hb
    obtain⟨hel,l',Os,hm',ha,hk⟩:=hb
    simp only at hm hm' hk
    rw[hm]at hm';cases hm'
    refine VG fun e e' =>?_
    subst e'
    have hob:O6 m bx (S (BOX+bx))=l.blks++Os.flatten:=by
     rw[hS];simp only[O6];rw[hk];cases l <;> first | (simp[hm,Loc.blks];done) | cases ha
    simp only
    cases hl:(ln md.ty&&Vk ln md.owned)
    ·simp only[cond_false]
     show Cmd.post _ (upd S (BOX+bx) (.bfrz md.ty _)) Q
     have hbs:∀b∈l.blks++Os.flatten,b∈O6 m bx (S (BOX+bx)):=fun b h=>by rw[hob];exact h
     have ha' :arrOk ⟨w.heap,okW ok (l.blks++Os.flatten) (md.ty::md.owned),m⟩ md.ty (cast (congrArg List (M.denEq md e)) xs) l:=
      Gj e Hm (fun b hb t ht=> .inr ⟨by simp[hb],by simp[ht]⟩) ha
     refine hK _ (okW ok (l.blks++Os.flatten) (md.ty::md.owned)) _ _ [v] r (R.widen (by simp) rfl hbs ?_) (hT.widen rfl hbs) Hm (Sz rfl (by rw[hob];exact fun _ h=>h) (by rw[hS];exact fun _ h=>h)) (X7.box _ _ _) rfl ?_ (Ji Hm h3)
     ·refine⟨l,hm,ha',?_⟩
      rintro blk off len cap sz rfl
      exact .inr ⟨by simp[Loc.blks],by simp⟩
     ·exact iZ (C:=⟨w.heap,okW ok (l.blks++Os.flatten) (md.ty::md.owned),m⟩) ha' hv (fun b t h=> .inl h) (fun blk off len cap sz e=>by subst e;exact .inl (.inr ⟨by simp[Loc.blks],by simp⟩))
    ·simp only[cond_true]
     simp only[Bool.and_eq_true]at hl
     have ha' :arrOk ⟨w.heap,okL ln S m ok,m⟩ md.ty (cast (congrArg List (M.denEq md e)) xs) l:=
      Gj e (fun b t h=> .inl h) (fun b hb t ht=> .inr ⟨QY hl.2 t ht,bx,by rw[hob];simp[hb],by rw[hS];simp[a5d,ht]⟩) ha
     refine hK _ _ _ _ [v] r R hT (fun _ _ h=>h) (fun _ _ h=>h) (X7.refl _) rfl ?_ h3
     refine iZ (C:=⟨w.heap,okL ln S m ok,m⟩) ha' hv (fun b t h=>h) (fun blk off len cap sz e=> .inr ⟨hl.1,bx,?_,by rw[hS];simp[a5d]⟩)
     rw[hob];subst e;simp[Loc.blks]
   ·trivial
  ·trivial
theorem BM {α:Type} {Q:α→Sm→Prop} (t:Ty) {cs:List V} {K:t.den→List V→Cmd α} {S:Sm} {ok:Nat→Ty→Prop} {vs:List Value} (R:Rel X cl ch S m ok a w) (hT:Tk X S m ok w T)
  (hL:aH ⟨w.heap,ok,m⟩ cs vs)
  (hK:∀S' ok' x r us us',Rel X cl ch S' m ok' a w→Tk X S' m ok' w T→(∀b t,ok b t→ok' b t)→X7 S S' →vs=us++us' →rep w.heap ok' t x us→aH ⟨w.heap,ok',m⟩ r us' →(K x r).post S' Q):
  (jl wK t cs K).post S Q:=
 Ad wK t R hT hL fun S' ok' x r us us' R' T' k g s e h l=>hK S' ok' x r us us' R' T' k s e (by rw[a4T]at h;exact h) l
theorem Loc.blks_nodup (l:Loc):l.blks.Nodup:=by cases l <;> simp[Loc.blks]
theorem Xf {α:Type} {Q:α→Sm→Prop} (t:Ty) {c:V} {K:t.den→Cmd α} {S:Sm} {ok:Nat→Ty→Prop} {v:Value} (R:Rel X cl ch S m ok a w) (hT:Tk X S m ok w T)
  (hv:sV ⟨w.heap,ok,m⟩ c v)
  (hK:∀S' ok' x,Rel X cl ch S' m ok' a w→Tk X S' m ok' w T→(∀b t,ok b t→ok' b t)→X7 S S' →XU w.heap ok' t x 0 v→(K x).post S' Q):(rpC t c K).post S Q:=by
 unfold rpC
 split
 ·refine BV fun e=>?_
  subst e
  exact hK _ _ _ R hT (fun _ _ h=>h) (X7.refl _) hv
 ·rename_i bx
  obtain⟨blk,hm,rfl⟩:=hv
  show Cmd.post (match S (BOX+bx)with | .bfc t' x=>_ | .bcells bs=>_ | _=>_) S Q
  have hb:=R.box bx
  split
  ·rename_i t' x hS
   rw[hS]at hb
   obtain⟨blk',es,hm',hok,hc,hr⟩:=hb
   simp only at hm hm'
   rw[hm]at hm';cases hm'
   refine BV fun e=>?_
   subst e
   exact hK _ _ _ R hT (fun _ _ h=>h) (X7.refl _) ⟨blk,0,es,rfl,hok,hc,hr⟩
  ·rename_i bs hS
   rw[hS]at hb
   obtain⟨blk',arr,Ty',hm',hh,hl⟩:=hb
   simp only at hm hm'
   rw[hm]at hm';cases hm'
   refine BM t R hT hl fun S1 ok1 x q us us' R1 T1 k1 s1 e1 h1 l1=>?_
   cases q with
   | cons c q=>trivial
   | nil=>
    simp only[aH]at l1
    subst l1
    simp only[List.append_nil]at e1
    show Cmd.post (match S1 (BOX+bx)with | .bcells _=>_ | _=>_) S1 Q
    split
    ·rename_i bs' hS'
     show Cmd.post _ (upd S1 (BOX+bx) (.bfc t x)) Q
     have hbs:∀b∈[blk],b∈O6 m bx (S1 (BOX+bx)):=fun b h=>by rw[hS'];simp at h;subst h;simp[O6,hm]
     have hce:Z9 w.heap blk 0 t.size=some us:=by
      rw[gU hh 0 t.size (by have:=dY h1;rw[←e1]at this;simp at this;omega)]
      rw[e1,←dY h1];simp
     have hr:=bI (Hm (bs:=[blk]) (Ts:=[t])) (fun _ _ _=>rfl) h1
     refine hK _ (okW ok1 [blk] [t]) _ (R1.widen (by simp) rfl hbs ?_) (T1.widen rfl hbs) (fun b t h=> .inl (k1 b t h)) (s1.trans (X7.box _ _ _)) ?_
     ·exact⟨blk,us,hm,.inr ⟨by simp,by simp⟩,hce,hr⟩
     ·exact⟨blk,0,us,rfl,.inr ⟨by simp,by simp⟩,hce,hr⟩
    ·trivial
  ·trivial
 ·trivial
theorem La {α:Type} {Q:α→Sm→Prop} {h:Array Obj} {ok:Nat→Ty→Prop} :∀(ts:List Ty) {cs:List ((t:Ty)×t.den)} {vs:List Value} {K:KX ts→Cmd α} {S:Sm}
  (hc:yD h ok cs vs) (hK:∀x,yD h ok (KW ts x) vs→(K x).post S Q),(JF ts cs K).post S Q
 | [],cs,vs,K,S,hc,hK=>by
  unfold JF
  split
  ·exact hK _ hc
  ·trivial
 | [t],cs,vs,K,S,hc,hK=>by
  unfold JF
  split
  ·refine BV fun e=>?_
   subst e
   exact hK _ hc
  ·trivial
 | t::t' ::r,cs,vs,K,S,hc,hK=>by
  unfold JF
  split
  ·obtain⟨v,vs',rfl,h1,h2⟩:=hc
   refine BV fun e=>?_
   subst e
   exact La (t' ::r) h2 fun y hy=>hK _ ⟨v,vs',rfl,h1,hy⟩
  ·trivial
theorem yG {α:Type} {Q:α→Sm→Prop} :∀(md:M) {cs:List V} {K:md.den→List V→Cmd α} {S:Sm} {ok:Nat→Ty→Prop} {vs:List Value} {T:List Nat} (R:Rel X cl ch S m ok a w) (hT:Tk X S m ok w T)
  (hL:aH ⟨w.heap,ok,m⟩ cs vs)
  (hK:∀S' ok' x r us us' O,Rel X cl ch S' m ok' a w→Tk X S' m ok' w (T++O)→(∀b t,ok b t→ok' b t)→X7 S S' →vs=us++us' →iO w.heap ok' md none x us O→aH ⟨w.heap,ok',m⟩ r us' →(K x r).post S' Q),
  (exM wK md cs K).post S Q
 | .dat t,cs,K,S,ok,vs,T,R,hT,hL,hK=>by
  unfold exM
  exact BM t R hT hL fun S' ok' x r us us' R' T' k s e h l=>hK S' ok' x r us us' [] R' (by simpa using T') k s e ⟨h,rfl⟩ l
 | .own t,cs,K,S,ok,vs,T,R,hT,hL,hK=>by
  unfold exM
  split
  ·obtain⟨v,r,rfl,h1,_,h3⟩:=hL
   simp only[sV]at h1;subst h1
   exact hK _ _ _ _ [_] r [] R (by simpa using hT) (fun _ _ h=>h) (X7.refl _) rfl (qG.2 ⟨.nil,_,rfl,rfl,rfl,rfl⟩) h3
  ·rename_i bx vw r0
   obtain⟨v,r,rfl,h1,_,h3⟩:=hL
   obtain⟨l,hm,hv⟩:=h1
   show Cmd.post (match S (BOX+bx)with | .barr t' xs=>_ | _=>_) S Q
   have hb:=R.box bx
   split
   ·rename_i t' xs hS
    rw[hS]at hb
    obtain⟨l',hm',ha⟩:=hb
    simp only at hm hm'
    rw[hm]at hm';cases hm'
    refine dC fun e=>?_
    subst e
    obtain⟨a1,a2,a3⟩:=BR (C:=⟨w.heap,ok,m⟩) ha hv
    show Cmd.post _ (upd S (BOX+bx) .dead) Q
    refine hK _ ok _ _ [v] r (Du l vw).blks (R.kill bx) ?_ (fun _ _ h=>h) (X7.box _ _ _) rfl (qG.2 ⟨_,v,rfl,a2,nJ (fun _ _ h=>h) (fun _ _ _=>rfl) (fun _ _=>rfl) a1,rfl⟩) h3
    rw[a3]
    refine hT.kill R bx (fun b hb=>?_) (Loc.blks_nodup l)
    cases l with
    | nil=>simp[Loc.blks]at hb
    | st _=>cases ha
    | arr blk off len cap sz=>simp[Loc.blks]at hb;subst hb;simp[O6,hS,hm]
   ·trivial
  ·trivial
 | .ownb t,cs,K,S,ok,vs,T,R,hT,hL,hK=>by
  unfold exM
  split
  ·obtain⟨v,r,rfl,h1,_,h3⟩:=hL
   simp only[sV]at h1;subst h1
   exact hK _ _ _ _ [_] r [] R (by simpa using hT) (fun _ _ h=>h) (X7.refl _) rfl ⟨.nil,_,rfl,rfl,rfl,rfl⟩ h3
  ·rename_i bx r0
   obtain⟨v,r,rfl,h1,_,h3⟩:=hL
   obtain⟨l,hm,hv⟩:=h1
   show Cmd.post (match S (BOX+bx)with | .barr t' xs=>_ | _=>_) S Q
   have hb:=R.box bx
   split
   ·rename_i t' xs hS
    rw[hS]at hb
    obtain⟨l',hm',ha⟩:=hb
    simp only at hm hm'
    rw[hm]at hm';cases hm'
    refine dC fun e=>?_
    subst e
    show Cmd.post _ (upd S (BOX+bx) (.gone t')) Q
    refine hK _ ok _ _ [v] r l.blks (R.killV bx (by simp) rfl ⟨l,hm,fun blk off len cap sz e=>by subst e;exact ha.1⟩) ?_ (fun _ _ h=>h) (X7.box _ _ _) rfl ⟨l,v,rfl,hv,nJ (fun _ _ h=>h) (fun _ _ _=>rfl) (fun _ _=>rfl) ha,rfl⟩ h3
    refine hT.killV R bx rfl (fun b hb=>?_) (Loc.blks_nodup l)
    cases l with
    | nil=>simp[Loc.blks]at hb
    | st _=>cases ha
    | arr blk off len cap sz=>simp[Loc.blks]at hb;subst hb;simp[O6,hS,hm]
   ·trivial
  ·trivial
 | .owns md,cs,K,S,ok,vs,T,R,hT,hL,hK=>by
  unfold exM
  split
  ·obtain⟨v,r,rfl,h1,_,h3⟩:=hL
   simp only[sV]at h1;subst h1
   refine aG fun he=>?_
   exact hK _ _ _ _ [_] r [] R (by simpa using hT) (fun _ _ h=>h) (X7.refl _) rfl (sS.2 ⟨he,.nil,_,[],rfl,rfl,⟨rfl,rfl⟩,rfl⟩) h3
  ·rename_i bx r0
   obtain⟨v,r,rfl,h1,_,h3⟩:=hL
   obtain⟨l,hm,hv⟩:=h1
   show Cmd.post (match S (BOX+bx)with | .barrs m' xs none=>_ | _=>_) S Q
   have hb:=R.box bx
   split
   ·rename_i md' xs hS
    rw[hS]at hb
    obtain⟨hel,l',Os,hm',ha,hk⟩:=hb
    simp only at hm hm' hk
    rw[hm]at hm';cases hm'
    refine NT fun e=>?_
    subst e
    have hob:O6 m bx (S (BOX+bx))=l.blks++Os.flatten:=by
     rw[hS];simp only[O6];rw[hk];cases l <;> first | (simp[hm,Loc.blks];done) | cases ha
    show Cmd.post _ (upd S (BOX+bx) .dead) Q
    refine hK _ ok _ _ [v] r (l.blks++Os.flatten) (R.kill bx) ?_ (fun _ _ h=>h) (X7.box _ _ _) rfl (sS.2 ⟨hel,l,v,Os,rfl,hv,ha,rfl⟩) h3
    refine hT.kill R bx (fun b hb=>by rw[hob];exact hb) (by rw[←hob];exact R.nd bx)
   ·trivial
  ·trivial
 | .unit,cs,K,S,ok,vs,T,R,hT,hL,hK=>by
  unfold exM
  exact hK _ _ _ _ [] vs [] R (by simpa using hT) (fun _ _ h=>h) (X7.refl _) rfl ⟨rfl,rfl⟩ hL
 | .pair p q,cs,K,S,ok,vs,T,R,hT,hL,hK=>by
  unfold exM
  refine yG p R hT hL fun S1 ok1 x r us us' O1 R1 T1 k1 s1 e1 h1 l1=>?_
  refine yG q R1 T1 l1 fun S2 ok2 y r' vs2 vs2' O2 R2 T2 k2 s2 e2 h2 l2=>?_
  subst e1;subst e2
  exact hK _ _ _ _ (us++vs2) vs2' (O1++O2) R2 (by simpa using T2) (fun b t h=>k2 b t (k1 b t h)) (s1.trans s2) (by simp) ⟨us,vs2,O1,O2,rfl,rfl,cu k2 (fun _ _ _=>rfl) (fun _ _=>rfl) h1,h2⟩ l2
 | .box md,cs,K,S,ok,vs,T,R,hT,hL,hK=>by
  unfold exM
  split
  ·rename_i bx r0
   obtain⟨v,r,rfl,h1,_,h3⟩:=hL
   obtain⟨blk,hm,hv⟩:=h1
   show Cmd.post (match S (BOX+bx)with | .bcells bs=>_ | _=>_) S Q
   have hb:=R.box bx
   split
   ·rename_i bs hS
    rw[hS]at hb
    obtain⟨blk',arr,Ty',hm',hh,hl⟩:=hb
    simp only at hm hm' hv
    rw[hm]at hm';cases hm'
    subst hv
    show Cmd.post _ (upd S (BOX+bx) .dead) Q
    have hT1:Tk X (upd S (BOX+bx) .dead) m ok w (T++[blk]):=hT.kill R bx (fun b hb=>by simp at hb;subst hb;simp[O6,hS,hm]) (by simp)
    refine yG md (R.kill bx) hT1 hl fun S1 ok1 x q us us' O R1 T1 k1 s1 e1 h1 l1=>?_
    cases q with
    | nil=>
     simp only[aH]at l1
     subst l1
     simp only[List.append_nil]at e1
     refine hK _ _ _ _ [_] r (blk::O) R1 (by simpa using T1) k1 ((X7.box _ _ _).trans s1) rfl ⟨blk,arr,Ty',O,rfl,hh,by rw[e1];exact h1,rfl⟩ (Ji k1 h3)
    | cons c q=>trivial
   ·trivial
  ·trivial
 | .rp t,cs,K,S,ok,vs,T,R,hT,hL,hK=>by
  unfold exM
  split
  ·obtain⟨v,r,rfl,h1,_,h3⟩:=hL
   refine Xf t R hT h1 fun S1 ok1 x R1 T1 k1 s1 h1=>?_
   exact hK _ _ _ _ [v] r [] R1 (by simpa using T1) k1 s1 rfl ⟨v,rfl,h1,rfl⟩ (Ji k1 h3)
  ·trivial
 | .fn f ts,cs,K,S,ok,vs,T,R,hT,hL,hK=>by
  unfold exM
  split
  ·rename_i g caps r0
   obtain⟨v,r,rfl,⟨us,rfl,hc⟩,_,h3⟩:=hL
   cases hb:Nat.beq g f
   ·trivial
   ·simp only[cond_true]
    have e:=bz hb
    subst e
    exact La ts hc fun x hx=>hK _ _ _ _ [_] r [] R (by simpa using hT) (fun _ _ h=>h) (X7.refl _) rfl ⟨us,rfl,hx,rfl⟩ h3
  ·trivial
 | .ifc t md,cs,K,S,ok,vs,T,R,hT,hL,hK=>by
  unfold exM
  split
  ·rename_i t' c r0
   obtain⟨v,r,rfl,⟨u,rfl,hu,hc⟩,_,h3⟩:=hL
   cases hb:Nat.beq t' t
   ·trivial
   ·simp only[cond_true]
    have e:=bz hb
    subst e
    refine yG md (vs:=[u]) R hT ⟨u,[],rfl,hc,hu,rfl⟩ fun S1 ok1 x q us us' O R1 T1 k1 s1 e1 h1 l1=>?_
    cases q with
    | cons c q=>trivial
    | nil=>
     simp only[aH]at l1
     subst l1
     simp only[List.append_nil]at e1
     subst e1
     exact hK _ _ _ _ [_] r O R1 T1 k1 s1 rfl ⟨u,rfl,h1⟩ (Ji k1 h3)
  ·trivial
 | .cell (some none),cs,K,S,ok,vs,T,R,hT,hL,hK=>by
  unfold exM
  split
  ·obtain⟨v,r,rfl,h1,h2,h3⟩:=hL
   exact hK _ _ _ _ [v] r [] R (by simpa using hT) (fun _ _ h=>h) (X7.refl _) rfl ⟨v,rfl,h2,fun _=>h1,(fun _ h=>nomatch h),rfl⟩ h3
  ·trivial
 | .cell (some (some b)),cs,K,S,ok,vs,T,R,hT,hL,hK=>by
  unfold exM
  split
  ·obtain⟨v,r,rfl,h1,h2,h3⟩:=hL
   cases b
   ·trivial
   ·exact hK _ _ _ _ [v] r [] R (by simpa using hT) (fun _ _ h=>h) (X7.refl _) rfl ⟨v,rfl,h2,(fun h=>nomatch h),(fun b' h=>by cases h;exact h1),rfl⟩ h3
  ·obtain⟨v,r,rfl,h1,h2,h3⟩:=hL
   cases b
   ·exact hK _ _ _ _ [v] r [] R (by simpa using hT) (fun _ _ h=>h) (X7.refl _) rfl ⟨v,rfl,h2,(fun h=>nomatch h),(fun b' h=>by cases h;exact h1),rfl⟩ h3
   ·trivial
  ·trivial
 | .cell none,cs,K,S,ok,vs,T,R,hT,hL,hK=>by
  unfold exM
  split
  ·obtain⟨v,r,rfl,h1,h2,h3⟩:=hL
   exact hK _ _ _ _ [v] r [] R (by simpa using hT) (fun _ _ h=>h) (X7.refl _) rfl ⟨v,rfl,h2,(fun h=>nomatch h),(fun _ h=>nomatch h),rfl⟩ h3
  ·trivial
end
end Go.GP
namespace Go.GP
def bf (C:Cx):List V→List Value→Prop
 | [],vs=>vs=[]
 | c::cs,vs=>∃v r,vs=v::r∧gJ C c v∧bf C cs r
theorem EH {h:Array Obj} {ok ok' :Nat→Ty→Prop} {m:Mp} (k:∀b t,ok b t→ok' b t):∀{cs:List V} {vs:List Value},bf ⟨h,ok,m⟩ cs vs→bf ⟨h,ok',m⟩ cs vs
 | [],_,e=>e
 | _::_,_,⟨v,r,e,h1,h2⟩=>⟨v,r,e,Nr k h1,EH k h2⟩
theorem EG {h:Array Obj} {ok:Nat→Ty→Prop} {m m' :Mp} (k:∀n l,m n=some l→m' n=some l) {cs:List V} {vs:List Value} (hr:aH ⟨h,ok,m⟩ cs vs):aH ⟨h,ok,m'⟩ cs vs:=
 zO (C:=⟨h,ok,m⟩) (D:=⟨h,ok,m'⟩) ⟨fun _ _ h=>h,fun _ _ _=>rfl,k⟩ hr
theorem Xa {C:Cx} {c:V} {v:Value} (h1:c≠.undef) (h2:c≠.un) (h:sV C c v):v.oneCell' =true:=by
 cases c <;> simp only[sV]at h <;> try (subst h;rfl)
 case ne=>obtain⟨_,_,rfl,_⟩:=h;rfl
 ·exact absurd rfl h1
 ·exact absurd rfl h2
 ·obtain⟨a,cap,e,_⟩:=h;simp at e;subst e;rfl
 ·obtain⟨l,_,hv⟩:=h;exact jS hv
 ·obtain⟨b,_,rfl⟩:=h;rfl
 ·obtain⟨_,_,_,_,_,_,_,rfl⟩:=h;rfl
 ·exact Oh h
 all_goals first | exact h.elim | (obtain⟨_,rfl,_⟩:=h;rfl) | (obtain⟨_,_,rfl⟩:=h;rfl)
theorem xQ {C:Cx} {c:V} {v:Value} (h:sV C c v):gJ C c v:=by
 cases c <;> simp only[sV]at h <;> try exact h
 all_goals exact h.elim
section
variable {X:Fx} {cl ch:Nat} {S:Sm} {m:Mp} {ok:Nat→Ty→Prop} {a:Act} {w:World} {T:List Nat}
theorem DW {α:Type} {Q:α→Sm→Prop} {ag:Bool} {v:V} {x:Value} {K:List V→Cmd α} {S:Sm} {C:Cx} (hv:gJ C v x)
  (hK:∀cs us,UI ag x us→aH C cs us→(K cs).post S Q):(TB ag v K).post S Q:=by
 unfold TB
 split <;> try trivial
 ·obtain⟨arr,rfl,hl⟩:=hv
  exact hK _ _ ⟨arr,rfl,rfl⟩ hl
 ·rename_i h1 h2 h3 h4
  have hc:sV C v x:=by cases v <;> first | exact hv | exact absurd rfl (h1 _) | exact absurd rfl (h2 _)
  exact hK [v] [x] rfl ⟨x,[],rfl,hc,Xa (fun e=>h3 e) (fun e=>h4 e) hc,rfl⟩
theorem nP {α:Type} {Q:α→Sm→Prop} {v:V} {x:Value} {K:List V→Cmd α} {S:Sm} {C:Cx} (hv:gJ C v x)
  (hK:∀cs,aH C cs x.cells.toList→(K cs).post S Q):(BX v K).post S Q:=by
 unfold BX
 split <;> try trivial
 ·obtain⟨arr,rfl,hl⟩:=hv
  exact hK _ hl
 ·rename_i h1 h2 h3 h4
  have hc:sV C v x:=by cases v <;> first | exact hv | exact absurd rfl (h1 _) | exact absurd rfl (h2 _)
  have h1' :=Xa (fun e=>h3 e) (fun e=>h4 e) hc
  have e:x.cells.toList=[x]:=by cases x <;> simp[Value.cells] <;> simp[Value.oneCell']at h1'
  refine hK [v] ?_
  rw[e];exact⟨x,[],rfl,hc,h1',rfl⟩
theorem VJ {α:Type} {Q:α→Sm→Prop} {md:MG} {v:V} {x:Value} {K:md.2.den→Cmd α} (R:Rel X cl ch S m ok a w) (hT:Tk X S m ok w T) (hv:gJ ⟨w.heap,ok,m⟩ v x)
  (hK:∀S' ok' y cs O,Rel X cl ch S' m ok' a w→Tk X S' m ok' w (T++O)→(∀b t,ok b t→ok' b t)→X7 S S' →UI md.1 x cs→iO w.heap ok' md.2 none y cs O→(K y).post S' Q):
  (Oq wK md v K).post S Q:=by
 refine DW hv fun cs us hg hl=>?_
 refine yG md.2 R hT hl fun S1 ok1 y r us1 us' O R1 T1 k1 s1 e1 h1 l1=>?_
 cases r with
 | cons c q=>trivial
 | nil=>
  simp only[aH]at l1
  subst l1
  simp only[List.append_nil]at e1
  subst e1
  exact hK _ _ _ _ _ R1 T1 k1 s1 hg h1
theorem a4d {α:Type} {ln:Ty→Bool} {md:M} (hd:md.isDat=false) (cs:List V) (K:md.den→List V→Cmd α):exM ln md cs K=exM wK md cs K:=by
 cases md <;> first | rfl | (simp[M.isDat]at hd;done) | (rename_i b;cases b <;> first | rfl | (rename_i b;cases b <;> rfl))
theorem Rx {α:Type} {Q:α→Sm→Prop} {ln:Ty→Bool} {md:MG} (hd:md.2.isDat=true) {v:V} {x:Value} {K:md.2.den→Cmd α} (R:Rel X cl ch S m ok a w) (hT:Tk X S m ok w T) (hv:gJ ⟨w.heap,ok,m⟩ v x)
  (hK:∀S' ok' y cs,Rel X cl ch S' m ok' a w→Tk X S' m ok' w T→(∀b t,ok b t→ok' b t)→(∀b t,okL ln S m ok b t→okL ln S' m ok' b t)→X7 S S' →UI md.1 x cs→iO w.heap (okL ln S' m ok') md.2 none y cs []→(K y).post S' Q):
  (Oq ln md v K).post S Q:=by
 obtain⟨ag,mm⟩:=md
 cases mm <;> simp[M.isDat]at hd
 refine DW hv fun cs us hg hl=>?_
 dsimp only
 unfold exM
 refine Ad ln _ R hT hl fun S1 ok1 y r us1 us' R1 T1 k1 g1 s1 e1 h1 l1=>?_
 cases r with
 | cons c q=>trivial
 | nil=>
  simp only[aH]at l1
  subst l1
  simp only[List.append_nil]at e1
  subst e1
  exact hK _ _ _ _ R1 T1 k1 g1 s1 hg ⟨h1,rfl⟩
theorem b8X {ln:Ty→Bool} :∀b t,ok b t→okL ln S m ok b t:=fun _ _ h=> .inl h
theorem Ci {α:Type} {Q:α→Sm→Prop} {ln:Ty→Bool} :∀(ms:List MG) {vs:List V} {xs:List Value} {K:S9 ms→Cmd α} {S:Sm} {ok:Nat→Ty→Prop} {T:List Nat} (R:Rel X cl ch S m ok a w) (hT:Tk X S m ok w T)
  (hv:bf ⟨w.heap,ok,m⟩ vs xs)
  (hK:∀S' ok' y O,Rel X cl ch S' m ok' a w→Tk X S' m ok' w (T++O)→(∀b t,ok b t→ok' b t)→X7 S S' →lT w.heap (okL ln S' m ok') ms y xs O→(K y).post S' Q),
  (Gq ln ms vs K).post S Q
 | [],vs,xs,K,S,ok,T,R,hT,hv,hK=>by
  unfold Gq
  split
  ·simp only[bf]at hv;subst hv
   exact hK _ _ _ [] R (by simpa using hT) (fun _ _ h=>h) (X7.refl _) ⟨rfl,rfl⟩
  ·trivial
 | [md],vs,xs,K,S,ok,T,R,hT,hv,hK=>by
  unfold Gq
  split
  ·obtain⟨x,r,rfl,h1,h2⟩:=hv
   simp only[bf]at h2;subst h2
   cases hd:md.2.isDat
   ·unfold Oq
    simp only[a4d hd]
    exact VJ R hT h1 fun S' ok' y cs O R' T' k s g h=>hK _ _ _ O R' T' k s ⟨x,cs,rfl,g,cu b8X (fun _ _ _=>rfl) (fun _ _=>rfl) h⟩
   ·exact Rx hd R hT h1 fun S' ok' y cs R' T' k g s hg h=>hK _ _ _ [] R' (by simpa using T') k s ⟨x,cs,rfl,hg,h⟩
  ·trivial
 | md::md' ::r,vs,xs,K,S,ok,T,R,hT,hv,hK=>by
  unfold Gq
  split
  ·obtain⟨x,xr,rfl,h1,h2⟩:=hv
   cases hd:md.2.isDat
   ·simp only[cond_false]
    unfold Oq
    simp only[a4d hd]
    refine VJ R hT h1 fun S1 ok1 y cs O R1 T1 k1 s1 g1 h1' =>?_
    refine Ci (md' ::r) R1 T1 (EH k1 h2) fun S2 ok2 z O2 R2 T2 k2 s2 h2' =>?_
    exact hK _ _ _ (O++O2) R2 (by simpa using T2) (fun b t h=>k2 b t (k1 b t h)) (s1.trans s2) ⟨x,cs,xr,O,O2,rfl,rfl,g1,cu (fun b t h=> .inl (k2 b t h)) (fun _ _ _=>rfl) (fun _ _=>rfl) h1',h2'⟩
   ·simp only[cond_true]
    refine Ci (md' ::r) R hT h2 fun S2 ok2 z O2 R2 T2 k2 s2 h2' =>?_
    refine Rx hd R2 T2 (Nr k2 h1) fun S1 ok1 y cs R1 T1 k1 g1 s1 hg h1' =>?_
    exact hK _ _ _ ([]++O2) R1 (by simpa using T1) (fun b t h=>k1 b t (k2 b t h)) (s2.trans s1) ⟨x,cs,xr,[],O2,rfl,rfl,hg,h1',MB g1 (fun _ _ _=>rfl) (fun _ _=>rfl) h2'⟩
  ·trivial
theorem VI {α:Type} {Q:α→Sm→Prop} (ms:List MG) {vs:List V} {xs:List Value} {K:S9 ms→Cmd α} {S:Sm} {ok:Nat→Ty→Prop} {T:List Nat} (R:Rel X cl ch S m ok a w) (hT:Tk X S m ok w T)
  (hv:bf ⟨w.heap,ok,m⟩ vs xs)
  (hK:∀S' ok' y O,Rel X cl ch S' m ok' a w→Tk X S' m ok' w (T++O)→(∀b t,ok b t→ok' b t)→X7 S S' →lT w.heap ok' ms y xs O→(K y).post S' Q):
  (Gq wK ms vs K).post S Q:=
 Ci ms R hT hv fun S' ok' y O R' T' k s h=>hK S' ok' y O R' T' k s (by rw[a4T]at h;exact h)
theorem Lp {α:Type} {Q:α→Sm→Prop} {tmps:Array Value} {C:Cx} :∀(ns:List Nat) {K:List V→Cmd α} {S:Sm} (hs:∀n,n<BOX→gJ C (S n) (tmps.getD n Go.undef))
  (hK:∀vs,bf C vs (ns.map fun n=>tmps.getD n Go.undef)→(K vs).post S Q),(TS ns K).post S Q
 | [],K,S,hs,hK=>hK [] rfl
 | n::ns,K,S,hs,hK=>by
  unfold TS
  cases hb:Nat.blt n BOX
  ·trivial
  ·simp only[cond_true]
   show Cmd.post _ S Q
   refine Lp ns hs fun vs hvs=>?_
   exact hK _ ⟨_,_,rfl,hs n (by rw[Nat.blt_eq]at hb;exact hb),hvs⟩
def XF (h:Array Obj) (ok:Nat→Ty→Prop) (sg:Sig) (x:jc sg) (tmps:Array Value) (O:List Nat):Prop:=
 lT h ok (sg.ms.map (·.2)) x ((sg.ms.map (·.1)).map fun n=>tmps.getD n Go.undef) O∧∀p∈sg.als,tmps.getD p.1 Go.undef=tmps.getD p.2 Go.undef
theorem a6x {C:Cx} {v u:V} {x y:Value} (h:b7y v u=true) (hv:gJ C v x) (hu:gJ C u y):x=y:=by
 cases v <;> try (cases h;done)
 case own a vw=>
 cases u <;> try (cases vw <;> cases h;done)
 case own b vu=>
 cases vw <;> cases vu <;> try (cases h;done)
 have:=bz (show Nat.beq a b=true from h)
 subst this
 obtain⟨l,hm,h1⟩:=hv
 obtain⟨l',hm',h2⟩:=hu
 rw[hm]at hm';cases hm'
 cases l with
 | nil=>exact(show x=_ from h1).trans (show y=_ from h2).symm
 | st b=>cases h1
 | arr blk off len cap sz=>exact(show x=_ from h1).trans (show y=_ from h2).symm
theorem QZ {α:Type} {Q:α→Sm→Prop} {tmps:Array Value} {C:Cx} :∀(als:List (Nat×Nat)) {K:Cmd α} {S:Sm} (hs:∀n,n<BOX→gJ C (S n) (tmps.getD n Go.undef))
  (hK:(∀p∈als,tmps.getD p.1 Go.undef=tmps.getD p.2 Go.undef)→K.post S Q),(a8d als K).post S Q
 | [],K,S,hs,hK=>hK (fun p hp=>by cases hp)
 | (n,k)::r,K,S,hs,hK=>by
  unfold a8d
  refine aG fun hb=>?_
  simp only[Bool.and_eq_true]at hb
  show Cmd.post _ S Q
  refine aG fun hv=>QZ r hs fun h=>hK fun p hp=>?_
  rcases List.mem_cons.1 hp with rfl | hp
  ·have h1:=hb.1;have h2:=hb.2
   rw[Nat.blt_eq]at h1 h2
   exact a6x hv (hs n h1) (hs k h2)
  ·exact h p hp
theorem Yc {sg:Sig} {Q:jc sg→Sm→Prop} (R:Rel X cl ch S m ok a w)
  (hK:∀S' ok' y O,Rel X cl ch S' m ok' a w→Tk X S' m ok' w O→(∀b t,ok b t→ok' b t)→X7 S S' →
   XF w.heap ok' sg y a.tmps O→Q y S'):(a4e sg).post S Q:=by
 unfold a4e
 refine QZ _ R.slot fun hals=>Lp _ R.slot fun vs hvs=>?_
 refine VI (T:=[]) _ R Tk.nil hvs fun S' ok' y O R' T' k s h=>?_
 exact hK S' ok' y O R' T' k s ⟨h,hals⟩
theorem Rel.chmono (R:Rel X cl ch S m ok a w) {ch' :Nat} (h:ch≤ch'):Rel X cl ch' S m ok a w:={ R with strict:=fun n hn=>R.strict n (by omega) }
theorem sH {α:Type} {Q:α→Sm→Prop} {n:Nat} {v:V} {K:Cmd α} (hK:S (BOX+n)= .undef→K.post (upd S (BOX+n) v) Q):(uo n v K).post S Q:=by
 unfold uo
 show Cmd.post (match S (BOX+n)with | .undef=>_ | _=>_) S Q
 split
 ·rename_i h;exact hK h
 ·trivial
theorem Rel.adopt (R:Rel X cl ch S m ok a w) {n:Nat} {l:Loc} {ks:List Nat} {v:V} {O:List Nat} (hn:S (BOX+n)= .undef) (hcl:cl≤n) (hv:v≠.undef)
  (hT:Tk X S m ok w (O++T)) (ho:∀b∈O6 (ig m n l ks) n v,b∈O) (hnd:(O6 (ig m n l ks) n v).Nodup) (hB:yV ⟨w.heap,ok,ig m n l ks⟩ n v):
  Rel X cl (max ch (n+1)) (upd S (BOX+n) v) (ig m n l ks) ok a w∧Tk X (upd S (BOX+n) v) (ig m n l ks) ok w T∧(∀k l',m k=some l' →ig m n l ks k=some l'):=by
 have hm:m n=none:=R.fresh n hcl hn
 refine⟨(R.chmono (Nat.le_max_left ch (n+1))).lay hn hcl (by omega) hv rfl rfl rfl (Nat.le_refl _) (fun _ _ _=>rfl) hnd (fun b hb=>hT.free b (by simp[ho b hb])) hB,⟨?_,fun b hb=>?_⟩,fun k l' h=>?_⟩
 ·exact(List.nodup_append.1 hT.nodup).2.1
 ·obtain⟨h1,h2,h3,h4⟩:=hT.free b (by simp[hb])
  refine⟨h1,h2,h3,fun k e=>?_⟩
  by_cases ek:k=n
  ·subst ek;rw[eY]at e
   exact(List.nodup_append.1 hT.nodup).2.2 b (ho b e) b hb rfl
  ·rw[U8 _ _ (by omega)]at e
   refine h4 k ?_
   rw[←CP (m:=m) (dG m l ks ek) (KY m l ks ek)];exact e
 ·by_cases ek:k=n
  ·subst ek;simp[hm]at h
  ·rw[dG _ _ _ ek];exact h
theorem Ik {h:Array Obj} {ok:Nat→Ty→Prop} {m m' :Mp} {t:Ty} {xs:List t.den} {l:Loc} (hr:arrOk ⟨h,ok,m⟩ t xs l):arrOk ⟨h,ok,m'⟩ t xs l:=by cases l <;> exact hr
theorem a3m {α:Type} {Q:α→Sm→Prop} {S:Sm} {k:Nat} {v:V} {c:Cmd α} (h:c.post (upd S k v) Q):(Cmd.set k v c).post S Q:=h
theorem AZ {α:Type} {Q:α→Sm→Prop} :∀(md:M) {x:md.den} {n:Nat} {r:List V} {K:List V→Nat→Cmd α} {S:Sm} {m:Mp} {ch:Nat} {us us' :List Value} {O T:List Nat}
  (R:Rel X cl ch S m ok a w) (hcl:cl≤n) (hT:Tk X S m ok w (O++T)) (h:iO w.heap ok md none x us O) (hL:aH ⟨w.heap,ok,m⟩ r us')
  (hK:∀S' m' cs n' ch',Rel X cl ch' S' m' ok a w→ch' ≤max ch n' →Tk X S' m' ok w T→(∀k l,m k=some l→m' k=some l)→X7 S S' →aH ⟨w.heap,ok,m'⟩ cs (us++us')→n≤n' →(K cs n').post S' Q),
  (emM md x n r K).post S Q
 | .dat t,x,n,r,K,S,m,ch,us,us',O,T,R,hcl,hT,h,hL,hK=>by
  unfold emM
  obtain⟨hr,rfl⟩:=h
  refine hK S m _ n ch R (Nat.le_max_left _ _) (by simpa using hT) (fun _ _ h=>h) (X7.refl _) ?_ (Nat.le_refl _)
  rw[nY]
  exact sO (pX (C:=⟨w.heap,ok,m⟩) hr) hL
 | .own t,x,n,r,K,S,m,ch,us,us',O,T,R,hcl,hT,h,hL,hK=>by
  unfold emM
  obtain⟨l,v,rfl,hv,ha,rfl⟩:=qG.1 h
  refine sH fun hn=>?_
  have hob:O6 (ig m n l []) n (.barr t x)=l.blks:=by cases l <;> first | (simp[O6,Loc.blks];done) | cases ha
  obtain⟨R',T',k'⟩:=R.adopt (l:=l) (ks:=[]) (v:=.barr t x) hn hcl (by simp) hT (fun b hb=>by rw[hob]at hb;exact hb) (by rw[hob];exact Loc.blks_nodup l) ⟨l,au _ _ _ _,Ik ha⟩
  exact hK _ _ _ _ _ R' (by omega) T' k' (X7.box _ _ _) ⟨v,us',rfl,⟨l,au _ _ _ _,hv⟩,jS hv,EG k' hL⟩ (by omega)
 | .ownb t,x,n,r,K,S,m,ch,us,us',O,T,R,hcl,hT,h,hL,hK=>by
  unfold emM
  obtain⟨l,v,rfl,hv,ha,rfl⟩:=h
  refine sH fun hn=>?_
  have hob:O6 (ig m n l []) n (.barr t x)=l.blks:=by cases l <;> first | (simp[O6,Loc.blks];done) | cases ha
  obtain⟨R',T',k'⟩:=R.adopt (l:=l) (ks:=[]) (v:=.barr t x) hn hcl (by simp) hT (fun b hb=>by rw[hob]at hb;exact hb) (by rw[hob];exact Loc.blks_nodup l) ⟨l,au _ _ _ _,Ik ha⟩
  exact hK _ _ _ _ _ R' (by omega) T' k' (X7.box _ _ _) ⟨v,us',rfl,⟨l,au _ _ _ _,hv⟩,jS hv,EG k' hL⟩ (by omega)
 | .owns md,x,n,r,K,S,m,ch,us,us',O,T,R,hcl,hT,h,hL,hK=>by
  unfold emM
  obtain⟨hw,l,v,Os,rfl,hv,ha,rfl⟩:=sS.1 h
  refine sH fun hn=>?_
  have hob:O6 (ig m n l Os.flatten) n (.barrs md x none)=l.blks++Os.flatten:=by cases l <;> first | (simp[O6,Loc.blks];done) | cases ha
  obtain⟨R',T',k'⟩:=R.adopt (l:=l) (ks:=Os.flatten) (v:=.barrs md x none) hn hcl (by simp) hT (fun b hb=>by rw[hob]at hb;exact hb) (by rw[hob];exact(List.nodup_append.1 hT.nodup).1)
   ⟨hw,l,Os,au _ _ _ _,ha,by simp⟩
  refine a3m ?_
  have T2:=T'.killV R' (JA+n) (v:=.blen (o8 x) md.size) rfl (bs:=[]) (fun b h=>by cases h) List.nodup_nil
  rw[List.append_nil]at T2
  exact hK _ _ _ _ _ (R'.mark (eY _ _ _)) (by omega) T2 k' ((X7.box _ _ _).trans (X7.box _ _ _)) ⟨v,us',rfl,⟨l,au _ _ _ _,hv⟩,jS hv,EG k' hL⟩ (by omega)
 | .pair p q,x,n,r,K,S,m,ch,us,us',O,T,R,hcl,hT,h,hL,hK=>by
  unfold emM
  obtain⟨c,d,O1,O2,rfl,rfl,h1,h2⟩:=a2Z.1 h
  have hT1:Tk X S m ok w (O2++(O1++T)):=hT.perm (by
   rw[List.append_assoc]
   exact(List.perm_append_comm_assoc _ _ _))
  refine AZ q R hcl hT1 h2 hL fun S1 m1 cs1 n1 ch1 R1 c1 T1 k1 s1 l1 e1=>?_
  refine AZ p R1 (by omega) T1 h1 l1 fun S2 m2 cs2 n2 ch2 R2 c2 T2 k2 s2 l2 e2=>?_
  exact hK _ _ _ _ _ R2 (by omega) T2 (fun k l h=>k2 k l (k1 k l h)) (s1.trans s2) (by simpa using l2) (by omega)
 | .unit,x,n,r,K,S,m,ch,us,us',O,T,R,hcl,hT,h,hL,hK=>by
  unfold emM
  obtain⟨rfl,rfl⟩:=h
  exact hK S m _ n ch R (Nat.le_max_left _ _) (by simpa using hT) (fun _ _ h=>h) (X7.refl _) (by simpa using hL) (Nat.le_refl _)
 | .box md,x,n,r,K,S,m,ch,us,us',O,T,R,hcl,hT,h,hL,hK=>by
  unfold emM
  obtain⟨blk,arr,Tt,O',rfl,hh,hr,rfl⟩:=h
  have hT1:Tk X S m ok w (O' ++([blk]++T)):=hT.perm (by simpa using List.perm_middle.symm)
  refine AZ md (r:=[]) (us' :=[]) R (by omega) hT1 hr rfl fun S1 m1 cs1 n1 ch1 R1 c1 T1 k1 s1 l1 e1=>?_
  refine sH fun hn=>?_
  obtain⟨R',T',k'⟩:=R1.adopt (l:=.st blk) (ks:=[]) (v:=.bcells cs1) hn hcl (by simp) T1 (fun b hb=>by
   simp only[O6,au]at hb;simp at hb;simp[hb]) (by simp[O6]) ⟨blk,arr,Tt,au _ _ _ _,hh,EG (fun k l (h:m1 k=some l)=>by
    by_cases ek:k=n
    ·subst ek;have:=R1.fresh k hcl hn;rw[this]at h;cases h
    ·rw[dG _ _ _ ek];exact h) (by simpa using l1)⟩
  refine hK _ _ _ _ _ R' (by omega) T' (fun k l h=>k' k l (k1 k l h)) (s1.trans (X7.box _ _ _)) ⟨_,us',rfl,⟨blk,au _ _ _ _,rfl⟩,rfl,EG k' (EG k1 hL)⟩ (by omega)
 | .rp t,x,n,r,K,S,m,ch,us,us',O,T,R,hcl,hT,h,hL,hK=>by
  unfold emM
  obtain⟨v,rfl,hv,rfl⟩:=h
  exact hK S m _ n ch R (Nat.le_max_left _ _) (by simpa using hT) (fun _ _ h=>h) (X7.refl _) ⟨v,us',rfl,hv,Oh hv,hL⟩ (Nat.le_refl _)
 | .fn f ts,x,n,r,K,S,m,ch,us,us',O,T,R,hcl,hT,h,hL,hK=>by
  unfold emM
  obtain⟨vs,rfl,hv,rfl⟩:=h
  exact hK S m _ n ch R (Nat.le_max_left _ _) (by simpa using hT) (fun _ _ h=>h) (X7.refl _) ⟨_,us',rfl,⟨vs,rfl,hv⟩,rfl,hL⟩ (Nat.le_refl _)
 | .ifc t md,x,n,r,K,S,m,ch,us,us',O,T,R,hcl,hT,h,hL,hK=>by
  unfold emM
  obtain⟨u,rfl,h1⟩:=h
  refine AZ md (r:=[]) (us' :=[]) R hcl hT h1 rfl fun S1 m1 cs1 n1 ch1 R1 c1 T1 k1 s1 l1 e1=>?_
  split
  ·rename_i c
   obtain⟨v',r',e,h1',h2',h3'⟩:=l1
   simp only[List.append_nil,List.cons_append,List.nil_append,List.cons.injEq]at e
   obtain⟨rfl,rfl⟩:=e
   exact hK _ _ _ _ _ R1 c1 T1 k1 s1 ⟨_,us',rfl,⟨u,rfl,h2',h1'⟩,rfl,EG k1 hL⟩ e1
  ·trivial
 | .cell (some none),x,n,r,K,S,m,ch,us,us',O,T,R,hcl,hT,h,hL,hK=>by
  unfold emM
  obtain⟨v,rfl,hv,h2,h4,rfl⟩:=h
  exact hK S m _ n ch R (Nat.le_max_left _ _) (by simpa using hT) (fun _ _ h=>h) (X7.refl _) ⟨v,us',rfl,h2 rfl,hv,hL⟩ (Nat.le_refl _)
 | .cell (some (some b)),x,n,r,K,S,m,ch,us,us',O,T,R,hcl,hT,h,hL,hK=>by
  unfold emM
  obtain⟨v,rfl,hv,h2,h4,rfl⟩:=h
  exact hK S m _ n ch R (Nat.le_max_left _ _) (by simpa using hT) (fun _ _ h=>h) (X7.refl _) ⟨v,us',rfl,h4 _ rfl,hv,hL⟩ (Nat.le_refl _)
 | .cell none,x,n,r,K,S,m,ch,us,us',O,T,R,hcl,hT,h,hL,hK=>by
  unfold emM
  obtain⟨v,rfl,hv,h2,h4,rfl⟩:=h
  exact hK S m _ n ch R (Nat.le_max_left _ _) (by simpa using hT) (fun _ _ h=>h) (X7.refl _) ⟨v,us',rfl,trivial,hv,hL⟩ (Nat.le_refl _)
theorem PS {C:Cx} {ag:Bool} {cs:List V} {us:List Value} {x:Value} (hg:UI ag x us) (hl:aH C cs us):gJ C (mkV ag cs) x:=by
 cases ag
 ·simp only[UI]at hg;subst hg
  cases cs with
  | nil=>simp[aH]at hl
  | cons c r=>
   obtain⟨v,r',e,h1,h2,h3⟩:=hl
   simp at e;obtain⟨rfl,rfl⟩:=e
   cases r with
   | nil=>exact xQ h1
   | cons d r=>obtain⟨_,_,e,_⟩:=h3;cases e
 ·obtain⟨arr,rfl,rfl⟩:=hg
  exact⟨arr,rfl,hl⟩
theorem Ce {α:Type} {Q:α→Sm→Prop} :∀(ms:List MG) {x:S9 ms} {n:Nat} {K:List V→Nat→Cmd α} {S:Sm} {m:Mp} {ch:Nat} {xs:List Value} {O T:List Nat}
  (R:Rel X cl ch S m ok a w) (hcl:cl≤n) (hT:Tk X S m ok w (O++T)) (h:lT w.heap ok ms x xs O)
  (hK:∀S' m' vs n' ch',Rel X cl ch' S' m' ok a w→ch' ≤max ch n' →Tk X S' m' ok w T→(∀k l,m k=some l→m' k=some l)→X7 S S' →bf ⟨w.heap,ok,m'⟩ vs xs→n≤n' →(K vs n').post S' Q),
  (Gp ms x n K).post S Q
 | [],x,n,K,S,m,ch,xs,O,T,R,hcl,hT,h,hK=>by
  unfold Gp
  obtain⟨rfl,rfl⟩:=h
  exact hK S m [] n ch R (Nat.le_max_left _ _) (by simpa using hT) (fun _ _ h=>h) (X7.refl _) rfl (Nat.le_refl _)
 | [md],x,n,K,S,m,ch,xs,O,T,R,hcl,hT,h,hK=>by
  unfold Gp
  obtain⟨v,cs,rfl,hg,hr⟩:=h
  refine AZ md.2 (us' :=[]) R hcl hT hr rfl fun S1 m1 cs1 n1 ch1 R1 c1 T1 k1 s1 l1 e1=>?_
  exact hK _ _ _ _ _ R1 c1 T1 k1 s1 ⟨v,[],rfl,PS hg (by simpa using l1),rfl⟩ e1
 | md::md' ::r,x,n,K,S,m,ch,xs,O,T,R,hcl,hT,h,hK=>by
  unfold Gp
  obtain⟨v,cs,vs',O1,O2,rfl,rfl,hg,h1,h2⟩:=h
  refine AZ md.2 (us' :=[]) R hcl (by simpa using hT) h1 rfl fun S1 m1 cs1 n1 ch1 R1 c1 T1 k1 s1 l1 e1=>?_
  refine Ce (md' ::r) R1 (by omega) T1 h2 fun S2 m2 vs2 n2 ch2 R2 c2 T2 k2 s2 l2 e2=>?_
  exact hK _ _ _ _ _ R2 (by omega) T2 (fun k l h=>k2 k l (k1 k l h)) (s1.trans s2) ⟨v,vs',rfl,PS hg (EG k2 (by simpa using l1)),l2⟩ (by omega)
theorem MI {Q:Unit→Sm→Prop} :∀(ns:List Nat) {vs:List V} {S:Sm} (R:Rel X cl ch S m ok a w) (hv:bf ⟨w.heap,ok,m⟩ vs (ns.map fun n=>a.tmps.getD n Go.undef))
  (hK:∀S',Rel X cl ch S' m ok a w→Q () S'),(PZ ns vs).post S Q
 | [],vs,S,R,hv,hK=>by
  cases vs with
  | nil=>exact hK S R
  | cons v vs=>trivial
 | n::ns,vs,S,R,hv,hK=>by
  cases vs with
  | nil=>trivial
  | cons v vs=>
   unfold PZ
   obtain⟨x,r,e,h1,h2⟩:=hv
   simp only[List.map_cons,List.cons.injEq]at e
   obtain⟨rfl,rfl⟩:=e
   cases hb:Nat.blt n BOX
   ·trivial
   ·simp only[cond_true]
    show Cmd.post _ (upd S n v) Q
    exact MI ns (R.slotV (by rw[Nat.blt_eq]at hb;exact hb) h1) h2 hK
theorem Jq {Q:Unit→Sm→Prop} :∀(ns:List Nat) {vs:List V} {S:Sm} {K:Cmd Unit} (R:Rel X cl ch S m ok a w) (hv:bf ⟨w.heap,ok,m⟩ vs (ns.map fun n=>a.tmps.getD n Go.undef))
  (hK:∀S',Rel X cl ch S' m ok a w→K.post S' Q),(Ny ns vs K).post S Q
 | [],vs,S,K,R,hv,hK=>by
  simp only[List.map_nil]at hv
  cases vs with
  | nil=>exact hK S R
  | cons _ _=>obtain⟨_,_,e,_⟩:=hv;cases e
 | n::ns,vs,S,K,R,hv,hK=>by
  cases vs with
  | nil=>trivial
  | cons v vs=>
   obtain⟨x,r,e,h1,h2⟩:=hv
   simp only[List.map_cons,List.cons.injEq]at e
   obtain⟨rfl,rfl⟩:=e
   unfold Ny
   refine aG fun hb=>?_
   show Cmd.post _ (upd S n v) Q
   exact Jq ns (R.slotV (by rw[Nat.blt_eq]at hb;exact hb) h1) h2 hK
theorem MJ {Q:Unit→Sm→Prop} :∀(als:List (Nat×Nat)) {S:Sm} (R:Rel X cl ch S m ok a w) (h:∀p∈als,a.tmps.getD p.1 Go.undef=a.tmps.getD p.2 Go.undef)
  (hK:∀S',Rel X cl ch S' m ok a w→Q () S'),(UN als).post S Q
 | [],S,R,h,hK=>hK S R
 | (n,k)::r,S,R,h,hK=>by
  unfold UN
  refine aG fun hb=>?_
  simp only[Bool.and_eq_true]at hb
  have h1:=hb.1;have h2:=hb.2
  rw[Nat.blt_eq]at h1 h2
  show Cmd.post _ (upd S n (S k)) Q
  refine MJ r (R.slotV h1 ?_) (fun p hp=>h p (List.mem_cons_of_mem _ hp)) hK
  rw[h (n,k) List.mem_cons_self]
  exact R.slot k h2
theorem XX {sg:Sig} {x:jc sg} {nb lim:Nat} {Q:Unit→Sm→Prop} {O:List Nat} (R:Rel X cl ch S m ok a w) (hcl:cl≤nb) (hT:Tk X S m ok w O)
  (h:XF w.heap ok sg x a.tmps O)
  (hK:∀S' m',Rel X cl (max ch lim) S' m' ok a w→(∀k l,m k=some l→m' k=some l)→Q () S'):(a3Y sg x nb lim).post S Q:=by
 unfold a3Y
 refine Ce (T:=[]) _ R hcl (by simpa using hT) h.1 fun S1 m1 vs n1 ch1 R1 c1 T1 k1 s1 l1 e1=>?_
 cases hb:Nat.ble n1 lim
 ·trivial
 ·simp only[cond_true]
  have:n1≤lim:=Nat.le_of_ble_eq_true hb
  exact Jq _ (R1.chmono (ch' :=max ch lim) (by omega)) l1 fun S' R' =>MJ _ R' h.2 fun S'' R'' =>hK S'' m1 R'' k1
end
end Go.GP
namespace Go.GP
def a7R (P:Program) (t:TypeId):TD→Prop
 | .bool=>P.underlying t=some .bool
 | .int k=>P.underlying t=some (.int k)
 | .str=>P.underlying t=some .string
 | .sl e=>P.underlying t=some (.slice e)
 | .ptr e=>P.underlying t=some (.pointer e)
 | .struct fs=>∃fields,P.underlying t=some (.struct fields)∧fields.toList.map (fun f=>(f.type,f.offset))=fs
 | .arr n e=>P.underlying t=some (.array n e)
 | .other=>∃d,P.underlying t=some d∧(match d with | .struct _ | .array _ _=>False | _=>True)
structure TiOk (P:Program) (t:TypeId) (i:TI):Prop where
 info:∃inf,P.info? t=some inf∧inf.size=i.size∧inf.bytes=i.bytes∧
  (i.zero.length=i.size→∃z,inf.zero=some z∧aH ⟨#[],fun _ _=>False,nom⟩ i.zero z.cells.toList)∧
  (∀u,i.ty=some u→u.size=i.size∧∃z,inf.zero=some z∧rep #[] (fun _ _=>False) u u.zero z.cells.toList)
 td:a7R P t i.td
 one:dR i.td=false→i.size=1
def XD (n:Nat) (v:Value) (rs:List Value):Prop:=rs.length=n∧v=(match rs with | [x]=>x | l=> .tuple l.toArray)
def rD (h:Array Obj):List MG→List Value→List Value→List Nat→Prop
 | [],[],os,B=>os=[]∧B=[]
 | (_,.box _)::ms,v::vs,os,B=>∃b arr T os' B',v= .pointer (some ⟨b,0,none⟩)∧h[b]? =some (.cells arr T (0,0))∧os= .agg arr::os' ∧B=b::B' ∧rD h ms vs os' B'
 | (_,.ifc _ (.box _))::ms,v::vs,os,B=>∃t b arr T os' B',v= .iface t (.pointer (some ⟨b,0,none⟩))∧h[b]? =some (.cells arr T (0,0))∧os= .agg arr::os' ∧B=b::B' ∧rD h ms vs os' B'
 | (_,.ownb _)::ms,v::vs,os,B=>∃os',os=v::os' ∧rD h ms vs os' B
 | _::ms,_::vs,os,B=>rD h ms vs os B
 | _,_,_,_=>False
def A8 (P:Program) (gl:List (Nat×(t:Ty)×List t.den)) (f:FuncId) (s:FSpec):Prop:=
 ∀(w:World) (ok:Nat→Ty→Prop) (O:List Nat) (vals:List Value) (x:S9 s.ps) (r:S9 (s.rs++s.outs)),
  (∀b t,ok b t→b<w.heap.size)→O.Nodup→(∀b∈O,(∀t,¬ok b t)∧b<w.heap.size)→(∀g u,Y3 gl g=some u→BP ⟨w.heap,ok,nom⟩ g u.1 u.2)→
  lT w.heap ok s.ps x vals O→s.fn x=some r→
  Calls P f vals.toArray w fun e w' =>∃v ok' O' rs os B,e= .returned v∧Frame' w w' O∧(∀b t,ok b t→ok' b t)∧(∀b t,ok' b t→b<w'.heap.size∧(ok b t∨w.heap.size≤b∨b∈O))∧
   (O' ++B).Nodup∧(∀b∈O' ++B,(∀t,¬ok' b t)∧b<w'.heap.size∧(w.heap.size≤b∨b∈O))∧
   XD s.rs.length v rs∧rD w'.heap s.ps vals os B∧lT w'.heap ok' (s.rs++s.outs) r (rs++os) O'
def Ff (P:Program) (t:TypeId) (sh:List Ty):Prop:=
 ∀(w:World) (C:Cx) (cs ds:List V) (xs ys:Array Value) (e:Bool) (op:BinOp) (x y:Operand),uH sh cs=true→uH sh ds=true→aH C cs xs.toList→aH C ds ys.toList→tH cs ds=some e→
  (op= .eql∨op= .neq)→(do eqGuard op t x y (.agg xs) (.agg ys);binOp op t (.agg xs) (.agg ys):Sem Value).run P w= .ok (.bool (if op= .eql then e else !e)) w
def yA (P:Program) (t:Nat) (n:String) (f:Nat) (d:Option Nat):Prop:=
 ∀(v:Value) (w:World),match d with
  | none=>(method (P.types.size+Made.depth) t v n).run P w= .ok (f,v) w
  | some e=>∀ad,v= .pointer (some ad)→(method (P.types.size+Made.depth) t v n).run P w=((loadVar e ad).run P w).andThen fun u w' => .ok (f,u) w'
structure FxOk (X:Fx):Prop where
 nt:64*X.E.nt≤999936
 tt:∀t i,Y3 X.E.tt t=some i→TiOk X.P t i
 fs:∀p∈X.E.fs,A8 X.P X.E.gl p.1 p.2
 eqs:∀t sh,Y3 X.E.eqs t=some sh→Ff X.P t sh
 ms:∀p∈X.E.ms,yA X.P p.1.1 p.1.2 p.2.1 p.2.2
 fn:∀p∈X.E.fs,∃fn,X.P.funcs[p.1]? =some fn∧fn.body.isSome=true∧(fn.name== "runtime.NumGoroutine")=false
theorem FxOk.ntB {X:Fx} (H:FxOk X):X.E.nt≤BOX:=by have:=H.nt;show X.E.nt≤1000000;omega
def eU (X:Fx) (cl ch:Nat) (o:Oper) (a:Act) (w:World) (m:Mp) (ok:Nat→Ty→Prop) (S' :Sm):Prop:=
 ∀(next:Act→World→Prop) (Q:Exit→Act→World→Prop),
  (∀m' ok' a' w',Rel X cl ch S' m' ok' a' w' →(∀k l,m k=some l→m' k=some l)→(∀b t,ok b t→ok' b t)→next a' w')→o.wp X.P a w next Q
theorem BF {α:Type} {ι:Sort _} {Q:ι→α→Sm→Prop} :∀{c:Cmd α} {S:Sm},(∀i,c.post S (Q i))→c.post S (fun x S' =>∀i,Q i x S')
 | .ret x,S,h=>fun i=>h i
 | .fail,S,h=>trivial
 | .get k c,S,h=>BF (c:=c (S k)) h
 | .set k v c,S,h=>BF (c:=c) h
 | .opt o c,S,h=>fun x e=>BF (c:=c x) fun i=>h i x e
 | .br b c d,S,h=>⟨fun e=>BF (c:=c) fun i=>(h i).1 e,fun e=>BF (c:=d) fun i=>(h i).2 e⟩
section
variable {X:Fx} {cl ch:Nat} {S:Sm} {m:Mp} {ok:Nat→Ty→Prop} {a:Act} {w:World} {o:Oper}
theorem X8 {α:Type} {Q:α→Sm→Prop} {b:Bool} {c:Cmd α} {S:Sm} (h:b=true→c.post S Q):(bif b then c else Cmd.fail).post S Q:=by
 cases b
 ·trivial
 ·exact h rfl
theorem GM {a b:Nat} (h:Nat.blt a b=true):a<b:=by rw[Nat.blt_eq]at h;exact h
theorem tC (H:FxOk X) {S:Sm} {m0 m:Mp} {ok0 ok:Nat→Ty→Prop} {w0 w:World} {a:Act} (R:Rel X cl ch S m ok a w) (hm:∀k l,m0 k=some l→m k=some l) (hok:∀b t,ok0 b t→ok b t)
  {v:V} {x:Value} (hv:gJ ⟨w.heap,ok,m⟩ v x) (run:(execOp a.eval o).run X.P w0= .ok (.value x) w):
  (aj X.E o.dst v).post S (fun _ S' =>eU X cl ch o a w0 m0 ok0 S'):=by
 unfold aj
 cases hd:o.dst with
 | none=>
  intro next Q hn
  unfold Oper.wp
  rw[run,Oper.upon_value,hd]
  exact hn m ok a w R hm hok
 | some d=>
  refine X8 fun hb=>?_
  intro next Q hn
  unfold Oper.wp
  rw[run,Oper.upon_value,hd]
  exact hn m ok _ w (R.put H.ntB hb hv) hm hok
theorem XO (C:Cx) (v:Value):gJ C (XN v) v:=by
 unfold XN
 split <;> first | exact rfl | trivial
theorem U7 {α:Type} {Q:α→Sm→Prop} (R:Rel X cl ch S m ok a w) {x:Operand} {K:V→Cmd α} (hK:∀v,gJ ⟨w.heap,ok,m⟩ v (a.eval x)→(K v).post S Q):(nH x K).post S Q:=by
 unfold nH
 cases x with
 | tmp t=>
  exact X8 fun hb=>hK (S t) (R.slot t (GM hb))
 | const v=>exact hK _ (XO _ v)
 | global g=>exact hK _ rfl
 | func f=>exact hK _ rfl
theorem gY {α:Type} {Q:α→Sm→Prop} (R:Rel X cl ch S m ok a w):∀(xs:List Operand) {K:List V→Cmd α} (hK:∀vs,bf ⟨w.heap,ok,m⟩ vs (xs.map a.eval)→(K vs).post S Q),(LW xs K).post S Q
 | [],K,hK=>hK [] rfl
 | x::r,K,hK=>by
  unfold LW
  refine U7 R fun v hv=>?_
  exact gY R r fun vs hvs=>hK _ ⟨_,_,rfl,hv,hvs⟩
theorem P8 (H:FxOk X) (R:Rel X cl ch S m ok a w) {v:V} {x:Value} (hv:gJ ⟨w.heap,ok,m⟩ v x) (run:(execOp a.eval o).run X.P w= .ok (.value x) w):
  (aj X.E o.dst v).post S (fun _ S' =>eU X cl ch o a w m ok S'):=tC H R (fun _ _ h=>h) (fun _ _ h=>h) hv run
theorem KF {C:Cx} {x:Bool} {v:Value} (h:gJ C (.b x) v):v= .bool x:=h
theorem lU {C:Cx} {k:IntKind} {n:Int} {v:Value} (h:gJ C (.i k n) v):v= .int k n:=h
theorem Hy {C:Cx} {l:List UInt8} {v:Value} (h:gJ C (.s l) v):v= .string ⟨l.toArray⟩:=h
theorem a0D (H:FxOk X) (R:Rel X cl ch S m ok a w) {x:Operand} (ho:o.op= .move x∨o.op= .assign x):(nH x fun v=>aj X.E o.dst v).post S (fun _ S' =>eU X cl ch o a w m ok S'):=by
 refine U7 R fun v hv=>P8 H R hv ?_
 rcases ho with ho | ho <;> simp[execOp,ho]
theorem a8S (H:FxOk X) (R:Rel X cl ch S m ok a w) {c x y:Operand} {q:Nat} (ho:o.op= .pick c x y):(X0 X.E q o).post S (fun _ S' =>eU X cl ch o a w m ok S'):=by
 unfold X0
 simp only[ho]
 refine U7 R fun v hv=>?_
 split <;> try trivial
 rename_i t
 have hc:=KF hv
 cases t
 ·simp only[cond_false]
  refine U7 R fun v hv=>P8 H R hv ?_
  simp[execOp,ho,hc,asBool]
 ·simp only[cond_true]
  refine U7 R fun v hv=>P8 H R hv ?_
  simp[execOp,ho,hc,asBool]
theorem ak {α β:Type} {Q:α→Sm→Prop} {x:Option β} {c:β→Cmd α} {S:Sm} (h:∀y,x=some y→(c y).post S Q):(Cmd.opt x c).post S Q:=h
theorem a1M {yc:Operand} {a:Act} {k:IntKind} {b:Int} (h:yf yc=false) (he:a.eval yc= .int k b):b≠0:=by
 unfold yf at h
 split at h
 ·simp[Act.eval]at he;obtain⟨_,rfl⟩:=he;simpa using h
 ·simp at h
theorem a4I {yc:Operand} {a:Act} {k:IntKind} {b:Int} (h:Bj yc=false) (he:a.eval yc= .int k b):¬b<0:=by
 unfold Bj at h
 split at h
 ·simp[Act.eval]at he;obtain⟨_,rfl⟩:=he;simpa using h
 ·simp at h
theorem a2F (H:FxOk X) (R:Rel X cl ch S m ok a w) {op:BinOp} {t:TypeId} {x y:Operand} {yt:TypeId} (ho:o.op= .binOp op t x y yt) {k k' :IntKind} {p q:Int}
  (hx:a.eval x= .int k p) (hy:a.eval y= .int k' q):(FX X.E t op y (.i k p) (.i k' q) fun v=>aj X.E o.dst v).post S (fun _ S' =>eU X cl ch o a w m ok S'):=by
 have run:∀v,(binOp op t (.int k p) (.int k' q)).run X.P w= .ok v w→(execOp a.eval o).run X.P w= .ok (.value v) w:=fun v h=>by
  simp[execOp,ho,hx,hy,eqGuard_at_int,h]
 have fin:∀(v:V) (u:Value),gJ ⟨w.heap,ok,m⟩ v u→(binOp op t (.int k p) (.int k' q)).run X.P w= .ok u w→(aj X.E o.dst v).post S (fun _ S' =>eU X cl ch o a w m ok S'):=
  fun v u hv h=>P8 H R hv (run u h)
 unfold FX
 cases op <;> simp only[]
 case shl=>
  cases hn:Bj y
  ·simp only[cond_false]
   have h0:=a4I hn hy
   exact fin _ _ rfl (by simp[binOp,Op.shift,h0,a4r])
  ·simp only[cond_true]
   refine ak fun r hr=>?_
   unfold OJ at hr
   split at hr
   ·cases hr
   ·rename_i h0;cases hr
    exact fin _ _ rfl (by simp[binOp,Op.shift,h0,a4r])
 case shr=>
  cases hn:Bj y
  ·simp only[cond_false]
   have h0:=a4I hn hy
   exact fin _ _ rfl (by simp[binOp,Op.shift,h0,jY])
  ·simp only[cond_true]
   refine ak fun r hr=>?_
   unfold OL at hr
   split at hr
   ·cases hr
   ·rename_i h0;cases hr
    exact fin _ _ rfl (by simp[binOp,Op.shift,h0,jY])
 all_goals
  refine X8 fun hk=>?_
  have hk' :k=k' :=of_decide_eq_true hk
  subst hk'
 case quo=>
  cases hz:yf y
  ·simp only[cond_false]
   have h0:=a1M hz hy
   exact fin _ _ rfl (by simp[binOp,Op.intDiv,h0,V5])
  ·simp only[cond_true]
   refine ak fun r hr=>?_
   unfold fH at hr
   split at hr
   ·cases hr
   ·rename_i h0;cases hr
    exact fin _ _ rfl (by simp[binOp,Op.intDiv,h0])
 case rem=>
  cases hz:yf y
  ·simp only[cond_false]
   have h0:=a1M hz hy
   exact fin _ _ rfl (by simp[binOp,Op.intDiv,h0,V6])
  ·simp only[cond_true]
   refine ak fun r hr=>?_
   unfold qf at hr
   split at hr
   ·cases hr
   ·rename_i h0;cases hr
    exact fin _ _ rfl (by simp[binOp,Op.intDiv,h0])
 case add=>exact fin _ _ rfl (by simp[binOp,Op.intArith,x9])
 case sub=>exact fin _ _ rfl (by simp[binOp,Op.intArith,G5])
 case mul=>exact fin _ _ rfl (by simp[binOp,Op.intArith,L9])
 case and=>exact fin _ _ rfl (by simp[binOp,Op.intBits,VU])
 case or=>exact fin _ _ rfl (by simp[binOp,Op.intBits,ior])
 case xor=>exact fin _ _ rfl (by simp[binOp,Op.intBits,a4s])
 case andNot=>exact fin _ _ rfl (by simp[binOp,Op.intBits,a0j])
 case eql=>exact fin _ _ rfl (by simp[binOp,Op.intCmp,ieq];rfl)
 case neq=>exact fin _ _ rfl (by simp[binOp,Op.intCmp,ieq,D6];rfl)
 case lss=>exact fin _ _ rfl (by simp[binOp,Op.intCmp,ilt])
 case leq=>exact fin _ _ rfl (by simp[binOp,Op.intCmp,ile])
 case gtr=>exact fin _ _ rfl (by simp[binOp,Op.intCmp,ilt])
 case geq=>exact fin _ _ rfl (by simp[binOp,Op.intCmp,ile])
theorem a2G (H:FxOk X) (R:Rel X cl ch S m ok a w) {op:BinOp} {t:TypeId} {x y:Operand} {yt:TypeId} (ho:o.op= .binOp op t x y yt) {p q:List UInt8}
  (hx:a.eval x= .string ⟨p.toArray⟩) (hy:a.eval y= .string ⟨q.toArray⟩):(FX X.E t op y (.s p) (.s q) fun v=>aj X.E o.dst v).post S (fun _ S' =>eU X cl ch o a w m ok S'):=by
 have run:∀v,(Op.stringOp op ⟨p.toArray⟩ ⟨q.toArray⟩).run X.P w= .ok v w→(execOp a.eval o).run X.P w= .ok (.value v) w:=fun v h=>by
  simp[execOp,ho,hx,hy,eqGuard_at_string,binOp,h]
 have fin:∀(v:V) (u:Value),gJ ⟨w.heap,ok,m⟩ v u→(Op.stringOp op ⟨p.toArray⟩ ⟨q.toArray⟩).run X.P w= .ok u w→(aj X.E o.dst v).post S (fun _ S' =>eU X cl ch o a w m ok S'):=
  fun v u hv h=>P8 H R hv (run u h)
 unfold FX
 cases op <;> simp only[] <;> try trivial
 case add=>
  refine ak fun r hr=>?_
  unfold d2Q at hr
  split at hr
  ·rename_i hle;cases hr
   have e:(⟨p.toArray⟩:ByteArray)++⟨q.toArray⟩=⟨(p++q).toArray⟩:=by
    apply ByteArray.ext
    apply Array.ext'
    simp[ByteArray.data_append]
   refine fin _ (.string ⟨(p++q).toArray⟩) rfl ?_
   have hs:¬((9223372036854775807:Int)<(p.length:Int)+(q.length:Int)):=by omega
   simp[Op.stringOp,e,ByteArray.size,hs]
  ·cases hr
 case eql=>exact fin _ _ rfl (by simp only[Op.stringOp,ByteArray.toList_mk,seq,Sem.run_pure];rw[show(p==q)=decide (p=q) by rw[Bool.eq_iff_iff];simp])
 case neq=>exact fin _ _ rfl (by simp only[Op.stringOp,ByteArray.toList_mk,seq,D6,Sem.run_pure];rw[show(p==q)=decide (p=q) by rw[Bool.eq_iff_iff];simp])
 case lss=>exact fin _ _ rfl (by simp[Op.stringOp,ByteArray.toList_mk,slt])
theorem Yz (H:FxOk X) (R:Rel X cl ch S m ok a w) {op:BinOp} {t:TypeId} {x y:Operand} {yt:TypeId} (ho:o.op= .binOp op t x y yt) {p q:Bool}
  (hx:a.eval x= .bool p) (hy:a.eval y= .bool q):(FX X.E t op y (.b p) (.b q) fun v=>aj X.E o.dst v).post S (fun _ S' =>eU X cl ch o a w m ok S'):=by
 unfold FX
 cases hi:Y3 X.E.tt t with
 | none=>trivial
 | some i=>
 have ht' :=(H.tt t i hi).td
 simp only[]
 cases hd:i.td <;> try trivial
 rw[hd]at ht'
 have ht:X.P.underlying t=some .bool:=ht'
 have he' :∀d,(Op.equalIn (d+1) t (.bool p) (.bool q)).run X.P w= .ok (p==q) w:=fun d=>by
  simp[Op.equalIn,run_underlying ht]
 have he:(Op.equal t (.bool p) (.bool q)).run X.P w= .ok (p==q) w:=he' 9999
 have run:∀v,(binOp op t (.bool p) (.bool q)).run X.P w= .ok v w→(execOp a.eval o).run X.P w= .ok (.value v) w:=fun v h=>by
  simp[execOp,ho,hx,hy,eqGuard_at_bool,h]
 have fin:∀(v:V) (u:Value),gJ ⟨w.heap,ok,m⟩ v u→(binOp op t (.bool p) (.bool q)).run X.P w= .ok u w→(aj X.E o.dst v).post S (fun _ S' =>eU X cl ch o a w m ok S'):=
  fun v u hv h=>P8 H R hv (run u h)
 cases op <;> try trivial
 case eql=>exact fin _ _ rfl (by simp[binOp,he,bZ])
 case neq=>exact fin _ _ rfl (by simp[binOp,he,bZ,D6])
end
end Go.GP
namespace Go.GP
section
variable {X:Fx} {cl ch:Nat} {S:Sm} {m:Mp} {ok:Nat→Ty→Prop} {a:Act} {w:World} {o:Oper}
theorem lC {α:Type} {Q:α→Sm→Prop} (H:FxOk X) {t:Nat} {K:TI→Cmd α} (hK:∀i,TiOk X.P t i→(K i).post S Q):(tiC X.E t K).post S Q:=by
 unfold tiC
 cases hi:Y3 X.E.tt t with
 | none=>trivial
 | some i=>exact hK i (H.tt t i hi)
theorem a3r {P:Program} {t:TypeId} :∀{d:TD},a7R P t d→∃e,P.underlying t=some e
 | .bool,h=>⟨_,h⟩
 | .int _,h=>⟨_,h⟩
 | .str,h=>⟨_,h⟩
 | .sl _,h=>⟨_,h⟩
 | .ptr _,h=>⟨_,h⟩
 | .struct _,⟨_,h,_⟩=>⟨_,h⟩
 | .arr _ _,h=>⟨_,h⟩
 | .other,⟨_,h,_⟩=>⟨_,h⟩
theorem Ui (H:FxOk X) (R:Rel X cl ch S m ok a w) {op:BinOp} {t:TypeId} {x y:Operand} {yt:TypeId} (ho:o.op= .binOp op t x y yt) {ad:Option Addr} {n c:Nat}
  (hx:a.eval x= .slice ad n c) (hy:a.eval y= .slice none 0 0):(a4L X.E t op ad.isNone fun v=>aj X.E o.dst v).post S (fun _ S' =>eU X cl ch o a w m ok S'):=by
 unfold a4L
 cases hi:Y3 X.E.tt t with
 | none=>trivial
 | some i=>
 have ht' :=(H.tt t i hi).td
 simp only[]
 cases hd:i.td <;> try trivial
 rename_i e
 rw[hd]at ht'
 have ht:X.P.underlying t=some (.slice e):=ht'
 have he' :∀d,(Op.equalIn (d+1) t (.slice ad n c) (.slice none 0 0)).run X.P w= .ok ad.isNone w:=fun d=>by
  cases ad <;> simp[Op.equalIn,run_underlying ht]
 have he:(Op.equal t (.slice ad n c) (.slice none 0 0)).run X.P w= .ok ad.isNone w:=he' 9999
 have run:∀v,(binOp op t (.slice ad n c) (.slice none 0 0)).run X.P w= .ok v w→(execOp a.eval o).run X.P w= .ok (.value v) w:=fun v h=>by
  simp[execOp,ho,hx,hy,eqGuard_at_slice,h]
 cases op <;> try trivial
 case eql=>exact P8 H R (v:=.b ad.isNone) (x:=.bool ad.isNone) rfl (run _ (by simp[binOp,he]))
 case neq=>exact P8 H R (v:=.b (D6 ad.isNone)) (x:=.bool (!ad.isNone)) rfl (run _ (by simp[binOp,he]))
theorem a4V (H:FxOk X) (R:Rel X cl ch S m ok a w) {op:BinOp} {t:TypeId} {x y:Operand} {yt:TypeId} {q:Nat} (ho:o.op= .binOp op t x y yt):
  (X0 X.E q o).post S (fun _ S' =>eU X cl ch o a w m ok S'):=by
 unfold X0
 simp only[ho]
 refine U7 R fun u hu=>U7 R fun v hv=>?_
 cases u <;> try (unfold FX;trivial)
 case b p=>
  cases v <;> try (unfold FX;trivial)
  exact Yz H R ho (KF hu) (KF hv)
 case i k p=>
  cases v <;> try (unfold FX;trivial)
  exact a2F H R ho (lU hu) (lU hv)
 case s p=>
  cases v <;> try (unfold FX;trivial)
  exact a2G H R ho (Hy hu) (Hy hv)
 case nl=>
  cases v <;> try (unfold FX;trivial)
  exact Ui H R ho (ad:=none) (show a.eval x= .slice none 0 0 from hu) hv
 case ne=>
  cases v <;> try (unfold FX;trivial)
  obtain⟨ad,c,hx,hb⟩:=hu
  subst hb
  exact Ui H R ho (ad:=ad) hx hv
 case sl t' xs=>
  cases v <;> try (unfold FX;trivial)
  obtain⟨ad,c,hx,hle,hx'⟩:=(show rep w.heap ok (.sl t') xs [a.eval x]from hu)
  cases xs with
  | nil=>exact⟨fun _=>trivial,fun h=>by simp[ieq,o8]at h⟩
  | cons z zs=>
   obtain⟨blk,off,es,rfl,_⟩:=hx' 0 z rfl
   exact⟨fun _=>trivial,fun _=>Ui H R ho (ad:=some _) (by simpa using hx) hv⟩
 case agg cs=>
  cases v <;> try (unfold FX;trivial)
  case agg ds=>
  obtain⟨xs,hx,hl⟩:=hu
  obtain⟨ys,hy,hl'⟩:=hv
  unfold FX
  simp only[]
  cases hq:Y3 X.E.eqs t with
  | none=>trivial
  | some sh=>
  simp only[]
  refine X8 fun hm=>?_
  simp only[Bool.and_eq_true]at hm
  have hE:=H.eqs t sh hq
  cases he:tH cs ds with
  | none=>cases op <;> trivial
  | some e=>
   cases op <;> try trivial
   case eql=>
    refine P8 H R (v:=.b e) (x:=.bool e) rfl ?_
    have h:=hE w _ cs ds xs ys e .eql x y hm.1 hm.2 hl hl' he (.inl rfl)
    simp only[execOp,ho,hx,hy]
    rw[Sem.run_bind,h];rfl
   case neq=>
    refine P8 H R (v:=.b (D6 e)) (x:=.bool (!e)) rfl ?_
    have h:=hE w _ cs ds xs ys e .neq x y hm.1 hm.2 hl hl' he (.inr rfl)
    simp only[execOp,ho,hx,hy]
    rw[Sem.run_bind,h];rfl
theorem a8T (H:FxOk X) (R:Rel X cl ch S m ok a w) {op:UnOp} {t:TypeId} {x:Operand} {q:Nat} (ho:o.op= .unOp op t x):
  (X0 X.E q o).post S (fun _ S' =>eU X cl ch o a w m ok S'):=by
 unfold X0
 simp only[ho]
 refine U7 R fun u hu=>?_
 cases u <;> cases op <;> try (unfold unC;trivial)
 case b.not p=>exact P8 H R (v:=.b (D6 p)) (x:=.bool (!p)) rfl (by simp[execOp,ho,KF hu,Op.unary])
 case i.neg k p=>exact P8 H R (v:=.i k (G5 k 0 p)) (x:=.int k (k.wrap (0 -p))) rfl (by simp[execOp,ho,lU hu,Op.unary,Op.intArith])
 case i.xor k p=>exact P8 H R (v:=.i k (a4s k (bif k.signed then -1 else k.max) p)) rfl (by
   simp only[execOp,ho,lU hu,Op.unary,Op.intBits,a4s]
   cases k.signed <;> simp)
theorem a5i {α:Type} {Q:α→Sm→Prop} (R:Rel X cl ch S m ok a w) {u:Ty} {y:V} {vy:Value} {K:List u.den→Cmd α} (hy:gJ ⟨w.heap,ok,m⟩ y vy)
  (hK:∀xs,rep w.heap (fun _ _=>True) (.sl u) xs [vy]→(K xs).post S Q):(a2N u y K).post S Q:=by
 unfold a2N
 split <;> try trivial
 ·have hv:vy= .slice none 0 0:=hy
  subst hv
  exact hK [] ⟨none,0,rfl,Nat.le_refl _,fun i x hi=>by simp at hi⟩
 ·obtain⟨ad,c,rfl,_⟩:=(show ∃a c,vy=Value.slice a 0 c∧a.isNone=_ from hy)
  exact hK [] ⟨ad,c,rfl,Nat.zero_le _,fun i x hi=>by simp at hi⟩
 ·refine dC fun e=>?_
  subst e
  exact hK _ (bI (fun _ _ _=>trivial) (fun _ _ _=>rfl) (show rep w.heap ok (.sl _) _ [vy]from hy))
 ·rename_i bx vw
  obtain⟨l,hm,hv⟩:=hy
  show Cmd.post (match S (BOX+bx)with | .barr t' xs=>_ | .bfrz t' xs=>_ | _=>_) S Q
  have hb:=R.box bx
  split <;> try trivial
  ·rename_i t' xs hS
   rw[hS]at hb
   obtain⟨l',hm',ha⟩:=hb
   simp only at hm hm'
   rw[hm]at hm';cases hm'
   refine dC fun e=>?_
   subst e
   exact hK _ (iZ (C:=⟨w.heap,ok,m⟩) ha hv (fun _ _ _=>trivial) (fun _ _ _ _ _ _=>trivial))
  ·rename_i t' xs hS
   rw[hS]at hb
   obtain⟨l',hm',ha,hok⟩:=hb
   simp only at hm hm'
   rw[hm]at hm';cases hm'
   refine dC fun e=>?_
   subst e
   exact hK _ (iZ (C:=⟨w.heap,ok,m⟩) ha hv (fun _ _ _=>trivial) (fun _ _ _ _ _ _=>trivial))
theorem YA (H:FxOk X) (R:Rel X cl ch S m ok a w) {src t:TypeId} {x:Operand} {q:Nat} (ho:o.op= .convert src t x):
  (X0 X.E q o).post S (fun _ S' =>eU X cl ch o a w m ok S'):=by
 unfold X0
 simp only[ho]
 refine U7 R fun u hu=>lC H fun j hj=>lC H fun i hi=>?_
 obtain⟨e,he⟩:=a3r hj.td
 have hd:=hi.td
 split <;> try trivial
 ·rename_i k' n k htd
  rw[htd]at hd
  exact P8 H R (v:=.i k (wrap k n)) (x:=.int k (k.wrap n)) rfl (by simp[execOp,ho,lU hu,convert,run_underlying he,run_underlying (show X.P.underlying t=some (.int k)from hd),Conv.intToInt])
 ·rename_i l htd
  rw[htd]at hd
  refine P8 H R (v:=.s l) (x:=.string ⟨l.toArray⟩) rfl ?_
  simp only[execOp,ho,Hy hu,convert,Sem.run_bind,run_underlying he,run_underlying (show X.P.underlying t=some .string from hd),Result.andThen_ok]
  cases e <;> simp
 ·rename_i hns htd
  rw[htd]at hd
  split <;> try trivial
  rename_i el hjd
  have hjs:=hj.td
  rw[hjd]at hjs
  refine lC H fun k hk=>?_
  have hkd:=hk.td
  split <;> try trivial
  rename_i hke
  rw[hke]at hkd
  refine a5i R hu fun xs hr=>?_
  obtain⟨ad,cap,hv,hcap,hcells⟩:=hr
  have hv:=(List.cons.inj hv).1
  refine P8 H R (v:=.s (a3T xs)) (x:=.string ⟨(a3T xs).toArray⟩) rfl ?_
  have hh:(convert src t (a.eval x)).run X.P w= .ok (.string ⟨(a3T xs).toArray⟩) w:=by
   rw[hv]
   cases xs with
   | nil=>
    have:=run_convert_bytes_nil (P:=X.P) w src el hjs hkd 0 cap t hd
    cases ad with
    | none=>exact this
    | some ad=>
     obtain⟨b,o,s⟩:=ad
     rw[run_convert_bytes_string w src t el _ _ cap hjs hkd hd]
     simp[Conv.bytesToString,a3T]
     rfl
   | cons y ys=>
    obtain⟨blk,off,es,rfl,_,_,_⟩:=hcells 0 y rfl
    have:=run_convert_bytes_arg (P:=X.P) w src el hjs hkd blk off (y::ys).length cap (y::ys) rfl (fun i hi=>?_) t hd
    ·exact this
    ·obtain⟨blk2,off2,es2,e2,_,hc,hr2⟩:=hcells i _ (Y5 hi)
     simp only[Option.some.injEq,Addr.mk.injEq]at e2
     obtain⟨rfl,rfl,_⟩:=e2
     obtain⟨c,T,f,hb,hn,rfl⟩:=nO hc
     have hr3:((c.toList.drop (off+i*1)).take 1)=[.int .u8 (y::ys)[i]]:=hr2
     have h5:=congrArg (fun l=>l[0]?) hr3
     simp only[List.getElem?_take_of_lt (show 0<1 by omega),List.getElem?_drop,Nat.add_zero,Nat.mul_one,List.getElem?_cons_zero,Array.getElem?_toList]at h5
     simp only[World.cell?,hb,h5,Option.isSome_none]
     simp[List.getD,Y5 hi]
  simp only[execOp,ho]
  rw[Sem.run_bind,hh]
  rfl
theorem YB (H:FxOk X) (R:Rel X cl ch S m ok a w) {x:Operand} {n:Nat} {q:Nat} (ho:o.op= .extract x n):
  (X0 X.E q o).post S (fun _ S' =>eU X cl ch o a w m ok S'):=by
 unfold X0
 simp only[ho]
 refine U7 R fun u hu=>?_
 cases u <;> try trivial
 case tup vs=>
 obtain⟨arr,hx,hl⟩:=hu
 have key:∀(vs:List V) (us:List Value) (n:Nat) (v:V),UJ ⟨w.heap,ok,m⟩ vs us→vs[n]? =some v→∃u,us[n]? =some u∧gJ ⟨w.heap,ok,m⟩ v u:=by
  intro vs
  induction vs with
  | nil=>intro us n v _ h;simp at h
  | cons c cs ih=>
   rintro us n v ⟨u,r,rfl,h1,h2⟩ h
   cases n with
   | zero=>
    simp at h;subst h
    refine⟨u,rfl,?_⟩
    cases c <;> first | exact h1 | exact h1.elim
   | succ n=>simpa using ih r n v h2 (by simpa using h)
 simp only[]
 split
 ·rename_i v hv
  obtain⟨u,hu,hr⟩:=key vs arr.toList n v hl hv
  refine P8 H R hr ?_
  have:arr[n]? =some u:=by simpa using hu
  simp[execOp,ho,hx,Instr.extract,this]
 ·trivial
theorem a4Z (H:FxOk X) (R:Rel X cl ch S m ok a w) {t:TypeId} {x ix:Operand} {q:Nat} (ho:o.op= .index t x ix):
  (X0 X.E q o).post S (fun _ S' =>eU X cl ch o a w m ok S'):=by
 unfold X0
 simp only[ho]
 refine U7 R fun u hu=>U7 R fun v hv=>lC H fun i hi=>?_
 have hd:=hi.td
 split <;> try trivial
 rename_i l k n htd
 rw[htd]at hd
 refine ak fun c hc=>?_
 unfold sat at hc
 split at hc
 ·rename_i h0
  cases hl:l[n.toNat]? with
  | none=>simp[hl]at hc
  | some b=>
   simp[hl]at hc;subst hc
   refine P8 H R (v:=.i .u8 b.toNat) (x:=.int .u8 b.toNat) rfl ?_
   have e:(⟨l.toArray⟩:ByteArray)[n.toNat]? =some b:=by
    obtain⟨h1,h2⟩:=O5.1 hl
    have hs:n.toNat<(⟨l.toArray⟩:ByteArray).size:=by simpa[ByteArray.size]using h1
    show decidableGetElem? _ _=_
    unfold decidableGetElem?
    rw[dif_pos hs,←h2];rfl
   simp[execOp,ho,Hy hu,lU hv,Instr.index,asIntOf,run_underlying (show X.P.underlying t=some .string from hd),h0,e]
 ·cases hc
theorem WG (H:FxOk X) (R:Rel X cl ch S m ok a w) {x:Operand} {q:Nat} (ho:o.op= .nilCheck x):
  (X0 X.E q o).post S (fun _ S' =>eU X cl ch o a w m ok S'):=by
 unfold X0
 simp only[ho]
 refine U7 R fun u hu=>?_
 cases u <;> try trivial
 case ptr bx f=>
  obtain⟨b,h1,h2⟩:=hu
  exact P8 H R (v:=.ptr bx f) ⟨b,h1,h2⟩ (by simp[execOp,ho,h2])
 case ep bx ix f=>
  obtain⟨_,_,_,_,_,h1,h2,h3⟩:=hu
  exact P8 H R (v:=.ep bx ix f) ⟨_,_,_,_,_,h1,h2,h3⟩ (by simp[execOp,ho,h3])
 case dp u y f=>
  obtain⟨_,_,_,h1,h2⟩:=hu
  exact P8 H R (v:=.dp u y f) ⟨_,_,_,h1,h2⟩ (by simp[execOp,ho,h1])
 case glob g=>exact P8 H R (v:=.glob g) hu (by have hu:a.eval x=_:=hu;simp[execOp,ho,hu])
end
end Go.GP
namespace Go.GP
theorem qK {w:World} {blk off n:Nat} {es:List Value} (e:Z9 w.heap blk off n=some es) {j:Nat} {v:Value} (h:es[j]? =some v):w.cell? ⟨blk,off+j,none⟩=some v:=by
 obtain⟨c,T,f,hb,hn,rfl⟩:=nO e
 rw[cell_of_row w blk (off+j) c T f hb]
 have hj:j<n:=by
  have:=(O5.1 h).1
  simp at this;omega
 rw[List.getElem?_take,if_pos hj,List.getElem?_drop]at h
 simpa using h
theorem yu {P:Program} {t:TypeId} {d:TD} (h:a7R P t d) (w:World):(isAgg t).run P w= .ok (dR d) w:=by
 unfold isAgg
 cases d <;> simp only[a7R]at h
 case struct fs=>
  obtain⟨fields,hu,_⟩:=h
  rw[Sem.run_bind,run_underlying hu];rfl
 case other=>
  obtain⟨e,hu,hn⟩:=h
  rw[Sem.run_bind,run_underlying hu]
  cases e <;> first | rfl | exact hn.elim
 all_goals (rw[Sem.run_bind,run_underlying h];rfl)
theorem lW {P:Program} {t:TypeId} {i:TI} (h:TiOk P t i) (w:World):(sizeOf t).run P w= .ok i.size w:=by
 obtain⟨inf,h1,h2,_⟩:=h.info
 simp[sizeOf,typeInfo,h1,h2]
def MN (ag:Bool) (es:List Value):Value:=match ag with | true=> .agg es.toArray | false=>es.headD Go.undef
theorem sU {P:Program} {t:TypeId} {i:TI} (hi:TiOk P t i) (w:World) {blk off:Nat} {es:List Value} (e:Z9 w.heap blk off i.size=some es):
  (loadVar t ⟨blk,off,none⟩).run P w= .ok (MN (dR i.td) es) w:=by
 have hl:=iP e
 unfold loadVar
 rw[Sem.run_bind,yu hi.td]
 simp only[Result.andThen_ok]
 cases ha:dR i.td
 ·have h1:=hi.one ha
  rw[h1]at hl
  obtain⟨v,rfl⟩:∃v,es=[v]:=by
   cases es with
   | nil=>simp at hl
   | cons v r=>cases r with
    | nil=>exact⟨v,rfl⟩
    | cons _ _=>simp at hl
  have hc:=qK e (j:=0) (v:=v) rfl
  simp only[Nat.add_zero]at hc
  simp[hc,MN]
 ·have hc:=run_loadCells_list (P:=P) w ⟨blk,off,none⟩ es (fun j v h=>by rw[Addr.add_lit];exact qK e h)
  rw[hl]at hc
  simp[lW hi,hc,MN]
theorem vN {C:Cx} {ag:Bool} {cs:List V} {es:List Value} (h:aH C cs es) (h1:ag=false→es.length=1):gJ C (mkV ag cs) (MN ag es):=by
 refine PS (us:=es) ?_ h
 cases ag
 ·have:=h1 rfl
  obtain⟨v,rfl⟩:∃v,es=[v]:=by
   cases es with
   | nil=>simp at this
   | cons v r=>cases r with
    | nil=>exact⟨v,rfl⟩
    | cons _ _=>simp at this
  rfl
 ·exact⟨es.toArray,rfl,by simp⟩
theorem Oj:∀(n:Nat) (cs r:List V),Oi n cs=some r→n≤cs.length∧r=cs.drop n
 | 0,cs,r,h=>by simp[Oi]at h;simp[h]
 | n+1,[],r,h=>by simp[Oi]at h
 | n+1,c::cs,r,h=>by
  obtain⟨h1,h2⟩:=Oj n cs r (by simpa[Oi]using h)
  exact⟨by simp;omega,by simpa using h2⟩
theorem Qk {α:Type} {Q:α→Sm→Prop} {S:Sm} :∀(n:Nat) (cs:List V) {K:List V→Cmd α} (hK:n≤cs.length→(K (cs.take n)).post S Q),(Xx n cs K .fail).post S Q
 | 0,cs,K,hK=>by simpa[Xx]using hK (Nat.zero_le _)
 | n+1,[],K,hK=>trivial
 | n+1,c::cs,K,hK=>by
  unfold Xx
  exact Qk n cs fun h=>by simpa using hK (by simp;omega)
theorem yw {α:Type} {Q:α→Sm→Prop} {S:Sm} {off n:Nat} {cs:List V} {K:List V→Cmd α} (hK:off+n≤cs.length→(K ((cs.drop off).take n)).post S Q):(QT off n cs K .fail).post S Q:=by
 unfold QT
 split
 ·rename_i r hr
  obtain⟨h1,rfl⟩:=Oj _ _ _ hr
  refine Qk n _ fun h=>hK ?_
  simp at h;omega
 ·trivial
def U6 {α:Type} (off:Nat) (vs cs:List α):List α:=cs.take off++vs++cs.drop (off+vs.length)
theorem yh {α:Type} {Q:α→Sm→Prop} {S:Sm} :∀(off:Nat) (vs cs:List V) {K:List V→Cmd α} (hK:off+vs.length≤cs.length→(K (U6 off vs cs)).post S Q),(Ky off vs cs K .fail).post S Q
 | 0,[],cs,K,hK=>by
  have:=hK (by simp)
  cases cs <;> simpa[Ky,U6]using this
 | 0,v::vs,[],K,hK=>by simp[Ky];trivial
 | 0,v::vs,c::cs,K,hK=>by
  unfold Ky
  exact yh 0 vs cs fun h=>by simpa[U6]using hK (by simp at h ⊢;omega)
 | n+1,vs,[],K,hK=>by cases vs <;> simp[Ky] <;> trivial
 | n+1,vs,c::cs,K,hK=>by
  have e:Ky (n+1) vs (c::cs) K Cmd.fail=Ky n vs cs (fun r=>K (c::r)) Cmd.fail:=by cases vs <;> rfl
  rw[e]
  refine yh n vs cs fun h=>?_
  have:=hK (by simp;omega)
  have e2:n+1+vs.length=(n+vs.length)+1:=by omega
  simpa[U6,e2]using this
theorem zQ {C:Cx} {off:Nat} {vs cs:List V} {us xs:List Value} (hv:aH C vs us) (hc:aH C cs xs):aH C (U6 off vs cs) (U6 off us xs):=by
 unfold U6
 rw[←gB hv]
 exact sO (sO (sQ off hc) hv) (pW _ hc)
theorem xR {P:Program} {t:TypeId} {i:TI} (hi:TiOk P t i) (w:World) {blk off:Nat} {c:Array Value} {T:TypeId} (hb:w.heap[blk]? =some (.cells c T (0,0))) {v:Value}
  (hs:v.cells.size=i.size) (ho:off+i.size≤c.size) (h1:∀u∈v.cells.toList,u.oneCell' =true):
  (storeVar t ⟨blk,off,none⟩ v).run P w= .ok () (w.setRow blk (U6 off v.cells.toList c.toList).toArray):=by
 have h:=run_storeCells_at P blk off T v.cells.toList 0 c w hb (by simp;omega) h1
 simp only[Nat.add_zero]at h
 unfold storeVar
 simp[lW hi,hs,h,U6]
section
variable {X:Fx} {cl ch:Nat} {S:Sm} {m:Mp} {ok:Nat→Ty→Prop} {a:Act} {w:World} {o:Oper}
theorem Rel.own_cells (R:Rel X cl ch S m ok a w) {n:Nat} {cs:List V} (h:S (BOX+n)= .bcells cs):∃blk arr T,m n=some (.st blk)∧w.heap[blk]? =some (.cells arr T (0,0))∧aH ⟨w.heap,ok,m⟩ cs arr.toList:=by
 have:=R.box n
 rw[h]at this
 exact this
theorem Rel.own_arr (R:Rel X cl ch S m ok a w) {n:Nat} {t:Ty} {xs:List t.den} (h:S (BOX+n)= .barr t xs):∃l,m n=some l∧arrOk ⟨w.heap,ok,m⟩ t xs l:=by
 have:=R.box n
 rw[h]at this
 exact this
theorem Rel.own_frz (R:Rel X cl ch S m ok a w) {n:Nat} {t:Ty} {xs:List t.den} (h:S (BOX+n)= .bfrz t xs):∃l,m n=some l∧arrOk ⟨w.heap,ok,m⟩ t xs l∧(∀blk off len cap sz,l= .arr blk off len cap sz→ok blk t):=by
 have:=R.box n
 rw[h]at this
 exact this
theorem Rel.own_barrs (R:Rel X cl ch S m ok a w) {n:Nat} {md:M} {xs:List md.den} {hole:Option (Nat×Nat)} (h:S (BOX+n)= .barrs md xs hole):md.el=true∧∃l Os,m n=some l∧TA ⟨w.heap,ok,m⟩ md xs hole Os l∧m.kid n=Os.flatten:=by
 have:=R.box n
 rw[h]at this
 exact this
theorem Rel.own_fc (R:Rel X cl ch S m ok a w) {n:Nat} {t:Ty} {x:t.den} (h:S (BOX+n)= .bfc t x):∃blk es,m n=some (.st blk)∧ok blk t∧Z9 w.heap blk 0 t.size=some es∧rep w.heap ok t x es:=by
 have:=R.box n
 rw[h]at this
 exact this
theorem tK:∀(m:M) (x:m.den) (r:List V),Dx m x r=Dx m x []++r
 | .dat t,x,r=>nY t x r
 | .pair a b,x,r=>by
  simp only[Dx]
  rw[tK a x.1 (Dx b x.2 r),tK b x.2 r,tK a x.1 (Dx b x.2 [])]
  simp
 | .unit,_,_=>rfl
 | .own _,_,_=>rfl
 | .owns _,_,_=>rfl
 | .box _,_,_=>rfl
 | .ownb _,_,_=>rfl
 | .rp _,_,_=>rfl
 | .fn _ _,_,_=>rfl
 | .ifc _ _,_,_=>rfl
 | .cell _,_,_=>rfl
theorem CE:∀(m:M) (x:m.den),(Dx m x []).length=m.size
 | .dat t,x=>lD t x
 | .pair a b,x=>by
  simp only[Dx,M.size]
  rw[tK a,List.length_append,CE a x.1,CE b x.2]
 | .unit,_=>rfl
 | .own _,_=>rfl
 | .owns _,_=>rfl
 | .box _,_=>rfl
 | .ownb _,_=>rfl
 | .rp _,_=>rfl
 | .fn _ _,_=>rfl
 | .ifc _ _,_=>rfl
 | .cell _,_=>rfl
theorem oH {C:Cx} {cs:List Value} (h:cs.length=1) (h1:∀v∈cs,v.oneCell' =true):aH C [.undef] cs:=by
 match cs,h with
 | [v],_=>exact⟨v,[],rfl,trivial,h1 v (by simp),rfl⟩
theorem Hw {C:Cx} :∀{m:M} {ho:Option Nat} {x:m.den} {cs:List Value} {O:List Nat},iO C.h C.ok m ho x cs O→aH C (Dx m x []) cs
 | .dat t,_,_,_,_,h=>pX h.1
 | .pair a b,_,x,_,_,h=>by
  obtain⟨c,d,O1,O2,rfl,rfl,h1,h2⟩:=h
  simp only[Dx]
  rw[tK a]
  exact sO (Hw h1) (Hw h2)
 | .unit,_,_,_,_,h=>by obtain⟨rfl,_⟩:=h;rfl
 | .own _,_,_,_,_,h=>oH (Y9 h) (oI h)
 | .owns _,_,_,_,_,h=>oH (Y9 h) (oI h)
 | .box _,_,_,_,_,h=>oH (Y9 h) (oI h)
 | .ownb _,_,_,_,_,h=>oH (Y9 h) (oI h)
 | .rp _,_,_,_,_,h=>oH (Y9 h) (oI h)
 | .fn _ _,_,_,_,_,h=>oH (Y9 h) (oI h)
 | .ifc _ _,_,_,_,_,h=>oH (Y9 h) (oI h)
 | .cell _,_,_,_,_,h=>oH (Y9 h) (oI h)
theorem aA {α:Type} {Q:α→Sm→Prop} {S:Sm} {k:Nat} {c:V→Cmd α} (h:(c (S k)).post S Q):(Cmd.get k c).post S Q:=h
theorem iy {α:Type} {Q:α→Sm→Prop} {S:Sm} {k:Nat} {v:V} {c:Cmd α} (h:c.post (upd S k v) Q):(Cmd.set k v c).post S Q:=h
theorem CG {α:Type} {Q:α→Sm→Prop} (H:FxOk X) (R:Rel X cl ch S m ok a w) {t:Nat} {p:V} {x:Value} (hp:gJ ⟨w.heap,ok,m⟩ p x) {K:V→Cmd α}
  (hK:∀v u ad,gJ ⟨w.heap,ok,m⟩ v u→x= .pointer (some ad)→(loadVar t ad).run X.P w= .ok u w→(K v).post S Q):(IR X.E t p K).post S Q:=by
 unfold IR
 refine lC H fun i hi=>?_
 cases p <;> try trivial
 case ptr bx off=>
  obtain⟨blk,hm,rfl⟩:=hp
  refine aA ?_
  split <;> try trivial
  ·rename_i cs hS
   obtain⟨blk',arr,T,hm',hh,hl⟩:=R.own_cells hS
   simp only at hm
   rw[hm]at hm';cases hm'
   refine yw fun hle=>?_
   have hlen:=gB hl
   have e:=gU hh off i.size (by simp at hlen;omega)
   refine hK _ _ _ (vN (sQ _ (pW _ hl)) (fun ha=>by have:=iP e;rw[hi.one ha]at this;rw[hi.one ha];exact this)) rfl ?_
   exact sU hi w e
  ·rename_i u y hS
   obtain⟨blk',es,hm',hok,he,hr⟩:=R.own_fc hS
   simp only at hm
   rw[hm]at hm';cases hm'
   refine yw fun hle=>?_
   rw[lD]at hle
   have e:=wG he off i.size hle
   rw[Nat.zero_add]at e
   refine hK _ _ _ (vN (sQ _ (pW _ (pX (C:=⟨w.heap,ok,m⟩) hr))) (fun ha=>by have:=iP e;rw[hi.one ha]at this;rw[hi.one ha];exact this)) rfl ?_
   exact sU hi w e
 case ep bx ix off=>
  obtain⟨blk,o',len,cap,sz,hm,hlt,rfl⟩:=hp
  refine aA ?_
  have key:∀{u:Ty} {xs:List u.den},arrOk ⟨w.heap,ok,m⟩ u xs (.arr blk o' len cap sz)→(Cmd.opt (J4 xs ix) fun x=>QT off i.size (flat u x []) (fun r=>K (mkV (dR i.td) r)) Cmd.fail).post S Q:=by
   intro u xs ha
   obtain⟨rfl,rfl,h3,c,T,hh,hs,hx⟩:=ha
   refine ak fun y hy=>?_
   obtain⟨es,he,hr⟩:=hx ix y hy
   refine yw fun hle=>?_
   rw[lD]at hle
   have e:=wG he off i.size hle
   refine hK _ _ _ (vN (sQ _ (pW _ (pX (C:=⟨w.heap,ok,m⟩) hr))) (fun ha=>by have:=iP e;rw[hi.one ha]at this;rw[hi.one ha];exact this)) rfl ?_
   exact sU hi w e
  split <;> try trivial
  ·rename_i u xs hS
   obtain⟨l,hm',ha⟩:=R.own_arr hS
   simp only at hm
   rw[hm]at hm';cases hm'
   exact key ha
  ·rename_i u xs hS
   obtain⟨l,hm',ha,_⟩:=R.own_frz hS
   simp only at hm
   rw[hm]at hm';cases hm'
   exact key ha
  ·rename_i md xs hole hS
   obtain⟨_,l,Os,hm',ha,_⟩:=R.own_barrs hS
   simp only at hm
   rw[hm]at hm';cases hm'
   obtain⟨rfl,rfl,h3,h7,c,T,hh,hs,hx⟩:=ha
   refine ak fun y hy=>?_
   obtain⟨es,O,hO,he,hr⟩:=hx ix y hy
   refine yw fun hle=>?_
   rw[CE]at hle
   have e:=wG he off i.size hle
   refine hK _ _ _ (vN (sQ _ (pW _ (Hw (C:=⟨w.heap,ok,m⟩) hr))) (fun ha=>by have:=iP e;rw[hi.one ha]at this;rw[hi.one ha];exact this)) rfl ?_
   exact sU hi w e
 case dp u y off=>
  obtain⟨blk,o',es,rfl,hb,he,hr⟩:=hp
  refine yw fun hle=>?_
  rw[lD]at hle
  have e:=wG he off i.size hle
  refine hK _ _ _ (vN (sQ _ (pW _ (pX (C:=⟨w.heap,ok,m⟩) hr))) (fun ha=>by have:=iP e;rw[hi.one ha]at this;rw[hi.one ha];exact this)) rfl ?_
  exact sU hi w e
theorem qm (h:Array Obj) (o:Obj) {b:Nat} (hb:b<h.size):(h.push o)[b]? =h[b]?:=by rw[Array.getElem?_push,if_neg (by omega)]
theorem Rel.new (R:Rel X cl ch S m ok a w) {n:Nat} {l:Loc} {ks:List Nat} {v:V} {obj:Obj} (hn:S (BOX+n)= .undef) (hcl:cl≤n) (hch:n<ch) (hv:v≠.undef)
  (hb:O6 (ig m n l ks) n v=[w.heap.size]) (hB:yV ⟨(w.alloc obj).heap,ok,ig m n l ks⟩ n v):
  Rel X cl ch (upd S (BOX+n) v) (ig m n l ks) ok a (w.alloc obj):=by
 refine R.lay hn hcl hch hv rfl rfl rfl (by simp) (fun b hb' _=>qm _ _ hb') (by rw[hb];simp) (fun b h=>?_) hB
 rw[hb]at h
 simp only[List.mem_singleton]at h
 subst h
 refine⟨fun t h' =>Nat.lt_irrefl _ (R.okLt _ t h'),by simp,.inl R.frame.size,fun k h' =>Nat.lt_irrefl _ (R.sep k _ h').2.1⟩
theorem Rel.newK (R:Rel X cl ch S m ok a w) {T:List Nat} (hT:Tk X S m ok w T) {n:Nat} {l:Loc} {ks:List Nat} {v:V} {obj:Obj} (hn:S (BOX+n)= .undef) (hcl:cl≤n) (hch:n<ch) (hv:v≠.undef)
  (hb:O6 (ig m n l ks) n v=w.heap.size::ks) (hnd:ks.Nodup) (hks:∀b∈ks,b∈T) (hB:yV ⟨(w.alloc obj).heap,ok,ig m n l ks⟩ n v):
  Rel X cl ch (upd S (BOX+n) v) (ig m n l ks) ok a (w.alloc obj):=by
 refine R.lay hn hcl hch hv rfl rfl rfl (by simp) (fun b hb' _=>qm _ _ hb') (by rw[hb];exact List.nodup_cons.2 ⟨fun h=>Nat.lt_irrefl _ (hT.free _ (hks _ h)).2.1,hnd⟩) (fun b h=>?_) hB
 rw[hb]at h
 rcases List.mem_cons.1 h with rfl | h
 ·exact⟨fun t h' =>Nat.lt_irrefl _ (R.okLt _ t h'),by simp,.inl R.frame.size,fun k h' =>Nat.lt_irrefl _ (R.sep k _ h').2.1⟩
 ·obtain⟨h1,h2,h3,h4⟩:=hT.free b (hks b h)
  exact⟨h1,by simp;omega,h3,h4⟩
theorem Rel.le_new (R:Rel X cl ch S m ok a w) {n:Nat} {l:Loc} {ks:List Nat} {obj:Obj} (hn:S (BOX+n)= .undef) (hcl:cl≤n):Cx.le ⟨w.heap,ok,m⟩ ⟨(w.alloc obj).heap,ok,ig m n l ks⟩:=
 ⟨fun _ _ h=>h,fun b t hb=>qm _ _ (R.okLt b t hb),fun k x h=>by
  by_cases e:k=n
  ·subst e;have:=R.fresh k hcl hn;simp only at h;rw[this]at h;cases h
  ·show ig m n l ks k=some x;rw[dG _ _ _ e];exact h⟩
theorem jU (H:FxOk X) {q:Nat} (d:Option Tmp) (hd:∀t,d=some t→t<X.E.nt):CB*q≤J8 q d∧J8 q d+64≤CB*q+CB:=by
 have:=H.nt
 cases d with
 | none=>simp only[J8];show 1000000*q≤1000000*q+999936∧1000000*q+999936+64≤1000000*q+1000000;omega
 | some t=>simp only[J8];have h2:LT.lt (α:=Nat) t X.E.nt:=hd t rfl;clear hd;generalize X.E.nt=n at*;revert this h2;generalize (t:Nat)=t';intro this h2;show 1000000*q≤1000000*q+64*t' ∧1000000*q+64*t' +64≤1000000*q+1000000;omega
theorem Sl (H:FxOk X) {q:Nat} (R:Rel X (CB*q) (CB*q+CB) S m ok a w) {v:V} {l:Loc} {obj:Obj} {vv:V} {x:Value} (hv:v≠.undef)
  (hb:O6 (ig m (J8 q o.dst) l []) (J8 q o.dst) v=[w.heap.size]) (hB:S (BOX+J8 q o.dst)= .undef→CB*q≤J8 q o.dst→yV ⟨(w.alloc obj).heap,ok,ig m (J8 q o.dst) l []⟩ (J8 q o.dst) v)
  (hx:gJ ⟨(w.alloc obj).heap,ok,ig m (J8 q o.dst) l []⟩ vv x) (run:(execOp a.eval o).run X.P w= .ok (.value x) (w.alloc obj)):
  (uo (J8 q o.dst) v (aj X.E o.dst vv)).post S (fun _ S' =>eU X (CB*q) (CB*q+CB) o a w m ok S'):=by
 refine sH fun hn=>?_
 cases hd:o.dst with
 | none=>
  have hin:=jU H (q:=q) none (fun t h=>by cases h)
  rw[hd]at hn hB hb hx
  have R' :=R.new hn hin.1 (by omega) hv hb (hB hn hin.1)
  have:=tC (o:=o) H R' (m0:=m) (ok0:=ok) (fun k l' h=>(R.le_new (obj:=obj) hn hin.1).m k l' h) (fun _ _ h=>h) hx run
  rw[hd]at this
  exact this
 | some t=>
  unfold aj
  refine X8 fun hb' =>?_
  have hin:=jU H (q:=q) (some t) (fun t' h=>by cases h;exact(vH hb').1)
  rw[hd]at hn hB hb hx
  have R' :=R.new hn hin.1 (by omega) hv hb (hB hn hin.1)
  have:=tC (o:=o) H R' (m0:=m) (ok0:=ok) (fun k l' h=>(R.le_new (obj:=obj) hn hin.1).m k l' h) (fun _ _ h=>h) hx run
  rw[hd]at this
  unfold aj at this
  simp only[hb',cond_true]at this
  exact this
theorem PP {C:Cx} :∀{cs:List V} {vs:List Value},aH ⟨#[],fun _ _=>False,nom⟩ cs vs→aH C cs vs:=by
 intro cs vs h
 exact zO (C:=⟨#[],fun _ _=>False,nom⟩) ⟨fun _ _ h=>h.elim,fun _ _ h=>h.elim,fun _ _ h=>by cases h⟩ h
theorem a4U (H:FxOk X) {q:Nat} (R:Rel X (CB*q) (CB*q+CB) S m ok a w) {t:TypeId} (ho:o.op= .alloc t):(X0 X.E q o).post S (fun _ S' =>eU X (CB*q) (CB*q+CB) o a w m ok S'):=by
 unfold X0
 simp only[ho]
 refine lC H fun i hi=>X8 fun hz=>?_
 obtain⟨inf,h1,h2,h3,h4,h5⟩:=hi.info
 obtain⟨z,hz1,hz2⟩:=h4 (bz hz)
 refine Sl (l:=.st w.heap.size) (obj:=.cells z.cells t) H R (by simp) (by simp[O6]) (fun hn hc=>?_) ⟨w.heap.size,by simp,rfl⟩ ?_
 ·exact⟨w.heap.size,z.cells,t,by simp,heap_alloc_new w _,PP hz2⟩
 ·simp[execOp,ho,Instr.alloc,zeroValue,typeInfo,h1,hz1,newVar,newRow]
theorem b9b (H:FxOk X) {q:Nat} (R:Rel X (CB*q) (CB*q+CB) S m ok a w) {t:TypeId} {x:Operand} (ho:o.op= .box t x):(X0 X.E q o).post S (fun _ S' =>eU X (CB*q) (CB*q+CB) o a w m ok S'):=by
 unfold X0
 simp only[ho]
 refine U7 R fun u hu=>nP hu fun cs hcs=>?_
 refine Sl (l:=.st w.heap.size) (obj:=.cells (a.eval x).cells t) H R (by simp) (by simp[O6]) (fun hn hc=>?_) ⟨w.heap.size,by simp,rfl⟩ ?_
 ·exact⟨w.heap.size,(a.eval x).cells,t,by simp,heap_alloc_new w _,zO (R.le_new hn hc) hcs⟩
 ·simp[execOp,ho,Instr.box,newVar,newRow]
end
end Go.GP
namespace Go.GP
theorem kE {α:Type} {p:Nat} {us L:List α} (h:p+us.length≤L.length) (i:Nat):
  (U6 p us L)[i]? =if i<p then L[i]? else if i<p+us.length then us[i -p]? else L[i]?:=by
 unfold U6
 rw[List.append_assoc]
 by_cases h1:i<p
 ·rw[if_pos h1,List.getElem?_append_left (by simp;omega),List.getElem?_take,if_pos h1]
 ·rw[if_neg h1,List.getElem?_append_right (by simp;omega)]
  have e:(L.take p).length=p:=by simp;omega
  rw[e]
  by_cases h2:i<p+us.length
  ·rw[if_pos h2,List.getElem?_append_left (by omega)]
  ·rw[if_neg h2,List.getElem?_append_right (by omega),List.getElem?_drop]
   congr 1;omega
theorem qH {α:Type} {p:Nat} {us L:List α} (h:p+us.length≤L.length):(U6 p us L).length=L.length:=by
 unfold U6;simp;omega
theorem Zv {α:Type} {p b n:Nat} {us L:List α} (h:p+us.length≤L.length) (hd:b+n≤p∨p+us.length≤b):((U6 p us L).drop b).take n=(L.drop b).take n:=by
 apply List.ext_getElem?
 intro i
 rw[List.getElem?_take,List.getElem?_take]
 split
 ·rw[List.getElem?_drop,List.getElem?_drop,kE h]
  rcases hd with hd | hd
  ·rw[if_pos (by omega)]
  ·rw[if_neg (by omega),if_neg (by omega)]
 ·rfl
theorem KT {α:Type} {b off n:Nat} {us L:List α} (h:b+n≤L.length) (ho:off+us.length≤n):((U6 (b+off) us L).drop b).take n=U6 off us ((L.drop b).take n):=by
 have hl:((L.drop b).take n).length=n:=by simp;omega
 apply List.ext_getElem?
 intro i
 rw[List.getElem?_take,kE (by rw[hl];exact ho)]
 by_cases hi:i<n
 ·rw[if_pos hi,List.getElem?_drop,kE (by omega),List.getElem?_take,if_pos hi,List.getElem?_drop]
  by_cases h1:i<off
  ·rw[if_pos (by omega),if_pos h1]
  ·rw[if_neg (by omega),if_neg h1]
   by_cases h2:i<off+us.length
   ·rw[if_pos (by omega),if_pos h2];congr 1;omega
   ·rw[if_neg (by omega),if_neg h2]
 ·rw[if_neg hi,if_neg (by omega),if_neg (by omega),List.getElem?_take,if_neg hi]
theorem ES {w:World} {blk:Nat} {c:Array Value} {T:TypeId} (hb:w.heap[blk]? =some (.cells c T (0,0))) (L:List Value) (off n:Nat) (h:off+n≤L.length):
  Z9 (w.setRow blk L.toArray).heap blk off n=some ((L.drop off).take n):=by
 rw[gU (setRow_heap w blk c L.toArray T (0,0) hb) off n (by simpa using h)]
theorem a3Q {a b:Nat} (h:a<b):Nat.blt a b=true:=by unfold Nat.blt;exact Nat.ble_eq_true_of_le h
theorem a3P {a b:Nat} (h:¬a<b):Nat.blt a b=false:=by
 cases e:Nat.blt a b
 ·rfl
 ·exact absurd (GM e) h
theorem xw {α:Type} :∀{Os:List (List α)} {i:Nat} {O1 P O2:List α},Os[i]? =some (O1++P++O2)→Os.flatten.Perm ((Os.set i (O1++O2)).flatten++P)
 | [],i,_,_,_,h=>by simp at h
 | A::Os,0,O1,P,O2,h=>by
  simp at h;subst h
  simp only[List.set_cons_zero,List.flatten_cons,List.append_assoc]
  refine List.Perm.append_left O1 ?_
  have:=(List.perm_append_comm (l₁:=P) (l₂:=O2++Os.flatten))
  simpa using this
 | A::Os,i+1,O1,P,O2,h=>by
  simp at h
  simp only[List.set_cons_succ,List.flatten_cons,List.append_assoc]
  exact List.Perm.append_left A (xw (by simpa using h))
section
variable {X:Fx} {cl ch:Nat} {S:Sm} {m:Mp} {ok:Nat→Ty→Prop} {a:Act} {w:World} {o:Oper}
theorem b9e {h h' :Array Obj} {ok:Nat→Ty→Prop} {m:Mp} (k:∀b t,ok b t→h'[b]? =h[b]?) {cs:List V} {vs:List Value} (hr:aH ⟨h,ok,m⟩ cs vs):aH ⟨h',ok,m⟩ cs vs:=
 zO (C:=⟨h,ok,m⟩) (D:=⟨h',ok,m⟩) ⟨fun _ _ h=>h,k,fun _ _ h=>h⟩ hr
theorem Ho {α:Type} {Q:α→Sm→Prop} {S:Sm} {h:Array Obj} {ok:Nat→Ty→Prop} :∀(md:M) (off:Nat) {x:md.den} {es:List Value} {O:List Nat} {K:V→Cmd α} (hr:iO h ok md none x es O)
  (hK:∀v l ks u O1 Op O2,O=O1++Op++O2→iO h ok md (some off) x es (O1++O2)→es[off]? =some u→l.view none u→
   (∀mp n,yV ⟨h,ok,ig mp n l ks⟩ n v∧O6 (ig mp n l ks) n v=Op∧ig mp n l ks n=some l)→v≠.undef→(K v).post S Q),
  (Pq md off x K .fail).post S Q
 | .own t,off,x,es,O,K,hr,hK=>by
  unfold Pq
  refine X8 fun hb=>?_
  have:=bz hb
  subst this
  obtain⟨l,v,rfl,hv,ha,rfl⟩:=qG.1 hr
  refine hK _ l [] v [] l.blks [] (by simp) ⟨v,rfl,jS hv,rfl⟩ rfl hv (fun mp n=>⟨⟨l,by simp,Ik ha⟩,?_,by simp⟩) (by simp)
  cases l <;> first | (simp[O6,Loc.blks];done) | cases ha
 | .owns md,off,x,es,O,K,hr,hK=>by
  unfold Pq
  refine X8 fun hb=>?_
  have:=bz hb
  subst this
  obtain⟨he,l,v,Os,rfl,hv,ha,rfl⟩:=sS.1 hr
  refine hK _ l Os.flatten v [] (l.blks++Os.flatten) [] (by simp) ⟨v,rfl,jS hv,rfl⟩ rfl hv (fun mp n=>⟨⟨he,l,Os,by simp,ha,by simp⟩,?_,by simp⟩) (by simp)
  cases l <;> first | (simp[O6,Loc.blks];done) | cases ha
 | .pair p q,off,x,es,O,K,hr,hK=>by
  unfold Pq
  obtain⟨c,d,O1,O2,rfl,rfl,h1,h2⟩:=hr
  have hc:=Y9 h1
  by_cases hlt:off<p.size
  ·have hb:Nat.blt off p.size=true:=a3Q hlt
   simp only[hb,cond_true]
   refine Ho p off h1 fun v l ks u A Op B e1 e2 e3 e4 e5 e6=>?_
   refine hK v l ks u A Op (B++O2) (by subst e1;simp) ⟨c,d,A++B,O2,rfl,by simp,?_,?_⟩ (by rw[List.getElem?_append_left (by rw[hc];exact hlt)];exact e3) e4 e5 e6
   ·simp only[hlt,if_true];exact e2
   ·simp only[hlt,if_true];exact h2
  ·have hb:Nat.blt off p.size=false:=a3P hlt
   simp only[hb,cond_false]
   refine Ho q (off -p.size) h2 fun v l ks u A Op B e1 e2 e3 e4 e5 e6=>?_
   refine hK v l ks u (O1++A) Op B (by subst e1;simp) ⟨c,d,O1,A++B,rfl,by simp,?_,?_⟩ (by rw[List.getElem?_append_right (by omega),hc];exact e3) e4 e5 e6
   ·simp only[hlt,if_false];exact h1
   ·simp only[hlt,if_false];exact e2
 | .dat _,_,_,_,_,_,_,_=>trivial
 | .unit,_,_,_,_,_,_,_=>trivial
 | .box _,_,_,_,_,_,_,_=>trivial
 | .ownb _,_,_,_,_,_,_,_=>trivial
 | .cell _,_,_,_,_,_,_,_=>trivial
 | .rp _,_,_,_,_,_,_,_=>trivial
 | .fn _ _,_,_,_,_,_,_,_=>trivial
 | .ifc _ _,_,_,_,_,_,_,_=>trivial
def Tn (h:Array Obj) (ok:Nat→Ty→Prop) (v:V) (u:Value) (Op:List Nat):Prop:=
 (v= .nl∧u= .slice none 0 0∧Op=[])∨(∃t ys l,v= .barr t ys∧l.view none u∧arrOk ⟨h,ok,nom⟩ t ys l∧Op=l.blks)∨
 (∃md ys l Os,v= .barrs md ys none∧md.el=true∧l.view none u∧wU h md.size (fun _ x es O=>iO h ok md none x es O) ys Os l∧Op=l.blks++Os.flatten)
theorem Tn.one {h:Array Obj} {v:V} {u:Value} {Op:List Nat} (k:Tn h ok v u Op):u.oneCell' =true:=by
 rcases k with⟨_,rfl,_⟩ | ⟨_,_,l,_,hv,_⟩ | ⟨_,_,l,_,_,_,hv,_⟩
 ·rfl
 ·exact jS hv
 ·exact jS hv
theorem JU {α:Type} {Q:α→Sm→Prop} {S:Sm} {h:Array Obj} {ok:Nat→Ty→Prop} {v:V} {u:Value} {Op:List Nat} (hp:Tn h ok v u Op):∀(md:M) (off:Nat) {ho:Option Nat} {x:md.den} {es:List Value} {O:List Nat} {K:md.den→Cmd α}
  (hr:iO h ok md ho x es O) (hh:ho=none∨ho=some off) (hel:md.el=true)
  (hK:∀y O1 Old O2,O=O1++Old++O2→iO h ok md none y (es.set off u) (O1++Op++O2)→off<es.length→(K y).post S Q),
  (Ym md off v x K .fail).post S Q
 | .own t,off,ho,x,es,O,K,hr,hh,hel,hK=>by
  unfold Ym
  refine X8 fun hb=>?_
  have:=bz hb
  subst this
  obtain⟨v0,rfl,_,_⟩:=hr
  rcases hp with⟨rfl,rfl,rfl⟩ | ⟨t',ys,l,rfl,hv,ha,rfl⟩ | ⟨md',ys,l,Os,rfl,_,hv,ha,rfl⟩
  ·exact hK [] [] O [] (by simp) ⟨_,rfl,rfl,.nil,rfl,rfl,rfl⟩ (by simp)
  ·simp only
   refine dC fun e=>?_
   subst e
   exact hK _ [] O [] (by simp) ⟨u,rfl,jS hv,l,hv,ha,by simp⟩ (by simp)
  ·trivial
 | .owns md,off,ho,x,es,O,K,hr,hh,hel,hK=>by
  unfold Ym
  refine X8 fun hb=>?_
  have:=bz hb
  subst this
  obtain⟨v0,rfl,_,_⟩:=hr
  rcases hp with⟨rfl,rfl,rfl⟩ | ⟨t',ys,l,rfl,hv,ha,rfl⟩ | ⟨md',ys,l,Os,rfl,he,hv,ha,rfl⟩
  ·exact hK [] [] O [] (by simp) ⟨_,rfl,rfl,by simpa[M.el]using hel,.nil,[],rfl,⟨rfl,rfl⟩,rfl⟩ (by simp)
  ·trivial
  ·simp only
   refine NT fun e=>?_
   subst e
   exact hK _ [] O [] (by simp) ⟨u,rfl,jS hv,he,l,Os,hv,ha,by simp⟩ (by simp)
 | .pair p q,off,ho,x,es,O,K,hr,hh,hel,hK=>by
  unfold Ym
  obtain⟨c,d,O1,O2,rfl,rfl,h1,h2⟩:=hr
  have hc:=Y9 h1
  have hel' :p.el=true∧q.el=true:=by simpa[M.el]using hel
  by_cases hlt:off<p.size
  ·have hb:Nat.blt off p.size=true:=a3Q hlt
   simp only[hb,cond_true]
   have h2' :iO h ok q none x.2 d O2:=by
    rcases hh with rfl | rfl
    ·exact h2
    ·simpa only[hlt,if_true]using h2
   refine JU hp p off h1 (by rcases hh with rfl | rfl <;> first | exact .inl rfl | (right;simp only[hlt,if_true])) hel'.1 fun y A Old B e1 e2 e3=>?_
   refine hK _ A Old (B++O2) (by subst e1;simp) ⟨c.set off u,d,A++Op++B,O2,?_,by simp,e2,h2'⟩ (by simp;omega)
   rw[List.set_append_left _ _ (by omega)]
  ·have hb:Nat.blt off p.size=false:=a3P hlt
   simp only[hb,cond_false]
   have h1' :iO h ok p none x.1 c O1:=by
    rcases hh with rfl | rfl
    ·exact h1
    ·simpa only[hlt,if_false]using h1
   refine JU hp q (off -p.size) h2 (by rcases hh with rfl | rfl <;> first | exact .inl rfl | (right;simp only[hlt,if_false])) hel'.2 fun y A Old B e1 e2 e3=>?_
   refine hK _ (O1++A) Old B (by subst e1;simp) ⟨c,d.set (off -p.size) u,O1,A++Op++B,?_,by simp,h1',e2⟩ (by simp;omega)
   rw[List.set_append_right _ _ (by omega),hc]
 | .dat _,_,_,_,_,_,_,_,_,_,_=>trivial
 | .unit,_,_,_,_,_,_,_,_,_,_=>trivial
 | .box _,_,_,_,_,_,_,_,_,_,_=>trivial
 | .ownb _,_,_,_,_,_,_,_,_,_,_=>trivial
 | .cell _,_,_,_,_,_,_,_,_,_,_=>trivial
 | .rp _,_,_,_,_,_,_,_,_,_,_=>trivial
 | .fn _ _,_,_,_,_,_,_,_,_,_,_=>trivial
 | .ifc _ _,_,_,_,_,_,_,_,_,_,_=>trivial
theorem EW {α:Type} {Q:α→Sm→Prop} {C:Cx} {ln:Ty→Bool} :∀(t:Ty) {cs:List V} {K:t.den→List V→Cmd α} {S:Sm} {vs:List Value} (hf:t.flat=true) (hL:aH C cs vs)
  (hK:∀x r us us',vs=us++us' →(∀h ok,rep h ok t x us)→aH C r us' →(K x r).post S Q),(jl ln t cs K).post S Q
 | .bool,cs,K,S,vs,hf,hL,hK=>by
  unfold jl
  split
  ·obtain⟨v,r,rfl,h1,_,h3⟩:=hL
   exact hK _ _ [v] r rfl (fun _ _=>by simp only[sV]at h1;simp[rep,h1]) h3
  ·trivial
 | .int k,cs,K,S,vs,hf,hL,hK=>by
  unfold jl
  split
  ·obtain⟨v,r,rfl,h1,_,h3⟩:=hL
   refine aG fun e=>?_
   have e:=of_decide_eq_true e
   subst e
   exact hK _ _ [v] r rfl (fun _ _=>by simp only[sV]at h1;simp[rep,h1]) h3
  ·trivial
 | .str,cs,K,S,vs,hf,hL,hK=>by
  unfold jl
  split
  ·obtain⟨v,r,rfl,h1,_,h3⟩:=hL
   exact hK _ _ [v] r rfl (fun _ _=>by simp only[sV]at h1;simp[rep,h1]) h3
  ·trivial
 | .unit,cs,K,S,vs,hf,hL,hK=>by
  unfold jl
  exact hK _ _ [] vs rfl (fun _ _=>rfl) hL
 | .prod p q,cs,K,S,vs,hf,hL,hK=>by
  unfold jl
  simp[Ty.flat]at hf
  refine EW p hf.1 hL fun x r us us' e1 h1 l1=>?_
  refine EW q hf.2 l1 fun y r' vs2 vs2' e2 h2 l2=>?_
  subst e1;subst e2
  exact hK _ _ (us++vs2) vs2' (by simp) (fun h ok=>⟨us,vs2,rfl,h1 h ok,h2 h ok⟩) l2
 | .sl t,cs,K,S,vs,hf,hL,hK=>by simp[Ty.flat]at hf
theorem Xu {α:Type} {off:Nat} {us c d:List α} (h:off+us.length≤c.length):U6 off us (c++d)=U6 off us c++d:=by
 apply List.ext_getElem?
 intro i
 have hs:=qH h
 rw[kE (by simp;omega)]
 by_cases hi:i<c.length
 ·rw[List.getElem?_append_left hi,List.getElem?_append_left (l₁:=U6 off us c) (by rw[hs];exact hi),kE h]
 ·rw[List.getElem?_append_right (by omega),List.getElem?_append_right (l₁:=U6 off us c) (by rw[hs];omega),hs,if_neg (by omega),if_neg (by omega)]
theorem UY {α:Type} {off:Nat} {us c d:List α} (h:(off -c.length)+us.length≤d.length) (h' :c.length≤off):U6 off us (c++d)=c++U6 (off -c.length) us d:=by
 apply List.ext_getElem?
 intro i
 rw[kE (by simp;omega)]
 by_cases hi:i<c.length
 ·rw[List.getElem?_append_left hi,if_pos (by omega),List.getElem?_append_left hi]
 ·rw[List.getElem?_append_right (by omega),List.getElem?_append_right (l₂:=U6 (off -c.length) us d) (by omega),kE h]
  by_cases h1:i<off
  ·simp only[h1,if_true,show i -c.length<off -c.length by omega]
  ·by_cases h2:i<off+us.length
   ·simp only[h1,if_false,h2,if_true,show ¬(i -c.length<off -c.length) by omega,show i -c.length<off -c.length+us.length by omega];congr 1;omega
   ·simp only[h1,if_false,h2,show ¬(i -c.length<off -c.length) by omega,show ¬(i -c.length<off -c.length+us.length) by omega]
theorem JJ {α:Type} {Q:α→Sm→Prop} {h:Array Obj} {ok:Nat→Ty→Prop} {m:Mp} :∀(md:M) (off:Nat) {ho:Option Nat} {x:md.den} {es us:List Value} {vs:List V} {O:List Nat} {K:md.den→Cmd α} {S:Sm}
  (hr:iO h ok md ho x es O) (hv:aH ⟨h,ok,m⟩ vs us)
  (hK:∀y,off+us.length≤es.length→iO h ok md ho y (U6 off us es) O→(K y).post S Q),(a2b md off vs x K).post S Q
 | .dat t,off,ho,x,es,us,vs,O,K,S,hr,hv,hK=>by
  unfold a2b
  refine aG fun hf=>yh _ _ _ fun hle=>?_
  rw[lD]at hle
  obtain⟨hr,rfl⟩:=hr
  have hl:=dY hr
  have hlv:=gB hv
  have hnew:=zQ (off:=off) hv (pX (C:=⟨h,ok,m⟩) hr)
  refine EW t hf hnew fun y q vs1 vs2 e1 h1 l1=>?_
  cases q with
  | cons _ _=>trivial
  | nil=>
  simp only[aH]at l1
  subst l1
  simp only[List.append_nil]at e1
  subst e1
  exact hK y (by omega) ⟨h1 _ _,rfl⟩
 | .pair p q,off,ho,x,es,us,vs,O,K,S,hr,hv,hK=>by
  unfold a2b
  obtain⟨c,d,O1,O2,rfl,rfl,h1,h2⟩:=hr
  have hc:=Y9 h1
  by_cases hlt:off<p.size
  ·have hb:Nat.blt off p.size=true:=a3Q hlt
   simp only[hb,cond_true]
   refine JJ p off h1 hv fun y hle e2=>?_
   exact hK _ (by simp;omega) ⟨_,d,O1,O2,Xu hle,rfl,e2,h2⟩
  ·have hb:Nat.blt off p.size=false:=a3P hlt
   simp only[hb,cond_false]
   refine JJ q (off -p.size) h2 hv fun y hle e2=>?_
   refine hK _ (by simp;omega) ⟨c,_,O1,O2,?_,rfl,h1,e2⟩
   rw[UY (by omega) (by omega),hc]
 | .own _,_,_,_,_,_,_,_,_,_,_,_,_=>trivial
 | .owns _,_,_,_,_,_,_,_,_,_,_,_,_=>trivial
 | .unit,_,_,_,_,_,_,_,_,_,_,_,_=>trivial
 | .box _,_,_,_,_,_,_,_,_,_,_,_,_=>trivial
 | .ownb _,_,_,_,_,_,_,_,_,_,_,_,_=>trivial
 | .cell _,_,_,_,_,_,_,_,_,_,_,_,_=>trivial
 | .rp _,_,_,_,_,_,_,_,_,_,_,_,_=>trivial
 | .fn _ _,_,_,_,_,_,_,_,_,_,_,_,_=>trivial
 | .ifc _ _,_,_,_,_,_,_,_,_,_,_,_,_=>trivial
theorem a2p (i:Nat):TV none i=none:=rfl
theorem OH {i o j:Nat} (h:j≠i):TV (some (i,o)) j=none:=by simp[TV,h]
theorem RJ {i o:Nat} :TV (some (i,o)) i=some o:=by simp[TV]
theorem PO {C:Cx} {n:Nat} {md:M} {xs:List md.den} {hole:Option (Nat×Nat)} {blk off len cap sz:Nat} {Os:List (List Nat)} (he:md.el=true) (hm:C.m n=some (.arr blk off len cap sz))
  (ha:TA C md xs hole Os (.arr blk off len cap sz)) (hk:C.m.kid n=Os.flatten):yV C n (.barrs md xs hole):=⟨he,_,Os,hm,ha,hk⟩
theorem a4J (H:FxOk X) {q:Nat} {S1:Sm} {m1:Mp} {ok1:Nat→Ty→Prop} {w0:World} {Op:List Nat} (R:Rel X (CB*q) (CB*q+CB) S1 m1 ok1 a w) (hT:Tk X S1 m1 ok1 w Op)
  (hm:∀k l,m k=some l→m1 k=some l) (hok:∀b t,ok b t→ok1 b t) {v:V} {l:Loc} {ks:List Nat} {vv:V} {x:Value} (hv:v≠.undef)
  (ho:O6 (ig m1 (J8 q o.dst) l ks) (J8 q o.dst) v=Op) (hB:yV ⟨w.heap,ok1,ig m1 (J8 q o.dst) l ks⟩ (J8 q o.dst) v)
  (hx:gJ ⟨w.heap,ok1,ig m1 (J8 q o.dst) l ks⟩ vv x) (run:(execOp a.eval o).run X.P w0= .ok (.value x) w):
  (uo (J8 q o.dst) v (aj X.E o.dst vv)).post S1 (fun _ S' =>eU X (CB*q) (CB*q+CB) o a w0 m ok S'):=by
 refine sH fun hn=>?_
 cases hd:o.dst with
 | none=>
  have hin:=jU H (q:=q) none (fun t h=>by cases h)
  rw[hd]at hn hB hx ho
  obtain⟨R',_,hm'⟩:=R.adopt (T:=[]) hn hin.1 hv (by simpa using hT) (fun b h=>by rw[ho]at h;exact h) (by rw[ho];exact hT.nodup) hB
  rw[Nat.max_eq_left (by omega)]at R'
  have:=tC (o:=o) H R' (m0:=m) (ok0:=ok) (fun k l' h=>hm' k l' (hm k l' h)) hok hx run
  rw[hd]at this
  exact this
 | some t=>
  unfold aj
  refine X8 fun hb' =>?_
  have hin:=jU H (q:=q) (some t) (fun t' h=>by cases h;exact(vH hb').1)
  rw[hd]at hn hB hx ho
  obtain⟨R',_,hm'⟩:=R.adopt (T:=[]) hn hin.1 hv (by simpa using hT) (fun b h=>by rw[ho]at h;exact h) (by rw[ho];exact hT.nodup) hB
  rw[Nat.max_eq_left (by omega)]at R'
  have:=tC (o:=o) H R' (m0:=m) (ok0:=ok) (fun k l' h=>hm' k l' (hm k l' h)) hok hx run
  rw[hd]at this
  unfold aj at this
  simp only[hb',cond_true]at this
  exact this
theorem a8R (H:FxOk X) {q:Nat} (R:Rel X (CB*q) (CB*q+CB) S m ok a w) {t:TypeId} {x:Operand} (ho:o.op= .load t x):(X0 X.E q o).post S (fun _ S' =>eU X (CB*q) (CB*q+CB) o a w m ok S'):=by
 unfold X0
 simp only[ho]
 refine U7 R fun p hp=>?_
 have plain:(IR X.E t p fun v=>aj X.E o.dst v).post S (fun _ S' =>eU X (CB*q) (CB*q+CB) o a w m ok S'):=by
  refine CG H R hp fun v u ad hv hx hr=>P8 H R hv ?_
  simp[execOp,ho,hx,Instr.loadAt,Instr.sureAddr,hr]
 unfold b0b
 split
 ·rename_i bx idx off
  refine aA ?_
  split
  ·rename_i md xs hS
   cases hown:md.ownAt off
   ·simpa only[cond_false]using plain
   simp only[cond_true]
   refine lC H fun i hi=>aG fun hi1=>?_
   simp only[Bool.and_eq_true,Bool.not_eq_true']at hi1
   obtain⟨hsz,hagg⟩:=hi1
   have hsz:=bz hsz
   have hp' :=hp
   obtain⟨blk,o',len,cap,sz,hm,hlt,hx⟩:=hp
   obtain⟨hel,l,Os,hm',ha,hk⟩:=R.own_barrs hS
   simp only at hm
   rw[hm]at hm';cases hm'
   cases zi (match o.dst with | some d=>d | none=>BOX) X.E.tk <;> simp only[cond_true,cond_false]
   ·refine BM (T:=[]) (.sl md.ty) R Tk.nil (cs:=[.own bx none]) (vs:=[.slice (some ⟨blk,o',none⟩) len cap]) ⟨_,_,rfl,⟨_,hm,rfl⟩,rfl,rfl⟩ fun S1 ok1 _ _ us us' R1 T1 k1 s1 e1 h1 l1=>?_
    refine CG H R1 (Nr k1 hp') fun v u ad hv hx hr=>tC H R1 (fun _ _ h=>h) k1 hv ?_
    simp[execOp,ho,hx,Instr.loadAt,Instr.sureAddr,hr]
   ·refine ak fun e0 he0=>?_
    obtain⟨rfl,rfl,h3,h7,c,T,hh,hs,hxs⟩:=ha
    obtain⟨es,O,hO,he,hr⟩:=hxs idx e0 he0
    refine Ho md off hr fun v l2 ks u O1 Op O2 eO hr' hu hv hB hvu=>?_
    refine iy ?_
    have hOs:Os.flatten.Perm ((Os.set idx (O1++O2)).flatten++Op):=xw (by rw[hO,eO])
    have hown0:O6 m bx (S (BOX+bx))=blk::Os.flatten:=by simp[O6,hS,hm,hk]
    have hown1:O6 (zk m bx (Os.set idx (O1++O2)).flatten) bx (.barrs md xs (some (idx,off)))=blk::(Os.set idx (O1++O2)).flatten:=by simp[O6,hm]
    have hnd:=R.nd bx
    rw[hown0]at hnd
    have hperm:(blk::Os.flatten).Perm ((blk::(Os.set idx (O1++O2)).flatten)++Op):=by simpa using hOs.cons blk
    have hnd' :=List.nodup_append.1 (hperm.nodup_iff.1 hnd)
    have hB1:yV ⟨w.heap,ok,zk m bx (Os.set idx (O1++O2)).flatten⟩ bx (.barrs md xs (some (idx,off))):=by
     refine PO (Os:=Os.set idx (O1++O2)) hel hm ⟨rfl,rfl,h3,by simp[h7],c,T,hh,hs,fun j z hz=>?_⟩ (by simp)
     by_cases hj:j=idx
     ·subst hj
      rw[show xs[j]? =some e0 from he0]at hz;cases hz
      refine⟨es,O1++O2,?_,he,by simp only[RJ];exact hr'⟩
      rw[List.getElem?_set,if_pos rfl,if_pos (by rw[h7];exact hlt)]
     ·obtain⟨es2,O',hO2,he2,hr2⟩:=hxs j z hz
      refine⟨es2,O',?_,he2,by simp only[OH hj];exact hr2⟩
      rw[List.getElem?_set,if_neg (fun e=>hj e.symm)];exact hO2
    obtain⟨R1,T1⟩:=R.modK (T:=[]) Tk.nil (n:=bx) (v:=.barrs md xs (some (idx,off))) (ks:=(Os.set idx (O1++O2)).flatten) (w' :=w) (T' :=Op) (by simp) (by rw[hown1];exact hnd'.1)
     (fun b hb=> .inl (by rw[hown0];rw[hown1]at hb;exact hperm.mem_iff.2 (List.mem_append_left _ hb))) rfl rfl rfl rfl (fun _ _=>rfl) hB1 hnd'.2.1
     (fun b hb=>⟨.inl (by rw[hown0];exact hperm.mem_iff.2 (List.mem_append_right _ hb)),fun h=>hnd'.2.2 b (by rw[hown1]at h;exact h) b hb rfl⟩)
    obtain⟨hB2,hB3,hB4⟩:=hB (zk m bx (Os.set idx (O1++O2)).flatten) (J8 q o.dst)
    refine a4J (ok:=ok) (m:=m) H R1 T1 (fun _ _ h=>h) (fun _ _ h=>h) hvu hB3 hB2 ⟨l2,hB4,hv⟩ ?_
    have hlt2:=(O5.1 hu)
    have hle:off+1≤md.size:=by have:=Y9 hr;have:=hlt2.1;omega
    have e:=wG he off i.size (by omega)
    have hr2:=sU hi w e
    have h1:(es.drop off).take i.size=[u]:=by
     obtain⟨hlt3,rfl⟩:=hlt2
     rw[hsz,List.drop_eq_getElem_cons hlt3];rfl
    rw[h1,hagg]at hr2
    simp[execOp,ho,hx,Instr.loadAt,Instr.sureAddr,hr2,MN]
  ·exact plain
 ·exact plain
theorem Dn {S' :Sm} {t:TypeId} {x y:Operand} {w' :World} {m' :Mp} {ok' :Nat→Ty→Prop} (ho:o.op= .store t x y) (hd:o.dst=none) (run:(Instr.storeAt t (a.eval x) (a.eval y)).run X.P w= .ok () w')
  (R:Rel X cl ch S' m' ok' a w') (hm:∀k l,m k=some l→m' k=some l) (hok:∀b t,ok b t→ok' b t):eU X cl ch o a w m ok S' :=by
 intro next Q hn
 unfold Oper.wp
 have e:(execOp a.eval o).run X.P w= .ok .skip w' :=by simp[execOp,ho,run]
 rw[e,Oper.upon_skip,hd]
 exact hn m' ok' a w' R hm hok
theorem Zu {α:Type} {off:Nat} {u:α} {L:List α} (h:off<L.length):U6 off [u] L=L.set off u:=by
 apply List.ext_getElem?
 intro i
 rw[kE (by simp;omega),List.getElem?_set]
 by_cases h1:i=off
 ·subst h1;rw[if_neg (by omega),if_pos (by simp),if_pos rfl,if_pos h];simp
 ·by_cases h2:i<off
  ·rw[if_pos h2,if_neg (by omega)]
  ·rw[if_neg h2,if_neg (by simp;omega),if_neg (by omega)]
theorem a1Z {u:Value} (h:u.oneCell' =true):u.cells.toList=[u]:=by cases u <;> simp[Value.oneCell',Value.cells]at*
theorem PX {w:World} {blk o' sz len cap off idx:Nat} {c:Array Value} {T:TypeId} (hh:w.heap[blk]? =some (.cells c T (0,0))) (hs:o' +cap*sz≤c.size) (hlc:len≤cap) (hlt:idx<len) {us es:List Value}
  (he:Z9 w.heap blk (o' +idx*sz) sz=some es) (hf:off+us.length≤sz):
  o' +idx*sz+off+us.length≤c.size∧(U6 (o' +idx*sz+off) us c.toList).length=c.size∧
  Z9 (w.setRow blk (U6 (o' +idx*sz+off) us c.toList).toArray).heap blk (o' +idx*sz) sz=some (U6 off us es)∧
  (∀j,j<len→j≠idx→Z9 (w.setRow blk (U6 (o' +idx*sz+off) us c.toList).toArray).heap blk (o' +j*sz) sz=Z9 w.heap blk (o' +j*sz) sz):=by
 have hcap:(idx+1)*sz≤cap*sz:=Nat.mul_le_mul_right _ (by omega)
 rw[Nat.add_mul,Nat.one_mul]at hcap
 have hfit:o' +idx*sz+off+us.length≤c.size:=by omega
 have hcl:c.toList.length=c.size:=by simp
 have hsp:(U6 (o' +idx*sz+off) us c.toList).length=c.size:=by rw[qH (by rw[hcl];exact hfit)];exact hcl
 refine⟨hfit,hsp,?_,fun j hj hne=>?_⟩
 ·rw[ES hh _ _ _ (by rw[hsp];omega),KT (by rw[hcl];omega) (by omega)]
  obtain⟨c2,T2,f2,hb2,hn2,rfl⟩:=nO he
  rw[hh]at hb2;cases hb2
  rfl
 ·have hcap' :(j+1)*sz≤cap*sz:=Nat.mul_le_mul_right _ (by omega)
  rw[Nat.add_mul,Nat.one_mul]at hcap'
  rw[ES hh _ _ _ (by rw[hsp];omega),gU hh _ _ (by omega),Zv (by rw[hcl];exact hfit)]
  rcases Nat.lt_or_gt_of_ne hne with hlt' | hgt
  ·left
   have:(j+1)*sz≤idx*sz:=Nat.mul_le_mul_right _ (by omega)
   rw[Nat.add_mul,Nat.one_mul]at this;omega
  ·right
   have:(idx+1)*sz≤j*sz:=Nat.mul_le_mul_right _ (by omega)
   rw[Nat.add_mul,Nat.one_mul]at this;omega
theorem Lt {j o2 idx off:Nat} (h:Yk (some (j,o2)) idx off=true):j=idx∧o2=off:=by
 simp only[Yk]at h
 cases hb:Nat.beq o2 off <;> rw[hb]at h
 ·cases h
 ·exact⟨bz h,bz hb⟩
theorem ML {Q:Unit→Sm→Prop} (R:Rel X cl ch S m ok a w) {Op:List Nat} (hT:Tk X S m ok w Op) {t:TypeId} {i:TI} (hi:TiOk X.P t i) (h1:i.size=1) {bx idx off:Nat} {md:M} {xs:List md.den} {hole:Option (Nat×Nat)}
  (hS:S (BOX+bx)= .barrs md xs hole) {blk o' len cap sz:Nat} (hm:m bx=some (.arr blk o' len cap sz)) {v:V} {u:Value} (hp:Tn w.heap ok v u Op)
  (hK:∀S' m' w',Rel X cl ch S' m' ok a w' →(∀k l,m k=some l→m' k=some l)→(storeVar t ⟨blk,o' +idx*sz+off,none⟩ u).run X.P w= .ok () w' →Q () S'):
  (Va bx idx off md xs hole v (.ret ())).post S Q:=by
 unfold Va
 refine⟨fun hb=>?_,fun _=>trivial⟩
 refine ak fun e0 he0=>?_
 have he0' :xs[idx]? =some e0:=he0
 obtain⟨hel,l,Os,hm',ha,hk⟩:=R.own_barrs hS
 rw[hm]at hm';cases hm'
 obtain⟨rfl,rfl,h3,h7,c,T,hh,hs,hxs⟩:=ha
 obtain⟨es,O,hO,he,hr⟩:=hxs idx e0 he0'
 have hho:TV hole idx=none∨TV hole idx=some off:=by
  rcases hole with _ | ⟨j,o2⟩
  ·exact .inl rfl
  ·obtain⟨e1,e2⟩:=Lt hb
   subst e1;subst e2
   exact .inr RJ
 have hho' :∀j,j≠idx→TV hole j=none:=fun j hj=>by
  rcases hole with _ | ⟨j',o2⟩
  ·rfl
  ·obtain⟨e1,_⟩:=Lt hb
   subst e1
   exact OH hj
 refine JU hp md off hr hho hel fun y O1 Old O2 eO hr' hoff=>iy ?_
 have hlt:idx<xs.length:=(O5.1 he0').1
 have hes:es.length=md.size:=Y9 hr
 have hu1:=hp.one
 have huc:=a1Z hu1
 obtain⟨hfit,hsp,hnew,hold⟩:=PX (us:=[u]) (off:=off) hh hs h3 hlt he (by simp;omega)
 have run:=xR hi w (off:=o' +idx*md.size+off) hh (v:=u) (by have:=congrArg List.length huc;simp at this;omega) (by simpa[h1]using hfit) (by rw[huc];simp[hu1])
 rw[huc]at run
 generalize hw' :w.setRow blk (U6 (o' +idx*md.size+off) [u] c.toList).toArray=w' at run hnew hold
 have hrow:w'.heap[blk]? =some (.cells (U6 (o' +idx*md.size+off) [u] c.toList).toArray T (0,0)):=by subst hw';exact setRow_heap w blk c _ T (0,0) hh
 have hoth:∀b,b≠blk→w'.heap[b]? =w.heap[b]?:=fun b hb=>by subst hw';exact setRow_other w blk b _ hb
 have hsize:w'.heap.size=w.heap.size:=by subst hw';simp
 have hos:w'.os=w.os:=by subst hw';rfl
 have htp:w'.tape=w.tape:=by subst hw';rfl
 have hout:w'.output=w.output:=by subst hw';rfl
 have hO1:Os.flatten.Perm ((Os.set idx (O1++O2)).flatten++Old):=xw (by rw[hO,eO])
 have hO2:(Os.set idx (O1++Op++O2)).flatten.Perm ((Os.set idx (O1++O2)).flatten++Op):=by
  have:=xw (Os:=Os.set idx (O1++Op++O2)) (i:=idx) (O1:=O1) (P:=Op) (O2:=O2) (by rw[List.getElem?_set,if_pos rfl,if_pos (by rw[h7];exact hlt)])
  rwa[List.set_set]at this
 have hown0:O6 m bx (S (BOX+bx))=blk::Os.flatten:=by simp[O6,hS,hm,hk]
 have hown1:O6 (zk m bx (Os.set idx (O1++Op++O2)).flatten) bx (.barrs md (P6 xs idx y) none)=blk::(Os.set idx (O1++Op++O2)).flatten:=by simp[O6,hm]
 have hnd:=R.nd bx
 rw[hown0]at hnd
 have hnd0:=List.nodup_cons.1 hnd
 have hndA:=List.nodup_append.1 (hO1.nodup_iff.1 hnd0.2)
 have hfreeOp:∀b∈Op,b∉blk::Os.flatten:=fun b hb h=>(hT.free b hb).2.2.2 bx (by rw[hown0];exact h)
 have hsubA:∀b∈(Os.set idx (O1++O2)).flatten,b∈Os.flatten:=fun b hb=>hO1.mem_iff.2 (List.mem_append_left _ hb)
 have hneO:∀b∈Os.flatten,b≠blk:=fun b hb e=>hnd0.1 (e▸hb)
 have hneP:∀b∈Op,b≠blk:=fun b hb e=>hfreeOp b hb (by simp[e])
 have hkeep:∀b t,ok b t→w'.heap[b]? =w.heap[b]?:=fun b t hb=>hoth b (fun e=>(R.sep bx blk (by rw[hown0];simp)).1 t (e▸hb))
 have hB:yV ⟨w'.heap,ok,zk m bx (Os.set idx (O1++Op++O2)).flatten⟩ bx (.barrs md (P6 xs idx y) none):=by
  refine PO (Os:=Os.set idx (O1++Op++O2)) hel hm ⟨rfl,by simp[P6],h3,by simp[h7,P6],_,T,hrow,by simp[hsp];exact hs,fun j z hz=>?_⟩ (by simp)
  unfold P6 at hz
  rw[List.getElem?_set]at hz
  split at hz
  ·rename_i hj
   subst hj
   cases hz
   refine⟨_,O1++Op++O2,by rw[List.getElem?_set,if_pos rfl,if_pos (by rw[h7];exact hlt)],hnew,?_⟩
   rw[Zu (by omega)]
   refine cu (fun _ _ h=>h) hkeep (fun b hb=>hoth b ?_) hr'
   rcases List.mem_append.1 hb with hb | hb
   ·rcases List.mem_append.1 hb with hb | hb
    ·exact hneO b (List.mem_flatten.2 ⟨O,dN hO,by rw[eO];simp[hb]⟩)
    ·exact hneP b hb
   ·exact hneO b (List.mem_flatten.2 ⟨O,dN hO,by rw[eO];simp[hb]⟩)
  ·rename_i hj
   obtain⟨es2,O',hO2',he2,hr2⟩:=hxs j z hz
   refine⟨es2,O',by rw[List.getElem?_set,if_neg hj];exact hO2',by rw[←he2];exact hold j (O5.1 hz).1 (fun e=>hj e.symm),?_⟩
   simp only[a2p]
   rw[hho' j (fun e=>hj e.symm)]at hr2
   exact cu (fun _ _ h=>h) hkeep (fun b hb=>hoth b (hneO b (List.mem_flatten.2 ⟨O',dN hO2',hb⟩))) hr2
 have hmod:=R.modK hT (n:=bx) (v:=.barrs md (P6 xs idx y) none) (ks:=(Os.set idx (O1++Op++O2)).flatten) (w' :=w') (T' :=[]) (by simp)
  (by
   rw[hown1]
   refine List.nodup_cons.2 ⟨fun h=>?_,hO2.nodup_iff.2 (List.nodup_append.2 ⟨hndA.1,hT.nodup,fun x hx z hz e=>?_⟩)⟩
   ·rcases List.mem_append.1 (hO2.mem_iff.1 h)with h | h
    ·exact hnd0.1 (hsubA _ h)
    ·exact hneP _ h rfl
   ·subst e;exact hfreeOp x hz (by simp[hsubA x hx]))
  (fun b hb=>by
   rw[hown1]at hb;rw[hown0]
   rcases List.mem_cons.1 hb with hb | hb
   ·exact .inl (by simp[hb])
   ·rcases List.mem_append.1 (hO2.mem_iff.1 hb)with h | h
    ·exact .inl (by simp[hsubA _ h])
    ·exact .inr h)
  hos htp hout hsize (fun b hb=>hoth b (fun e=>hb (by rw[hown0,e];simp))) hB List.nodup_nil (fun b hb=>by cases hb)
 exact hK _ _ w' hmod.1 (fun _ _ h=>h) run
theorem a5b (H:FxOk X) (R:Rel X cl ch S m ok a w) {t:TypeId} {x y:Operand} {q:Nat} (ho:o.op= .store t x y):(X0 X.E q o).post S (fun _ S' =>eU X cl ch o a w m ok S'):=by
 unfold X0
 simp only[ho]
 cases hd:o.dst with
 | some d=>trivial
 | none=>
 refine U7 R fun p hp=>U7 R fun v hv=>?_
 unfold a7J
 refine lC H fun i hi=>?_
 cases p <;> try trivial
 case ptr bx off=>
  obtain⟨blk,hm,hx⟩:=hp
  refine aA ?_
  split <;> try trivial
  rename_i cs hS
  obtain⟨blk',arr,T,hm',hh,hl⟩:=R.own_cells hS
  simp only at hm hm'
  rw[hm]at hm';cases hm'
  refine nP hv fun vs hvs=>aG fun hlen=>yh _ _ _ fun hle=>iy ?_
  have hlen' :=bz hlen
  have hL:=gB hl
  have hL2:=gB hvs
  have hsz:(a.eval y).cells.size=i.size:=by simp at hL2;omega
  have hown:O6 m bx (S (BOX+bx))=[blk]:=by simp[O6,hS,hm]
  have hfit:off+i.size≤arr.size:=by simp at hL;omega
  have run:=xR hi w hh (v:=a.eval y) hsz hfit (Jj hvs)
  refine Dn ho hd (w' :=w.setRow blk (U6 off (a.eval y).cells.toList arr.toList).toArray) (by simp[Instr.storeAt,Instr.sureAddr,hx,run]) ?_ (fun _ _ h=>h) (fun _ _ h=>h)
  refine R.mod (by rw[hown];simp[O6,hm]) (by simp) rfl rfl rfl (by simp) (fun b hb=>setRow_other w blk b _ (by rw[hown]at hb;simpa using hb)) ?_
  refine⟨blk,_,T,hm,setRow_heap w blk arr _ T (0,0) hh,?_⟩
  refine b9e (fun b t hb=>setRow_other w blk b _ (fun e=>(R.sep bx blk (by rw[hown];simp)).1 t (e▸hb))) ?_
  simpa using zQ hvs hl
 case ep bx ix off=>
  obtain⟨blk,o',len,cap,sz,hm,hlt,hx⟩:=hp
  simp only at hm
  refine aA ?_
  split <;> try trivial
  ·rename_i u xs hS
   obtain⟨l,hm',ha⟩:=R.own_arr hS
   rw[hm]at hm';cases hm'
   obtain⟨rfl,rfl,h3,c,T,hh,hs,hxs⟩:=ha
   refine ak fun e0 he0=>?_
   obtain⟨es,he,hr⟩:=hxs ix e0 he0
   refine nP hv fun vs hvs=>aG fun hlen=>yh _ _ _ fun hle=>?_
   rw[lD]at hle
   have hlen' :=bz hlen
   have hL2:=gB hvs
   have hsz:(a.eval y).cells.size=i.size:=by simp at hL2;omega
   have hes:=iP he
   have hnew:=zQ (off:=off) hvs (pX (C:=⟨w.heap,ok,m⟩) hr)
   refine BM (T:=[]) u R Tk.nil hnew fun S1 ok1 y1 q1 us us' R1 T1 k1 s1 e1 h1 l1=>?_
   cases q1 with
   | cons _ _=>trivial
   | nil=>
   simp only[aH]at l1
   subst l1
   simp only[List.append_nil]at e1
   subst e1
   refine aA ?_
   split <;> try trivial
   rename_i u' xs' hS1
   refine dC fun e=>?_
   subst e
   refine iy ?_
   obtain⟨l,hm',ha⟩:=R1.own_arr hS1
   rw[hm]at hm';cases hm'
   obtain⟨hszu,hlen2,h3',c',T',hh',hs',hxs'⟩:=ha
   rw[hh]at hh';cases hh'
   have hown:O6 m bx (S1 (BOX+bx))=[blk]:=by simp[O6,hS1,hm]
   have hvl:(a.eval y).cells.toList.length=i.size:=by simpa using hsz
   obtain⟨hfit,hsp,hnew2,hold⟩:=PX (us:=(a.eval y).cells.toList) (off:=off) hh hs h3 hlt he (by rw[hvl];omega)
   have run:=xR hi w (off:=o' +ix*u'.size+off) hh (v:=a.eval y) hsz (by rw[hvl]at hfit;exact hfit) (Jj hvs)
   refine Dn ho hd (w' :=w.setRow blk (U6 (o' +ix*u'.size+off) (a.eval y).cells.toList c.toList).toArray) (by simp[Instr.storeAt,Instr.sureAddr,hx,run]) ?_ (fun _ _ h=>h) k1
   refine R1.mod (by rw[hown];simp[O6,hm]) (by simp) rfl rfl rfl (by simp) (fun b hb=>setRow_other w blk b _ (by rw[hown]at hb;simpa using hb)) ?_
   have hkeep:∀b t,ok1 b t→(w.setRow blk (U6 (o' +ix*u'.size+off) (a.eval y).cells.toList c.toList).toArray).heap[b]? =w.heap[b]?:=
    fun b t hb=>setRow_other w blk b _ (fun e=>(R1.sep bx blk (by rw[hown];simp)).1 t (e▸hb))
   refine⟨_,hm,rfl,by simp[P6,hlen2],h3,_,T,setRow_heap w blk c _ T (0,0) hh,by simp[hsp];exact hs,fun j z hz=>?_⟩
   unfold P6 at hz
   rw[List.getElem?_set]at hz
   split at hz
   ·rename_i hj
    subst hj
    split at hz
    ·cases hz
     exact⟨_,hnew2,bI (fun _ _ h=>h) hkeep h1⟩
    ·cases hz
   ·rename_i hj
    obtain⟨es2,he2,hr2⟩:=hxs' j z hz
    have hj2:=(O5.1 hz).1
    exact⟨_,(hold j (by rw[hlen2];exact hj2) (fun e=>hj e.symm)).trans he2,bI (fun _ _ h=>h) hkeep hr2⟩
  ·rename_i md xs hole hS
   cases hcd:(md.ownAt off&&Nat.beq i.size 1&&!dR i.td)
   ·simp only[cond_false]
    refine nP hv fun vs hvs=>aG fun hlen=>ak fun e0 he0=>?_
    have he0' :xs[ix]? =some e0:=he0
    obtain⟨hel,l,Os,hm',ha,hk⟩:=R.own_barrs hS
    rw[hm]at hm';cases hm'
    obtain⟨rfl,rfl,h3,h7,c,T,hh,hs,hxs⟩:=ha
    obtain⟨es,O,hO,he,hr⟩:=hxs ix e0 he0'
    refine JJ md off hr hvs fun y1 hle hr' =>iy ?_
    have hes:es.length=md.size:=Y9 hr
    have hlen' :=bz hlen
    have hL2:=gB hvs
    have hsz:(a.eval y).cells.size=i.size:=by simp at hL2;omega
    have hvl:(a.eval y).cells.toList.length=i.size:=by simpa using hsz
    obtain⟨hfit,hsp,hnew2,hold⟩:=PX (us:=(a.eval y).cells.toList) (off:=off) hh hs h3 hlt he (by omega)
    have run:=xR hi w (off:=o' +ix*md.size+off) hh (v:=a.eval y) hsz (by rw[hvl]at hfit;exact hfit) (Jj hvs)
    have hown:O6 m bx (S (BOX+bx))=blk::Os.flatten:=by simp[O6,hS,hm,hk]
    have hnd:=R.nd bx
    rw[hown]at hnd
    have hnd0:=List.nodup_cons.1 hnd
    have hneO:∀b∈Os.flatten,b≠blk:=fun b hb e=>hnd0.1 (e▸hb)
    refine Dn ho hd (w' :=w.setRow blk (U6 (o' +ix*md.size+off) (a.eval y).cells.toList c.toList).toArray) (by simp[Instr.storeAt,Instr.sureAddr,hx,run]) ?_ (fun _ _ h=>h) (fun _ _ h=>h)
    have hkeep:∀b t,ok b t→(w.setRow blk (U6 (o' +ix*md.size+off) (a.eval y).cells.toList c.toList).toArray).heap[b]? =w.heap[b]?:=
     fun b t hb=>setRow_other w blk b _ (fun e=>(R.sep bx blk (by rw[hown];simp)).1 t (e▸hb))
    refine R.mod (by rw[hown];simp[O6,hm,hk]) (by simp) rfl rfl rfl (by simp) (fun b hb=>setRow_other w blk b _ (fun e=>hb (by rw[hown,e];simp))) ?_
    refine PO (Os:=Os) hel hm ⟨rfl,by simp[P6],h3,by simp[h7,P6],_,T,setRow_heap w blk c _ T (0,0) hh,by simp[hsp];exact hs,fun j z hz=>?_⟩ hk
    unfold P6 at hz
    rw[List.getElem?_set]at hz
    split at hz
    ·rename_i hj
     subst hj
     cases hz
     exact⟨_,O,hO,hnew2,cu (fun _ _ h=>h) hkeep (fun b hb=>setRow_other w blk b _ (hneO b (List.mem_flatten.2 ⟨O,dN hO,hb⟩))) hr'⟩
    ·rename_i hj
     obtain⟨es2,O2,hO2,he2,hr2⟩:=hxs j z hz
     have hj2:=(O5.1 hz).1
     exact⟨_,O2,hO2,(hold j (by omega) (fun e=>hj e.symm)).trans he2,cu (fun _ _ h=>h) hkeep (fun b hb=>setRow_other w blk b _ (hneO b (List.mem_flatten.2 ⟨O2,dN hO2,hb⟩))) hr2⟩
   ·simp only[cond_true]
    simp only[Bool.and_eq_true,Bool.not_eq_true']at hcd
    obtain⟨⟨_,hsz1⟩,_⟩:=hcd
    have hsz1:=bz hsz1
    have fin:∀{S' :Sm} {m' :Mp} {w' :World},Rel X cl ch S' m' ok a w' →(∀k l,m k=some l→m' k=some l)→(storeVar t ⟨blk,o' +ix*sz+off,none⟩ (a.eval y)).run X.P w= .ok () w' →eU X cl ch o a w m ok S' :=
     fun R' hm' run=>Dn ho hd (by simp[Instr.storeAt,Instr.sureAddr,hx,run]) R' hm' (fun _ _ h=>h)
    split
    ·have hv' :a.eval y= .slice none 0 0:=hv
     exact ML (Op:=[]) R Tk.nil hi hsz1 hS hm (.inl ⟨rfl,hv',rfl⟩) (fun S' m' w' R' h' run=>fin R' h' run)
    ·rename_i b2
     obtain⟨l2,hm2,hv2⟩:=hv
     simp only at hm2
     refine aA ?_
     refine aG fun harr=>iy (aA ?_)
     split <;> try trivial
     rename_i md2 xs2 hole2 hS2
     have T1:=Tk.kill R (T:=[]) Tk.nil b2 (bs:=O6 m b2 (S (BOX+b2))) (fun _ h=>h) (R.nd b2)
     rw[List.nil_append]at T1
     refine ML (R.kill b2) T1 hi hsz1 hS2 hm ?_ (fun S' m' w' R' h' run=>fin R' h' run)
     cases hb2:S (BOX+b2) <;> rw[hb2]at harr <;> try cases harr
     ·rename_i t2 ys
      obtain⟨l',hm',ha'⟩:=R.own_arr hb2
      rw[hm2]at hm';cases hm'
      refine .inr (.inl ⟨t2,ys,l2,rfl,hv2,Ik ha',?_⟩)
      cases l2 <;> first | (simp[O6,hm2,Loc.blks];done) | cases ha'
     ·rename_i md3 ys hole3
      obtain⟨hel3,l',Os,hm',ha',hk'⟩:=R.own_barrs hb2
      rw[hm2]at hm';cases hm'
      rcases hole3 with _ | ⟨p1,p2⟩
      ·refine .inr (.inr ⟨md3,ys,l2,Os,rfl,hel3,hv2,ha',?_⟩)
       cases l2 <;> first | (simp[O6,hm2,Loc.blks,hk'];done) | cases ha'
      ·cases harr
    ·trivial
end
end Go.GP
namespace Go.GP
section
variable {X:Fx} {cl ch:Nat} {S:Sm} {m:Mp} {ok:Nat→Ty→Prop} {a:Act} {w:World} {o:Oper}
theorem Aj (H:FxOk X) {t f off n:Nat} {ag:Bool} (h:Ec X.E t f=some (off,n,ag)):
  ∃fields fld j,X.P.underlying t=some (.struct fields)∧fields[f]? =some fld∧fld.offset=off∧TiOk X.P fld.type j∧j.size=n∧n≠0∧ag=dR j.td:=by
 unfold Ec at h
 cases hi:Y3 X.E.tt t with
 | none=>simp[hi]at h
 | some i=>
  have Hi:=H.tt t i hi
  have htd:=Hi.td
  simp only[hi]at h
  cases hd:i.td <;> simp only[hd]at h <;> try (simp at h;done)
  rename_i fs
  rw[hd]at htd
  obtain⟨fields,hu,hf⟩:=htd
  cases hfs:fs[f]? with
  | none=>simp[hfs]at h
  | some x=>
   obtain⟨ft,off'⟩:=x
   simp only[hfs]at h
   cases hj:Y3 X.E.tt ft with
   | none=>simp[hj]at h
   | some j=>
    simp only[hj]at h
    cases hb:Nat.beq j.size 0
    ·simp only[hb,cond_false,Option.some.injEq,Prod.mk.injEq]at h
     obtain⟨rfl,rfl,rfl⟩:=h
     rw[←hf]at hfs
     simp only[List.getElem?_map,Option.map_eq_some_iff]at hfs
     obtain⟨fld,hfl,he⟩:=hfs
     simp only[Prod.mk.injEq]at he
     obtain⟨rfl,rfl⟩:=he
     refine⟨fields,fld,j,hu,by simpa using hfl,rfl,H.tt _ _ hj,rfl,fun e=>?_,rfl⟩
     rw[e]at hb;simp at hb
    ·simp[hb]at h
theorem ER {P:Program} {t f off:Nat} {fields:Array Field} {fld:Field} {j:TI} (w:World) (hu:P.underlying t=some (.struct fields)) (hf:fields[f]? =some fld) (ho:fld.offset=off)
  (hj:TiOk P fld.type j) (hn:j.size≠0) (b p:Nat):(Instr.fieldAt t (.pointer (some ⟨b,p,none⟩)) f).run P w= .ok (.pointer (some ⟨b,p+off,none⟩)) w:=by
 simp[Instr.fieldAt,run_underlying hu,hf,Instr.sureAddr,fieldPlace,lW hj,hn,Addr.add_lit,ho]
theorem Uf (H:FxOk X) (R:Rel X cl ch S m ok a w) {t:TypeId} {x:Operand} {f q:Nat} (ho:o.op= .fieldAddr t x f):(X0 X.E q o).post S (fun _ S' =>eU X cl ch o a w m ok S'):=by
 unfold X0
 simp only[ho]
 refine U7 R fun p hp=>?_
 split <;> try trivial
 rename_i off n ag hfo
 obtain⟨fields,fld,j,hu,hf,hoff,hj,hn,hn0,_⟩:=Aj H hfo
 have hj0:j.size≠0:=by omega
 cases p <;> try trivial
 case ptr bx o' =>
  obtain⟨blk,h1,h2⟩:=hp
  exact P8 H R (v:=.ptr bx (o' +off)) ⟨blk,h1,rfl⟩ (by simp[execOp,ho,h2,ER w hu hf hoff hj hj0])
 case ep bx ix o' =>
  obtain⟨blk,o2,len,cap,sz,h1,h2,h3⟩:=hp
  exact P8 H R (v:=.ep bx ix (o' +off)) ⟨blk,o2,len,cap,sz,h1,h2,rfl⟩ (by simp[execOp,ho,h3,ER w hu hf hoff hj hj0,Nat.add_assoc])
 case dp u y o' =>
  obtain⟨blk,o2,es,h1,h2⟩:=hp
  exact P8 H R (v:=.dp u y (o' +off)) ⟨blk,o2,es,rfl,h2⟩ (by simp[execOp,ho,h1,ER w hu hf hoff hj hj0,Nat.add_assoc])
theorem a4Y (H:FxOk X) (R:Rel X cl ch S m ok a w) {t:TypeId} {x:Operand} {f q:Nat} (ho:o.op= .field t x f):(X0 X.E q o).post S (fun _ S' =>eU X cl ch o a w m ok S'):=by
 unfold X0
 simp only[ho]
 refine U7 R fun p hp=>?_
 split <;> try trivial
 rename_i off n ag hfo
 obtain⟨fields,fld,j,hu,hf,hoff,hj,hn,hn0,rfl⟩:=Aj H hfo
 refine DW hp fun ps us hg hl=>yw fun hle=>?_
 obtain⟨arr,hx,rfl⟩:=hg
 have hL:=gB hl
 have hlen:((arr.toList.drop off).take n).length=n:=by simp at hL ⊢;omega
 refine P8 H R (vN (sQ n (pW off hl)) (fun ha=>by rw[hlen,←hn];exact hj.one ha)) ?_
 have hpart:(part fld.type arr off).run X.P w= .ok (MN (dR j.td) ((arr.toList.drop off).take n)) w:=by
  unfold part
  rw[Sem.run_bind,yu hj.td]
  simp only[Result.andThen_ok]
  cases ha:dR j.td
  ·have h1:=hj.one ha
   have hlt:off<arr.size:=by simp at hL;omega
   simp only[Bool.false_eq_true,if_false,MN]
   rw[show arr[off]? =some arr[off]from by simp[hlt]]
   have:n=1:=by omega
   subst this
   simp[List.take_one,hlt]
  ·simp only[if_true,MN,Sem.run_bind,lW hj,Result.andThen_ok,hn,Sem.run_pure]
   congr 2
   apply Array.ext'
   simp[List.extract_eq_take_drop]
 simp[execOp,ho,hx,Instr.field,run_underlying hu,hf,asAgg,hoff,hpart]
theorem Cc (H:FxOk X) {t n sz:Nat} (h:Cb X.E t=some (false,n,sz)):∃e j,X.P.underlying t=some (.slice e)∧TiOk X.P e j∧j.size=sz:=by
 unfold Cb at h
 cases hi:Y3 X.E.tt t with
 | none=>simp[hi]at h
 | some i=>
  have htd:=(H.tt t i hi).td
  simp only[hi]at h
  cases hd:i.td <;> simp only[hd]at h <;> try (simp at h;done)
  ·rename_i e
   rw[hd]at htd
   cases hj:Y3 X.E.tt e with
   | none=>simp[hj]at h
   | some j=>simp[hj]at h;exact⟨e,j,htd,H.tt _ _ hj,h.2⟩
  ·rename_i l e
   cases hj:Y3 X.E.tt e <;> simp[hj]at h
theorem XW (H:FxOk X) {t n sz:Nat} (h:Cb X.E t=some (true,n,sz)):∃e j,X.P.underlying t=some (.array n e)∧TiOk X.P e j∧j.size=sz:=by
 unfold Cb at h
 cases hi:Y3 X.E.tt t with
 | none=>simp[hi]at h
 | some i=>
  have htd:=(H.tt t i hi).td
  simp only[hi]at h
  cases hd:i.td <;> simp only[hd]at h <;> try (simp at h;done)
  ·rename_i e
   cases hj:Y3 X.E.tt e <;> simp[hj]at h
  ·rename_i l e
   rw[hd]at htd
   cases hj:Y3 X.E.tt e with
   | none=>simp[hj]at h
   | some j=>simp[hj]at h;obtain⟨rfl,h⟩:=h;exact⟨e,j,htd,H.tt _ _ hj,h⟩
theorem Eg {α:Type} {l:List α} {n:Int} {y:α} (h:lat l n=some y):0≤n∧l[n.toNat]? =some y∧n.toNat<l.length∧n<l.length:=by
 unfold lat at h
 split at h
 ·rename_i h0
  have:=(O5.1 h).1
  exact⟨h0,h,this,by omega⟩
 ·cases h
theorem oJ {P:Program} {t e:TypeId} {j:TI} (w:World) (hu:P.underlying t=some (.slice e)) (hj:TiOk P e j) {k:IntKind} {n:Int} {b p len cap:Nat} (h0:0≤n) (hlt:n<len):
  (Instr.indexAt t (.slice (some ⟨b,p,none⟩) len cap) (.int k n)).run P w= .ok (.pointer (some ⟨b,p+n.toNat*j.size,none⟩)) w:=by
 simp[Instr.indexAt,asIntOf,run_underlying hu,h0,hlt,lW hj,Addr.add_lit]
theorem UM {P:Program} {t e:TypeId} {j:TI} (w:World) {len:Nat} (hu:P.underlying t=some (.array len e)) (hj:TiOk P e j) {k:IntKind} {n:Int} {b p:Nat} (h0:0≤n) (hlt:n<len):
  (Instr.indexAt t (.pointer (some ⟨b,p,none⟩)) (.int k n)).run P w= .ok (.pointer (some ⟨b,p+n.toNat*j.size,none⟩)) w:=by
 simp[Instr.indexAt,asIntOf,run_underlying hu,h0,hlt,lW hj,Addr.add_lit,Instr.sureAddr]
theorem a3x {C:Cx} {t:Ty} {xs:List t.den} {l:Loc} {vw:Option (Nat×Nat)} {v:Value} (ha:arrOk C t xs l) (hv:l.view vw v) {i:Nat} {y:t.den} (hy:(aX vw xs)[i]? =some y):
  ∃blk off len cap,l= .arr blk off len cap t.size∧xs[We vw+i]? =some y∧∃p c,v= .slice (some ⟨blk,p,none⟩) (aX vw xs).length c∧p+i*t.size=off+(We vw+i)*t.size:=by
 cases l with
 | nil=>
  simp only[arrOk]at ha;subst ha
  rcases vw with _ | ⟨lo,hi⟩ <;> simp[aX,gq]at hy
 | st b=>cases ha
 | arr blk off len cap sz=>
  obtain⟨rfl,rfl,hc,_⟩:=ha
  rcases vw with _ | ⟨lo,hi⟩
  ·simp only[Loc.view]at hv;subst hv
   exact⟨blk,off,_,cap,rfl,by simpa[We,aX]using hy,off,cap,rfl,by simp[We]⟩
  ·obtain⟨h1,h2,rfl⟩:=hv
   have hl:(aX (some (lo,hi)) xs).length=hi -lo:=by simp[aX,gq];omega
   have hi' :i<hi -lo:=by rw[←hl];exact(O5.1 hy).1
   have hx' :xs[lo+i]? =some y:=by
    simp only[aX,gq,List.getElem?_drop,List.getElem?_take]at hy
    split at hy
    ·exact hy
    ·cases hy
   have hne:cap≠lo:=by omega
   exact⟨blk,off,_,cap,rfl,hx',off+lo*t.size,cap -lo,by rw[hl];simp[hne],by simp[We,Nat.add_mul];omega⟩
theorem Ug (H:FxOk X) (R:Rel X cl ch S m ok a w) {t:TypeId} {x ix:Operand} {q:Nat} (ho:o.op= .indexAddr t x ix):(X0 X.E q o).post S (fun _ S' =>eU X cl ch o a w m ok S'):=by
 unfold X0
 simp only[ho]
 refine U7 R fun u hu=>U7 R fun v hv=>?_
 unfold OI
 split <;> try trivial
 ·
  rename_i k n l sz hsz
  obtain⟨e,j,hut,hj,hjs⟩:=Cc H hsz
  have hix:=lU hv
  cases u <;> try trivial
  case sl u xs=>
   refine X8 fun hb=>ak fun y hy=>?_
   have hb' :=bz hb
   obtain⟨h0,hget,hlt,hlt'⟩:=Eg hy
   obtain⟨ad,cap,hx,hc,hel⟩:=hu
   simp only[List.cons.injEq,and_true]at hx
   obtain⟨blk,off,es,rfl,hok,he,hr⟩:=hel _ y hget
   refine P8 H R (v:=.dp u y 0) (x:=.pointer (some ⟨blk,off+n.toNat*u.size,none⟩)) ⟨blk,off+n.toNat*u.size,es,rfl,hok,he,hr⟩ ?_
   simp[execOp,ho,hx,hix,oJ w hut hj h0 hlt',hjs,hb']
  case own bx vw=>
   obtain⟨loc,hm,hview⟩:=hu
   refine aA ?_
   split
   ·rename_i ln sz' hSl
    split <;> try trivial
    refine aG fun hb=>⟨fun hin=>?_,fun _=>trivial⟩
    have hb' :=bz hb
    have hin' :=of_decide_eq_true (show decide (0≤n∧n<ln)=true from hin)
    have hbx:=R.box (JA+bx)
    rw[hSl]at hbx
    obtain⟨k',l',e,hm',hl⟩:=hbx
    have e' :k' =bx:=by omega
    subst e'
    simp only at hm hm'
    rw[hm]at hm';cases hm'
    cases loc with
    | nil=>simp only at hl;omega
    | st b=>cases hl
    | arr blk off len cap sz2=>
     obtain⟨rfl,rfl⟩:=hl
     simp only[Loc.view]at hview
     refine P8 H R (v:=.ep k' (toN n) 0) (x:=.pointer (some ⟨blk,off+n.toNat*sz',none⟩)) ⟨blk,off,len,cap,sz',hm,by unfold toN;omega,rfl⟩ ?_
     simp[execOp,ho,hview,hix,oJ w hut hj hin'.1 hin'.2,hjs,hb']
   refine aA ?_
   split <;> try trivial
   ·rename_i u xs hS
    refine X8 fun hb=>ak fun y hy=>?_
    have hb' :=bz hb
    obtain⟨h0,hget,hlt,hlt'⟩:=Eg hy
    obtain⟨loc',hm',ha⟩:=R.own_arr hS
    simp only at hm
    rw[hm]at hm';cases hm'
    obtain⟨blk,off,len,cap,rfl,hx2,p,c,hvv,hp⟩:=a3x ha hview hget
    have hlen:=ha.2.1
    have hlt2:=(O5.1 hx2).1
    rw[a8G]
    refine P8 H R (v:=.ep bx (We vw+toN n) 0) (x:=.pointer (some ⟨blk,p+n.toNat*u.size,none⟩)) ⟨blk,off,len,cap,u.size,hm,by rw[hlen];exact hlt2,by rw[hp];rfl⟩ ?_
    simp[execOp,ho,hvv,hix,oJ w hut hj h0 hlt',hjs,hb']
   ·rename_i u xs hS
    refine X8 fun hb=>ak fun y hy=>?_
    have hb' :=bz hb
    obtain⟨h0,hget,hlt,hlt'⟩:=Eg hy
    obtain⟨loc',hm',ha,hok⟩:=R.own_frz hS
    simp only at hm
    rw[hm]at hm';cases hm'
    obtain⟨ad,cap,hx,hc,hel⟩:=iZ (C:=⟨w.heap,ok,m⟩) ha hview (fun _ _ h=>h) hok
    simp only[List.cons.injEq,and_true]at hx
    obtain⟨blk,off,es,rfl,hok',he,hr⟩:=hel _ y hget
    refine P8 H R (v:=.dp u y 0) (x:=.pointer (some ⟨blk,off+n.toNat*u.size,none⟩)) ⟨blk,off+n.toNat*u.size,es,rfl,hok',he,hr⟩ ?_
    simp[execOp,ho,hx,hix,oJ w hut hj h0 hlt',hjs,hb']
   ·rename_i md xs hole hS
    split <;> try trivial
    refine aG fun hb=>ak fun y hy=>?_
    have hb' :=bz hb
    obtain⟨h0,hget,hlt,hlt'⟩:=Eg hy
    obtain⟨hel,loc',Os,hm',ha,hk⟩:=R.own_barrs hS
    simp only at hm
    rw[hm]at hm';cases hm'
    cases loc with
    | st b=>cases ha
    | nil=>obtain⟨e1,_⟩:=ha;subst e1;simp at hlt
    | arr blk off len cap sz' =>
     obtain⟨rfl,rfl,h3,_⟩:=ha
     simp only[Loc.view]at hview
     refine P8 H R (v:=.ep bx (toN n) 0) (x:=.pointer (some ⟨blk,off+n.toNat*md.size,none⟩)) ⟨blk,off,xs.length,cap,md.size,hm,hlt,rfl⟩ ?_
     simp[execOp,ho,hview,hix,oJ w hut hj h0 hlt',hjs,hb']
 ·
  rename_i k n l sz hsz
  obtain⟨e,j,hut,hj,hjs⟩:=XW H hsz
  have hix:=lU hv
  cases u <;> try trivial
  case glob g=>
   cases hg:Y3 X.E.gl g with
   | none=>simp only[hg];trivial
   | some p=>
   obtain⟨u,xs⟩:=p
   simp only[hg]
   refine X8 fun hb=>ak fun y hy=>?_
   simp only[Bool.and_eq_true]at hb
   have hb1:=bz hb.1
   have hb2:=bz hb.2
   obtain⟨h0,hget,hlt,hlt'⟩:=Eg hy
   obtain⟨hok,_,hel⟩:=R.gl g _ hg
   obtain⟨es,he,hr⟩:=hel _ y hget
   have hx:a.eval x= .pointer (some ⟨g,0,none⟩):=hu
   refine P8 H R (v:=.dp u y 0) (x:=.pointer (some ⟨g,0+n.toNat*u.size,none⟩)) ⟨g,n.toNat*u.size,es,by simp,hok,he,hr⟩ ?_
   have:=UM w hut hj (k:=k) (b:=g) (p:=0) h0 (by rw[hb2];exact hlt')
   simp only[hjs,hb1]at this
   simp[execOp,ho,hx,hix,this]
theorem a4A {α β:Type} {f:α→β} {args:Array α} {u:β} (h:args.toList.map f=[u]):∃y,args=#[y]∧f y=u:=by
 obtain⟨l⟩:=args
 simp only[List.map_eq_cons_iff,List.map_eq_nil_iff]at h
 obtain⟨y,r,h1,h2,h3⟩:=h
 subst h3
 exact⟨y,by rw[h1],h2⟩
theorem VZ {α β:Type} {f:α→β} {args:Array α} {u v:β} (h:args.toList.map f=[u,v]):∃y z,args=#[y,z]∧f y=u∧f z=v:=by
 obtain⟨l⟩:=args
 simp only[List.map_eq_cons_iff,List.map_eq_nil_iff]at h
 obtain⟨y,r,h1,h2,z,r',h3,h4,h5⟩:=h
 subst h5
 subst h3
 exact⟨y,z,by rw[h1],h2,h4⟩
theorem b9d (H:FxOk X) (R:Rel X cl ch S m ok a w) {c:Call} {q:Nat} (ho:o.op= .call c) (hc:c.callee= .builtin .len):(X0 X.E q o).post S (fun _ S' =>eU X cl ch o a w m ok S'):=by
 obtain⟨cal,args,ats⟩:=c
 simp only at hc;subst hc
 unfold X0
 simp only[ho]
 refine gY R _ fun vs hvs=>?_
 split <;> try trivial
 rename_i t rt x hat
 obtain⟨u,r,he,hx,hr⟩:=hvs
 simp only[bf]at hr;subst hr
 refine lC H fun i hi=>?_
 have htd:=hi.td
 obtain⟨y,rfl,rfl⟩:=a4A he
 have h0:ats[0]? =some t:=by
  obtain⟨l⟩:=ats
  simp only at hat
  simp[hat]
 have fin:∀(v:V) (n:Nat),gJ ⟨w.heap,ok,m⟩ v (.int .i64 n)→(Builtin.len_ ats o.type #[a.eval y]).run X.P w= .ok (.int .i64 n) w→(aj X.E o.dst v).post S (fun _ S' =>eU X cl ch o a w m ok S'):=fun v n hv h=>
  P8 H R hv (by simp[execOp,ho,resolve,invoke,builtin,h])
 unfold c6Y
 split <;> try trivial
 ·rename_i l htd'
  rw[htd']at htd
  refine fin _ l.length rfl ?_
  simp[Builtin.len_,h0,run_underlying (show X.P.underlying t=some .string from htd),Hy hx,goInt]
  rfl
 ·rename_i e u xs htd'
  rw[htd']at htd
  obtain⟨ad,cap,hv,_⟩:=hx
  simp only[List.cons.injEq,and_true]at hv
  refine fin _ xs.length rfl ?_
  simp[Builtin.len_,h0,run_underlying (show X.P.underlying t=some (.slice e)from htd),hv,goInt]
 ·rename_i e htd'
  rw[htd']at htd
  have hv:a.eval y= .slice none 0 0:=hx
  refine fin _ 0 rfl ?_
  simp[Builtin.len_,h0,run_underlying (show X.P.underlying t=some (.slice e)from htd),hv,goInt]
 ·rename_i e bx vw htd'
  rw[htd']at htd
  obtain⟨loc,hm,hview⟩:=hx
  refine aA ?_
  split
  ·rename_i ln sz' hSl
   split <;> try trivial
   have hbx:=R.box (JA+bx)
   rw[hSl]at hbx
   obtain⟨k',l',e',hm',hl⟩:=hbx
   have e2:k' =bx:=by omega
   subst e2
   simp only at hm hm'
   rw[hm]at hm';cases hm'
   cases loc with
   | nil=>
    simp only at hl;subst hl
    simp only[Loc.view]at hview
    refine fin _ 0 rfl ?_
    simp[Builtin.len_,h0,run_underlying (show X.P.underlying t=some (.slice e)from htd),hview,goInt]
   | st b=>cases hl
   | arr blk off len cap sz2=>
    obtain⟨rfl,rfl⟩:=hl
    simp only[Loc.view]at hview
    refine fin _ len rfl ?_
    simp[Builtin.len_,h0,run_underlying (show X.P.underlying t=some (.slice e)from htd),hview,goInt]
  refine aA ?_
  have key:∀{u:Ty} {xs:List u.den},arrOk ⟨w.heap,ok,m⟩ u xs loc→(aj X.E o.dst (.i .i64 (o8 (aX vw xs)))).post S (fun _ S' =>eU X cl ch o a w m ok S'):=fun {u xs} ha=>by
   obtain⟨ad,cap,hv,_⟩:=iZ (C:=⟨w.heap,ok,m⟩) (ok' :=fun _ _=>True) ha hview (fun _ _ _=>trivial) (fun _ _ _ _ _ _=>trivial)
   simp only[List.cons.injEq,and_true]at hv
   refine fin _ (aX vw xs).length rfl ?_
   simp[Builtin.len_,h0,run_underlying (show X.P.underlying t=some (.slice e)from htd),hv,goInt]
  split <;> try trivial
  ·rename_i u xs hS
   obtain⟨loc',hm',ha⟩:=R.own_arr hS
   simp only at hm
   rw[hm]at hm';cases hm'
   exact key ha
  ·rename_i u xs hS
   obtain⟨loc',hm',ha,_⟩:=R.own_frz hS
   simp only at hm
   rw[hm]at hm';cases hm'
   exact key ha
  ·rename_i md xs hole hS
   split <;> try trivial
   obtain⟨hel,loc',Os,hm',ha,hk⟩:=R.own_barrs hS
   simp only at hm
   rw[hm]at hm';cases hm'
   cases loc with
   | st b=>cases ha
   | nil=>
    obtain⟨e1,_⟩:=ha;subst e1
    simp only[Loc.view]at hview
    refine fin _ 0 rfl ?_
    simp[Builtin.len_,h0,run_underlying (show X.P.underlying t=some (.slice e)from htd),hview,goInt]
   | arr blk off len cap sz' =>
    obtain⟨rfl,rfl,h3,_⟩:=ha
    simp only[Loc.view]at hview
    refine fin _ xs.length rfl ?_
    simp[Builtin.len_,h0,run_underlying (show X.P.underlying t=some (.slice e)from htd),hview,goInt]
theorem SA (H:FxOk X) (R:Rel X cl ch S m ok a w) {c:Call} {q:Nat} (ho:o.op= .call c) (hc:c.callee= .builtin .min∨c.callee= .builtin .max):(X0 X.E q o).post S (fun _ S' =>eU X cl ch o a w m ok S'):=by
 obtain⟨cal,args,ats⟩:=c
 simp only at hc
 rcases hc with rfl | rfl
 all_goals
  unfold X0
  simp only[ho]
  refine gY R _ fun vs hvs=>?_
  split <;> try trivial
  rename_i k p k' r
  obtain⟨u,r',he,hx,v,r'',he',hy,hr⟩:=hvs
  simp only[bf]at hr;subst hr
  rw[he']at he
  refine X8 fun hk=>?_
  have hk' :k=k' :=of_decide_eq_true hk
  subst hk'
  obtain⟨y,z,rfl,rfl,rfl⟩:=VZ he
 ·refine P8 H R (v:=.i k (eX p r)) rfl ?_
  simp[execOp,ho,resolve,invoke,builtin,Builtin.min_,Builtin.min2,lU hx,lU hy,eX]
 ·refine P8 H R (v:=.i k (fO p r)) rfl ?_
  simp[execOp,ho,resolve,invoke,builtin,Builtin.max_,Builtin.max2,lU hx,lU hy,fO]
end
end Go.GP
namespace Go.GP
def Bnd (d:Int) (o:Option Value) (n:Int):Prop:=(o=none∧n=d)∨∃k,o=some (.int k n)
theorem Dj {P:Program} {w:World} {isS:Bool} {len cap:Nat} {lo hi:Option Value} {x y:Int} (hlo:Bnd 0 lo x) (hhi:Bnd len hi y) (h0:0≤x) (h1:x≤y) (h2:y≤len) (hc:len≤cap):
  (Instr.sliceBounds isS len cap lo hi none).run P w= .ok (x.toNat,y.toNat,cap) w:=by
 have hyc:y≤cap:=by omega
 have hy0:0≤y:=by omega
 have e:((y.toNat:Nat):Int)=y:=by omega
 rcases hlo with⟨rfl,rfl⟩ | ⟨k,rfl⟩ <;> rcases hhi with⟨rfl,rfl⟩ | ⟨k',rfl⟩
 ·simp[Instr.sliceBounds]
 ·simp[Instr.sliceBounds,Instr.sliceBound,asIntOf,hy0,hyc]
 ·simp[Instr.sliceBounds,Instr.sliceBound,asIntOf,h0,h1]
 ·simp[Instr.sliceBounds,Instr.sliceBound,asIntOf,hy0,hyc,h0,e,h1]
theorem RZ {α:Type} {l r:List α} {x y:Int} (h:Ei l x y=some r):0≤x∧x≤y∧y≤l.length∧r=(l.take y.toNat).drop x.toNat:=by
 unfold Ei at h
 split at h
 ·rename_i hh;cases h;exact⟨hh.1,hh.2.1,hh.2.2,rfl⟩
 ·cases h
theorem Qx (l:List UInt8) (x y:Nat):(⟨l.toArray⟩:ByteArray).extract x y=⟨((l.take y).drop x).toArray⟩:=by
 apply ByteArray.ext
 apply Array.ext'
 simp[ByteArray.data_extract,List.extract_eq_take_drop,List.drop_take]
theorem a8Z {h:Array Obj} {ok:Nat→Ty→Prop} {t:Ty} {xs:List t.den} {ad:Option Addr} {cap:Nat} {x y:Nat} (hr:rep h ok (.sl t) xs [.slice ad xs.length cap]) (h1:x≤y) (h2:y≤xs.length):
  rep h ok (.sl t) ((xs.take y).drop x) [.slice (if cap=x then ad else ad.map (·.add (x*t.size))) (y -x) (cap -x)]:=by
 obtain⟨ad',cap',e,hc,hel⟩:=hr
 simp only[List.cons.injEq,Value.slice.injEq,and_true,true_and]at e
 obtain⟨rfl,rfl⟩:=e
 have hl:((xs.take y).drop x).length=y -x:=by simp;omega
 refine⟨_,cap -x,by rw[hl],by rw[hl];omega,fun i z hz=>?_⟩
 have hi:i<y -x:=by rw[←hl];exact(O5.1 hz).1
 have hz' :xs[x+i]? =some z:=by
  simp only[List.getElem?_drop,List.getElem?_take]at hz
  split at hz
  ·exact hz
  ·cases hz
 obtain⟨blk,off,es,rfl,hb,he,hrp⟩:=hel _ z hz'
 have hne:cap≠x:=by omega
 refine⟨blk,off+x*t.size,es,by simp[hne,Addr.add_lit],hb,?_,hrp⟩
 rw[←he];congr 1;rw[Nat.add_mul];omega
section
variable {X:Fx} {cl ch:Nat} {S:Sm} {m:Mp} {ok:Nat→Ty→Prop} {a:Act} {w:World} {o:Oper}
theorem nK {C:Cx} {d n:Int} {v:Option V} {u:Option Value} (h:uT d v=some n) (hr:(v=none∧u=none)∨∃c x,v=some c∧u=some x∧gJ C c x):Bnd d u n:=by
 rcases hr with⟨rfl,rfl⟩ | ⟨c,x,rfl,rfl,hr⟩
 ·simp[uT]at h;subst h;exact .inl ⟨rfl,rfl⟩
 ·cases c <;> simp[uT]at h
  subst h
  exact .inr ⟨_,by rw[lU hr]⟩
theorem zY (H:FxOk X) (R:Rel X cl ch S m ok a w) {t:TypeId} {x:V} {u:Value} {lo hi:Option V} {lv hv:Option Value} (hx:gJ ⟨w.heap,ok,m⟩ x u)
  (hlo:(lo=none∧lv=none)∨∃c y,lo=some c∧lv=some y∧gJ ⟨w.heap,ok,m⟩ c y) (hhi:(hi=none∧hv=none)∨∃c y,hi=some c∧hv=some y∧gJ ⟨w.heap,ok,m⟩ c y)
  {K:V→Cmd Unit} {Q:Unit→Sm→Prop} (hK:∀v z,gJ ⟨w.heap,ok,m⟩ v z→(Instr.sliceAt t u lv hv none).run X.P w= .ok z w→(K v).post S Q):(KP X.E t x lo hi K).post S Q:=by
 unfold KP
 cases x <;> try trivial
 case s l=>
  refine lC H fun i hi' =>?_
  have htd:=hi'.td
  split <;> try trivial
  rename_i p q htd' hp hq
  rw[htd']at htd
  refine ak fun r hr=>?_
  obtain⟨h0,h1,h2,rfl⟩:=RZ hr
  have hb:=Dj (P:=X.P) (w:=w) (isS:=false) (cap:=l.length) (nK hp hlo) (nK hq hhi) h0 h1 h2 (Nat.le_refl _)
  refine hK (.s _) (.string ⟨((l.take q.toNat).drop p.toNat).toArray⟩) rfl ?_
  have hus:X.P.underlying t=some .string:=htd
  have hs:(⟨l.toArray⟩:ByteArray).size=l.length:=rfl
  simp[Instr.sliceAt,run_underlying hus,Instr.slice,Hy hx,hs,hb,Qx]
 case sl v l=>
  dsimp only
  split <;> try trivial
  rename_i n sz p q hsz hp hq
  obtain⟨e,j,hut,hj,hjs⟩:=Cc H hsz
  refine X8 fun hbq=>ak fun r hr=>?_
  have hbq' :=bz hbq
  obtain⟨h0,h1,h2,rfl⟩:=RZ hr
  have hx' :rep w.heap ok (.sl v) l [u]:=hx
  obtain⟨ad,cap,hu,hc,_⟩:=id hx'
  simp only[List.cons.injEq,and_true]at hu
  subst hu
  have hb:=Dj (P:=X.P) (w:=w) (isS:=true) (cap:=cap) (nK hp hlo) (nK hq hhi) h0 h1 h2 hc
  refine hK (.sl v _) _ (a8Z (x:=p.toNat) (y:=q.toNat) hx' (by omega) (by omega)) ?_
  simp[Instr.sliceAt,run_underlying hut,Instr.slice,hb,lW hj,hjs,hbq']
 case own bx vw=>
  cases vw with
  | some _=>trivial
  | none=>
  obtain⟨loc,hm,hview⟩:=hx
  refine aA ?_
  have key:∀{v:Ty} {xs:List v.den} {n sz:Nat} {p q:Int},arrOk ⟨w.heap,ok,m⟩ v xs loc→Cb X.E t=some (false,n,sz)→uT 0 lo=some p→uT (o8 xs) hi=some q→
    (bif Nat.beq sz v.size then Cmd.br (ja p q (o8 xs)) (K (.own bx (some (toN p,toN q)))) .fail else .fail).post S Q:=fun {v xs n sz p q} ha hsz hp hq=>by
   obtain⟨e,j,hut,hj,hjs⟩:=Cc H hsz
   refine X8 fun hbq=>⟨fun hr=>?_,fun _=>trivial⟩
   have hbq' :=bz hbq
   have hr' :=of_decide_eq_true (show decide (0≤p∧p≤q∧q≤o8 xs)=true from hr)
   obtain⟨h0,h1,h2⟩:=hr'
   have h2' :q≤(xs.length:Int):=h2
   cases loc with
   | st b=>cases ha
   | nil=>
    simp only[arrOk]at ha
    subst ha
    simp only[Loc.view]at hview
    subst hview
    have h2'' :q≤((0:Nat):Int):=by simpa using h2'
    have hb:=Dj (P:=X.P) (w:=w) (isS:=true) (len:=0) (cap:=0) (nK hp hlo) (by have:=nK hq hhi;simpa[o8]using this) h0 h1 h2'' (Nat.le_refl _)
    have ep:p=0:=by omega
    have eq:q=0:=by omega
    subst ep;subst eq
    refine hK (.own bx (some (toN 0,toN 0))) (.slice none 0 0) ⟨.nil,hm,rfl,rfl,rfl⟩ ?_
    simp[Instr.sliceAt,run_underlying hut,Instr.slice,hb,lW hj]
   | arr blk off len cap sz' =>
    obtain⟨rfl,rfl,hc,_⟩:=ha
    simp only[Loc.view]at hview
    subst hview
    have hb:=Dj (P:=X.P) (w:=w) (isS:=true) (cap:=cap) (nK hp hlo) (nK hq hhi) h0 h1 h2' hc
    refine hK (.own bx (some (toN p,toN q))) _ ⟨_,hm,by unfold toN;omega,by unfold toN;omega,rfl⟩ ?_
    have e1:(if cap=p.toNat then some (⟨blk,off,none⟩:Addr)else some ⟨blk,off+p.toNat*v.size,none⟩)=some (if cap=p.toNat then⟨blk,off,none⟩else⟨blk,off+p.toNat*v.size,none⟩):=by split <;> rfl
    simp[Instr.sliceAt,run_underlying hut,Instr.slice,hb,lW hj,hjs,hbq',Addr.add_lit,toN,e1]
    by_cases ecp:cap=p.toNat <;> simp[ecp]
  split <;> try trivial
  ·rename_i v xs hS
   obtain⟨loc',hm',ha⟩:=R.own_arr hS
   simp only at hm
   rw[hm]at hm';cases hm'
   split <;> try trivial
   rename_i n sz p q hsz hp hq
   exact key ha hsz hp hq
  ·rename_i v xs hS
   obtain⟨loc',hm',ha,_⟩:=R.own_frz hS
   simp only at hm
   rw[hm]at hm';cases hm'
   split <;> try trivial
   rename_i n sz p q hsz hp hq
   exact key ha hsz hp hq
theorem a5a (H:FxOk X) (R:Rel X cl ch S m ok a w) {t:TypeId} {x:Operand} {lo hi:Option Operand} {q:Nat} (ho:o.op= .slice t x lo hi none):(X0 X.E q o).post S (fun _ S' =>eU X cl ch o a w m ok S'):=by
 unfold X0
 simp only[ho]
 refine U7 R fun v hv=>gY R _ fun bs hbs=>?_
 split <;> try trivial
 ·refine zY H R (lv:=none) (hv:=none) hv (.inl ⟨rfl,rfl⟩) (.inl ⟨rfl,rfl⟩) fun r z hr hz=>P8 H R hr ?_
  simp[execOp,ho,hz]
 ·rename_i l c
  obtain⟨y,r,he,h1,h2⟩:=hbs
  simp only[bf]at h2;subst h2
  simp at he;subst he
  refine zY H R (lv:=some (a.eval l)) (hv:=none) hv (.inr ⟨_,_,rfl,rfl,h1⟩) (.inl ⟨rfl,rfl⟩) fun r z hr hz=>P8 H R hr ?_
  simp[execOp,ho,hz]
 ·rename_i h c
  obtain⟨y,r,he,h1,h2⟩:=hbs
  simp only[bf]at h2;subst h2
  simp at he;subst he
  refine zY H R (lv:=none) (hv:=some (a.eval h)) hv (.inl ⟨rfl,rfl⟩) (.inr ⟨_,_,rfl,rfl,h1⟩) fun r z hr hz=>P8 H R hr ?_
  simp[execOp,ho,hz]
 ·rename_i l h c d
  obtain⟨y,r,he,h1,y',r',he',h2,h3⟩:=hbs
  simp only[bf]at h3;subst h3
  subst he'
  simp at he
  obtain⟨rfl,rfl⟩:=he
  refine zY H R (lv:=some (a.eval l)) (hv:=some (a.eval h)) hv (.inr ⟨_,_,rfl,rfl,h1⟩) (.inr ⟨_,_,rfl,rfl,h2⟩) fun r z hr hz=>P8 H R hr ?_
  simp[execOp,ho,hz]
end
end Go.GP
namespace Go.GP
def Z8 (h:Array Obj) (ok:Nat→Ty→Prop) (t:Ty) (xs:List t.den) (cs:List Value):Prop:=
 cs.length=xs.length*t.size∧∀i x,xs[i]? =some x→rep h ok t x ((cs.drop (i*t.size)).take t.size)
theorem Z8.nil {h:Array Obj} {ok:Nat→Ty→Prop} {t:Ty} :Z8 h ok t [] []:=⟨by simp,fun i x hi=>by simp at hi⟩
theorem Z8.append {h:Array Obj} {ok:Nat→Ty→Prop} {t:Ty} {xs ys:List t.den} {cs ds:List Value} (hx:Z8 h ok t xs cs) (hy:Z8 h ok t ys ds):Z8 h ok t (xs++ys) (cs++ds):=by
 refine⟨by simp[hx.1,hy.1,Nat.add_mul],fun i x hi=>?_⟩
 by_cases hlt:i<xs.length
 ·rw[List.getElem?_append_left hlt]at hi
  have h1:=hx.2 i x hi
  have hle:(i+1)*t.size≤cs.length:=by rw[hx.1];exact Nat.mul_le_mul_right _ (by omega)
  rw[Nat.add_mul,Nat.one_mul]at hle
  rw[List.drop_append_of_le_length (by omega),List.take_append_of_le_length (by simp;omega)]
  exact h1
 ·rw[List.getElem?_append_right (by omega)]at hi
  have h1:=hy.2 _ x hi
  have hle:cs.length≤i*t.size:=by rw[hx.1];exact Nat.mul_le_mul_right _ (by omega)
  rw[List.drop_append,List.drop_eq_nil_of_le hle,List.nil_append]
  have:i*t.size -cs.length=(i -xs.length)*t.size:=by rw[hx.1,Nat.sub_mul]
  rw[this];exact h1
theorem Z8.one {h:Array Obj} {ok:Nat→Ty→Prop} {t:Ty} {x:t.den} {cs:List Value} (hr:rep h ok t x cs):Z8 h ok t [x] cs:=by
 refine⟨by simp[dY hr],fun i y hi=>?_⟩
 have:i=0:=by
  have:=(O5.1 hi).1;simp at this;exact this
 subst this
 simp at hi;subst hi
 have:(List.drop (0*t.size) cs).take t.size=cs:=by simp[←dY hr]
 rw[this];exact hr
theorem Z8.mono {h h' :Array Obj} {ok ok' :Nat→Ty→Prop} {t:Ty} {xs:List t.den} {cs:List Value} (hok:∀b t,ok b t→ok' b t) (hh:∀b t,ok b t→h'[b]? =h[b]?) (hr:Z8 h ok t xs cs):Z8 h' ok' t xs cs:=
 ⟨hr.1,fun i x hi=>bI hok hh (hr.2 i x hi)⟩
theorem Z8.rep_all {h:Array Obj} {ok:Nat→Ty→Prop} {t:Ty} {x:t.den} {cs:List Value} (hr:rep h ok t x cs):∀n,Z8 h ok t (List.replicate n x) ((List.replicate n cs).flatten)
 | 0=>by simpa using Z8.nil
 | n+1=>by
  have:=(Z8.one hr).append (Z8.rep_all hr n)
  simpa[List.replicate_succ]using this
theorem Z8.one_cell {h:Array Obj} {ok:Nat→Ty→Prop} {t:Ty} :∀{xs:List t.den} {cs:List Value},Z8 h ok t xs cs→∀v∈cs,v.oneCell' =true
 | [],cs,hr=>by have:=hr.1;simp at this;simp[this]
 | x::xs,cs,hr=>by
  intro v hv
  have h0:=hr.2 0 x rfl
  simp only[Nat.zero_mul,List.drop_zero]at h0
  have hl:=hr.1
  simp only[List.length_cons,Nat.add_mul,Nat.one_mul]at hl
  have hrest:Z8 h ok t xs (cs.drop t.size):=by
   refine⟨by simp;omega,fun i y hi=>?_⟩
   have:=hr.2 (i+1) y (by simpa using hi)
   rw[List.drop_drop]
   rwa[show t.size+i*t.size=(i+1)*t.size by rw[Nat.add_mul];omega]
  rw[←List.take_append_drop t.size cs]at hv
  rcases List.mem_append.1 hv with hv | hv
  ·exact zT h0 v hv
  ·exact Z8.one_cell hrest v hv
theorem Z8.arrOk {C:Cx} {t:Ty} {xs:List t.den} {cs:List Value} (hr:Z8 C.h C.ok t xs cs) {blk off cap:Nat} {c:Array Value} {T:TypeId} (hb:C.h[blk]? =some (.cells c T (0,0)))
  (hcap:xs.length≤cap) (hfit:off+cap*t.size≤c.size) (he:(c.toList.drop off).take (xs.length*t.size)=cs):Go.GP.arrOk C t xs (.arr blk off xs.length cap t.size):=by
 refine⟨rfl,rfl,hcap,c,T,hb,hfit,fun i x hi=>?_⟩
 have hlt:=(O5.1 hi).1
 have hle:(i+1)*t.size≤xs.length*t.size:=Nat.mul_le_mul_right _ (by omega)
 rw[Nat.add_mul,Nat.one_mul]at hle
 have hle2:xs.length*t.size≤cap*t.size:=Nat.mul_le_mul_right _ hcap
 refine⟨_,gU hb _ _ (by omega),?_⟩
 have h1:=hr.2 i x hi
 rw[←he,List.drop_take,List.take_take,List.drop_drop]at h1
 rwa[Nat.min_eq_left (by omega)]at h1
theorem Ri {C:Cx} {t:Ty} {xs:List t.den} {blk off len cap sz:Nat} (h:arrOk C t xs (.arr blk off len cap sz)):
  ∃c T,C.h[blk]? =some (.cells c T (0,0))∧sz=t.size∧len=xs.length∧len≤cap∧off+cap*sz≤c.size∧Z8 C.h C.ok t xs ((c.toList.drop off).take (len*sz)):=by
 obtain⟨rfl,rfl,h3,c,T,hb,hf,hx⟩:=h
 refine⟨c,T,hb,rfl,rfl,h3,hf,?_,fun i x hi=>?_⟩
 ·have:xs.length*t.size≤cap*t.size:=Nat.mul_le_mul_right _ h3
  simp;omega
 ·obtain⟨es,he,hr⟩:=hx i x hi
  obtain⟨c',T',f',hb',hn',rfl⟩:=nO he
  rw[hb]at hb';cases hb'
  have hlt:=(O5.1 hi).1
  have hle:(i+1)*t.size≤xs.length*t.size:=Nat.mul_le_mul_right _ (by omega)
  rw[Nat.add_mul,Nat.one_mul]at hle
  rw[List.drop_take,List.take_take,List.drop_drop,Nat.min_eq_left (by omega)]
  exact hr
def oL (h:Array Obj) (ok:Nat→Ty→Prop) (m:M) (xs:List m.den) (cs:List Value) (Os:List (List Nat)):Prop:=
 cs.length=xs.length*m.size∧Os.length=xs.length∧∀i x,xs[i]? =some x→∃O,Os[i]? =some O∧iO h ok m none x ((cs.drop (i*m.size)).take m.size) O
theorem oL.nil {h:Array Obj} {ok:Nat→Ty→Prop} {m:M} :oL h ok m [] [] []:=⟨by simp,rfl,fun i x hi=>by simp at hi⟩
theorem oL.append {h:Array Obj} {ok:Nat→Ty→Prop} {t:M} {xs ys:List t.den} {cs ds:List Value} {Os Ps:List (List Nat)} (hx:oL h ok t xs cs Os) (hy:oL h ok t ys ds Ps):oL h ok t (xs++ys) (cs++ds) (Os++Ps):=by
 refine⟨by simp[hx.1,hy.1,Nat.add_mul],by simp[hx.2.1,hy.2.1],fun i x hi=>?_⟩
 by_cases hlt:i<xs.length
 ·rw[List.getElem?_append_left hlt]at hi
  obtain⟨O,hO,h1⟩:=hx.2.2 i x hi
  have hle:(i+1)*t.size≤cs.length:=by rw[hx.1];exact Nat.mul_le_mul_right _ (by omega)
  rw[Nat.add_mul,Nat.one_mul]at hle
  rw[List.drop_append_of_le_length (by omega),List.take_append_of_le_length (by simp;omega)]
  exact⟨O,by rw[List.getElem?_append_left (by rw[hx.2.1];exact hlt)];exact hO,h1⟩
 ·rw[List.getElem?_append_right (by omega)]at hi
  obtain⟨O,hO,h1⟩:=hy.2.2 _ x hi
  have hle:cs.length≤i*t.size:=by rw[hx.1];exact Nat.mul_le_mul_right _ (by omega)
  rw[List.drop_append,List.drop_eq_nil_of_le hle,List.nil_append]
  have:i*t.size -cs.length=(i -xs.length)*t.size:=by rw[hx.1,Nat.sub_mul]
  rw[this];exact⟨O,by rw[List.getElem?_append_right (by rw[hx.2.1];omega),hx.2.1];exact hO,h1⟩
theorem oL.one {h:Array Obj} {ok:Nat→Ty→Prop} {t:M} {x:t.den} {cs:List Value} {O:List Nat} (hr:iO h ok t none x cs O):oL h ok t [x] cs [O]:=by
 refine⟨by simp[Y9 hr],rfl,fun i y hi=>?_⟩
 have:i=0:=by
  have:=(O5.1 hi).1;simp at this;exact this
 subst this
 simp at hi;subst hi
 have:(List.drop (0*t.size) cs).take t.size=cs:=by simp[←Y9 hr]
 rw[this];exact⟨O,rfl,hr⟩
theorem oL.mono {h h' :Array Obj} {ok ok' :Nat→Ty→Prop} {t:M} {xs:List t.den} {cs:List Value} {Os:List (List Nat)} (hok:∀b t,ok b t→ok' b t) (hh:∀b t,ok b t→h'[b]? =h[b]?) (hO:∀b∈Os.flatten,h'[b]? =h[b]?) (hr:oL h ok t xs cs Os):oL h' ok' t xs cs Os:=
 ⟨hr.1,hr.2.1,fun i x hi=>by
  obtain⟨O,h1,h2⟩:=hr.2.2 i x hi
  exact⟨O,h1,cu hok hh (fun b hb=>hO b (List.mem_flatten.2 ⟨O,dN h1,hb⟩)) h2⟩⟩
theorem oL.rep_all {h:Array Obj} {ok:Nat→Ty→Prop} {t:M} {x:t.den} {cs:List Value} (hr:iO h ok t none x cs []):∀n,oL h ok t (List.replicate n x) ((List.replicate n cs).flatten) (List.replicate n [])
 | 0=>by simpa using oL.nil
 | n+1=>by
  have:=(oL.one hr).append (oL.rep_all hr n)
  simpa[List.replicate_succ]using this
theorem oL.one_cell {h:Array Obj} {ok:Nat→Ty→Prop} {t:M} :∀{xs:List t.den} {cs:List Value} {Os:List (List Nat)},oL h ok t xs cs Os→∀v∈cs,v.oneCell' =true
 | [],cs,_,hr=>by have:=hr.1;simp at this;simp[this]
 | x::xs,cs,Os,hr=>by
  intro v hv
  obtain⟨O,hO,h0⟩:=hr.2.2 0 x rfl
  simp only[Nat.zero_mul,List.drop_zero]at h0
  have hl:=hr.1
  simp only[List.length_cons,Nat.add_mul,Nat.one_mul]at hl
  have hl2:=hr.2.1
  simp only[List.length_cons]at hl2
  have hrest:oL h ok t xs (cs.drop t.size) (Os.drop 1):=by
   refine⟨by simp;omega,by simp;omega,fun i y hi=>?_⟩
   obtain⟨O',hO',this⟩:=hr.2.2 (i+1) y (by simpa using hi)
   rw[List.drop_drop]
   refine⟨O',by rw[List.getElem?_drop,Nat.add_comm];exact hO',?_⟩
   rwa[show t.size+i*t.size=(i+1)*t.size by rw[Nat.add_mul];omega]
  rw[←List.take_append_drop t.size cs]at hv
  rcases List.mem_append.1 hv with hv | hv
  ·exact oI h0 v hv
  ·exact oL.one_cell hrest v hv
theorem oL.arrs {h:Array Obj} {ok:Nat→Ty→Prop} {t:M} {xs:List t.den} {cs:List Value} {Os:List (List Nat)} (hr:oL h ok t xs cs Os) {blk off cap:Nat} {c:Array Value} {T:TypeId} (hb:h[blk]? =some (.cells c T (0,0)))
  (hcap:xs.length≤cap) (hfit:off+cap*t.size≤c.size) (he:(c.toList.drop off).take (xs.length*t.size)=cs):wU h t.size (fun _ x es O=>iO h ok t none x es O) xs Os (.arr blk off xs.length cap t.size):=by
 refine⟨rfl,rfl,hcap,hr.2.1,c,T,hb,hfit,fun i x hi=>?_⟩
 have hlt:=(O5.1 hi).1
 have hle:(i+1)*t.size≤xs.length*t.size:=Nat.mul_le_mul_right _ (by omega)
 rw[Nat.add_mul,Nat.one_mul]at hle
 have hle2:xs.length*t.size≤cap*t.size:=Nat.mul_le_mul_right _ hcap
 obtain⟨O,hO,h1⟩:=hr.2.2 i x hi
 refine⟨_,O,hO,gU hb _ _ (by omega),?_⟩
 rw[←he,List.drop_take,List.take_take,List.drop_drop]at h1
 rwa[Nat.min_eq_left (by omega)]at h1
theorem Vq {h:Array Obj} {ok:Nat→Ty→Prop} {t:M} {xs:List t.den} {Os:List (List Nat)} {blk off len cap sz:Nat} (k:wU h t.size (fun _ x es O=>iO h ok t none x es O) xs Os (.arr blk off len cap sz)):
  ∃c T,h[blk]? =some (.cells c T (0,0))∧sz=t.size∧len=xs.length∧len≤cap∧off+cap*sz≤c.size∧oL h ok t xs ((c.toList.drop off).take (len*sz)) Os:=by
 obtain⟨rfl,rfl,h3,h7,c,T,hb,hf,hx⟩:=k
 refine⟨c,T,hb,rfl,rfl,h3,hf,?_,h7,fun i x hi=>?_⟩
 ·have:xs.length*t.size≤cap*t.size:=Nat.mul_le_mul_right _ h3
  simp;omega
 ·obtain⟨es,O,hO,he,hr⟩:=hx i x hi
  obtain⟨c',T',f',hb',hn',rfl⟩:=nO he
  rw[hb]at hb';cases hb'
  have hlt:=(O5.1 hi).1
  have hle:(i+1)*t.size≤xs.length*t.size:=Nat.mul_le_mul_right _ (by omega)
  rw[Nat.add_mul,Nat.one_mul]at hle
  rw[List.drop_take,List.take_take,List.drop_drop,Nat.min_eq_left (by omega)]
  exact⟨O,hO,hr⟩
theorem a3U {α β:Type} (e:α=β) (e' :List α=List β):cast e' []=[]:=by subst e;rfl
theorem Qv {h:Array Obj} {ok:Nat→Ty→Prop} {C:Cx} :∀(m:M) (he:m.el=true) {zs:List V} {cs r:List Value},rep h ok m.ty m.ty.zero cs→aH C zs (cs++r)→LQ m zs=true→iO h ok m none (m.zero he) cs []
 | .dat t,_,_,_,_,hr,_,_=>⟨hr,rfl⟩
 | .unit,_,_,_,_,hr,_,_=>⟨hr,rfl⟩
 | .own t,he,zs,cs,r,hr,hz,hn=>by
  obtain⟨a,cap,rfl,_⟩:=hr
  unfold LQ at hn
  split at hn
  ·obtain⟨v,r',e,h1,_⟩:=hz
   simp only[List.cons_append,List.nil_append,List.cons.injEq]at e
   obtain⟨rfl,rfl⟩:=e
   exact⟨_,rfl,rfl,.nil,h1,rfl,rfl⟩
  ·cases hn
 | .owns t,he,zs,cs,r,hr,hz,hn=>by
  obtain⟨a,cap,rfl,_⟩:=hr
  unfold LQ at hn
  split at hn
  ·obtain⟨v,r',e,h1,_⟩:=hz
   simp only[List.cons_append,List.nil_append,List.cons.injEq]at e
   obtain⟨rfl,rfl⟩:=e
   have he' :t.el=true:=by simpa[M.el]using he
   refine sS.2 ⟨he',.nil,_,[],rfl,h1,⟨?_,rfl⟩,rfl⟩
   exact a3U (M.denEq t he').symm _
  ·cases hn
 | .pair p q,he,zs,cs,r,hr,hz,hn=>by
  obtain⟨c,d,rfl,h1,h2⟩:=hr
  have he' :p.el=true∧q.el=true:=by simpa[M.el]using he
  have hp:=dY h1
  rw[M.ty_size he'.1]at hp
  unfold LQ at hn
  split at hn
  ·rename_i r' hd
   obtain⟨_,rfl⟩:=Oj _ _ _ hd
   cases hb:LQ p zs <;> rw[hb]at hn
   ·cases hn
   ·have a1:=Qv p he'.1 (r:=d++r) h1 (by simpa using hz) hb
    have hz' :=pW p.size hz
    rw[show(c++d++r).drop p.size=d++r by rw[←hp,List.append_assoc,List.drop_left]]at hz'
    have a2:=Qv q he'.2 (r:=r) h2 hz' hn
    refine⟨c,d,[],[],rfl,rfl,?_,?_⟩
    ·have:=JG (M.denEq p he'.1).symm (M.denEq q he'.2).symm (M.denEq (.pair p q) he).symm (p.ty.zero,q.ty.zero)
     exact(congrArg (fun z:p.den×q.den=>iO h ok p none z.1 c []) this).mpr a1
    ·have:=JG (M.denEq p he'.1).symm (M.denEq q he'.2).symm (M.denEq (.pair p q) he).symm (p.ty.zero,q.ty.zero)
     exact(congrArg (fun z:p.den×q.den=>iO h ok q none z.2 d []) this).mpr a2
  ·cases hn
 | .box _,he,_,_,_,_,_,_=>by simp[M.el]at he
 | .ownb _,he,_,_,_,_,_,_=>by simp[M.el]at he
 | .cell _,he,_,_,_,_,_,_=>by simp[M.el]at he
 | .rp _,he,_,_,_,_,_,_=>by simp[M.el]at he
 | .fn _ _,he,_,_,_,_,_,_=>by simp[M.el]at he
 | .ifc _ _,he,_,_,_,_,_,_=>by simp[M.el]at he
theorem Ej (z:Array Value):∀n,(madeCells z (n*z.size)).toList=(List.replicate n z.toList).flatten:=by
 intro n
 rcases Nat.eq_zero_or_pos z.size with h0 | h0
 ·have:z=#[]:=by simpa using h0
  subst this
  simp[madeCells]
 induction n with
 | zero=>simp[madeCells]
 | succ n ih=>
  rw[List.replicate_succ',List.flatten_append,←ih]
  simp only[madeCells,Array.toList_map,Array.toList_range,List.flatten_cons,List.flatten_nil,List.append_nil]
  rw[Nat.add_mul,Nat.one_mul,List.range_add,List.map_append,List.map_map]
  congr 1
  apply List.ext_getElem
  ·simp
  ·intro i h1 h2
   simp at h1 h2
   simp[Nat.mod_eq_of_lt h1,Nat.add_mod,h1,getElem!_pos]
theorem zy {X:Fx} (H:FxOk X) {t e:Nat} {u:Ty} (h:GV X.E t=some (e,u)):
  ∃j z inf,X.P.underlying t=some (.slice e)∧TiOk X.P e j∧X.P.info? e=some inf∧inf.size=u.size∧j.size=u.size∧inf.bytes≤65536∧inf.zero=some z∧rep #[] (fun _ _=>False) u u.zero z.cells.toList:=by
 unfold GV at h
 cases hi:Y3 X.E.tt t with
 | none=>simp[hi]at h
 | some i=>
  have htd:=(H.tt t i hi).td
  simp only[hi]at h
  cases hd:i.td <;> simp only[hd]at h <;> try (simp at h;done)
  rename_i e'
  rw[hd]at htd
  cases hj:Y3 X.E.tt e' with
  | none=>simp[hj]at h
  | some j=>
   simp only[hj]at h
   cases hy:j.ty with
   | none=>simp[hy]at h
   | some u' =>
    simp only[hy]at h
    cases hb:(Nat.beq u'.size j.size&&Nat.ble j.bytes 65536)
    ·simp[hb]at h
    ·simp only[hb,cond_true,Option.some.injEq,Prod.mk.injEq]at h
     obtain⟨rfl,rfl⟩:=h
     simp only[Bool.and_eq_true]at hb
     have h1:=bz hb.1
     have h2:=Nat.le_of_ble_eq_true hb.2
     obtain⟨inf,a1,a2,a3,a4,a5⟩:=(H.tt e' j hj).info
     obtain⟨b1,z,b2,b3⟩:=a5 u' hy
     exact⟨j,z,inf,htd,H.tt _ _ hj,a1,by omega,by omega,by omega,b2,b3⟩
section
variable {X:Fx} {cl ch:Nat} {S:Sm} {m:Mp} {ok:Nat→Ty→Prop} {a:Act} {w:World} {o:Oper}
theorem SQ {C:Cx} {t:Ty} {x:t.den} {cs:List Value} (h:rep #[] (fun _ _=>False) t x cs):rep C.h C.ok t x cs:=
 bI (fun _ _ h=>h.elim) (fun _ _ h=>h.elim) h
theorem Bz (H:FxOk X) {q:Nat} {v vv:V} {Q:Unit→Sm→Prop}
  (hK:∀n,n=J8 q o.dst→CB*q≤n→n+64≤CB*q+CB→S (BOX+n)= .undef→(aj X.E o.dst vv).post (upd S (BOX+n) v) Q):
  (uo (J8 q o.dst) v (aj X.E o.dst vv)).post S Q:=by
 refine sH fun hn=>?_
 cases hd:o.dst with
 | none=>
  have hin:=jU H (q:=q) none (fun t h=>by cases h)
  rw[hd]at hn
  have:=hK (J8 q none) (by rw[hd]) hin.1 hin.2 hn
  rwa[hd]at this
 | some t=>
  cases hb:Sv X.E t with
  | false=>unfold aj;simp only[hb,cond_false];trivial
  | true=>
   have hin:=jU H (q:=q) (some t) (fun t' h=>by cases h;exact(vH hb).1)
   rw[hd]at hn
   have:=hK (J8 q (some t)) (by rw[hd]) hin.1 hin.2 hn
   rwa[hd]at this
theorem a2x (H:FxOk X) {q:Nat} {v vv u:V} {Q:Unit→Sm→Prop}
  (hK:∀n,n=J8 q o.dst→CB*q≤n→n+64≤CB*q+CB→S (BOX+n)= .undef→(Cmd.set (BOX+(JA+n)) u (aj X.E o.dst vv)).post (upd S (BOX+n) v) Q):
  (uo (J8 q o.dst) v (.set (BOX+(JA+J8 q o.dst)) u (aj X.E o.dst vv))).post S Q:=by
 refine sH fun hn=>?_
 cases hd:o.dst with
 | none=>
  have hin:=jU H (q:=q) none (fun t h=>by cases h)
  rw[hd]at hn
  have:=hK (J8 q none) (by rw[hd]) hin.1 hin.2 hn
  rwa[hd]at this
 | some t=>
  cases hb:Sv X.E t with
  | false=>refine iy ?_;unfold aj;simp only[hb,cond_false];trivial
  | true=>
   have hin:=jU H (q:=q) (some t) (fun t' h=>by cases h;exact(vH hb).1)
   rw[hd]at hn
   have:=hK (J8 q (some t)) (by rw[hd]) hin.1 hin.2 hn
   rwa[hd]at this
theorem Yr (R:Rel X cl ch S m ok a w) {w1:World} (hos:w1.os=w.os) (htp:w1.tape=w.tape) (hout:w1.output=w.output) (hh:w1.heap=w.heap)
  {u:Ty} {xs:List u.den} {cs:List Value} {e:TypeId} {c:Array Value} {cap n:Nat} (hr:Z8 w.heap ok u xs cs)
  (hcap:xs.length≤cap) (hfit:cap*u.size≤c.size) (he:c.toList.take (xs.length*u.size)=cs) (hcl:cl≤n) (hch:n<ch) (hn:S (BOX+n)= .undef):
  Rel X cl ch (upd S (BOX+n) (.barr u xs)) (ig m n (.arr w.heap.size 0 xs.length cap u.size) []) ok a (w1.alloc (.cells c e)):=by
 have R1:Rel X cl ch S m ok a w1:=R.same hos htp hout hh
 have hblk:(w1.alloc (.cells c e)).heap[w.heap.size]? =some (.cells c e (0,0)):=by rw[←hh];exact heap_alloc_new w1 _
 refine R1.new hn hcl hch (by simp) (by simp[O6,hh]) ⟨_,au _ _ _ _,?_⟩
 refine Z8.arrOk (cs:=cs) (hr.mono (fun _ _ h=>h) (fun b t hb=>?_)) hblk hcap (by omega) (by simpa using he)
 have:=R.okLt b t hb
 show(w1.heap.push (.cells c e))[b]? =_
 rw[hh]
 exact qm _ _ this
theorem Kq (H:FxOk X) {q:Nat} (R:Rel X (CB*q) (CB*q+CB) S m ok a w) {w1:World} (hos:w1.os=w.os) (htp:w1.tape=w.tape) (hout:w1.output=w.output) (hh:w1.heap=w.heap)
  {u:Ty} {xs:List u.den} {cs:List Value} {e:TypeId} {c:Array Value} {cap:Nat} (hr:Z8 w.heap ok u xs cs)
  (hcap:xs.length≤cap) (hfit:cap*u.size≤c.size) (he:c.toList.take (xs.length*u.size)=cs) {w0:World} {m0:Mp} {ok0:Nat→Ty→Prop} (hm:∀k l,m0 k=some l→m k=some l) (hok:∀b t,ok0 b t→ok b t)
  (run:(execOp a.eval o).run X.P w0= .ok (.value (.slice (some ⟨w.heap.size,0,none⟩) xs.length cap)) (w1.alloc (.cells c e))):
  (uo (J8 q o.dst) (.barr u xs) (aj X.E o.dst (.own (J8 q o.dst) none))).post S (fun _ S' =>eU X (CB*q) (CB*q+CB) o a w0 m0 ok0 S'):=by
 refine Bz H fun n e1 h1 h2 hn=>?_
 rw[←e1]
 clear e1
 generalize CB*q=Z at*
 have R' :=Yr R hos htp hout hh (e:=e) hr hcap hfit he h1 (by show n<Z+1000000;change n+64≤Z+1000000 at h2;omega) hn
 refine tC H R' (fun k l h=>?_) hok ⟨_,au _ _ _ _,rfl⟩ run
 by_cases ek:k=n
 ·subst ek
  have:=R.fresh k h1 hn
  have h3:=hm _ _ h
  rw[this]at h3;cases h3
 ·rw[dG _ _ _ ek];exact hm _ _ h
theorem LM (R:Rel X cl ch S m ok a w) {T:List Nat} (hT:Tk X S m ok w T) {w1:World} (hos:w1.os=w.os) (htp:w1.tape=w.tape) (hout:w1.output=w.output) (hh:w1.heap=w.heap)
  {md:M} (hel:md.el=true) {xs:List md.den} {cs:List Value} {Os:List (List Nat)} {e:TypeId} {c:Array Value} {cap n:Nat} (hr:oL w.heap ok md xs cs Os) (hnd:Os.flatten.Nodup) (hO:∀b∈Os.flatten,b∈T)
  (hcap:xs.length≤cap) (hfit:cap*md.size≤c.size) (he:c.toList.take (xs.length*md.size)=cs) (hcl:cl≤n) (hch:n<ch) (hn:S (BOX+n)= .undef):
  Rel X cl ch (upd S (BOX+n) (.barrs md xs none)) (ig m n (.arr w.heap.size 0 xs.length cap md.size) Os.flatten) ok a (w1.alloc (.cells c e)):=by
 have R1:Rel X cl ch S m ok a w1:=R.same hos htp hout hh
 have T1:Tk X S m ok w1 T:=⟨hT.nodup,fun b hb=>by rw[hh];exact hT.free b hb⟩
 have hblk:(w1.alloc (.cells c e)).heap[w.heap.size]? =some (.cells c e (0,0)):=by rw[←hh];exact heap_alloc_new w1 _
 have hold:∀b,b<w.heap.size→(w1.alloc (.cells c e)).heap[b]? =w.heap[b]?:=fun b hb=>by
  show(w1.heap.push (.cells c e))[b]? =_
  rw[hh]
  exact qm _ _ hb
 refine R1.newK T1 hn hcl hch (by simp) (by simp[O6,hh]) hnd hO ⟨hel,_,Os,au _ _ _ _,?_,by simp⟩
 exact oL.arrs (cs:=cs) (hr.mono (fun _ _ h=>h) (fun b t hb=>hold b (R.okLt b t hb)) (fun b hb=>hold b (hT.free b (hO b hb)).2.1)) hblk hcap (by omega) (by simpa using he)
theorem Pg (H:FxOk X) {q:Nat} (R:Rel X (CB*q) (CB*q+CB) S m ok a w) {T:List Nat} (hT:Tk X S m ok w T) {w1:World} (hos:w1.os=w.os) (htp:w1.tape=w.tape) (hout:w1.output=w.output) (hh:w1.heap=w.heap)
  {md:M} (hel:md.el=true) {xs:List md.den} {cs:List Value} {Os:List (List Nat)} {e:TypeId} {c:Array Value} {cap:Nat} (hr:oL w.heap ok md xs cs Os) (hnd:Os.flatten.Nodup) (hO:∀b∈Os.flatten,b∈T)
  (hcap:xs.length≤cap) (hfit:cap*md.size≤c.size) (he:c.toList.take (xs.length*md.size)=cs) {w0:World} {m0:Mp} {ok0:Nat→Ty→Prop} (hm:∀k l,m0 k=some l→m k=some l) (hok:∀b t,ok0 b t→ok b t)
  (run:(execOp a.eval o).run X.P w0= .ok (.value (.slice (some ⟨w.heap.size,0,none⟩) xs.length cap)) (w1.alloc (.cells c e))):
  (uo (J8 q o.dst) (.barrs md xs none) (aj X.E o.dst (.own (J8 q o.dst) none))).post S (fun _ S' =>eU X (CB*q) (CB*q+CB) o a w0 m0 ok0 S'):=by
 refine Bz H fun n e1 h1 h2 hn=>?_
 rw[←e1]
 clear e1
 generalize CB*q=Z at*
 have R' :=LM R hT hos htp hout hh (e:=e) hel hr hnd hO hcap hfit he h1 (by show n<Z+1000000;change n+64≤Z+1000000 at h2;omega) hn
 refine tC H R' (fun k l h=>?_) hok ⟨_,au _ _ _ _,rfl⟩ run
 by_cases ek:k=n
 ·subst ek
  have:=R.fresh k h1 hn
  have h3:=hm _ _ h
  rw[this]at h3;cases h3
 ·rw[dG _ _ _ ek];exact hm _ _ h
theorem Wy (H:FxOk X) {q:Nat} (R:Rel X (CB*q) (CB*q+CB) S m ok a w) {T:List Nat} (hT:Tk X S m ok w T) {w1:World} (hos:w1.os=w.os) (htp:w1.tape=w.tape) (hout:w1.output=w.output) (hh:w1.heap=w.heap)
  {md:M} (hel:md.el=true) {xs:List md.den} {cs:List Value} {Os:List (List Nat)} {e:TypeId} {c:Array Value} {cap:Nat} (hr:oL w.heap ok md xs cs Os) (hnd:Os.flatten.Nodup) (hO:∀b∈Os.flatten,b∈T)
  (hcap:xs.length≤cap) (hfit:cap*md.size≤c.size) (he:c.toList.take (xs.length*md.size)=cs) {w0:World} {m0:Mp} {ok0:Nat→Ty→Prop} (hm:∀k l,m0 k=some l→m k=some l) (hok:∀b t,ok0 b t→ok b t)
  (run:(execOp a.eval o).run X.P w0= .ok (.value (.slice (some ⟨w.heap.size,0,none⟩) xs.length cap)) (w1.alloc (.cells c e))):
  (uo (J8 q o.dst) (.barrs md xs none) (.set (BOX+(JA+J8 q o.dst)) (.blen (o8 xs) md.size) (aj X.E o.dst (.own (J8 q o.dst) none)))).post S (fun _ S' =>eU X (CB*q) (CB*q+CB) o a w0 m0 ok0 S'):=by
 refine a2x H fun n e1 h1 h2 hn=>?_
 refine iy ?_
 rw[←e1]
 clear e1
 generalize CB*q=Z at*
 have R' :=LM R hT hos htp hout hh (e:=e) hel hr hnd hO hcap hfit he h1 (by show n<Z+1000000;change n+64≤Z+1000000 at h2;omega) hn
 refine tC H (R'.mark (eY _ _ _)) (fun k l h=>?_) hok ⟨_,au _ _ _ _,rfl⟩ run
 by_cases ek:k=n
 ·subst ek
  have:=R.fresh k h1 hn
  have h3:=hm _ _ h
  rw[this]at h3;cases h3
 ·rw[dG _ _ _ ek];exact hm _ _ h
theorem Uh (H:FxOk X) {q:Nat} (R:Rel X (CB*q) (CB*q+CB) S m ok a w) {t:TypeId} {l c:Operand} (ho:o.op= .makeSlice t l c):(X0 X.E q o).post S (fun _ S' =>eU X (CB*q) (CB*q+CB) o a w m ok S'):=by
 unfold X0
 simp only[ho]
 split
 ·rename_i md hom
  split <;> try trivial
  rename_i e u het
  obtain⟨j,z,inf,hu,hj,h1,h2,h3,h4,h5,h6⟩:=zy H het
  have hz:=dY h6
  refine U7 R fun v hv=>?_
  split <;> try trivial
  rename_i k n
  refine aG fun hc=>?_
  simp only[Bool.and_eq_true]at hc
  obtain⟨⟨hs,hsz⟩,hza⟩:=hc
  split <;> try trivial
  rename_i hel
  obtain⟨hel,rfl⟩:=hel
  refine ak fun xs hxs=>?_
  have hec:a.eval c=a.eval l:=by
   unfold PY at hs
   split at hs
   ·have:=bz hs
    subst this;rfl
   ·cases hs
  unfold iU at hxs
  split at hxs
  ·rename_i hh
   cases hxs
   have e1:=lU hv
   have e2:=hec.trans e1
   have hms:=M.ty_size hel
   have hby:(inf.bytes:Int)*n≤65536*1073741824:=by
    have:inf.bytes*n.toNat≤65536*1073741824:=Nat.mul_le_mul h4 (by omega)
    have e:(n.toNat:Int)=n:=by omega
    rw[←e,←Int.natCast_mul]
    generalize inf.bytes*n.toNat=p at*
    omega
   have hrun:=run_make (P:=X.P) w t e inf z hu h1 h5 k k n n hh.1 (Int.le_refl _) (by omega) (by omega)
   have hflat:=Ej z.cells n.toNat
   have hzs:z.cells.size=md.ty.size:=by simpa using hz
   have hzero:iO w.heap ok md none (md.zero hel) z.cells.toList []:=by
    unfold a1N at hza
    rw[het]at hza
    simp only at hza
    cases hj2:Y3 X.E.tt e with
    | none=>rw[hj2]at hza;cases hza
    | some j2=>
     rw[hj2]at hza
     simp only at hza
     cases hb:Nat.beq j2.zero.length j2.size <;> rw[hb]at hza
     ·cases hza
     ·obtain⟨inf2,a1,a2,a3,a4,a5⟩:=(H.tt e j2 hj2).info
      rw[h1]at a1;cases a1
      obtain⟨z2,b1,b2⟩:=a4 (bz hb)
      rw[h5]at b1;cases b1
      exact Qv md hel (r:=[]) (SQ (C:=⟨w.heap,ok,m⟩) h6) (by simpa using b2) hza
   refine Wy H R (T:=[]) Tk.nil rfl rfl rfl rfl (cs:=(List.replicate n.toNat z.cells.toList).flatten) (c:=madeCells z.cells (n.toNat*inf.size)) (cap:=n.toNat) (e:=e) hel (oL.rep_all hzero _) (by simp) (by simp) (by simp) (by simp[size_madeCells,h2,hms]) ?_ (fun _ _ h=>h) (fun _ _ h=>h) (w1:=w) ?_
   ·rw[h2,←hzs,hflat]
    rw[List.take_of_length_le (by simp[List.length_flatten,hzs,hms])]
   ·simp[execOp,ho,e1,e2,hrun]
  ·cases hxs
 split <;> try trivial
 rename_i e u het
 obtain⟨j,z,inf,hu,hj,h1,h2,h3,h4,h5,h6⟩:=zy H het
 have hz:=dY h6
 have key:∀{k k' :IntKind} {n n' :Int},a.eval l= .int k n→a.eval c= .int k' n' →0≤n→n≤n' →n' ≤1073741824→
   (uo (J8 q o.dst) (.barr u (List.replicate n.toNat u.zero)) (aj X.E o.dst (.own (J8 q o.dst) none))).post S (fun _ S' =>eU X (CB*q) (CB*q+CB) o a w m ok S'):=fun {k k' n n'} e1 e2 g0 g1 g2=>by
  have hby:(inf.bytes:Int)*n' ≤65536*1073741824:=by
   have:inf.bytes*n'.toNat≤65536*1073741824:=Nat.mul_le_mul h4 (by omega)
   have e:(n'.toNat:Int)=n' :=by omega
   rw[←e,←Int.natCast_mul]
   generalize inf.bytes*n'.toNat=p at*
   omega
  have hrun:=run_make (P:=X.P) w t e inf z hu h1 h5 k k' n n' g0 g1 (by omega) (by omega)
  have hflat:=Ej z.cells n'.toNat
  have hzs:z.cells.size=u.size:=by simpa using hz
  refine Kq H R rfl rfl rfl rfl (cs:=(List.replicate n.toNat z.cells.toList).flatten) (c:=madeCells z.cells (n'.toNat*inf.size)) (cap:=n'.toNat) (e:=e) (Z8.rep_all (SQ (C:=⟨w.heap,ok,m⟩) h6) _) (by simp;omega) (by simp[size_madeCells,h2]) ?_ (fun _ _ h=>h) (fun _ _ h=>h) (w1:=w) ?_
  ·rw[h2,←hzs,hflat]
   have:n'.toNat=n.toNat+(n'.toNat -n.toNat):=by omega
   rw[this,←List.replicate_append_replicate,List.flatten_append,List.take_append_of_le_length (by simp[List.length_flatten]),List.take_of_length_le (by simp[List.length_flatten])]
  ·simp[execOp,ho,e1,e2,hrun]
 refine U7 R fun v hv=>?_
 split <;> try trivial
 rename_i k n
 cases hs:PY l c
 ·simp only[cond_false]
  refine U7 R fun v' hv' =>?_
  split <;> try trivial
  rename_i k' n'
  refine⟨fun hr=>ak fun xs hxs=>?_,fun _=>trivial⟩
  have hr' :=of_decide_eq_true (show decide (0≤n∧n≤n' ∧n' ≤1073741824)=true from hr)
  unfold iU at hxs
  split at hxs
  ·cases hxs
   exact key (lU hv) (lU hv') hr'.1 hr'.2.1 hr'.2.2
  ·cases hxs
 ·simp only[cond_true]
  refine ak fun xs hxs=>?_
  have hec:a.eval c=a.eval l:=by
   unfold PY at hs
   split at hs
   ·have:=bz hs
    subst this;rfl
   ·cases hs
  unfold iU at hxs
  split at hxs
  ·rename_i hh
   cases hxs
   exact key (lU hv) (hec.trans (lU hv)) hh.1 (Int.le_refl _) hh.2
  ·cases hxs
end
end Go.GP
