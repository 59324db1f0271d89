import Derived.ProofKit
import Derived.Below
import Derived.Laws.CopyRow
import Derived.Laws.BytesArg
import Derived.Laws.Cells
import Derived.Laws.Append
import Derived.Laws.Strings
import Derived.Lib.SmallJoins
import Derived.Laws.MakeOwn
import Derived.ArgAppend
set_option linter.all false
namespace Go.GP
theorem O6 {α:Type _} {l:List α} {i:Nat} {a:α} :l[i]? =some a↔∃h:i<l.length,l[i]=a:=List.getElem?_eq_some_iff
theorem Y8 {α:Type _} {l:List α} {i:Nat} (h:i<l.length):l[i]? =some l[i]:=List.getElem?_eq_getElem h
theorem bT {n m:Nat} (h:Nat.beq n m=true):n=m:=Nat.eq_of_beq_eq_true h
theorem bZ {α:Type _} {l:List α} {i:Nat} {a:α} (h:l[i]? =some a):a∈l:=List.mem_of_getElem? h
theorem qh {α:Type _} {l:List α} {i:Nat} {a:α} :l.getD i a=l[i]?.getD a:=List.getD_eq_getElem?_getD
universe u
set_option linter.unusedVariables false
inductive Ty where
 | bool | int (k:IntKind) | str | sl (t:Ty) | prod (a b:Ty) | unit
def Ty.beq:Ty→Ty→Bool
 | .bool,b=>match b with | .bool=>true | _=>false
 | .int k,b=>match b with | .int k' =>decide (k=k') | _=>false
 | .str,b=>match b with | .str=>true | _=>false
 | .sl t,b=>match b with | .sl u=>Ty.beq t u | _=>false
 | .prod p q,b=>match b with | .prod p' q' =>bif Ty.beq p p' then Ty.beq q q' else false | _=>false
 | .unit,b=>match b with | .unit=>true | _=>false
theorem Ty.beq_eq:∀{a b:Ty},Ty.beq a b=true→a=b
 | .bool,b,h=>by cases b <;> first | rfl | cases h
 | .int k,b,h=>by cases b <;> first | (cases h;done) | (rename_i k';have:=of_decide_eq_true (show decide (k=k')=true from h);subst this;rfl)
 | .str,b,h=>by cases b <;> first | rfl | cases h
 | .sl t,b,h=>by cases b <;> first | (cases h;done) | (rename_i u;have:=Ty.beq_eq (show Ty.beq t u=true from h);subst this;rfl)
 | .prod p q,b,h=>by
  cases b <;> try (cases h;done)
  rename_i p' q'
  cases hp:Ty.beq p p'
  ·have h' :(bif Ty.beq p p' then Ty.beq q q' else false)=true:=h
   rw[hp]at h';cases h'
  ·have h' :(bif Ty.beq p p' then Ty.beq q q' else false)=true:=h
   rw[hp]at h'
   rw[Ty.beq_eq hp,Ty.beq_eq (show Ty.beq q q' =true from h')]
 | .unit,b,h=>by cases b <;> first | rfl | cases h
theorem Ty.beq_refl:∀(a:Ty),Ty.beq a a=true
 | .bool=>rfl
 | .int k=>by show decide (k=k)=true;simp
 | .str=>rfl
 | .sl t=>Ty.beq_refl t
 | .prod p q=>by show(bif Ty.beq p p then Ty.beq q q else false)=true;rw[Ty.beq_refl p,Ty.beq_refl q];rfl
 | .unit=>rfl
instance:DecidableEq Ty:=fun a b=>match h:Ty.beq a b with
 | true=> .isTrue (Ty.beq_eq h)
 | false=> .isFalse (fun e=>by subst e;rw[Ty.beq_refl]at h;cases h)
@[reducible] def Ty.den:Ty→Type
 | .bool=>Bool
 | .int _=>Int
 | .str=>List UInt8
 | .sl t=>List t.den
 | .prod a b=>a.den×b.den
 | .unit=>Unit
def Ty.size:Ty→Nat
 | .bool | .int _ | .str | .sl _=>1
 | .prod a b=>a.size+b.size
 | .unit=>0
def Ty.flat:Ty→Bool
 | .bool | .int _ | .str | .unit=>true
 | .sl _=>false
 | .prod a b=>a.flat&&b.flat
def Ty.zero:(t:Ty)→t.den
 | .bool=>false
 | .int _=>(0:Int)
 | .str=>[]
 | .sl _=>[]
 | .prod a b=>(a.zero,b.zero)
 | .unit=>()
inductive M where
 | dat (t:Ty) | own (t:Ty) | pair (a b:M) | unit | box (m:M)
 | owns (el:M) | ownb (t:Ty) | rp (t:Ty) | fn (f:Nat) (ts:List Ty) | ifc (t:Nat) (m:M) | cell (n:Option (Option Bool))
def M.beq:M→M→Bool
 | .dat t,b=>match b with | .dat u=>Ty.beq t u | _=>false
 | .own t,b=>match b with | .own u=>Ty.beq t u | _=>false
 | .pair p q,b=>match b with | .pair p' q' =>bif M.beq p p' then M.beq q q' else false | _=>false
 | .unit,b=>match b with | .unit=>true | _=>false
 | .owns m,b=>match b with | .owns m' =>M.beq m m' | _=>false
 | _,_=>false
theorem M.beq_eq:∀{a b:M},M.beq a b=true→a=b
 | .dat t,b,h=>by cases b <;> first | (cases h;done) | (rename_i u;have:=Ty.beq_eq (show Ty.beq t u=true from h);subst this;rfl)
 | .own t,b,h=>by cases b <;> first | (cases h;done) | (rename_i u;have:=Ty.beq_eq (show Ty.beq t u=true from h);subst this;rfl)
 | .pair p q,b,h=>by
  cases b <;> try (cases h;done)
  rename_i p' q'
  cases hp:M.beq p p'
  ·have h' :(bif M.beq p p' then M.beq q q' else false)=true:=h
   rw[hp]at h';cases h'
  ·have h' :(bif M.beq p p' then M.beq q q' else false)=true:=h
   rw[hp]at h'
   rw[M.beq_eq hp,M.beq_eq (show M.beq q q' =true from h')]
 | .unit,b,h=>by cases b <;> first | rfl | cases h
 | .owns m,b,h=>by cases b <;> first | (cases h;done) | (rename_i u;have:=M.beq_eq (show M.beq m u=true from h);subst this;rfl)
 | .box _,b,h=>by cases h
 | .ownb _,b,h=>by cases h
 | .rp _,b,h=>by cases h
 | .fn _ _,b,h=>by cases h
 | .ifc _ _,b,h=>by cases h
 | .cell _,b,h=>by cases h
@[reducible] def MN:List Ty→Type
 | []=>Unit
 | [t]=>t.den
 | t::t' ::r=>t.den×MN (t' ::r)
@[reducible] def M.den:M→Type
 | .dat t=>t.den
 | .own t=>List t.den
 | .pair a b=>a.den×b.den
 | .unit=>Unit
 | .box m=>m.den
 | .owns el=>List el.den
 | .ownb t=>List t.den
 | .rp t=>t.den
 | .fn _ ts=>MN ts
 | .ifc _ m=>m.den
 | .cell _=>Unit
def M.size:M→Nat
 | .dat t=>t.size
 | .own _=>1
 | .pair a b=>a.size+b.size
 | .unit=>0
 | .box _=>1
 | .owns _ | .ownb _ | .rp _ | .fn _ _ | .ifc _ _ | .cell _=>1
def M.el:M→Bool
 | .dat _ | .own _ | .unit=>true
 | .owns m=>m.el
 | .pair a b=>a.el&&b.el
 | _=>false
def M.ty:M→Ty
 | .dat t=>t
 | .own t=> .sl t
 | .owns m=> .sl m.ty
 | .pair a b=> .prod a.ty b.ty
 | _=> .unit
theorem M.denEq:∀(m:M),m.el=true→m.den=m.ty.den
 | .dat _,_=>rfl
 | .own _,_=>rfl
 | .unit,_=>rfl
 | .owns m,h=>congrArg List (M.denEq m h)
 | .pair a b,h=>by
  have h' :a.el=true∧b.el=true:=by simpa[M.el]using h
  show(a.den×b.den)=(a.ty.den×b.ty.den)
  rw[M.denEq a h'.1,M.denEq b h'.2]
 | .box _,h=>by simp[M.el]at h
 | .ownb _,h=>by simp[M.el]at h
 | .rp _,h=>by simp[M.el]at h
 | .fn _ _,h=>by simp[M.el]at h
 | .ifc _ _,h=>by simp[M.el]at h
 | .cell _,h=>by simp[M.el]at h
def M.zero:(m:M)→m.el=true→m.den
 | m,h=>cast (M.denEq m h).symm m.ty.zero
abbrev MG:=Bool×M
@[reducible] def U4:List MG→Type
 | []=>Unit
 | [m]=>m.2.den
 | m::m' ::r=>m.2.den×U4 (m' ::r)
inductive V where
 | undef
 | un
 | b (x:Bool) | i (k:IntKind) (n:Int) | s (l:List UInt8)
 | nl
 | sl (t:Ty) (xs:List t.den)
 | own (bx:Nat) (vw:Option (Nat×Nat))
 | ptr (bx off:Nat)
 | ep (bx idx off:Nat)
 | dp (t:Ty) (x:t.den) (off:Nat)
 | agg (cs:List V) | tup (cs:List V)
 | glob (g:Nat) | fnv (f:Nat) | clos (f:Nat) (caps:List ((t:Ty)×t.den)) | ifc (t:Nat) (v:V)
 | bcells (cs:List V) | barr (t:Ty) (xs:List t.den) | bfrz (t:Ty) (xs:List t.den) | biter (l:List UInt8) (pos:Nat)
 | barrs (el:M) (xs:List el.den) (hole:Option (Nat×Nat)) | bfc (t:Ty) (x:t.den)
 | dead | gone (t:Ty) | blen (n:Int) (sz:Nat)
 | ne (b:Bool)
def l9 {α β:Type} (o:Option α) (f:α→Option β):Option β:=match o with | some x=>f x | none=>none
def l7 {α:Type} (b:Bool) (x y:α):α:=match b with | true=>x | false=>y
def ilt (a b:Int):Bool:=decide (a<b)
def ile (a b:Int):Bool:=decide (a≤b)
def ieq (a b:Int):Bool:=decide (a=b)
def dB (a b:Bool):Bool:=a==b
def D6 (a:Bool):Bool:=!a
def aH (a b:Bool):Bool:=a&&b
def seq (a b:List UInt8):Bool:=decide (a=b)
def slt (a b:List UInt8):Bool:=Op.bytesLess a b
def wrap (k:IntKind) (n:Int):Int:=k.wrap n
def x8 (k:IntKind) (a b:Int):Int:=k.wrap (a+b)
def G8 (k:IntKind) (a b:Int):Int:=k.wrap (a -b)
def N9 (k:IntKind) (a b:Int):Int:=k.wrap (a*b)
def X4 (k:IntKind) (a b:Int):Int:=k.wrap (a.tdiv b)
def X5 (a b:Int):Int:=a.tmod b
def iI (k:IntKind) (a b:Int):Option Int:=if b=0 then none else some (k.wrap (a.tdiv b))
def kQ (a b:Int):Option Int:=if b=0 then none else some (a.tmod b)
def XB (k:IntKind) (a b:Int):Int:=k.wrap (BitVec.ofInt k.bits a&&& BitVec.ofInt k.bits b).toNat
def ior (k:IntKind) (a b:Int):Int:=k.wrap (BitVec.ofInt k.bits a ||| BitVec.ofInt k.bits b).toNat
def a6n (k:IntKind) (a b:Int):Int:=k.wrap (BitVec.ofInt k.bits a^^^BitVec.ofInt k.bits b).toNat
def a1Q (k:IntKind) (a b:Int):Int:=k.wrap (BitVec.ofInt k.bits a&&& ~~~(BitVec.ofInt k.bits b)).toNat
def a6m (k:IntKind) (a b:Int):Int:=k.wrap (a*2^(min b.toNat k.bits))
def kF (k:IntKind) (a b:Int):Int:=a.fdiv (2^(min b.toNat k.bits))
def Qn (k:IntKind) (a b:Int):Option Int:=if b<0 then none else some (a6m k a b)
def Qo (k:IntKind) (a b:Int):Option Int:=if b<0 then none else some (kF k a b)
def jf (a b:Int):Int:=if b<a then b else a
def fO (a b:Int):Int:=if a<b then b else a
def o8 {α:Type} (l:List α):Int:=l.length
def d4N (a b:List UInt8):Option (List UInt8):=if a.length+b.length≤4611686018427387904 then some (a++b)else none
def IG (a b:Nat):Bool:=Nat.beq a b
def inb (i n:Int):Bool:=decide (0≤i∧i<n)
def lat {α:Type} (l:List α) (i:Int):Option α:=if 0≤i then l[i.toNat]? else none
def sat (l:List UInt8) (i:Int):Option Int:=if 0≤i then(l[i.toNat]?).map (fun c=>(c.toNat:Int))else none
def I9 {α:Type} (l:List α) (i:Nat):Option α:=l[i]?
def S9 {α:Type} (l:List α) (i:Nat) (x:α):List α:=l.set i x
def Fj {α:Type} (l:List α) (lo hi:Int):Option (List α):=if 0≤lo∧lo≤hi∧hi≤l.length then some ((l.take hi.toNat).drop lo.toNat)else none
def gu {α:Type} (l:List α) (lo hi:Nat):List α:=(l.take hi).drop lo
def jm (lo hi n:Int):Bool:=decide (0≤lo∧lo≤hi∧hi≤n)
def X9 {α:Type} (xs ys:List α):Option (List α):=if xs.length+ys.length≤1073741824 then some (xs++ys)else none
def gU {α:Type} (n:Int) (x:α):Option (List α):=if 0≤n∧n≤1073741824 then some (List.replicate n.toNat x)else none
def toN (i:Int):Nat:=i.toNat
def e1u (n:Int):UInt8:=UInt8.ofNat n.toNat
def a5S (l:List Int):List UInt8:=l.map e1u
inductive Out (σ ε ρ:Type) where
 | nx (s:σ) | ex (e:ε) | rt (r:ρ)
def L8 {σ ε α:Type} (o:σ⊕ε) (f:σ→α) (g:ε→α):α:=match o with | .inl s=>f s | .inr e=>g e
def iK {σ ε ρ:Type} (f:σ→Option (Out σ ε ρ)):Nat→σ→Option (ε⊕ρ)
 | 0,_=>none
 | n+1,s=>match f s with
  | some (.nx s')=>iK f n s'
  | some (.ex e)=>some (.inl e)
  | some (.rt r)=>some (.inr r)
  | none=>none
def jy {σ ε:Type} (f:σ→Option (σ⊕ε)):Nat→σ→Option ε
 | 0,_=>none
 | n+1,s=>match f s with
  | some (.inl s')=>jy f n s'
  | some (.inr e)=>some e
  | none=>none
def bJ:Nat:=18446744073709551616
def J9 {σ ε ρ:Type} (f:σ→Option (Out σ ε ρ)) (s:σ):Option (ε⊕ρ):=iK f bJ s
def N8 {σ ε:Type} (f:σ→Option (σ⊕ε)) (s:σ):Option ε:=jy f bJ s
inductive Cmd (α:Type):Type 1 where
 | ret (x:α)
 | fail
 | get (k:Nat) (c:V→Cmd α)
 | set (k:Nat) (v:V) (c:Cmd α)
 | opt {β:Type} (o:Option β) (c:β→Cmd α)
 | br (b:Bool) (c d:Cmd α)
inductive Ent where
 | kv (k:Nat) (v:V) | mask (lo hi:Nat)
abbrev St:=List Ent
def bg:St→Nat→V
 | [],_=> .undef
 | .kv k v::r,n=>bif Nat.beq k n then v else bg r n
 | .mask lo hi::r,n=>bif Nat.ble lo n&&Nat.blt n hi then .undef else bg r n
abbrev Tr:=List Nat×List Nat
def V.force {R:Type} (v:V) (K:V→R):R:=
 match v with
 | .undef=>K .undef
 | .un=>K .un
 | .b x=>K (.b x)
 | .i k n=>match k with
  | .i8=>K (.i .i8 n) | .i16=>K (.i .i16 n) | .i32=>K (.i .i32 n) | .i64=>K (.i .i64 n)
  | .u8=>K (.i .u8 n) | .u16=>K (.i .u16 n) | .u32=>K (.i .u32 n) | .u64=>K (.i .u64 n)
 | .s l=>K (.s l)
 | .nl=>K .nl
 | .ne z=>K (.ne z)
 | .sl t xs=>K (.sl t xs)
 | .own bx vw=>match vw with | none=>K (.own bx none) | some p=>K (.own bx (some p))
 | .ptr bx off=>K (.ptr bx off)
 | .ep bx idx off=>K (.ep bx idx off)
 | .dp t x off=>K (.dp t x off)
 | .agg cs=>K (.agg cs)
 | .tup cs=>K (.tup cs)
 | .glob g=>K (.glob g)
 | .fnv f=>K (.fnv f)
 | .clos f bs=>K (.clos f bs)
 | .ifc t v=>v.force fun v=>K (.ifc t v)
 | .barrs t xs h=>match h with | none=>K (.barrs t xs none) | some (p1,p2)=>K (.barrs t xs (some (p1,p2)))
 | .bfc t x=>K (.bfc t x)
 | .bcells cs=>K (.bcells cs)
 | .barr t xs=>K (.barr t xs)
 | .bfrz t xs=>K (.bfrz t xs)
 | .biter l p=>K (.biter l p)
 | .dead=>K .dead
 | .gone t=>K (.gone t)
 | .blen n sz=>K (.blen n sz)
def La {R:Type} :List V→(List V→R)→R
 | [],K=>K []
 | v::r,K=>v.force fun v' =>La r fun r' =>K (v' ::r')
def V.force2 {R:Type} (v:V) (K:V→R):R:=
 v.force fun v=>match v with
  | .agg cs=>La cs fun cs=>K (.agg cs)
  | .bcells cs=>La cs fun cs=>K (.bcells cs)
  | .tup cs=>La cs fun cs=>K (.tup cs)
  | v=>K v
def Cmd.runK {α R:Type} :Cmd α→St→Tr→(α→St→Tr→Option R)→Option R
 | .ret x,s,t,K=>K x s t
 | .fail,_,_,_=>none
 | .get k c,s,t,K=>(bg s k).force fun v=>(c v).runK s (k::t.1,t.2) K
 | .set k v c,s,t,K=>v.force2 fun v=>c.runK (.kv k v::s) (t.1,k::t.2) K
 | .opt o c,s,t,K=>l9 o fun x=>(c x).runK s t K
 | .br b c d,s,t,K=>l7 b (c.runK s t K) (d.runK s t K)
def Cmd.bind {α β:Type} :Cmd α→(α→Cmd β)→Cmd β
 | .ret x,f=>f x
 | .fail,_=> .fail
 | .get k c,f=> .get k fun v=>(c v).bind f
 | .set k v c,f=> .set k v (c.bind f)
 | .opt o c,f=> .opt o fun x=>(c x).bind f
 | .br b c d,f=> .br b (c.bind f) (d.bind f)
inductive TD where
 | bool | int (k:IntKind) | str
 | sl (elem:Nat) | ptr (elem:Nat)
 | struct (fs:List (Nat×Nat))
 | arr (n elem:Nat)
 | other
structure TI where
 size:Nat
 bytes:Nat
 td:TD
 ty:Option Ty
 zero:List V
def Y9 {α:Type} :List (Nat×α)→Nat→Option α
 | [],_=>none
 | (k,v)::r,n=>bif Nat.beq k n then some v else Y9 r n
structure FSpec where
 ps:List MG
 rs:List MG
 outs:List MG
 fn:U4 ps→Option (U4 (rs++outs))
structure Env where
 nt:Nat
 eqs:List (Nat×List Ty)
 tt:List (Nat×TI)
 gl:List (Nat×(t:Ty)×List t.den)
 fs:List (Nat×FSpec)
 om:List (Nat×M):=[]
 tk:List Nat:=[]
 ms:List ((Nat×String)×Nat×Option Nat):=[]
 kp:List Nat:=[]
abbrev BOX:Nat:=1000000
abbrev CB:Nat:=1000000
abbrev KJ:Nat:=1000000000000
def Ty.castL {R:Type u} (a b:Ty) (xs:List a.den) (k:List b.den→R) (f:R):R:=if h:a=b then k (h▸xs)else f
def TS {R:Type u} (a b:Ty) (x:a.den) (k:b.den→R) (f:R):R:=if h:a=b then k (h▸x)else f
def flat:(t:Ty)→t.den→List V→List V
 | .bool,x,r=> .b x::r
 | .int k,n,r=> .i k n::r
 | .str,l,r=> .s l::r
 | .sl t,xs,r=> .sl t xs::r
 | .prod a b,x,r=>flat a x.1 (flat b x.2 r)
 | .unit,_,r=>r
def bF {α:Type} (vw:Option (Nat×Nat)) (xs:List α):List α:=match vw with | none=>xs | some (lo,hi)=>gu xs lo hi
def Ez:(m:M)→m.den→List V→List V
 | .dat t,x,r=>flat t x r
 | .pair a b,x,r=>Ez a x.1 (Ez b x.2 r)
 | .unit,_,r=>r
 | _,_,r=> .undef::r
def a1I {R:Type u} (a b:M) (xs:List a.den) (k:List b.den→R) (f:R):R:=match h:M.beq a b with
 | true=>k (M.beq_eq h▸xs)
 | false=>f
def ZA {R:Type u} (m:M) (t:Ty) (xs:List m.den) (k:List t.den→R) (f:R):R:=
 if h:m.el=true∧m.ty=t then k (cast (congrArg List ((M.denEq m h.1).trans (congrArg Ty.den h.2))) xs)else f
def M.owned:M→List Ty
 | .own t=>[t]
 | .owns m=>m.ty::m.owned
 | .pair a b=>a.owned++b.owned
 | _=>[]
def WS (ln:Ty→Bool):List Ty→Bool | []=>true | t::r=>bif ln t then WS ln r else false
def jA {α:Type} (ln:Ty→Bool):(t:Ty)→List V→(t.den→List V→Cmd α)→Cmd α
 | .bool,cs,K=>match cs with | .b x::r=>K x r | _=> .fail
 | .int k,cs,K=>match cs with | .i k' n::r=>(bif decide (k=k')then K n r else Cmd.fail) | _=> .fail
 | .str,cs,K=>match cs with | .s l::r=>K l r | _=> .fail
 | .prod a b,cs,K=>jA ln a cs fun x r=>jA ln b r fun y r' =>K (x,y) r'
 | .unit,cs,K=>K () cs
 | .sl t,cs,K=>match cs with
  | .nl::r=>K [] r
  | .sl t' xs::r=>Ty.castL t' t xs (fun ys=>K ys r) Cmd.fail
  | .own bx vw::r=> .get (BOX+bx) fun
   | .barr t' xs=>Ty.castL t' t xs (fun ys=>bif ln t then K (bF vw ys) r else Cmd.set (BOX+bx) (.bfrz t ys) (K (bF vw ys) r)) Cmd.fail
   | .bfrz t' xs=>Ty.castL t' t xs (fun ys=>K (bF vw ys) r) Cmd.fail
   | .barrs el xs none=>ZA el t xs (fun ys=>bif ln t&&WS ln el.owned then K (bF vw ys) r else Cmd.set (BOX+bx) (.bfrz t ys) (K (bF vw ys) r)) Cmd.fail
   | _=> .fail
  | _=> .fail
def xA:Ty→Bool:=fun _=>false
def a4F {α:Type} (t:Ty) (v:V) (K:List t.den→Cmd α):Cmd α:=match v with
 | .nl=>K []
 | .ne _=>K []
 | .sl t' xs=>Ty.castL t' t xs K Cmd.fail
 | .own bx vw=> .get (BOX+bx) fun
  | .barr t' xs=>Ty.castL t' t xs (fun ys=>K (bF vw ys)) Cmd.fail
  | .bfrz t' xs=>Ty.castL t' t xs (fun ys=>K (bF vw ys)) Cmd.fail
  | _=> .fail
 | _=> .fail
def rpC {α:Type} (t:Ty) (v:V) (K:t.den→Cmd α):Cmd α:=match v with
 | .dp t' x 0=>TS t' t x K .fail
 | .ptr bx 0=> .get (BOX+bx) fun
  | .bfc t' x=>TS t' t x K .fail
  | .bcells bs=>jA xA t bs fun x q=>(match q with
   | []=> .get (BOX+bx) fun
    | .bcells _=>Cmd.set (BOX+bx) (.bfc t x) (K x)
    | _=> .fail
   | _=> .fail)
  | _=> .fail
 | _=> .fail
def KQ {α:Type} :(ts:List Ty)→List ((t:Ty)×t.den)→(MN ts→Cmd α)→Cmd α
 | [],cs,K=>match cs with | []=>K () | _=> .fail
 | [t],cs,K=>match cs with | [⟨t',x⟩]=>TS t' t x K .fail | _=> .fail
 | t::t' ::r,cs,K=>match cs with
  | ⟨u,x⟩::cs=>TS u t x (fun x=>KQ (t' ::r) cs fun y=>K (x,y)) .fail
  | []=> .fail
def ML:(ts:List Ty)→MN ts→List ((t:Ty)×t.den)
 | [],_=>[]
 | [t],x=>[⟨t,x⟩]
 | t::t' ::r,x=>⟨t,x.1⟩::ML (t' ::r) x.2
def exM {α:Type} (ln:Ty→Bool):(m:M)→List V→(m.den→List V→Cmd α)→Cmd α
 | .dat t,cs,K=>jA ln t cs K
 | .own t,cs,K=>match cs with
  | .nl::r=>K [] r
  | .own bx vw::r=> .get (BOX+bx) fun
   | .barr t' xs=>Ty.castL t' t xs (fun ys=>Cmd.set (BOX+bx) .dead (K (bF vw ys) r)) Cmd.fail
   | _=> .fail
  | _=> .fail
 | .pair a b,cs,K=>exM xA a cs fun x r=>exM xA b r fun y r' =>K (x,y) r'
 | .unit,cs,K=>K () cs
 | .box m,cs,K=>match cs with
  | .ptr bx 0::r=> .get (BOX+bx) fun
   | .bcells bs=>Cmd.set (BOX+bx) .dead (exM xA m bs fun x q=>match q with | []=>K x r | _=> .fail)
   | _=> .fail
  | _=> .fail
 | .owns m,cs,K=>match cs with
  | .nl::r=>bif m.el then K [] r else .fail
  | .own bx none::r=> .get (BOX+bx) fun
   | .barrs m' xs none=>a1I m' m xs (fun ys=>Cmd.set (BOX+bx) .dead (K ys r)) Cmd.fail
   | _=> .fail
  | _=> .fail
 | .ownb t,cs,K=>match cs with
  | .nl::r=>K [] r
  | .own bx none::r=> .get (BOX+bx) fun
   | .barr t' xs=>Ty.castL t' t xs (fun ys=>Cmd.set (BOX+bx) (.gone t) (K ys r)) Cmd.fail
   | _=> .fail
  | _=> .fail
 | .rp t,cs,K=>match cs with
  | v::r=>rpC t v fun x=>K x r
  | _=> .fail
 | .fn f ts,cs,K=>match cs with
  | .clos g caps::r=>bif Nat.beq g f then KQ ts caps fun x=>K x r else .fail
  | _=> .fail
 | .ifc t m,cs,K=>match cs with
  | .ifc t' v::r=>bif Nat.beq t' t then exM xA m [v] fun x q=>(match q with | []=>K x r | _=> .fail)else .fail
  | _=> .fail
 | .cell (some none),cs,K=>match cs with
  | .nl::r=>K () r
  | _=> .fail
 | .cell (some (some b)),cs,K=>match cs with
  | .ne true::r=>bif b then K () r else .fail
  | .ne false::r=>bif b then .fail else K () r
  | _=> .fail
 | .cell none,cs,K=>match cs with
  | _::r=>K () r
  | _=> .fail
def cellsOf (v:V):List V:=match v with | .agg cs=>cs | v=>[v]
def uV {α:Type} (n:Nat) (v:V) (K:Cmd α):Cmd α:=.get (BOX+n) fun
 | .undef=> .set (BOX+n) v K
 | _=> .fail
def emM {α:Type} :(m:M)→m.den→Nat→List V→(List V→Nat→Cmd α)→Cmd α
 | .dat t,x,n,r,K=>K (flat t x r) n
 | .own t,xs,n,r,K=>uV n (.barr t xs) (K (.own n none::r) (n+1))
 | .pair a b,x,n,r,K=>emM b x.2 n r fun r' n' =>emM a x.1 n' r' K
 | .unit,_,n,r,K=>K r n
 | .box m,x,n,r,K=>emM m x (n+1) [] fun cs n' =>uV n (.bcells cs) (K (.ptr n 0::r) n')
 | .owns m,xs,n,r,K=>uV n (.barrs m xs none) (.set (BOX+(KJ+n)) (.blen (o8 xs) m.size) (K (.own n none::r) (n+1)))
 | .ownb t,xs,n,r,K=>uV n (.barr t xs) (K (.own n none::r) (n+1))
 | .rp t,x,n,r,K=>K (.dp t x 0::r) n
 | .fn f ts,x,n,r,K=>K (.clos f (ML ts x)::r) n
 | .ifc t m,x,n,r,K=>emM m x n [] fun cs n' =>match cs with | [c]=>K (.ifc t c::r) n' | _=> .fail
 | .cell (some none),_,n,r,K=>K (.nl::r) n
 | .cell (some (some b)),_,n,r,K=>K (.ne b::r) n
 | .cell none,_,n,r,K=>K (.undef::r) n
structure Sig where
 ms:List (Nat×MG)
 als:List (Nat×Nat)
@[reducible] def jo (s:Sig):Type:=U4 (s.ms.map (·.2))
def Ve {α:Type} (ag:Bool) (v:V) (K:List V→Cmd α):Cmd α:=match ag,v with
 | true,.agg cs=>K cs
 | true,_=> .fail
 | false,.agg _=> .fail
 | false,.tup _=> .fail
 | false,.undef=> .fail
 | false,.un=> .fail
 | false,v=>K [v]
def Dq {α:Type} (v:V) (K:List V→Cmd α):Cmd α:=match v with
 | .agg cs=>K cs
 | .tup _=> .fail
 | .undef=> .fail
 | .un=> .fail
 | v=>K [v]
def M.isDat:M→Bool | .dat _=>true | _=>false
def PX {α:Type} (ln:Ty→Bool) (m:MG) (v:V) (K:m.2.den→Cmd α):Cmd α:=
 Ve m.1 v fun cs=>exM ln m.2 cs fun x q=>match q with | []=>K x | _=> .fail
def HY {α:Type} (ln:Ty→Bool):(ms:List MG)→List V→(U4 ms→Cmd α)→Cmd α
 | [],vs,K=>match vs with | []=>K () | _=> .fail
 | [m],vs,K=>match vs with
  | [v]=>PX ln m v K
  | _=> .fail
 | m::m' ::r,vs,K=>match vs with
  | v::vs=>bif m.2.isDat then HY ln (m' ::r) vs fun y=>PX ln m v fun x=>K (x,y)
   else PX ln m v fun x=>HY ln (m' ::r) vs fun y=>K (x,y)
  | []=> .fail
def Vo {α:Type} :List Nat→(List V→Cmd α)→Cmd α
 | [],K=>K []
 | s::r,K=>bif Nat.blt s BOX then .get s fun v=>Vo r fun vs=>K (v::vs)else .fail
def b9z:V→V→Bool
 | .own a none,.own b none=>Nat.beq a b
 | _,_=>false
def a9X {α:Type} :List (Nat×Nat)→Cmd α→Cmd α
 | [],K=>K
 | (n,k)::r,K=>bif Nat.blt n BOX&&Nat.blt k BOX then .get n fun v=> .get k fun u=>bif b9z v u then a9X r K else .fail else .fail
def a6b (s:Sig):Cmd (jo s):=a9X s.als (Vo (s.ms.map (·.1)) fun vs=>HY xA (s.ms.map (·.2)) vs .ret)
def mkV (ag:Bool) (cs:List V):V:=match ag,cs with | true,cs=> .agg cs | false,[v]=>v | false,_=> .undef
def Hz {α:Type} :(ms:List MG)→U4 ms→Nat→(List V→Nat→Cmd α)→Cmd α
 | [],_,n,K=>K [] n
 | [m],x,n,K=>emM m.2 x n [] fun cs n' =>K [mkV m.1 cs] n'
 | m::m' ::r,x,n,K=>emM m.2 x.1 n [] fun cs n' =>Hz (m' ::r) x.2 n' fun vs n'' =>K (mkV m.1 cs::vs) n''
def Ry:List Nat→List V→Cmd Unit
 | [],[]=> .ret ()
 | n::ns,v::vs=>bif Nat.blt n BOX then .set n v (Ry ns vs)else .fail
 | _,_=> .fail
def OU:List Nat→List V→Cmd Unit→Cmd Unit
 | [],[],K=>K
 | n::ns,v::vs,K=>bif Nat.blt n BOX then .set n v (OU ns vs K)else .fail
 | _,_,_=> .fail
def Ws:List (Nat×Nat)→Cmd Unit
 | []=> .ret ()
 | (n,k)::r=>bif Nat.blt n BOX&&Nat.blt k BOX then .get k fun v=> .set n v (Ws r)else .fail
def a5X (s:Sig) (x:jo s) (nb lim:Nat):Cmd Unit:=
 Hz (s.ms.map (·.2)) x nb fun vs n=>bif Nat.ble n lim then OU (s.ms.map (·.1)) vs (Ws s.als)else .fail
def Zo:Value→V
 | .bool b=> .b b
 | .int k n=> .i k n
 | .string s=> .s s.data.toList
 | .slice none 0 0=> .nl
 | _=> .undef
def oz {α:Type} (x:Operand) (K:V→Cmd α):Cmd α:=
 match x with
 | .tmp t=>bif Nat.blt t BOX then .get t K else .fail
 | .const v=>K (Zo v)
 | .global g=>K (.glob g)
 | .func f=>K (.fnv f)
def NL {α:Type} :List Operand→(List V→Cmd α)→Cmd α
 | [],K=>K []
 | x::r,K=>oz x fun v=>NL r fun vs=>K (v::vs)
def PR (n:Nat) (cs:List V):Option (List V):=match n,cs with
 | 0,cs=>some cs
 | n+1,_::cs=>PR n cs
 | _+1,[]=>none
def YX {R:Type u} (n:Nat) (cs:List V) (K:List V→R) (f:R):R:=match n,cs with
 | 0,_=>K []
 | n+1,c::cs=>YX n cs (fun r=>K (c::r)) f
 | _+1,[]=>f
def Tz {R:Type u} (off n:Nat) (cs:List V) (K:List V→R) (f:R):R:=match PR off cs with | some r=>YX n r K f | none=>f
def LQ {R:Type u} (off:Nat) (vs cs:List V) (K:List V→R) (f:R):R:=match off,vs,cs with
 | 0,[],cs=>K cs
 | 0,v::vs,_::cs=>LQ 0 vs cs (fun r=>K (v::r)) f
 | n+1,vs,c::cs=>LQ n vs cs (fun r=>K (c::r)) f
 | _,_,[]=>f
def yX:Operand→Bool
 | .const (.int _ n)=>decide (n=0)
 | _=>true
def Cj:Operand→Bool
 | .const (.int _ n)=>decide (n<0)
 | _=>true
def eq1:V→V→Option Bool
 | .b x,.b y=>some (dB x y)
 | .i j x,.i k y=>bif decide (j=k)then some (ieq x y)else none
 | .s x,.s y=>some (seq x y)
 | _,_=>none
def uG:List V→List V→Option Bool
 | [],[]=>some true
 | a::r,b::q=>match eq1 a b with
  | none=>none
  | some e=>match r,q with
   | [],[]=>some e
   | _,_=>(match uG r q with | some e' =>some (aH e e') | none=>none)
 | _,_=>none
def vK:List Ty→List V→Bool
 | [],[]=>true
 | .bool::ts,.b _::cs=>vK ts cs
 | .int k::ts,.i k' _::cs=>decide (k=k')&&vK ts cs
 | .str::ts,.s _::cs=>vK ts cs
 | _,_=>false
def Ac (n:Nat):List Nat→Bool | []=>false | k::r=>bif Nat.beq k n then true else Ac n r
def a6F {α:Type} (E:Env) (t:Nat) (op:BinOp) (b:Bool) (K:V→Cmd α):Cmd α:=
 match Y9 E.tt t with
 | some i=>match i.td,op with
  | .sl _,.eql=>K (.b b)
  | .sl _,.neq=>K (.b (D6 b))
  | _,_=> .fail
 | none=> .fail
def He {α:Type} (E:Env) (t:Nat) (op:BinOp) (yc:Operand) (x y:V) (K:V→Cmd α):Cmd α:=
 match x,y with
 | .i k a,.i k' b=>
  match op with
  | .shl=>bif Cj yc then Cmd.opt (Qn k a b) fun r=>K (.i k r)else K (.i k (a6m k a b))
  | .shr=>bif Cj yc then Cmd.opt (Qo k a b) fun r=>K (.i k r)else K (.i k (kF k a b))
  | _=>
  bif decide (k=k')then
   match op with
   | .add=>K (.i k (x8 k a b))
   | .sub=>K (.i k (G8 k a b))
   | .mul=>K (.i k (N9 k a b))
   | .quo=>bif yX yc then Cmd.opt (iI k a b) fun r=>K (.i k r)else K (.i k (X4 k a b))
   | .rem=>bif yX yc then Cmd.opt (kQ a b) fun r=>K (.i k r)else K (.i k (X5 a b))
   | .and=>K (.i k (XB k a b))
   | .or=>K (.i k (ior k a b))
   | .xor=>K (.i k (a6n k a b))
   | .andNot=>K (.i k (a1Q k a b))
   | .eql=>K (.b (ieq a b))
   | .neq=>K (.b (D6 (ieq a b)))
   | .lss=>K (.b (ilt a b))
   | .leq=>K (.b (ile a b))
   | .gtr=>K (.b (ilt b a))
   | .geq=>K (.b (ile b a))
   | _=> .fail
  else .fail
 | .s a,.s b=>
  match op with
  | .add=>Cmd.opt (d4N a b) fun r=>K (.s r)
  | .eql=>K (.b (seq a b))
  | .neq=>K (.b (D6 (seq a b)))
  | .lss=>K (.b (slt a b))
  | _=> .fail
 | .b a,.b b=>
  match Y9 E.tt t with
  | some i=>match i.td,op with
   | .bool,.eql=>K (.b (dB a b))
   | .bool,.neq=>K (.b (D6 (dB a b)))
   | _,_=> .fail
  | none=> .fail
 | .agg xs,.agg ys=>
  match Y9 E.eqs t with
  | some sh=>bif vK sh xs&&vK sh ys then(match op,uG xs ys with
   | .eql,some e=>K (.b e)
   | .neq,some e=>K (.b (D6 e))
   | _,_=> .fail)else .fail
  | none=> .fail
 | .nl,.nl=>a6F E t op true K
 | .ne b,.nl=>a6F E t op b K
 | .sl _ xs,.nl=> .br (ieq (o8 xs) 0) .fail (a6F E t op false K)
 | _,_=> .fail
def unC {α:Type} (op:UnOp) (x:V) (K:V→Cmd α):Cmd α:=
 match op,x with
 | .neg,.i k a=>K (.i k (G8 k 0 a))
 | .xor,.i k a=>K (.i k (a6n k (bif k.signed then -1 else k.max) a))
 | .not,.b a=>K (.b (D6 a))
 | _,_=> .fail
def UA (E:Env) (t:Nat):Bool:=bif Nat.blt t E.nt then !(Ac t E.kp)else false
def aC (E:Env) (d:Option Tmp) (v:V):Cmd Unit:=match d with | some t=>bif UA E t then .set t v (.ret ())else .fail | none=> .ret ()
def J8 (q:Nat) (d:Option Tmp):Nat:=match d with | some t=>CB*q+64*t | none=>CB*q+999936
def tiC {α:Type} (E:Env) (t:Nat) (K:TI→Cmd α):Cmd α:=match Y9 E.tt t with | some i=>K i | none=> .fail
def eH:TD→Bool | .struct _ | .arr _ _=>true | _=>false
def JH {α:Type} (E:Env) (t:Nat) (p:V) (K:V→Cmd α):Cmd α:=
 tiC E t fun i=>match p with
 | .ptr bx off=> .get (BOX+bx) fun
  | .bcells cs=>Tz off i.size cs (fun r=>K (mkV (eH i.td) r)) Cmd.fail
  | .bfc u x=>Tz off i.size (flat u x []) (fun r=>K (mkV (eH i.td) r)) Cmd.fail
  | _=> .fail
 | .ep bx idx off=> .get (BOX+bx) fun
  | .barr u xs=>Cmd.opt (I9 xs idx) fun x=>Tz off i.size (flat u x []) (fun r=>K (mkV (eH i.td) r)) Cmd.fail
  | .bfrz u xs=>Cmd.opt (I9 xs idx) fun x=>Tz off i.size (flat u x []) (fun r=>K (mkV (eH i.td) r)) Cmd.fail
  | .barrs m xs _=>Cmd.opt (I9 xs idx) fun x=>Tz off i.size (Ez m x []) (fun r=>K (mkV (eH i.td) r)) Cmd.fail
  | _=> .fail
 | .dp u x off=>Tz off i.size (flat u x []) (fun r=>K (mkV (eH i.td) r)) Cmd.fail
 | _=> .fail
def QJ {R:Type u} :(m:M)→Nat→m.den→(V→R)→R→R
 | .own t,off,xs,K,f=>bif Nat.beq off 0 then K (.barr t xs)else f
 | .owns m,off,xs,K,f=>bif Nat.beq off 0 then K (.barrs m xs none)else f
 | .pair a b,off,x,K,f=>bif Nat.blt off a.size then QJ a off x.1 K f else QJ b (off -a.size) x.2 K f
 | _,_,_,_,f=>f
def ZM {R:Type u} :(m:M)→Nat→V→m.den→(m.den→R)→R→R
 | .own t,off,v,_,K,f=>bif Nat.beq off 0 then(match v with | .barr t' ys=>Ty.castL t' t ys K f | .nl=>K [] | _=>f)else f
 | .owns m,off,v,_,K,f=>bif Nat.beq off 0 then(match v with | .barrs m' ys none=>a1I m' m ys K f | .nl=>K [] | _=>f)else f
 | .pair a b,off,v,x,K,f=>bif Nat.blt off a.size then ZM a off v x.1 (fun y=>K (y,x.2)) f else ZM b (off -a.size) v x.2 (fun y=>K (x.1,y)) f
 | _,_,_,_,_,f=>f
def a3T {α:Type} :(m:M)→Nat→List V→m.den→(m.den→Cmd α)→Cmd α
 | .dat t,off,vs,x,K=>bif t.flat then LQ off vs (flat t x []) (fun r=>jA xA t r fun y q=>match q with | []=>K y | _=> .fail) .fail else .fail
 | .pair a b,off,vs,x,K=>bif Nat.blt off a.size then a3T a off vs x.1 (fun y=>K (y,x.2))else a3T b (off -a.size) vs x.2 (fun y=>K (x.1,y))
 | _,_,_,_,_=> .fail
def M.ownAt:M→Nat→Bool
 | .own _,off=>Nat.beq off 0
 | .owns _,off=>Nat.beq off 0
 | .pair a b,off=>bif Nat.blt off a.size then a.ownAt off else b.ownAt (off -a.size)
 | _,_=>false
def b1R {α:Type} (E:Env) (d:Option Tmp) (nm t:Nat) (p:V) (K:V→Cmd α):Cmd α:=
 match p with
 | .ep bx idx off=> .get (BOX+bx) fun
  | .barrs m xs none=>bif m.ownAt off then tiC E t fun i=>(bif Nat.beq i.size 1&&!eH i.td then
     (bif Ac (match d with | some d=>d | none=>BOX) E.tk then
      Cmd.opt (I9 xs idx) fun x=>QJ m off x (fun v=>Cmd.set (BOX+bx) (.barrs m xs (some (idx,off))) (uV nm v (K (.own nm none)))) .fail
     else jA xA (.sl m.ty) [.own bx none] fun _ _=>JH E t p K)else .fail)
    else JH E t p K
  | _=>JH E t p K
 | _=>JH E t p K
def ZJ (h:Option (Nat×Nat)) (idx off:Nat):Bool:=match h with | none=>true | some (i,o)=>bif Nat.beq o off then IG i idx else false
def WH (bx idx off:Nat) (m:M) (xs:List m.den) (hole:Option (Nat×Nat)) (v:V) (K:Cmd Unit):Cmd Unit:=
 .br (ZJ hole idx off) (Cmd.opt (I9 xs idx) fun x=>ZM m off v x (fun y=>Cmd.set (BOX+bx) (.barrs m (S9 xs idx y) none) K) .fail) .fail
def c8X:V→Bool | .barr ..=>true | .barrs _ _ none=>true | _=>false
def a9C (E:Env) (t:Nat) (p v:V):Cmd Unit:=
 tiC E t fun i=>match p with
 | .ptr bx off=> .get (BOX+bx) fun
  | .bcells cs=>Dq v fun vs=>bif Nat.beq vs.length i.size then LQ off vs cs (fun r=>Cmd.set (BOX+bx) (.bcells r) (.ret ())) Cmd.fail else .fail
  | _=> .fail
 | .ep bx idx off=> .get (BOX+bx) fun
  | .barr u xs=>Cmd.opt (I9 xs idx) fun x=>Dq v fun vs=>bif Nat.beq vs.length i.size then LQ off vs (flat u x []) (fun r=>
    jA xA u r fun y q=>match q with
     | []=> .get (BOX+bx) fun
      | .barr u' xs' =>Ty.castL u' u xs' (fun xs' =>Cmd.set (BOX+bx) (.barr u (S9 xs' idx y)) (.ret ())) Cmd.fail
      | _=> .fail
     | _=> .fail) Cmd.fail else .fail
  | .barrs m xs hole=>bif m.ownAt off&&Nat.beq i.size 1&&!eH i.td then(match v with
    | .nl=>WH bx idx off m xs hole .nl (.ret ())
    | .own b2 none=> .get (BOX+b2) fun w=>bif c8X w then Cmd.set (BOX+b2) .dead (.get (BOX+bx) fun
     | .barrs m xs hole=>WH bx idx off m xs hole w (.ret ())
     | _=> .fail)else .fail
    | _=> .fail)
   else Dq v fun vs=>bif Nat.beq vs.length i.size then Cmd.opt (I9 xs idx) fun x=>a3T m off vs x fun y=>Cmd.set (BOX+bx) (.barrs m (S9 xs idx y) hole) (.ret ())else .fail
  | _=> .fail
 | _=> .fail
def EZ (E:Env) (t f:Nat):Option (Nat×Nat×Bool):=
 match Y9 E.tt t with
 | some i=>match i.td with
  | .struct fs=>match fs[f]? with
   | some (ft,off)=>match Y9 E.tt ft with | some j=>bif Nat.beq j.size 0 then none else some (off,j.size,eH j.td) | none=>none
   | none=>none
  | _=>none
 | none=>none
def XJ (vw:Option (Nat×Nat)):Nat:=match vw with | none=>0 | some (lo,_)=>lo
def c0U (vw:Option (Nat×Nat)) (n:Nat):Nat:=match vw with | none=>n | some (lo,_)=>lo+n
theorem b0D (vw:Option (Nat×Nat)) (n:Nat):c0U vw n=XJ vw+n:=by cases vw <;> simp[c0U,XJ]
def Dw (E:Env) (t:Nat):Option (Bool×Nat×Nat):=
 match Y9 E.tt t with
 | some i=>match i.td with
  | .sl e=>match Y9 E.tt e with | some j=>some (false,0,j.size) | none=>none
  | .arr n e=>match Y9 E.tt e with | some j=>some (true,n,j.size) | none=>none
  | _=>none
 | none=>none
def Qm {α:Type} (E:Env) (t:Nat) (x ix:V) (K:V→Cmd α):Cmd α:=
 match ix,Dw E t with
 | .i _ n,some (false,_,sz)=>match x with
  | .sl u xs=>bif Nat.beq sz u.size then Cmd.opt (lat xs n) fun y=>K (.dp u y 0)else .fail
  | .own bx vw=> .get (BOX+(KJ+bx)) fun
   | .blen ln sz' =>(match vw with | none=>bif Nat.beq sz sz' then .br (inb n ln) (K (.ep bx (toN n) 0)) .fail else .fail | _=> .fail)
   | _=> .get (BOX+bx) fun
   | .barr u xs=>bif Nat.beq sz u.size then Cmd.opt (lat (bF vw xs) n) fun _=>K (.ep bx (c0U vw (toN n)) 0)else .fail
   | .bfrz u xs=>bif Nat.beq sz u.size then Cmd.opt (lat (bF vw xs) n) fun y=>K (.dp u y 0)else .fail
   | .barrs m xs _=>(match vw with | none=>bif Nat.beq sz m.size then Cmd.opt (lat xs n) fun _=>K (.ep bx (toN n) 0)else .fail | _=> .fail)
   | _=> .fail
  | _=> .fail
 | .i _ n,some (true,l,sz)=>match x with
  | .glob g=>match Y9 E.gl g with
   | some ⟨u,xs⟩=>bif Nat.beq sz u.size&&Nat.beq l xs.length then Cmd.opt (lat xs n) fun y=>K (.dp u y 0)else .fail
   | none=> .fail
  | _=> .fail
 | _,_=> .fail
def c8Y {α:Type} (td:TD) (x:V) (K:V→Cmd α):Cmd α:=
 match td,x with
 | .str,.s l=>K (.i .i64 (o8 l))
 | .sl _,.sl _ xs=>K (.i .i64 (o8 xs))
 | .sl _,.nl=>K (.i .i64 0)
 | .sl _,.own bx vw=> .get (BOX+(KJ+bx)) fun
  | .blen ln _=>(match vw with | none=>K (.i .i64 ln) | _=> .fail)
  | _=> .get (BOX+bx) fun
  | .barr _ xs=>K (.i .i64 (o8 (bF vw xs)))
  | .bfrz _ xs=>K (.i .i64 (o8 (bF vw xs)))
  | .barrs _ xs _=>(match vw with | none=>K (.i .i64 (o8 xs)) | _=> .fail)
  | _=> .fail
 | _,_=> .fail
def vW (d:Int):Option V→Option Int
 | none=>some d
 | some (.i _ n)=>some n
 | some _=>none
def MF {α:Type} (E:Env) (t:Nat) (x:V) (lo hi:Option V) (K:V→Cmd α):Cmd α:=
 match x with
 | .s l=>tiC E t fun i=>match i.td,vW 0 lo,vW (o8 l) hi with
  | .str,some a,some b=>Cmd.opt (Fj l a b) fun r=>K (.s r)
  | _,_,_=> .fail
 | .sl u l=>match Dw E t,vW 0 lo,vW (o8 l) hi with
  | some (false,_,sz),some a,some b=>bif Nat.beq sz u.size then Cmd.opt (Fj l a b) fun r=>K (.sl u r)else .fail
  | _,_,_=> .fail
 | .own bx none=> .get (BOX+bx) fun
  | .barr u xs=>match Dw E t,vW 0 lo,vW (o8 xs) hi with
   | some (false,_,sz),some a,some b=>bif Nat.beq sz u.size then .br (jm a b (o8 xs)) (K (.own bx (some (toN a,toN b)))) .fail else .fail
   | _,_,_=> .fail
  | .bfrz u xs=>match Dw E t,vW 0 lo,vW (o8 xs) hi with
   | some (false,_,sz),some a,some b=>bif Nat.beq sz u.size then .br (jm a b (o8 xs)) (K (.own bx (some (toN a,toN b)))) .fail else .fail
   | _,_,_=> .fail
  | _=> .fail
 | _=> .fail
def Ir (E:Env) (t:Nat):Option (Nat×Ty):=
 match Y9 E.tt t with
 | some i=>match i.td with
  | .sl e=>match Y9 E.tt e with
   | some j=>match j.ty with | some u=>bif (Nat.beq u.size j.size&&Nat.ble j.bytes 65536)then some (e,u)else none | none=>none
   | none=>none
  | _=>none
 | none=>none
def a1F (E:Env) (nm:Nat) (t:Nat) (x y:V) (K:V→Cmd Unit):Cmd Unit:=
 match Ir E t with
 | none=> .fail
 | some (_,u)=>match Y9 E.om t with
  | none=>
   a4F u y fun ys=>
   match x with
   | .nl=>Cmd.opt (X9 [] ys) fun zs=>uV nm (.barr u zs) (K (.own nm none))
   | .own bx vw=> .get (BOX+bx) fun
    | .barr u' xs=>Ty.castL u' u xs (fun xs=>Cmd.opt (X9 (bF vw xs) ys) fun zs=>Cmd.set (BOX+bx) .dead (uV nm (.barr u zs) (K (.own nm none)))) Cmd.fail
    | _=> .fail
   | _=> .fail
  | some m=>bif Nat.beq m.size u.size then exM xA (.owns m) [y] fun ys _=>exM xA (.owns m) [x] fun xs _=>Cmd.opt (X9 xs ys) fun zs=>uV nm (.barrs m zs none) (K (.own nm none))else .fail
def sS {α:Type} (u:Ty):List (Nat×V)→Nat→Nat→(List u.den→Cmd α)→Cmd α
 | [],_,0,K=>K []
 | (i,v)::r,n,m+1,K=>bif Nat.beq i n then Dq v fun cs=>jA xA u cs fun x q=>match q with | []=>sS u r (n+1) m fun xs=>K (x::xs) | _=> .fail else .fail
 | _,_,_,_=> .fail
def oG {α:Type} (m:M):List (Nat×V)→Nat→Nat→(List m.den→Cmd α)→Cmd α
 | [],_,0,K=>K []
 | (i,v)::r,n,k+1,K=>bif Nat.beq i n then Dq v fun cs=>exM xA m cs fun x q=>match q with | []=>oG m r (n+1) k fun xs=>K (x::xs) | _=> .fail else .fail
 | _,_,_,_=> .fail
def a1B (E:Env):List (Nat×Nat)→Bool
 | []=>true
 | (t,_)::r=>match Y9 E.tt t with | some _=>a1B E r | none=>false
def xK {α:Type} (E:Env) (t:Nat):List (Nat×V)→List V→(List V→Cmd α)→Cmd α
 | [],cs,K=>K cs
 | (f,v)::r,cs,K=>match EZ E t f with
  | some (off,n,_)=>Dq v fun vs=>bif Nat.beq vs.length n then LQ off vs cs (fun cs' =>xK E t r cs' K) .fail else .fail
  | none=> .fail
def V9 {α:Type} :List MG→List V→List V→Cmd α→Cmd α
 | (_,.box _)::ms,.ptr bx _::vs,.agg cs::os,K=> .get (BOX+bx) fun
  | .dead=>Cmd.set (BOX+bx) (.bcells cs) (V9 ms vs os K)
  | _=> .fail
 | (_,.box _)::_,_,_,_=> .fail
 | (_,.ifc _ (.box _))::ms,.ifc _ (.ptr bx _)::vs,.agg cs::os,K=> .get (BOX+bx) fun
  | .dead=>Cmd.set (BOX+bx) (.bcells cs) (V9 ms vs os K)
  | _=> .fail
 | (_,.ifc _ (.box _))::_,_,_,_=> .fail
 | (_,.ownb _)::ms,.own bx none::vs,.own nm none::os,K=> .get (BOX+nm) fun
  | .barr u xs=>Cmd.set (BOX+nm) .dead (.get (BOX+bx) fun
   | .gone t=>Ty.castL u t xs (fun xs=>Cmd.set (BOX+bx) (.barr t xs) (V9 ms vs os K)) .fail
   | _=> .fail)
  | _=> .fail
 | (_,.ownb _)::ms,.nl::vs,.own nm none::os,K=>Cmd.set (BOX+nm) .dead (V9 ms vs os K)
 | (_,.ownb _)::_,_,_,_=> .fail
 | _::ms,_::vs,os,K=>V9 ms vs os K
 | [],[],[],K=>K
 | _,_,_,_=> .fail
def Ty.occ (t:Ty):Ty→Bool
 | .sl u=>decide (t=u) || Ty.occ t u
 | .prod a b=>Ty.occ t a || Ty.occ t b
 | _=>false
def NJ (t:Ty):List Ty→Bool | []=>false | u::r=>decide (t=u) || Ty.occ t u || NJ t r
def M.occ (t:Ty):M→Bool
 | .dat u=>Ty.occ t u
 | .own u=>Ty.occ t u
 | .pair a b=>a.occ t || b.occ t
 | .unit=>false
 | .box m=>m.occ t
 | .owns m=>m.occ t
 | .ownb u=>Ty.occ t u
 | .rp u=>decide (t=u) || Ty.occ t u
 | .fn _ ts=>NJ t ts
 | .ifc _ m=>m.occ t
 | .cell _=>false
def FB (t:Ty):List MG→Bool | []=>false | m::r=>m.2.occ t || FB t r
def Vu (s:FSpec):Ty→Bool:=fun t=> !(FB t s.rs || FB t s.outs)
def Ej:Nat→List V→Option (List V×List V)
 | 0,vs=>some ([],vs)
 | n+1,v::vs=>match Ej n vs with | some (a,b)=>some (v::a,b) | none=>none
 | _+1,[]=>none
def Bo:List V→Bool | []=>false | .tup _::_=>true | _::r=>Bo r
def b0W:List V→V | [v]=>v | vs=> .tup vs
def Qc:List MG→List V→Bool
 | (_,.fn g _)::ms,.clos f _::vs=>Nat.beq f g&&Qc ms vs
 | (_,.ifc t _)::ms,.ifc t' _::vs=>Nat.beq t t' &&Qc ms vs
 | _::ms,_::vs=>Qc ms vs
 | _,_=>true
def Yi:List (Nat×FSpec)→Nat→List V→Option FSpec
 | [],_,_=>none
 | (g,s)::r,f,vs=>bif Nat.beq g f&&Qc s.ps vs then some s else Yi r f vs
def TR (E:Env) (q:Nat) (d:Option Tmp) (f:Nat) (vs:List V):Cmd Unit:=
 match Yi E.fs f vs with
 | none=> .fail
 | some s=>
  HY (Vu s) s.ps vs fun x=>Cmd.opt (s.fn x) fun r=>
   Hz (s.rs++s.outs) r (J8 q d) fun ws n' =>bif Nat.ble n' (J8 q d+64)then(match Ej s.rs.length ws with
    | some (a,o)=>bif Bo a then .fail else V9 s.ps vs o (aC E d (b0W a))
    | none=> .fail)else .fail
def vU {α:Type} :List MG→List V→(List ((t:Ty)×t.den)→Cmd α)→Cmd α
 | (_,.rp t)::ms,v::vs,K=>rpC t v fun x=>vU ms vs fun cs=>K (⟨t,x⟩::cs)
 | [],[],K=>K []
 | _,_,_=> .fail
def c8T (c:(t:Ty)×t.den):V:=.dp c.1 c.2 0
def QA:List ((Nat×String)×Nat×Option Nat)→Nat→String→Option (Nat×Option Nat)
 | [],_,_=>none
 | ((t,n),r)::l,u,m=>bif Nat.beq t u&&(n==m)then some r else QA l u m
def NH:M→List V→Bool
 | .dat _,_=>true
 | .unit,_=>true
 | .own _,cs=>match cs with | .nl::_=>true | _=>false
 | .owns _,cs=>match cs with | .nl::_=>true | _=>false
 | .pair a b,cs=>match PR a.size cs with | some r=>bif NH a cs then NH b r else false | none=>false
 | _,_=>false
def a3F (E:Env) (t:Nat) (m:M):Bool:=
 match Ir E t with
 | some (e,_)=>match Y9 E.tt e with | some j=>bif Nat.beq j.zero.length j.size then NH m j.zero else false | none=>false
 | none=>false
def Rw:Operand→Operand→Bool
 | .tmp a,.tmp b=>Nat.beq a b
 | _,_=>false
def Y1 (E:Env) (q:Nat) (o:Oper):Cmd Unit:=
 match o.op with
 | .move x | .assign x=>oz x fun v=>aC E o.dst v
 | .pick c a b=>oz c fun
  | .b t=>bif t then oz a fun va=>aC E o.dst va else oz b fun vb=>aC E o.dst vb
  | _=> .fail
 | .alloc t=>tiC E t fun i=>bif Nat.beq i.zero.length i.size then uV (J8 q o.dst) (.bcells i.zero) (aC E o.dst (.ptr (J8 q o.dst) 0))else .fail
 | .box _ x=>oz x fun v=>Dq v fun cs=>uV (J8 q o.dst) (.bcells cs) (aC E o.dst (.ptr (J8 q o.dst) 0))
 | .build t ps=>tiC E t fun i=>match i.td with
  | .struct fs=>bif a1B E fs&&Nat.beq i.zero.length i.size then(NL (ps.toList.map (·.2)) fun vs=>
    xK E t ((ps.toList.map (·.1)).zip vs) i.zero (fun cs=>aC E o.dst (.agg cs)))else .fail
  | _=> .fail
 | .buildSlice t n ps=>match Ir E t with
  | some (_,u)=>bif Nat.ble (n*u.size) 16777216 then(NL (ps.toList.map (·.2)) fun vs=>match Y9 E.om t with
    | none=>sS u ((ps.toList.map (·.1)).zip vs) 0 n fun xs=>uV (J8 q o.dst) (.barr u xs) (aC E o.dst (.own (J8 q o.dst) none))
    | some m=>bif Nat.beq m.size u.size&&m.el then oG m ((ps.toList.map (·.1)).zip vs) 0 n fun xs=>uV (J8 q o.dst) (.barrs m xs none) (aC E o.dst (.own (J8 q o.dst) none))else .fail)else .fail
  | none=> .fail
 | .load t x=>oz x fun p=>b1R E o.dst (J8 q o.dst) t p fun v=>aC E o.dst v
 | .store t x y=>match o.dst with | none=>oz x fun p=>oz y fun v=>a9C E t p v | some _=> .fail
 | .binOp op t x y _=>oz x fun a=>oz y fun b=>He E t op y a b fun v=>aC E o.dst v
 | .unOp op _ x=>oz x fun a=>unC op a fun v=>aC E o.dst v
 | .convert src t x=>oz x fun a=>tiC E src fun j=>tiC E t fun i=>match a,i.td with
  | .i _ n,.int k=>aC E o.dst (.i k (wrap k n))
  | .s l,.str=>aC E o.dst (.s l)
  | _,.str=>(match j.td with
   | .sl e=>tiC E e fun k=>(match k.td with
    | .int .u8=>a4F (.int .u8) a fun xs=>aC E o.dst (.s (a5S xs))
    | _=> .fail)
   | _=> .fail)
  | _,_=> .fail
 | .makeSlice t l c=>match Y9 E.om t with
  | some m=>(match Ir E t with
   | some (_,u)=>oz l fun
    | .i _ n=>bif Rw l c&&Nat.beq m.size u.size&&a3F E t m then(if h:m.el=true∧m.ty=u then Cmd.opt (gU n (m.zero h.1)) fun xs=>uV (J8 q o.dst) (.barrs m xs none) (.set (BOX+(KJ+J8 q o.dst)) (.blen (o8 xs) m.size) (aC E o.dst (.own (J8 q o.dst) none)))else .fail)else .fail
    | _=> .fail
   | none=> .fail)
  | none=>match Ir E t with
  | some (_,u)=>oz l fun
   | .i _ n=>bif Rw l c then
     Cmd.opt (gU n u.zero) fun xs=>uV (J8 q o.dst) (.barr u xs) (aC E o.dst (.own (J8 q o.dst) none))
    else oz c fun
     | .i _ k=>Cmd.br (jm n k 1073741824) (Cmd.opt (gU n u.zero) fun xs=>uV (J8 q o.dst) (.barr u xs) (aC E o.dst (.own (J8 q o.dst) none))) .fail
     | _=> .fail
   | _=> .fail
  | none=> .fail
 | .slice t x lo hi none=>oz x fun v=>NL (lo.toList++hi.toList) fun bs=>
   match lo,hi,bs with
   | none,none,[]=>MF E t v none none fun r=>aC E o.dst r
   | some _,none,[a]=>MF E t v (some a) none fun r=>aC E o.dst r
   | none,some _,[b]=>MF E t v none (some b) fun r=>aC E o.dst r
   | some _,some _,[a,b]=>MF E t v (some a) (some b) fun r=>aC E o.dst r
   | _,_,_=> .fail
 | .fieldAddr t x f=>oz x fun p=>match EZ E t f with
  | some (off,_,_)=>match p with
   | .ptr bx o' =>aC E o.dst (.ptr bx (o' +off))
   | .ep bx ix o' =>aC E o.dst (.ep bx ix (o' +off))
   | .dp u y o' =>aC E o.dst (.dp u y (o' +off))
   | _=> .fail
  | none=> .fail
 | .field t x f=>oz x fun p=>match EZ E t f with
  | some (off,n,ag)=>Ve true p fun ps=>Tz off n ps (fun cs=>aC E o.dst (mkV ag cs)) Cmd.fail
  | none=> .fail
 | .indexAddr t x ix=>oz x fun v=>oz ix fun n=>Qm E t v n fun r=>aC E o.dst r
 | .index t x ix=>oz x fun v=>oz ix fun n=>tiC E t fun i=>match i.td,v,n with
  | .str,.s l,.i _ k=>Cmd.opt (sat l k) fun c=>aC E o.dst (.i .u8 c)
  | _,_,_=> .fail
 | .extract x n=>oz x fun
  | .tup vs=>match vs[n]? with | some v=>aC E o.dst v | none=> .fail
  | _=> .fail
 | .nilCheck x=>oz x fun v=>match v with
  | .ptr .. | .ep .. | .dp .. | .glob _=>aC E o.dst v
  | _=> .fail
 | .call c=>NL c.args.toList fun vs=>match c.callee with
  | .builtin .len=>(match c.argTypes.toList,vs with
   | t::_,[x]=>tiC E t fun i=>c8Y i.td x fun v=>aC E o.dst v
   | _,_=> .fail)
  | .builtin .append=>(match c.argTypes.toList,vs with
   | [t,t'],[x,y]=>bif Nat.beq t t' then a1F E (J8 q o.dst) t x y fun v=>aC E o.dst v else .fail
   | _,_=> .fail)
  | .builtin .min=>(match vs with | [.i k a,.i k' b]=>bif decide (k=k')then aC E o.dst (.i k (jf a b))else .fail | _=> .fail)
  | .builtin .max=>(match vs with | [.i k a,.i k' b]=>bif decide (k=k')then aC E o.dst (.i k (fO a b))else .fail | _=> .fail)
  | .value (.func f)=>TR E q o.dst f vs
  | .value x=>oz x fun
   | .clos f caps=>TR E q o.dst f (vs++caps.map c8T)
   | _=> .fail
  | .invoke x n=>oz x fun
   | .ifc t v=>(match QA E.ms t n with
    | some (f,none)=>TR E q o.dst f (v::vs)
    | some (f,some e)=>JH E e v fun r=>TR E q o.dst f (r::vs)
    | none=> .fail)
   | _=> .fail
  | _=> .fail
 | .makeFunc (.func f) first caps=>bif Nat.beq first.size 0 then(match Y9 E.fs f with
   | some s=>NL caps.toList fun vs=>vU (s.ps.drop (s.ps.length -vs.length)) vs fun cs=>aC E o.dst (.clos f cs)
   | none=> .fail)else .fail
 | .makeInterface t x=>tiC E t fun i=>(match i.td with
  | .bool | .int _ | .str | .ptr _=>oz x fun v=>(match v with
   | .b .. | .i .. | .s .. | .ptr ..=>aC E o.dst (.ifc t v)
   | _=> .fail)
  | _=> .fail)
 | .typeAssert x _ t ok=>tiC E t fun i=>(match i.td with
  | .other=> .fail
  | _=>oz x fun
   | .ifc t' v=>bif Nat.beq t' t then aC E o.dst (bif ok then .tup [v,.b true]else v)else .fail
   | _=> .fail)
 | _=> .fail
def sO (E:Env) (q:Nat) (ops:List Oper) (o:Oper):Cmd Unit:=
 match o.guard with
 | none=>Y1 E q o
 | some (j,want)=>match ops[j]? with
  | some p=>match p.dst with
   | some t=>bif Nat.blt t BOX then(.get t fun
    | .b y=>bif (bif want then y else !y)then Y1 E q o else aC E o.dst .un
    | .un=>aC E o.dst .un
    | _=> .fail)else .fail
   | none=> .fail
  | none=> .fail
def VY {R:Type} (t:Nat) (s:St) (K:St→Option R):Option R:=
 (bg s t).force fun
  | .b y=>l7 y (K (.kv t (.b true)::s)) (K (.kv t (.b false)::s))
  | .un=>K s
  | _=>none
def c8S (ops:List Oper) (o:Oper):Option Nat:=
 match o.guard with
 | some (j,_)=>match ops[j]? with | some p=>p.dst | none=>none
 | none=>match o.op with | .pick (.tmp t) _ _=>some t | _=>none
abbrev Trs:=List Tr
def IY {R:Type} (E:Env) (q:Nat) (all:List Oper):List Oper→St→Trs→(St→Trs→Option R)→Option R
 | [],s,t,K=>K s t
 | o::r,s,t,K=>match c8S all o with
  | none=>(sO E q all o).runK s ([],[]) fun _ s' tr=>IY E q all r s' (tr::t) K
  | some p=>VY p s fun s=>(sO E q all o).runK s ([],[]) fun _ s' tr=>IY E q all r s' (tr::t) K
def a3V (a b:List Nat):Bool:=match a with | []=>true | k::r=>bif Ac k b then false else a3V r b
def ZY (ordered:Bool) (x y:Tr):Bool:=bif ordered then true else(a3V x.2 y.1&&a3V x.2 y.2&&a3V x.1 y.2)
def OL (mask:Nat) (y:Tr):Trs→Nat→Bool
 | [],_=>true
 | x::r,i=>ZY (Nat.testBit mask (i -1)) x y&&OL mask y r (i -1)
def QI:List Nat→Trs→Bool
 | m::ms,y::r=>OL m y r r.length&&QI ms r
 | [],[]=>true
 | _,_=>false
inductive Flow (ρ:Type) where
 | nm | ex (id:Nat) | rt (r:ρ)
def Hy (acc:List Nat) (n:Nat):List Edge→Nat→Option Nat
 | [],m=>some m
 | e::r,m=>match e.ground with
  | .textOnly _=>Hy acc n r m
  | .gcOnly _=>Hy acc n r m
  | _=>bif Nat.blt e.on n then Hy acc n r (m ||| 2^e.on ||| acc.getD (n -1 -e.on) 0)else none
def a4H:List Oper→Nat→List Nat→Option (List Nat)
 | [],_,acc=>some acc
 | o::r,n,acc=>match Hy acc n o.after.toList 0 with
  | some m=>a4H r (n+1) (m::acc)
  | none=>none
def IR (md:Region.Mode) (done:List Nat):List Edge→Bool
 | []=>true
 | e::r=>bif (!Region.binds md e || Ac e.on done)then IR md done r else false
def oN (md:Region.Mode) (done:List Nat):List Oper→Nat→Option Nat
 | [],_=>none
 | o::r,n=>bif Ac n done then oN md done r (n+1)else bif IR md done o.after.toList then some n else oN md done r (n+1)
def a1A:Nat→List Nat→Bool
 | 0,_=>true
 | n+1,d=>Ac n d&&a1A n d
def a9M (md:Region.Mode) (ops:List Oper):Nat→List Nat→Bool
 | 0,d=>a1A ops.length d
 | k+1,done=>match oN md done ops 0 with | some n=>a9M md ops k (n::done) | none=>false
def LM:List Edge→Bool
 | []=>true
 | e::r=>match e.ground with | .textOnly _=>false | .gcOnly _=>false | _=>LM r
def FK:List Oper→Bool | []=>true | o::r=>bif LM o.after.toList then FK r else false
def Zv (ops:List Oper) (t:Trs):Bool:=
 match a4H ops 0 []with
 | some ms=>bif QI ms t then(bif FK ops then true else a9M .text ops ops.length []&&a9M .gc ops ops.length [])else false
 | none=>false
abbrev Rgs:=List (Nat×Nat)
inductive Ann where
 | leaf
 | seq (a b:Ann) | cond (a b:Ann) | blk (a:Ann)
 | loop (rs:Rgs) (hd:Sig) (xid:Nat) (xs:Sig) (body:Ann)
 | loopR (rs:Rgs) (hd:Sig) (xid:Nat) (xs:Sig) (body:Ann)
 | join (rs:Rgs) (nm:Sig) (inner:Ann)
 | joinR (rs:Rgs) (nm:Sig) (inner:Ann)
structure Ret where
 rs:List (ResultVar×MG)
 outs:List (Nat×MG)
@[reducible] def Ret.den (r:Ret):Type:=U4 (r.rs.map (·.2)++r.outs.map (·.2))
def Md {α:Type} (E:Env):List ResultVar→(List V→Cmd α)→Cmd α
 | [],K=>K []
 | .tmp t::r,K=>bif Nat.blt t BOX then(.get t fun v=>Md E r fun vs=>K (v::vs))else .fail
 | .cell a t::r,K=>bif Nat.blt a BOX then(.get a fun p=>JH E t p fun v=>Md E r fun vs=>K (v::vs))else .fail
def LJ {α:Type} :List Nat→(List V→Cmd α)→Cmd α
 | [],K=>K []
 | n::r,K=>bif Nat.blt n BOX then .get n fun v=>(match v with
  | .ptr bx 0=> .get (BOX+bx) fun
   | .bcells cs=>Cmd.set (BOX+bx) .dead (LJ r fun vs=>K (.agg cs::vs))
   | _=> .fail
  | .ifc _ u=>(match u with
   | .ptr bx 0=> .get (BOX+bx) fun
    | .bcells cs=>Cmd.set (BOX+bx) .dead (LJ r fun vs=>K (.agg cs::vs))
    | _=> .fail
   | _=> .fail)
  | .own bx none=>LJ r fun vs=>K (.own bx none::vs)
  | _=> .fail)else .fail
def b1a (E:Env) (r:Ret):Cmd r.den:=
 Md E (r.rs.map (·.1)) fun vs=>LJ (r.outs.map (·.1)) fun ws=>HY xA (r.rs.map (·.2)++r.outs.map (·.2)) (vs++ws) .ret
def Ann.l:Ann→Ann | .seq a _=>a | .cond a _=>a | .blk a=>a | _=> .leaf
def Ann.r:Ann→Ann | .seq _ b=>b | .cond _ b=>b | _=> .leaf
def sZ:Code→Nat
 | .region ..=>2
 | .seq x y=>1+sZ x+sZ y
 | .cond _ x y=>1+sZ x+sZ y
 | .block _ x=>1+sZ x
 | .loop x=>3+sZ x
 | _=>1
abbrev Den (ρ:Type):=Nat→Ann→St→Rgs→(R:Type)→(Flow ρ→St→Rgs→Option R)→Option R
def a4j (lo hi:Nat):Rgs→Bool | []=>false | (a,b)::r=>bif Nat.ble a lo&&Nat.ble hi b then true else a4j lo hi r
def PK (lim:Nat) (rs:Rgs):Rgs→Bool | []=>true | (a,b)::w=>bif Nat.ble lim a || a4j a b rs then PK lim rs w else false
def JE (ks:List Nat) (w:Rgs):Rgs:=match ks with | []=>w | k::r=>(k,k+1)::JE r w
def zF (rs:Rgs) (s:St):St:=match rs with | []=>s | (a,b)::r=> .mask a b::zF r s
def Ia {R:Type} (q:Nat) (sg:Sig) (rs:Rgs) (s:St) (w:Rgs) (K:jo sg→Option R):Option R:=
 (a6b sg).runK s ([],[]) fun x _ tr=>bif PK (BOX+CB*q) rs (JE tr.2 w)then K x else none
def enter {R:Type} (q:Nat) (sg:Sig) (rs:Rgs) (s:St) (x:jo sg) (K:St→Rgs→Option R):Option R:=
 (a5X sg x (CB*q) (CB*q+CB)).runK (zF rs s) ([],[]) fun _ s' tr=>K s' (JE tr.2 rs)
def Ph (a b:Rgs):Rgs:=match a with | []=>b | x::r=>x::Ph r b
def EH {ρ:Type} (core:Den ρ):Den ρ:=fun q a s w R K=>
 match a with
 | .join rs nm a=>l9 (core (q+1) a s [] (jo nm) fun fl s' w' =>match fl with
   | .nm=>Ia q nm rs s' w' some
   | _=>none) fun x=>enter q nm rs s x fun s' w' =>K .nm s' (Ph w' w)
 | .joinR rs nm a=>l9 (core (q+1) a s [] (jo nm⊕ρ) fun fl s' w' =>match fl with
   | .nm=>Ia q nm rs s' w' fun x=>some (Sum.inl x)
   | .rt r=>some (Sum.inr r)
   | _=>none) fun o=>L8 o (fun x=>enter q nm rs s x fun s' w' =>K .nm s' (Ph w' w)) (fun r=>K (.rt r) [] [])
 | a=>core (q+1) a s w R K
def a7w {ρ:Type} (core:Den ρ) (q:Nat) (rs:Rgs) (hd:Sig) (xid:Nat) (xs:Sig) (a:Ann) (s:St) (x:jo hd):Option (jo hd⊕jo xs):=
 enter q hd rs s x fun s w=>core (q+2) a s w (jo hd⊕jo xs) fun fl s' w' =>match fl with
  | .nm=>Ia q hd rs s' w' fun x=>some (Sum.inl x)
  | .ex id=>bif Nat.beq id xid then Ia q xs rs s' w' fun y=>some (Sum.inr y)else none
  | .rt _=>none
def a7x {ρ:Type} (core:Den ρ) (q:Nat) (rs:Rgs) (hd:Sig) (xid:Nat) (xs:Sig) (a:Ann) (s:St) (x:jo hd):Option (Out (jo hd) (jo xs) ρ):=
 enter q hd rs s x fun s w=>core (q+2) a s w (Out (jo hd) (jo xs) ρ) fun fl s' w' =>match fl with
  | .nm=>Ia q hd rs s' w' fun x=>some (.nx x)
  | .ex id=>bif Nat.beq id xid then Ia q xs rs s' w' fun y=>some (.ex y)else none
  | .rt r=>some (.rt r)
def XL {ρ:Type} (core:Den ρ):Den ρ:=fun q a s w R K=>
 match a with
 | .loop rs hd xid xs a=>Ia q hd rs s [] fun x0=>
  l9 (N8 (fun x=>a7w core q rs hd xid xs a s x) x0) fun y=>enter (q+1) xs rs s y fun s' w' =>K (.ex xid) s' (Ph w' w)
 | .loopR rs hd xid xs a=>Ia q hd rs s [] fun x0=>
  l9 (J9 (fun x=>a7x core q rs hd xid xs a s x) x0) fun o=>L8 o (fun y=>enter (q+1) xs rs s y fun s' w' =>K (.ex xid) s' (Ph w' w)) (fun r=>K (.rt r) [] [])
 | _=>none
def Jb (t:Trs) (w:Rgs):Rgs:=match t with | []=>w | x::r=>JE x.2 (Jb r w)
def We {R:Type} (E:Env) (q:Nat) (ops:Array Oper) (draw:Bool) (s:St) (w:Rgs) (K:St→Rgs→Option R):Option R:=
 IY E q ops.toList ops.toList s [] fun s' t=>
  bif draw then(bif Zv ops.toList t then K s' (Jb t w)else none)else K s' (Jb t w)
def den (E:Env) (rt:Ret):Code→Den rt.den
 | .skip=>EH fun _ _ s w _ K=>K .nm s w
 | .label _=>EH fun _ _ s w _ K=>K .nm s w
 | .region _ ops draw=>EH fun q _ s w _ K=>We E q ops draw s w fun s' w' =>K .nm s' w'
 | .seq x y=>EH fun q a s w R K=>den E rt x q a.l s w R fun fl s' w' =>match fl with
   | .nm=>den E rt y (q+sZ x) a.r s' w' R K
   | .ex id=>K (.ex id) s' w'
   | .rt r=>K (.rt r) s' w'
 | .cond c x y=>EH fun q a s w R K=>(oz c fun v=>Cmd.ret v:Cmd V).runK s ([],[]) fun v s' _=>match v with
   | .b t=>l7 t (den E rt x q a.l s' w R K) (den E rt y (q+sZ x) a.r s' w R K)
   | _=>none
 | .block id x=>EH fun q a s w R K=>den E rt x q a.l s w R fun fl s' w' =>match fl with
   | .nm=>K .nm s' w'
   | .ex j=>bif Nat.beq j id then K .nm s' w' else K (.ex j) s' w'
   | .rt r=>K (.rt r) s' w'
 | .loop x=>EH (XL fun q a s w R K=>den E rt x q a s w R K)
 | .exit id=>EH fun _ _ s w _ K=>K (.ex id) s w
 | .ret=>EH fun _ _ s _ _ K=>(b1a E rt).runK s ([],[]) fun r _ _=>K (.rt r) [] []
 | _=>fun _ _ _ _ _ _=>none
def eQ:List MG→Nat→List Nat
 | [],_=>[]
 | (_,.box _)::ms,n=>n::eQ ms (n+1)
 | (_,.ifc _ (.box _))::ms,n=>n::eQ ms (n+1)
 | (_,.ownb _)::ms,n=>n::eQ ms (n+1)
 | _::ms,n=>eQ ms (n+1)
def YD:List Nat→List Nat→Bool
 | [],[]=>true
 | a::r,b::q=>bif Nat.beq a b then YD r q else false
 | _,_=>false
def a9E:List Nat→List Nat→Bool
 | [],_=>true
 | a::r,b=>bif Ac a b then a9E r b else false
def c0q (E:Env) (ps:List MG) (rt:Ret) (body:Code) (a:Ann) (x:U4 ps):Option rt.den:=
 bif Nat.ble ps.length E.nt&&YD (rt.outs.map (·.1)) (eQ ps 0)&&a9E (rt.outs.map (·.1)) E.kp then
 (Hz ps x 0 fun vs n=>bif Nat.ble n CB then Ry (List.range vs.length) vs else .fail).runK [] ([],[]) fun _ s _=>
  den E rt body 1 a s [] rt.den fun fl s' _=>match fl with
   | .rt r=>some r
   | .nm=>(b1a E rt).runK s' ([],[]) fun r _ _=>some r
   | .ex _=>none
 else none
end Go.GP
namespace Go.GP
open RowKit
def ai (h:Array Obj) (blk off n:Nat):Option (List Value):=
 match h[blk]? with
 | some (.cells c _ _)=>if off+n≤c.size then some ((c.toList.drop off).take n)else none
 | _=>none
theorem nG {h h' :Array Obj} {blk:Nat} (e:h'[blk]? =h[blk]?) (off n:Nat):ai h' blk off n=ai h blk off n:=by
 simp[ai,e]
theorem jb {h:Array Obj} {blk off n:Nat} {es:List Value} (e:ai h blk off n=some es):es.length=n:=by
 unfold ai at e
 split at e
 ·split at e
  ·cases e;simp;omega
  ·cases e
 ·cases e
theorem iq {h:Array Obj} {blk:Nat} {c:Array Value} {T:TypeId} {f:Nat×Nat} (hb:h[blk]? =some (.cells c T f)) (off n:Nat) (hn:off+n≤c.size):
  ai h blk off n=some ((c.toList.drop off).take n):=by simp[ai,hb,hn]
theorem oH {h:Array Obj} {blk off n:Nat} {es:List Value} (e:ai h blk off n=some es):
  ∃c T f,h[blk]? =some (.cells c T f)∧off+n≤c.size∧es=(c.toList.drop off).take n:=by
 unfold ai at e
 split at e
 ·rename_i c T f hb
  split at e
  ·cases e;exact⟨c,T,f,hb,by assumption,rfl⟩
  ·cases e
 ·cases e
theorem xq {h:Array Obj} {blk off n:Nat} {es:List Value} (e:ai h blk off n=some es) (a k:Nat) (hk:a+k≤n):
  ai h blk (off+a) k=some ((es.drop a).take k):=by
 obtain⟨c,T,f,hb,hn,rfl⟩:=oH e
 rw[iq hb _ _ (by omega)]
 congr 1
 rw[List.drop_take,List.take_take,List.drop_drop]
 congr 1;omega
def rep (h:Array Obj) (ok:Nat→Ty→Prop):(t:Ty)→t.den→List Value→Prop
 | .bool,x,cs=>cs=[.bool x]
 | .int k,n,cs=>cs=[.int k n]
 | .str,l,cs=>cs=[.string ⟨l.toArray⟩]
 | .prod a b,x,cs=>∃c d,cs=c++d∧rep h ok a x.1 c∧rep h ok b x.2 d
 | .unit,_,cs=>cs=[]
 | .sl t,xs,cs=>∃a cap,cs=[.slice a xs.length cap]∧xs.length≤cap∧
   ∀i x,xs[i]? =some x→∃blk off es,a=some ⟨blk,off,none⟩∧ok blk t∧ai h blk (off+i*t.size) t.size=some es∧rep h ok t x es
theorem eX {h:Array Obj} {ok:Nat→Ty→Prop} :∀{t:Ty} {x:t.den} {cs:List Value},rep h ok t x cs→cs.length=t.size
 | .bool,_,_,e=>by simp[rep]at e;simp[e,Ty.size]
 | .int _,_,_,e=>by simp[rep]at e;simp[e,Ty.size]
 | .str,_,_,e=>by simp[rep]at e;simp[e,Ty.size]
 | .unit,_,_,e=>by simp[rep]at e;simp[e,Ty.size]
 | .prod a b,_,_,e=>by
  obtain⟨c,d,rfl,h1,h2⟩:=e
  simp[eX h1,eX h2,Ty.size]
 | .sl t,_,_,e=>by
  obtain⟨a,cap,rfl,_⟩:=e
  simp[Ty.size]
theorem cu {h h' :Array Obj} {ok ok' :Nat→Ty→Prop} (hok:∀b t,ok b t→ok' b t) (hh:∀b t,ok b t→h'[b]? =h[b]?):
  ∀{t:Ty} {x:t.den} {cs:List Value},rep h ok t x cs→rep h' ok' t x cs
 | .bool,_,_,e=>e
 | .int _,_,_,e=>e
 | .str,_,_,e=>e
 | .unit,_,_,e=>e
 | .prod a b,_,_,e=>by
  obtain⟨c,d,rfl,h1,h2⟩:=e
  exact⟨c,d,rfl,cu hok hh h1,cu hok hh h2⟩
 | .sl t,xs,_,e=>by
  obtain⟨a,cap,rfl,hc,hx⟩:=e
  refine⟨a,cap,rfl,hc,fun i x hi=>?_⟩
  obtain⟨blk,off,es,ha,hb,he,hr⟩:=hx i x hi
  exact⟨blk,off,es,ha,hok _ _ hb,by rw[nG (hh _ _ hb)];exact he,cu hok hh hr⟩
theorem AZ {h:Array Obj} {ok:Nat→Ty→Prop} :∀{t:Ty} {x:t.den} {cs:List Value},rep h ok t x cs→∀v∈cs,v.oneCell' =true
 | .bool,_,_,e=>by simp[rep]at e;subst e;simp[Value.oneCell']
 | .int _,_,_,e=>by simp[rep]at e;subst e;simp[Value.oneCell']
 | .str,_,_,e=>by simp[rep]at e;subst e;simp[Value.oneCell']
 | .unit,_,_,e=>by simp[rep]at e;subst e;simp
 | .prod a b,_,_,e=>by
  obtain⟨c,d,rfl,h1,h2⟩:=e
  intro v hv
  rcases List.mem_append.1 hv with hv | hv
  ·exact AZ h1 v hv
  ·exact AZ h2 v hv
 | .sl t,xs,_,e=>by
  obtain⟨a,cap,rfl,_⟩:=e
  simp[Value.oneCell']
theorem AY {h:Array Obj} {ok ok' :Nat→Ty→Prop} :∀{t:Ty} {x:t.den} {cs:List Value},(∀b u,ok b u→Ty.occ u t=true→ok' b u)→rep h ok t x cs→rep h ok' t x cs
 | .bool,_,_,_,e=>e
 | .int _,_,_,_,e=>e
 | .str,_,_,_,e=>e
 | .unit,_,_,_,e=>e
 | .prod a b,_,_,f,e=>by
  obtain⟨c,d,rfl,h1,h2⟩:=e
  exact⟨c,d,rfl,AY (fun b u h k=>f b u h (by simp[Ty.occ,k])) h1,AY (fun b u h k=>f b u h (by simp[Ty.occ,k])) h2⟩
 | .sl t,xs,_,f,e=>by
  obtain⟨a,cap,rfl,hc,hx⟩:=e
  refine⟨a,cap,rfl,hc,fun i x hi=>?_⟩
  obtain⟨blk,off,es,ha,hb,he,hr⟩:=hx i x hi
  exact⟨blk,off,es,ha,f _ _ hb (by simp[Ty.occ]),he,AY (fun b u h k=>f b u h (by simp[Ty.occ,k])) hr⟩
inductive Loc where
 | nil | arr (blk off len cap sz:Nat) | st (blk:Nat)
structure Mp where
 loc:Nat→Option Loc
 kid:Nat→List Nat
instance:CoeFun Mp (fun _=>Nat→Option Loc):=⟨Mp.loc⟩
def nom:Mp:=⟨fun _=>none,fun _=>[]⟩
structure Cx where
 h:Array Obj
 ok:Nat→Ty→Prop
 m:Mp
def Loc.view:Loc→Option (Nat×Nat)→Value→Prop
 | .nil,none,v=>v= .slice none 0 0
 | .nil,some (lo,hi),v=>lo=0∧hi=0∧v= .slice none 0 0
 | .arr blk off len cap _,none,v=>v= .slice (some ⟨blk,off,none⟩) len cap
 | .arr blk off len cap sz,some (lo,hi),v=>lo≤hi∧hi≤len∧v= .slice (some (if cap=lo then⟨blk,off,none⟩else⟨blk,off+lo*sz,none⟩)) (hi -lo) (cap -lo)
 | .st _,_,_=>False
def Loc.blks:Loc→List Nat
 | .nil=>[]
 | .arr b _ _ _ _=>[b]
 | .st b=>[b]
def Zu (h:Array Obj) (ok:Nat→Ty→Prop) (t:Ty) (x:t.den) (o:Nat) (v:Value):Prop:=
 ∃blk off es,v= .pointer (some ⟨blk,off+o,none⟩)∧ok blk t∧ai h blk off t.size=some es∧rep h ok t x es
def zt (h:Array Obj) (ok:Nat→Ty→Prop):List ((t:Ty)×t.den)→List Value→Prop
 | [],vs=>vs=[]
 | c::cs,vs=>∃v r,vs=v::r∧Zu h ok c.1 c.2 0 v∧zt h ok cs r
def uy (C:Cx):V→Value→Prop
 | .undef,_=>True
 | .un,v=>v=Go.undef
 | .b x,v=>v= .bool x
 | .i k n,v=>v= .int k n
 | .s l,v=>v= .string ⟨l.toArray⟩
 | .nl,v=>v= .slice none 0 0
 | .ne b,v=>∃a c,v= .slice a 0 c∧a.isNone=b
 | .sl t xs,v=>rep C.h C.ok (.sl t) xs [v]
 | .own bx vw,v=>∃loc,C.m bx=some loc∧loc.view vw v
 | .ptr bx o,v=>∃blk,C.m bx=some (.st blk)∧v= .pointer (some ⟨blk,o,none⟩)
 | .ep bx ix o,v=>∃blk off len cap sz,C.m bx=some (.arr blk off len cap sz)∧ix<len∧v= .pointer (some ⟨blk,off+ix*sz+o,none⟩)
 | .dp t x o,v=>Zu C.h C.ok t x o v
 | .glob g,v=>v= .pointer (some ⟨g,0,none⟩)
 | .fnv f,v=>v= .func (.func f) #[] #[]
 | .clos f caps,v=>∃vs,v= .func (.func f) #[] vs∧zt C.h C.ok caps vs.toList
 | .ifc t c,v=>∃u,v= .iface t u∧u.oneCell' =true∧uy C c u
 | _,_=>False
def aS (C:Cx):List V→List Value→Prop
 | [],vs=>vs=[]
 | c::cs,vs=>∃v r,vs=v::r∧uy C c v∧v.oneCell' =true∧aS C cs r
def Wi (C:Cx):V→Value→Prop
 | .agg cs,v=>∃arr,v= .agg arr∧aS C cs arr.toList
 | c,v=>uy C c v
def Wl (C:Cx):List V→List Value→Prop
 | [],vs=>vs=[]
 | c::cs,vs=>∃v r,vs=v::r∧Wi C c v∧Wl C cs r
def gW (C:Cx):V→Value→Prop
 | .tup cs,v=>∃arr,v= .tuple arr∧Wl C cs arr.toList
 | c,v=>Wi C c v
def arrOk (C:Cx) (t:Ty) (xs:List t.den):Loc→Prop
 | .nil=>xs=[]
 | .arr blk off len cap sz=>sz=t.size∧len=xs.length∧len≤cap∧∃c T,C.h[blk]? =some (.cells c T (0,0))∧off+cap*sz≤c.size∧
   ∀i x,xs[i]? =some x→∃es,ai C.h blk (off+i*sz) sz=some es∧rep C.h C.ok t x es
 | .st _=>False
def xO {α:Type} (h:Array Obj) (sz:Nat) (R:Nat→α→List Value→List Nat→Prop) (xs:List α) (Os:List (List Nat)):Loc→Prop
 | .nil=>xs=[]∧Os=[]
 | .arr blk off len cap sz' =>sz' =sz∧len=xs.length∧len≤cap∧Os.length=xs.length∧∃c T,h[blk]? =some (.cells c T (0,0))∧off+cap*sz≤c.size∧
   ∀i x,xs[i]? =some x→∃es O,Os[i]? =some O∧ai h blk (off+i*sz) sz=some es∧R i x es O
 | .st _=>False
def ja (h:Array Obj) (ok:Nat→Ty→Prop):(m:M)→Option Nat→m.den→List Value→List Nat→Prop
 | .dat t,_,x,cs,O=>rep h ok t x cs∧O=[]
 | .own t,ho,xs,cs,O=>∃v,cs=[v]∧v.oneCell' =true∧(match ho with | some 0=>O=[] | _=>∃l,l.view none v∧arrOk ⟨h,ok,nom⟩ t xs l∧O=l.blks)
 | .pair a b,ho,x,cs,O=>∃c d O1 O2,cs=c++d∧O=O1++O2∧ja h ok a (match ho with | some o=>if o<a.size then some o else none | none=>none) x.1 c O1∧
   ja h ok b (match ho with | some o=>if o<a.size then none else some (o -a.size) | none=>none) x.2 d O2
 | .unit,_,_,cs,O=>cs=[]∧O=[]
 | .box m,_,x,cs,O=>∃blk arr T O',cs=[.pointer (some ⟨blk,0,none⟩)]∧h[blk]? =some (.cells arr T (0,0))∧ja h ok m none x arr.toList O' ∧O=blk::O'
 | .owns m,ho,xs,cs,O=>∃v,cs=[v]∧v.oneCell' =true∧(match ho with | some 0=>O=[] | _=>m.el=true∧∃l Os,l.view none v∧xO h m.size (fun _ x es O=>ja h ok m none x es O) xs Os l∧O=l.blks++Os.flatten)
 | .ownb t,_,xs,cs,O=>∃l v,cs=[v]∧l.view none v∧arrOk ⟨h,ok,nom⟩ t xs l∧O=l.blks
 | .rp t,_,x,cs,O=>∃v,cs=[v]∧Zu h ok t x 0 v∧O=[]
 | .fn f ts,_,x,cs,O=>∃vs,cs=[.func (.func f) #[] vs]∧zt h ok (ML ts x) vs.toList∧O=[]
 | .ifc t m,_,x,cs,O=>∃u,cs=[.iface t u]∧ja h ok m none x [u] O
 | .cell b,_,x,cs,O=>∃v,cs=[v]∧v.oneCell' =true∧(b=some none→v= .slice none 0 0)∧(∀b',b=some (some b')→∃a c,v= .slice a 0 c∧a.isNone=b')∧O=[]
def Vq (hole:Option (Nat×Nat)) (i:Nat):Option Nat:=match hole with | some (j,o)=>if i=j then some o else none | none=>none
def Vd (C:Cx) (m:M) (xs:List m.den) (hole:Option (Nat×Nat)) (Os:List (List Nat)) (l:Loc):Prop:=
 xO C.h m.size (fun i x es O=>ja C.h C.ok m (Vq hole i) x es O) xs Os l
def zS (C:Cx) (n:Nat):V→Prop
 | .bcells cs=>∃blk arr T,C.m n=some (.st blk)∧C.h[blk]? =some (.cells arr T (0,0))∧aS C cs arr.toList
 | .barr t xs=>∃loc,C.m n=some loc∧arrOk C t xs loc
 | .bfrz t xs=>∃loc,C.m n=some loc∧arrOk C t xs loc∧(∀blk off len cap sz,loc= .arr blk off len cap sz→C.ok blk t)
 | .barrs m xs hole=>m.el=true∧∃loc Os,C.m n=some loc∧Vd C m xs hole Os loc∧C.m.kid n=Os.flatten
 | .bfc t x=>∃blk es,C.m n=some (.st blk)∧C.ok blk t∧ai C.h blk 0 t.size=some es∧rep C.h C.ok t x es
 | .gone t=>∃l,C.m n=some l∧∀blk off len cap sz,l= .arr blk off len cap sz→sz=t.size
 | .blen ln sz=>∃k l,n=KJ+k∧C.m k=some l∧(match l with | .arr _ _ len _ sz' =>ln=(len:Int)∧sz=sz' | .nil=>ln=0 | .st _=>False)
 | _=>True
def O9 (m:Mp) (n:Nat):V→List Nat
 | .bcells _=>match m n with | some (.st blk)=>[blk] | _=>[]
 | .barr _ _=>match m n with | some (.arr blk _ _ _ _)=>[blk] | _=>[]
 | .barrs _ _ _=>(match m n with | some (.arr blk _ _ _ _)=>[blk] | _=>[])++m.kid n
 | _=>[]
def a6X:V→List Ty
 | .barr t _=>[t]
 | .barrs m _ _=>m.ty::m.owned
 | _=>[]
structure Cx.le (C D:Cx):Prop where
 ok:∀b t,C.ok b t→D.ok b t
 h:∀b t,C.ok b t→D.h[b]? =C.h[b]?
 m:∀n l,C.m n=some l→D.m n=some l
theorem Cx.le.refl (C:Cx):C.le C:=⟨fun _ _ h=>h,fun _ _ _=>rfl,fun _ _ h=>h⟩
theorem Cx.le.trans {A B C:Cx} (h:A.le B) (k:B.le C):A.le C:=
 ⟨fun b t x=>k.ok _ _ (h.ok _ _ x),fun b t x=>(k.h _ _ (h.ok _ _ x)).trans (h.h _ _ x),fun n l x=>k.m _ _ (h.m _ _ x)⟩
theorem Gz {h h' :Array Obj} {ok ok' :Nat→Ty→Prop} (hok:∀b t,ok b t→ok' b t) (hh:∀b t,ok b t→h'[b]? =h[b]?) {t:Ty} {x:t.den} {o:Nat} {v:Value} (hr:Zu h ok t x o v):Zu h' ok' t x o v:=by
 obtain⟨b,o',es,hv,hb,hc,hp⟩:=hr
 exact⟨b,o',es,hv,hok _ _ hb,by rw[nG (hh _ _ hb)];exact hc,cu hok hh hp⟩
theorem ET {h h' :Array Obj} {ok ok' :Nat→Ty→Prop} (hok:∀b t,ok b t→ok' b t) (hh:∀b t,ok b t→h'[b]? =h[b]?):∀{cs:List ((t:Ty)×t.den)} {vs:List Value},zt h ok cs vs→zt h' ok' cs vs
 | [],_,hr=>hr
 | _::_,_,⟨v,r,e,h1,h2⟩=>⟨v,r,e,Gz hok hh h1,ET hok hh h2⟩
theorem a2Q {C D:Cx} (h:C.le D):∀{c:V} {v:Value},uy C c v→uy D c v:=by
 intro c
 induction c using V.rec (motive_2:=fun _=>True) <;> try trivial
 all_goals
  intro v hr
  simp only[uy]at hr ⊢
  try exact hr
 case sl t xs=>exact cu h.ok h.h hr
 case own bx vw=>obtain⟨l,hm,hv⟩:=hr;exact⟨l,h.m _ _ hm,hv⟩
 case ptr bx o=>obtain⟨b,hm,hv⟩:=hr;exact⟨b,h.m _ _ hm,hv⟩
 case ep bx ix o=>obtain⟨b,o',l,c,s,hm,hv⟩:=hr;exact⟨b,o',l,c,s,h.m _ _ hm,hv⟩
 case dp t x o=>exact Gz h.ok h.h hr
 case clos f caps=>obtain⟨vs,e,hc⟩:=hr;exact⟨vs,e,ET h.ok h.h hc⟩
 case ifc t c ih=>obtain⟨u,e,h1,hc⟩:=hr;exact⟨u,e,h1,ih hc⟩
theorem AV {C D:Cx} (h:C.le D):∀{cs:List V} {vs:List Value},aS C cs vs→aS D cs vs
 | [],_,hr=>hr
 | _::_,_,⟨v,r,e,h1,h2,h3⟩=>⟨v,r,e,a2Q h h1,h2,AV h h3⟩
theorem a2P {C D:Cx} (h:C.le D) {c:V} {v:Value} (hr:Wi C c v):Wi D c v:=by
 cases c <;> simp only[Wi]at hr ⊢ <;> try exact a2Q h hr
 case agg cs=>obtain⟨arr,e,hl⟩:=hr;exact⟨arr,e,AV h hl⟩
theorem a2R {C D:Cx} (h:C.le D):∀{cs:List V} {vs:List Value},Wl C cs vs→Wl D cs vs
 | [],_,hr=>hr
 | _::_,_,⟨v,r,e,h1,h3⟩=>⟨v,r,e,a2P h h1,a2R h h3⟩
theorem Kr {C D:Cx} (h:C.le D) {c:V} {v:Value} (hr:gW C c v):gW D c v:=by
 cases c <;> simp only[gW]at hr ⊢ <;> try exact a2P h hr
 case tup cs=>obtain⟨arr,e,hl⟩:=hr;exact⟨arr,e,a2R h hl⟩
theorem oC {h h' :Array Obj} {ok ok' :Nat→Ty→Prop} {m m' :Mp} {t:Ty} {xs:List t.den} {l:Loc} (hok:∀b t,ok b t→ok' b t) (hh:∀b t,ok b t→h'[b]? =h[b]?)
  (hb:∀b∈l.blks,h'[b]? =h[b]?) (hr:arrOk ⟨h,ok,m⟩ t xs l):arrOk ⟨h',ok',m'⟩ t xs l:=by
 cases l with
 | nil=>exact hr
 | st b=>exact hr
 | arr blk off len cap sz=>
  have e:=hb blk (by simp[Loc.blks])
  obtain⟨h1,h2,h3,c,T,h4,h5,h6⟩:=hr
  refine⟨h1,h2,h3,c,T,by show h'[blk]? =_;rw[e];exact h4,h5,fun i x hi=>?_⟩
  obtain⟨es,he,hp⟩:=h6 i x hi
  exact⟨es,by show ai h' _ _ _=_;rw[nG e];exact he,cu hok hh hp⟩
theorem WW {C D:Cx} (h:C.le D) {t:Ty} {xs:List t.den} {l:Loc} (hb:∀b∈l.blks,D.h[b]? =C.h[b]?) (hr:arrOk C t xs l):arrOk D t xs l:=
 oC h.ok h.h hb hr
theorem EQ {α:Type} {h h' :Array Obj} {sz:Nat} {R R' :Nat→α→List Value→List Nat→Prop} {xs:List α} {Os:List (List Nat)} {l:Loc} (hb:∀b∈l.blks,h'[b]? =h[b]?)
  (hR:∀i x es O,O∈Os→R i x es O→R' i x es O) (hr:xO h sz R xs Os l):xO h' sz R' xs Os l:=by
 cases l with
 | nil=>exact hr
 | st b=>exact hr
 | arr blk off len cap sz=>
  have e:=hb blk (by simp[Loc.blks])
  obtain⟨h1,h2,h3,h7,c,T,h4,h5,h6⟩:=hr
  refine⟨h1,h2,h3,h7,c,T,by rw[e];exact h4,h5,fun i x hi=>?_⟩
  obtain⟨es,O,hO,he,hp⟩:=h6 i x hi
  exact⟨es,O,hO,by rw[nG e];exact he,hR _ _ _ _ (bZ hO) hp⟩
theorem dE {h h' :Array Obj} {ok ok' :Nat→Ty→Prop} (hok:∀b t,ok b t→ok' b t) (hh:∀b t,ok b t→h'[b]? =h[b]?):
  ∀{m:M} {ho:Option Nat} {x:m.den} {cs:List Value} {O:List Nat},(∀b∈O,h'[b]? =h[b]?)→ja h ok m ho x cs O→ja h' ok' m ho x cs O
 | .dat t,_,_,_,_,_,e=>⟨cu hok hh e.1,e.2⟩
 | .own t,ho,_,_,O,hb,⟨v,e,h1,ha⟩=>by
  refine⟨v,e,h1,?_⟩
  split at ha
  ·exact ha
  ·obtain⟨l,hv,ha,ho⟩:=ha
   exact⟨l,hv,oC hok hh (by subst ho;exact hb) ha,ho⟩
 | .pair a b,_,_,_,_,hb,⟨c,d,O1,O2,e,eo,h1,h2⟩=>by
  subst eo
  exact⟨c,d,O1,O2,e,rfl,dE hok hh (fun b h=>hb b (by simp[h])) h1,dE hok hh (fun b h=>hb b (by simp[h])) h2⟩
 | .unit,_,_,_,_,_,e=>e
 | .box m,_,_,_,_,hb,⟨blk,arr,T,O',e,hh',hr,eo⟩=>by
  subst eo
  exact⟨blk,arr,T,O',e,by rw[hb blk (by simp)];exact hh',dE hok hh (fun b h=>hb b (by simp[h])) hr,rfl⟩
 | .owns m,ho,_,_,O,hb,⟨v,e,h1,ha⟩=>by
  refine⟨v,e,h1,?_⟩
  split at ha
  ·exact ha
  ·obtain⟨he,l,Os,hv,ha,ho⟩:=ha
   subst ho
   exact⟨he,l,Os,hv,EQ (fun b h=>hb b (by simp[h])) (fun i x es O hO hr=>dE hok hh (fun b h=>hb b (by
    simp only[List.mem_append,List.mem_flatten];exact .inr ⟨O,hO,h⟩)) hr) ha,rfl⟩
 | .ownb t,_,_,_,_,hb,⟨l,v,e,hv,ha,ho⟩=>⟨l,v,e,hv,oC hok hh (by subst ho;exact hb) ha,ho⟩
 | .rp t,_,_,_,_,_,⟨v,e,h1,h2⟩=>⟨v,e,Gz hok hh h1,h2⟩
 | .fn f ts,_,_,_,_,_,⟨vs,e,h1,h2⟩=>⟨vs,e,ET hok hh h1,h2⟩
 | .ifc t m,_,_,_,_,hb,⟨u,e,h1⟩=>⟨u,e,dE hok hh hb h1⟩
 | .cell b,_,_,_,_,_,h=>h
theorem OM {C D:Cx} (h:C.le D) {n:Nat} {v:V} (hk:D.m.kid n=C.m.kid n) (hb:∀b∈O9 C.m n v,D.h[b]? =C.h[b]?) (hr:zS C n v):zS D n v:=by
 cases v <;> simp only[zS]at hr ⊢
 case bcells cs=>
  obtain⟨blk,arr,T,hm,hh,hl⟩:=hr
  exact⟨blk,arr,T,h.m _ _ hm,by rw[hb blk (by simp[O9,hm])];exact hh,AV h hl⟩
 case barr t xs=>
  obtain⟨l,hm,ha⟩:=hr
  refine⟨l,h.m _ _ hm,WW h ?_ ha⟩
  intro b hbl
  refine hb b ?_
  cases l <;> simp[Loc.blks]at hbl
  ·subst hbl;simp[O9,hm]
  ·cases ha
 case bfrz t xs=>
  obtain⟨l,hm,ha,hok⟩:=hr
  refine⟨l,h.m _ _ hm,WW h ?_ ha,fun blk off len cap sz e=>h.ok _ _ (hok _ _ _ _ _ e)⟩
  intro b hbl
  cases l <;> simp[Loc.blks]at hbl
  ·subst hbl;exact h.h _ _ (hok _ _ _ _ _ rfl)
  ·cases ha
 case barrs m xs hole=>
  obtain⟨he,l,Os,hm,ha,ho⟩:=hr
  refine⟨he,l,Os,h.m _ _ hm,EQ ?_ ?_ ha,hk.trans ho⟩
  ·intro b hbl
   refine hb b ?_
   cases l <;> simp[Loc.blks]at hbl
   ·subst hbl;simp[O9,hm]
   ·cases ha
  ·intro i x es O hO hr
   refine dE h.ok h.h (fun b hbO=>hb b ?_) hr
   simp only[O9,List.mem_append]
   right;rw[ho];exact List.mem_flatten.2 ⟨O,hO,hbO⟩
 case bfc t x=>
  obtain⟨blk,es,hm,hok,he,hr⟩:=hr
  exact⟨blk,es,h.m _ _ hm,h.ok _ _ hok,by rw[nG (h.h _ _ hok)];exact he,cu h.ok h.h hr⟩
 case gone t=>
  obtain⟨l,hm,hs⟩:=hr
  exact⟨l,h.m _ _ hm,hs⟩
 case blen ln sz=>
  obtain⟨k,l,e,hm,hs⟩:=hr
  exact⟨k,l,e,h.m _ _ hm,hs⟩
theorem gK {C:Cx} :∀{cs:List V} {vs:List Value},aS C cs vs→cs.length=vs.length
 | [],_,h=>by simp[aS]at h;simp[h]
 | _::_,_,⟨v,r,e,_,_,h3⟩=>by subst e;simp[gK h3]
theorem um {C:Cx} :∀{a:List V} {va:List Value} {b:List V} {vb:List Value},aS C a va→aS C b vb→aS C (a++b) (va++vb)
 | [],_,_,_,h,k=>by simp[aS]at h;subst h;exact k
 | _::_,_,_,_,⟨v,r,e,h1,h2,h3⟩,k=>by subst e;exact⟨v,r++_,rfl,h1,h2,um h3 k⟩
theorem Ko {C:Cx} :∀{cs:List V} {vs:List Value},aS C cs vs→∀v∈vs,v.oneCell' =true
 | [],_,h=>by simp[aS]at h;simp[h]
 | _::_,_,⟨v,r,e,_,h2,h3⟩=>by
  subst e;intro u hu
  rcases List.mem_cons.1 hu with rfl | hu
  ·exact h2
  ·exact Ko h3 u hu
theorem qH {C:Cx} :∀(n:Nat) {cs:List V} {vs:List Value},aS C cs vs→aS C (cs.drop n) (vs.drop n)
 | 0,_,_,h=>by simpa using h
 | n+1,[],_,h=>by simp[aS]at h;subst h;simp[aS]
 | n+1,_::_,_,⟨v,r,e,_,_,h3⟩=>by subst e;simpa using qH n h3
theorem uo {C:Cx} :∀(n:Nat) {cs:List V} {vs:List Value},aS C cs vs→aS C (cs.take n) (vs.take n)
 | 0,_,_,h=>by simp[aS]
 | n+1,[],_,h=>by simp[aS]at h;subst h;simp[aS]
 | n+1,_::_,_,⟨v,r,e,h1,h2,h3⟩=>by subst e;exact⟨v,r.take n,by simp,h1,h2,uo n h3⟩
theorem oO:∀(t:Ty) (x:t.den) (r:List V),flat t x r=flat t x []++r
 | .bool,_,_=>rfl
 | .int _,_,_=>rfl
 | .str,_,_=>rfl
 | .sl _,_,_=>rfl
 | .unit,_,_=>rfl
 | .prod a b,x,r=>by
  simp only[flat]
  rw[oO a x.1 (flat b x.2 r),oO b x.2 r,oO a x.1 (flat b x.2 [])]
  simp
theorem qI {C:Cx} :∀{t:Ty} {x:t.den} {cs:List Value},rep C.h C.ok t x cs→aS C (flat t x []) cs
 | .bool,x,_,h=>by simp[rep]at h;subst h;exact⟨_,_,rfl,rfl,rfl,rfl⟩
 | .int _,x,_,h=>by simp[rep]at h;subst h;exact⟨_,_,rfl,rfl,rfl,rfl⟩
 | .str,x,_,h=>by simp[rep]at h;subst h;exact⟨_,_,rfl,rfl,rfl,rfl⟩
 | .unit,_,_,h=>by simp[rep]at h;subst h;rfl
 | .sl t,xs,_,h=>by
  have h' :=h
  obtain⟨a,cap,rfl,_⟩:=h
  exact⟨_,_,rfl,h',rfl,rfl⟩
 | .prod a b,x,_,h=>by
  obtain⟨c,d,rfl,h1,h2⟩:=h
  simp only[flat]
  rw[oO a]
  exact um (qI h1) (qI h2)
theorem lK:∀(t:Ty) (x:t.den),(flat t x []).length=t.size
 | .bool,_=>rfl
 | .int _,_=>rfl
 | .str,_=>rfl
 | .sl _,_=>rfl
 | .unit,_=>rfl
 | .prod a b,x=>by
  simp only[flat,Ty.size]
  rw[oO a,List.length_append,lK a x.1,lK b x.2]
theorem jl {C:Cx} {ok' :Nat→Ty→Prop} {t:Ty} {xs:List t.den} {l:Loc} {vw:Option (Nat×Nat)} {v:Value} (ha:arrOk C t xs l) (hv:l.view vw v)
  (hok:∀b t,C.ok b t→ok' b t) (hb:∀blk off len cap sz,l= .arr blk off len cap sz→ok' blk t):rep C.h ok' (.sl t) (bF vw xs) [v]:=by
 cases l with
 | st b=>cases ha
 | nil=>
  simp only[arrOk]at ha;subst ha
  cases vw with
  | none=>simp only[Loc.view]at hv;subst hv;exact⟨none,0,rfl,Nat.le_refl _,fun i x hi=>by simp[bF]at hi⟩
  | some p=>
   obtain⟨lo,hi⟩:=p
   obtain⟨rfl,rfl,rfl⟩:=hv
   exact⟨none,0,by simp[bF,gu],by simp[bF,gu],fun i x hi=>by simp[bF,gu]at hi⟩
 | arr blk off len cap sz=>
  obtain⟨rfl,rfl,hc,c,T,hh,hs,hx⟩:=ha
  have hbk:=hb _ _ _ _ _ rfl
  cases vw with
  | none=>
   simp only[Loc.view]at hv;subst hv
   refine⟨_,cap,rfl,hc,fun i x hi=>?_⟩
   obtain⟨es,he,hr⟩:=hx i x hi
   exact⟨blk,off,es,rfl,hbk,he,cu hok (fun _ _ _=>rfl) hr⟩
  | some p=>
   obtain⟨lo,hi⟩:=p
   obtain⟨h1,h2,rfl⟩:=hv
   have hl:(bF (some (lo,hi)) xs).length=hi -lo:=by simp[bF,gu];omega
   refine⟨_,cap -lo,by rw[hl],by rw[hl];omega,fun i x hix=>?_⟩
   have hi' :i<hi -lo:=by rw[←hl];exact(O6.1 hix).1
   have hx' :xs[lo+i]? =some x:=by
    simp only[bF,gu,List.getElem?_drop,List.getElem?_take]at hix
    split at hix
    ·exact hix
    ·cases hix
   obtain⟨es,he,hr⟩:=hx _ x hx'
   have hne:cap≠lo:=by omega
   refine⟨blk,off+lo*t.size,es,by simp[hne],hbk,?_,cu hok (fun _ _ _=>rfl) hr⟩
   rw[←he];congr 1;rw[Nat.add_mul];omega
end Go.GP
namespace Go.GP
abbrev Sm:=Nat→V
def upd (S:Sm) (k:Nat) (v:V):Sm:=fun n=>if n=k then v else S n
@[simp] theorem fG (S:Sm) (k:Nat) (v:V):upd S k v k=v:=by simp[upd]
theorem V7 (S:Sm) {k n:Nat} (v:V) (h:n≠k):upd S k v n=S n:=by simp[upd,h]
def Cmd.eval {α:Type} :Cmd α→Sm→Tr→Option (α×Sm×Tr)
 | .ret x,S,t=>some (x,S,t)
 | .fail,_,_=>none
 | .get k c,S,t=>(c (S k)).eval S (k::t.1,t.2)
 | .set k v c,S,t=>c.eval (upd S k v) (t.1,k::t.2)
 | .opt o c,S,t=>match o with | some x=>(c x).eval S t | none=>none
 | .br b c d,S,t=>if b=true then c.eval S t else d.eval S t
def Cmd.post {α:Type} :Cmd α→Sm→(α→Sm→Prop)→Prop
 | .ret x,S,Q=>Q x S
 | .fail,_,_=>True
 | .get k c,S,Q=>(c (S k)).post S Q
 | .set k v c,S,Q=>c.post (upd S k v) Q
 | .opt o c,S,Q=>∀x,o=some x→(c x).post S Q
 | .br b c d,S,Q=>(b=true→c.post S Q)∧(b=false→d.post S Q)
theorem lu {α:Type} {Q:α→Sm→Prop} :∀{c:Cmd α} {S S' :Sm} {t t' :Tr} {x:α},c.post S Q→c.eval S t=some (x,S',t')→Q x S'
 | .ret x,_,_,_,_,_,h,e=>by simp[Cmd.eval]at e;obtain⟨rfl,rfl,rfl⟩:=e;exact h
 | .fail,_,_,_,_,_,h,e=>by simp[Cmd.eval]at e
 | .get k c,_,_,_,_,_,h,e=>lu (c:=c _) h e
 | .set k v c,_,_,_,_,_,h,e=>lu (c:=c) h e
 | .opt o c,_,_,_,_,_,h,e=>by
  cases o with
  | none=>simp[Cmd.eval]at e
  | some x=>exact lu (c:=c x) (h x rfl) e
 | .br b c d,_,_,_,_,_,h,e=>by
  cases b
  ·exact lu (c:=d) (h.2 rfl) (by simpa[Cmd.eval]using e)
  ·exact lu (c:=c) (h.1 rfl) (by simpa[Cmd.eval]using e)
theorem wL {α:Type} {Q Q' :α→Sm→Prop} (hq:∀x S,Q x S→Q' x S):∀{c:Cmd α} {S:Sm},c.post S Q→c.post S Q'
 | .ret x,_,h=>hq _ _ h
 | .fail,_,_=>trivial
 | .get k c,_,h=>wL hq (c:=c _) h
 | .set k v c,_,h=>wL hq (c:=c) h
 | .opt o c,_,h=>fun x e=>wL hq (c:=c x) (h x e)
 | .br b c d,_,h=>⟨fun e=>wL hq (c:=c) (h.1 e),fun e=>wL hq (c:=d) (h.2 e)⟩
theorem Jy {R:Type} :∀(v:V) (K:V→R),v.force K=K v:=by
 intro v
 induction v using V.rec (motive_2:=fun _=>True) <;> try trivial
 all_goals intro K
 all_goals try rfl
 case i k n=>cases k <;> rfl
 case own bx vw=>cases vw <;> rfl
 case barrs m xs h=>rcases h with _ | ⟨p,q⟩ <;> rfl
 case ifc t v ih=>simp only[V.force];rw[ih]
theorem Uh {R:Type} :∀(l:List V) (K:List V→R),La l K=K l
 | [],_=>rfl
 | v::r,K=>by simp[La,Jy,Uh r]
theorem a4b {R:Type} (v:V) (K:V→R):v.force2 K=K v:=by
 unfold V.force2;rw[Jy]
 cases v <;> simp[Uh]
theorem a1W (k:Nat) (v:V) (s:St):bg (.kv k v::s)=upd (bg s) k v:=by
 funext n
 simp only[bg,upd]
 by_cases h:n=k
 ·subst h;simp
 ·have:Nat.beq k n=false:=by
   cases hb:Nat.beq k n with
   | false=>rfl
   | true=>exact absurd (bT hb).symm h
  simp[h,this]
theorem zH {α β:Type} {o:Option α} {f:α→Option β} {r:β} (h:l9 o f=some r):∃x,o=some x∧f x=some r:=by
 cases o with
 | none=>simp[l9]at h
 | some x=>exact⟨x,rfl,h⟩
theorem lH {α R:Type} :∀{c:Cmd α} {s:St} {t:Tr} {K:α→St→Tr→Option R} {r:R},c.runK s t K=some r→
  ∃x s' t',c.eval (bg s) t=some (x,bg s',t')∧K x s' t' =some r
 | .ret x,s,t,K,r,h=>⟨x,s,t,rfl,h⟩
 | .fail,_,_,_,_,h=>by simp[Cmd.runK]at h
 | .get k c,s,t,K,r,h=>by
  simp only[Cmd.runK,Jy]at h
  exact lH (c:=c _) h
 | .set k v c,s,t,K,r,h=>by
  simp only[Cmd.runK,a4b]at h
  obtain⟨x,s',t',e,hk⟩:=lH (c:=c) h
  exact⟨x,s',t',by simpa[Cmd.eval,a1W]using e,hk⟩
 | .opt o c,s,t,K,r,h=>by
  simp only[Cmd.runK]at h
  obtain⟨y,rfl,h⟩:=zH h
  exact lH (c:=c y) h
 | .br b c d,s,t,K,r,h=>by
  simp only[Cmd.runK]at h
  cases b
  ·obtain⟨x,s',t',e,hk⟩:=lH (c:=d) (show d.runK s t K=some r from h)
   exact⟨x,s',t',by simpa[Cmd.eval]using e,hk⟩
  ·obtain⟨x,s',t',e,hk⟩:=lH (c:=c) (show c.runK s t K=some r from h)
   exact⟨x,s',t',by simpa[Cmd.eval]using e,hk⟩
theorem wu {α:Type} :∀{c:Cmd α} {S S' :Sm} {t t' :Tr} {x:α},c.eval S t=some (x,S',t')→(∀k∈t.1,k∈t'.1)∧(∀k∈t.2,k∈t'.2)
 | .ret x,_,_,_,_,_,e=>by simp[Cmd.eval]at e;obtain⟨rfl,rfl,rfl⟩:=e;exact⟨fun _ h=>h,fun _ h=>h⟩
 | .fail,_,_,_,_,_,e=>by simp[Cmd.eval]at e
 | .get k c,_,_,_,_,_,e=>by
  have h:=wu (c:=c _) e
  exact⟨fun n hn=>h.1 n (by simp[hn]),h.2⟩
 | .set k v c,_,_,_,_,_,e=>by
  have h:=wu (c:=c) e
  exact⟨h.1,fun n hn=>h.2 n (by simp[hn])⟩
 | .opt o c,_,_,_,_,_,e=>by
  cases o with
  | none=>simp[Cmd.eval]at e
  | some x=>exact wu (c:=c x) e
 | .br b c d,_,_,_,_,_,e=>by
  cases b
  ·exact wu (c:=d) (by simpa[Cmd.eval]using e)
  ·exact wu (c:=c) (by simpa[Cmd.eval]using e)
theorem sV {α:Type} :∀{c:Cmd α} {S S' :Sm} {t t' :Tr} {x:α},c.eval S t=some (x,S',t')→∀T:Sm,(∀k∈t'.1,T k=S k)→
  ∃T',c.eval T t=some (x,T',t')∧(∀k,T k=S k→T' k=S' k)∧(∀k,k∉t'.2→T' k=T k)∧(∀k,k∈t'.2→k∉t.2→T' k=S' k)
 | .ret x,_,_,_,_,_,e,T,hT=>by
  simp[Cmd.eval]at e;obtain⟨rfl,rfl,rfl⟩:=e
  exact⟨T,rfl,fun k h=>h,fun _ _=>rfl,fun k h1 h2=>absurd h1 h2⟩
 | .fail,_,_,_,_,_,e,_,_=>by simp[Cmd.eval]at e
 | .get k c,S,_,t,t',_,e,T,hT=>by
  have hk:T k=S k:=hT k ((wu (c:=c _) e).1 k (by simp))
  obtain⟨T',h1,h2,h3,h4⟩:=sV (c:=c _) e T hT
  exact⟨T',by simpa[Cmd.eval,hk]using h1,h2,h3,h4⟩
 | .set k v c,S,_,t,t',_,e,T,hT=>by
  obtain⟨T',h1,h2,h3,h4⟩:=sV (c:=c) e (upd T k v) (fun n hn=>by
   by_cases h:n=k
   ·subst h;simp
   ·rw[V7 _ _ h,V7 _ _ h];exact hT n hn)
  have hkin:k∈t'.2:=(wu (c:=c) e).2 k (by simp)
  refine⟨T',h1,fun n hn=>h2 n ?_,fun n hn=>?_,fun n hn hn' =>?_⟩
  ·by_cases h:n=k
   ·subst h;simp
   ·rw[V7 _ _ h,V7 _ _ h];exact hn
  ·have:n≠k:=fun h=>hn (h▸hkin)
   rw[h3 n hn,V7 _ _ this]
  ·by_cases h:n=k
   ·subst h;exact h2 n (by simp)
   ·exact h4 n hn (by simp[h,hn'])
 | .opt o c,_,_,_,_,_,e,T,hT=>by
  cases o with
  | none=>simp[Cmd.eval]at e
  | some x=>exact sV (c:=c x) e T hT
 | .br b c d,_,_,_,_,_,e,T,hT=>by
  cases b
  ·obtain⟨T',h1,h2⟩:=sV (c:=d) (by simpa[Cmd.eval]using e) T hT
   exact⟨T',by simpa[Cmd.eval]using h1,h2⟩
  ·obtain⟨T',h1,h2⟩:=sV (c:=c) (by simpa[Cmd.eval]using e) T hT
   exact⟨T',by simpa[Cmd.eval]using h1,h2⟩
theorem DC {α:Type} {c:Cmd α} {S S' :Sm} {t t' :Tr} {x:α} (e:c.eval S t=some (x,S',t')) (k:Nat) (h:k∉t'.2):S' k=S k:=by
 obtain⟨T',h1,_,h3,_⟩:=sV e S (fun _ _=>rfl)
 rw[e]at h1
 simp at h1
 rw[h1];exact h3 k h
section draws
variable {n:Nat} {c:Nat→Cmd Unit} {S:Nat→Sm} {T:Nat→Tr}
def SD (S:Nat→Sm) (T:Nat→Tr) (D:List Nat):Nat→Sm
 | 0=>S 0
 | m+1=>fun k=>if m∈D∧k∈(T m).2 then S (m+1) k else SD S T D m k
theorem KL (hs:∀i,i<n→(c i).eval (S i) ([],[])=some ((),S (i+1),T i)) (D:List Nat) (k:Nat):
  ∀m,m≤n→(∀j,j<m→k∈(T j).2→j∈D)→SD S T D m k=S m k
 | 0,_,_=>rfl
 | m+1,hm,h=>by
  have ih:=KL hs D k m (by omega) (fun j hj=>h j (by omega))
  simp only[SD]
  by_cases hk:k∈(T m).2
  ·rw[if_pos ⟨h m (by omega) hk,hk⟩]
  ·rw[if_neg (fun x=>hk x.2),ih,DC (hs m (by omega)) k hk]
theorem WP (D:List Nat) (k i:Nat):∀m,i≤m→(∀j,i≤j→j<m→k∈(T j).2→j∉D)→SD S T D m k=SD S T D i k
 | m,hm,h=>by
  induction m with
  | zero=>
   have:i=0:=by omega
   subst this;rfl
  | succ m ih=>
   by_cases e:i=m+1
   ·subst e;rfl
   ·simp only[SD]
    rw[if_neg (fun x=>h m (by omega) (by omega) x.2 x.1)]
    exact ih (by omega) (fun j h1 h2=>h j h1 (by omega))
theorem a1y (D:List Nat) (i k:Nat) (hk:k∉(T i).2):∀m,SD S T (i::D) m k=SD S T D m k
 | 0=>rfl
 | m+1=>by
  simp only[SD,a1y D i k hk m]
  by_cases e:m=i
  ·subst e;simp[hk]
  ·simp[List.mem_cons,e]
theorem a9V (hs:∀i,i<n→(c i).eval (S i) ([],[])=some ((),S (i+1),T i)) {ord:Nat→Nat→Prop}
  (hc:∀i j,i<j→j<n→ord i j∨((∀k∈(T i).2,k∉(T j).1∧k∉(T j).2)∧∀k∈(T i).1,k∉(T j).2))
  {D:List Nat} {i:Nat} (hi:i<n) (hD:i∉D) (hlt:∀j∈D,j<n) (hp:∀j,ord j i→j∈D) (hdown:∀j∈D,∀k,ord k j→k∈D):
  (c i).eval (SD S T D n) ([],[])=some ((),SD S T (i::D) n,T i):=by
 have before:∀k,(k∈(T i).1∨k∈(T i).2)→∀j,j<i→k∈(T j).2→j∈D:=fun k hk j hj hw=>by
  rcases hc j i hj hi with h | ⟨h1,_⟩
  ·exact hp j h
  ·rcases hk with hk | hk
   ·exact absurd hk (h1 k hw).1
   ·exact absurd hk (h1 k hw).2
 have after:∀k,(k∈(T i).1∨k∈(T i).2)→∀j,i<j→j<n→k∈(T j).2→j∉D:=fun k hk j hj hjn hw hjD=>by
  rcases hc i j hj hjn with h | ⟨h1,h2⟩
  ·exact hD (hdown j hjD i h)
  ·rcases hk with hk | hk
   ·exact h2 k hk hw
   ·exact(h1 k hk).2 hw
 have read:∀k∈(T i).1,SD S T D n k=S i k:=fun k hk=>by
  rw[WP D k i n (by omega) (fun j h1 h2 hw=>by
   by_cases e:j=i
   ·subst e;exact hD
   ·exact after k (.inl hk) j (by omega) h2 hw)]
  exact KL hs D k i (by omega) (before k (.inl hk))
 obtain⟨T',h1,_,h3,h4⟩:=sV (hs i hi) (SD S T D n) read
 rw[h1]
 have:T' =SD S T (i::D) n:=by
  funext k
  by_cases hk:k∈(T i).2
  ·rw[h4 k hk (by simp)]
   rw[WP (i::D) k (i+1) n (by omega) (fun j h1 h2 hw=>by
    simp only[List.mem_cons,not_or]
    exact⟨by omega,after k (.inr hk) j (by omega) h2 hw⟩)]
   simp[SD,hk]
  ·rw[h3 k hk,a1y D i k hk]
 rw[this]
theorem a5D (hs:∀i,i<n→(c i).eval (S i) ([],[])=some ((),S (i+1),T i)) {D:List Nat} (hD:∀i,i<n→i∈D):SD S T D n=S n:=by
 funext k
 exact KL hs D k n (by omega) (fun j hj _=>hD j hj)
theorem b9R (n:Nat):SD S T [] n=S 0:=by
 induction n with
 | zero=>rfl
 | succ m ih=>funext k;simp[SD,ih]
end draws
end Go.GP
namespace Go.GP
structure Fx where
 P:Program
 E:Env
 w0:World
 O:List Nat
 ok0:Nat→Ty→Prop
 tm0:Array Value
structure Frame' (w0 w:World) (O:List Nat):Prop where
 os:w.os=w0.os
 tape:w.tape=w0.tape
 output:w.output=w0.output
 size:w0.heap.size≤w.heap.size
 block:∀b,b<w0.heap.size→b∉O→w.heap[b]? =w0.heap[b]?
theorem Frame'.refl (w:World) (O:List Nat):Frame' w w O:=⟨rfl,rfl,rfl,Nat.le_refl _,fun _ _ _=>rfl⟩
def b1N (h:Array Obj) (g n:Nat):Prop:=∃c T f,h[g]? =some (.cells c T f)∧c.size=n
def Bl (C:Cx) (g:Nat) (t:Ty) (xs:List t.den):Prop:=
 C.ok g t∧b1N C.h g (xs.length*t.size)∧∀i x,xs[i]? =some x→∃es,ai C.h g (i*t.size) t.size=some es∧rep C.h C.ok t x es
theorem Bl.le {C D:Cx} (h:C.le D) {g:Nat} {t:Ty} {xs:List t.den} (k:Bl C g t xs):Bl D g t xs:=by
 obtain⟨h1,h3,h2⟩:=k
 refine⟨h.ok _ _ h1,by unfold b1N at h3 ⊢;rw[h.h _ _ h1];exact h3,fun i x hi=>?_⟩
 obtain⟨es,he,hr⟩:=h2 i x hi
 exact⟨es,by rw[nG (h.h _ _ h1)];exact he,cu h.ok h.h hr⟩
structure Rel (X:Fx) (cl ch:Nat) (S:Sm) (m:Mp) (ok:Nat→Ty→Prop) (a:Act) (w:World):Prop where
 size:a.tmps.size=X.E.nt
 nodef:a.defers=[]
 slot:∀n,n<BOX→gW ⟨w.heap,ok,m⟩ (S n) (a.tmps.getD n Go.undef)
 box:∀n,zS ⟨w.heap,ok,m⟩ n (S (BOX+n))
 inj:∀n n' b,b∈O9 m n (S (BOX+n))→b∈O9 m n' (S (BOX+n'))→n=n'
 nd:∀n,(O9 m n (S (BOX+n))).Nodup
 sep:∀n b,b∈O9 m n (S (BOX+n))→(∀t,¬ok b t)∧b<w.heap.size∧(X.w0.heap.size≤b∨b∈X.O)
 okLt:∀b t,ok b t→b<w.heap.size
 okIn:∀b t,X.ok0 b t→ok b t
 okOut:∀b t,ok b t→X.ok0 b t∨X.w0.heap.size≤b∨b∈X.O
 frame:Frame' X.w0 w X.O
 fresh:∀n,cl≤n→S (BOX+n)= .undef→m n=none
 strict:∀n,ch≤n→m n=none
 gl:∀g u,Y9 X.E.gl g=some u→Bl ⟨w.heap,ok,m⟩ g u.1 u.2
 kept:∀n∈X.E.kp,a.tmps.getD n Go.undef=X.tm0.getD n Go.undef
def iF (m:Mp) (n:Nat) (l:Loc) (ks:List Nat):Mp:=⟨fun k=>if k=n then some l else m k,fun k=>if k=n then ks else m.kid k⟩
@[simp] theorem aG (m:Mp) (n:Nat) (l:Loc) (ks:List Nat):iF m n l ks n=some l:=by simp[iF]
theorem dP (m:Mp) {n k:Nat} (l:Loc) (ks:List Nat) (h:k≠n):iF m n l ks k=m k:=by simp[iF,h]
@[simp] theorem d5M (m:Mp) (n:Nat) (l:Loc) (ks:List Nat):(iF m n l ks).kid n=ks:=by simp[iF]
theorem MO (m:Mp) {n k:Nat} (l:Loc) (ks:List Nat) (h:k≠n):(iF m n l ks).kid k=m.kid k:=by simp[iF,h]
def Ae (m:Mp) (n:Nat) (ks:List Nat):Mp:=⟨m.loc,fun k=>if k=n then ks else m.kid k⟩
@[simp] theorem d4R (m:Mp) (n k:Nat) (ks:List Nat):Ae m n ks k=m k:=rfl
@[simp] theorem d4Q (m:Mp) (n:Nat) (ks:List Nat):(Ae m n ks).kid n=ks:=by simp[Ae]
theorem UM (m:Mp) {n k:Nat} (ks:List Nat) (h:k≠n):(Ae m n ks).kid k=m.kid k:=by simp[Ae,h]
theorem qJ (m:Mp) (n:Nat):Ae m n (m.kid n)=m:=by
 cases m with | mk l k=>
 simp only[Ae,Mp.mk.injEq,true_and]
 funext j;split
 ·rename_i e;rw[e]
 ·rfl
theorem DU {m m' :Mp} {n:Nat} {v:V} (h:m' n=m n) (k:m'.kid n=m.kid n):O9 m' n v=O9 m n v:=by
 cases v <;> simp only[O9,h,k]
theorem SL {tmps:Array Value} {d:Nat} (h:d<tmps.size) (x e:Value):(tmps.setIfInBounds d x).getD d e=x:=by
 simp[Array.getD,h]
theorem Fe {tmps:Array Value} {d n:Nat} (h:n≠d) (x e:Value):(tmps.setIfInBounds d x).getD n e=tmps.getD n e:=by
 simp only[Array.getD_eq_getD_getElem?]
 rw[Array.getElem?_setIfInBounds]
 simp[Ne.symm h]
structure Tk (X:Fx) (S:Sm) (m:Mp) (ok:Nat→Ty→Prop) (w:World) (T:List Nat):Prop where
 nodup:T.Nodup
 free:∀b∈T,(∀t,¬ok b t)∧b<w.heap.size∧(X.w0.heap.size≤b∨b∈X.O)∧∀n,b∉O9 m n (S (BOX+n))
theorem Tk.nil {X:Fx} {S:Sm} {m:Mp} {ok:Nat→Ty→Prop} {w:World} :Tk X S m ok w []:=⟨List.nodup_nil,fun b h=>by cases h⟩
def okW (ok:Nat→Ty→Prop) (bs:List Nat) (Ts:List Ty):Nat→Ty→Prop:=fun b t=>ok b t∨(b∈bs∧t∈Ts)
section
variable {X:Fx} {cl ch:Nat} {S:Sm} {m:Mp} {ok:Nat→Ty→Prop} {a:Act} {w:World} {T:List Nat}
theorem Tk.perm {T T' :List Nat} (h:Tk X S m ok w T) (p:T.Perm T'):Tk X S m ok w T' :=
 ⟨p.nodup_iff.1 h.nodup,fun b hb=>h.free b (p.mem_iff.2 hb)⟩
theorem Tk.left {T T' :List Nat} (h:Tk X S m ok w (T++T')):Tk X S m ok w T:=
 ⟨(List.nodup_append.1 h.nodup).1,fun b hb=>h.free b (List.mem_append_left _ hb)⟩
theorem Tk.right {T T' :List Nat} (h:Tk X S m ok w (T++T')):Tk X S m ok w T' :=
 ⟨(List.nodup_append.1 h.nodup).2.1,fun b hb=>h.free b (List.mem_append_right _ hb)⟩
theorem Qy {n:Nat} :∀{l:List Nat},Ac n l=false→n∉l
 | [],_,h=>by cases h
 | k::r,hb,h=>by
  unfold Ac at hb
  cases hk:Nat.beq k n <;> rw[hk]at hb
  ·rcases List.mem_cons.1 h with e | h
   ·subst e;rw[show Nat.beq n n=true from Nat.beq_refl n]at hk;cases hk
   ·exact Qy hb h
  ·cases hb
theorem Ux {n:Nat} :∀{l:List Nat},Ac n l=true→n∈l
 | [],h=>by cases h
 | k::r,hb=>by
  unfold Ac at hb
  cases hk:Nat.beq k n <;> rw[hk]at hb
  ·exact List.mem_cons_of_mem _ (Ux hb)
  ·have:=bT hk
   subst this;exact List.mem_cons_self
theorem wJ {E:Env} {t:Nat} (h:UA E t=true):t<E.nt∧t∉E.kp:=by
 unfold UA at h
 cases hb:Nat.blt t E.nt <;> rw[hb]at h
 ·cases h
 ·simp only[cond_true,Bool.not_eq_true']at h
  exact⟨by rw[Nat.blt_eq]at hb;exact hb,Qy h⟩
theorem Rel.put (R:Rel X cl ch S m ok a w) (hnt:X.E.nt≤BOX) {d:Nat} {v:V} {x:Value} (hd:UA X.E d=true) (hv:gW ⟨w.heap,ok,m⟩ v x):
  Rel X cl ch (upd S d v) m ok (a.put (some d) x) w:=by
 obtain⟨hd,hkp⟩:=wJ hd
 have hb:∀n,upd S d v (BOX+n)=S (BOX+n):=fun n=>V7 _ _ (by omega)
 have hkept:∀n∈X.E.kp,(a.put (some d) x).tmps.getD n Go.undef=X.tm0.getD n Go.undef:=fun n hn=>by
  have e:n≠d:=fun e=>hkp (e▸hn)
  simp only[Act.put]
  rw[Fe e];exact R.kept n hn
 refine { R with size:=(by simp[Act.put,R.size]),nodef:=(by simp[Act.put,R.nodef]),slot:=fun n hn=>?_,box:=fun n=>(by rw[hb];exact R.box n),inj:=fun n n' b=>(by rw[hb,hb];exact R.inj n n' b),nd:=fun n=>(by rw[hb];exact R.nd n),sep:=fun n b=>(by rw[hb];exact R.sep n b),fresh:=fun n h1 h2=>R.fresh n h1 (by rwa[hb]at h2),kept:=hkept }
 by_cases e:n=d
 ·subst e
  simp only[fG,Act.put]
  rw[SL (by rw[R.size];exact hd)];exact hv
 ·rw[V7 _ _ e]
  simp only[Act.put]
  rw[Fe e];exact R.slot n hn
theorem Rel.slotV (R:Rel X cl ch S m ok a w) {d:Nat} {v:V} (hd:d<BOX) (hv:gW ⟨w.heap,ok,m⟩ v (a.tmps.getD d Go.undef)):
  Rel X cl ch (upd S d v) m ok a w:=by
 have hb:∀n,upd S d v (BOX+n)=S (BOX+n):=fun n=>V7 _ _ (by omega)
 refine { R with slot:=fun n hn=>?_,box:=fun n=>(by rw[hb];exact R.box n),inj:=fun n n' b=>(by rw[hb,hb];exact R.inj n n' b),nd:=fun n=>(by rw[hb];exact R.nd n),sep:=fun n b=>(by rw[hb];exact R.sep n b),fresh:=fun n h1 h2=>R.fresh n h1 (by rwa[hb]at h2) }
 by_cases e:n=d
 ·subst e;simp only[fG];exact hv
 ·rw[V7 _ _ e];exact R.slot n hn
theorem Rel.world (R:Rel X cl ch S m ok a w) {ok' :Nat→Ty→Prop} {w' :World} (hos:w'.os=w.os) (htp:w'.tape=w.tape) (hout:w'.output=w.output) (hsz:w.heap.size≤w'.heap.size)
  (hkeep:∀b,b<w.heap.size→((∃t,ok b t)∨(∃n,b∈O9 m n (S (BOX+n)))∨¬(X.w0.heap.size≤b∨b∈X.O))→w'.heap[b]? =w.heap[b]?)
  (hok:∀b t,ok b t→ok' b t) (hok' :∀b t,ok' b t→b<w'.heap.size∧(ok b t∨((X.w0.heap.size≤b∨b∈X.O)∧∀n,b∉O9 m n (S (BOX+n))))):
  Rel X cl ch S m ok' a w' :=by
 have hle:Cx.le ⟨w.heap,ok,m⟩ ⟨w'.heap,ok',m⟩:=⟨hok,fun b t hb=>hkeep b (R.okLt b t hb) (.inl ⟨t,hb⟩),fun _ _ h=>h⟩
 refine { kept:=R.kept,size:=R.size,nodef:=R.nodef,inj:=R.inj,nd:=R.nd,fresh:=R.fresh,strict:=R.strict,slot:=fun n hn=>Kr hle (R.slot n hn),box:=fun n=>OM hle rfl (fun b hb=>hkeep b (R.sep n b hb).2.1 (.inr (.inl ⟨n,hb⟩))) (R.box n),sep:=fun n b hb=>?_,okLt:=fun b t hb=>(hok' b t hb).1,okIn:=fun b t hb=>hok b t (R.okIn b t hb),okOut:=fun b t hb=>?_,frame:=?_,gl:=fun g u hg=>Bl.le hle (R.gl g u hg) }
 ·obtain⟨h1,h2,h3⟩:=R.sep n b hb
  refine⟨fun t h=>?_,by omega,h3⟩
  rcases(hok' b t h).2 with h | ⟨_,h⟩
  ·exact h1 t h
  ·exact h n hb
 ·rcases(hok' b t hb).2 with h | ⟨h,_⟩
  ·exact R.okOut b t h
  ·exact .inr h
 ·obtain⟨f1,f2,f3,f4,f5⟩:=R.frame
  refine⟨hos.trans f1,htp.trans f2,hout.trans f3,by omega,fun b hb hO=>?_⟩
  rw[hkeep b (by omega) (.inr (.inr (by simp[hO];omega)))]
  exact f5 b hb hO
theorem Rel.same (R:Rel X cl ch S m ok a w) {w' :World} (hos:w'.os=w.os) (htp:w'.tape=w.tape) (hout:w'.output=w.output) (hh:w'.heap=w.heap):Rel X cl ch S m ok a w' :=by
 refine R.world hos htp hout (by rw[hh];exact Nat.le_refl _) (fun b _ _=>by rw[hh]) (fun _ _ h=>h) (fun b t h=>⟨by rw[hh];exact R.okLt b t h,.inl h⟩)
theorem wK {n k b:Nat} {v:V} (hv:O9 m n v=[]) (h:b∈O9 m k (upd S (BOX+n) v (BOX+k))):k≠n∧b∈O9 m k (S (BOX+k)):=by
 by_cases e:k=n
 ·subst e;rw[fG,hv]at h;cases h
 ·rw[V7 _ _ (by omega)]at h;exact⟨e,h⟩
theorem Rel.killV (R:Rel X cl ch S m ok a w) (n:Nat) {v:V} (hv:v≠.undef) (hw:O9 m n v=[]) (hB:zS ⟨w.heap,ok,m⟩ n v):Rel X cl ch (upd S (BOX+n) v) m ok a w:=by
 have ho:∀k b,b∈O9 m k (upd S (BOX+n) v (BOX+k))→k≠n∧b∈O9 m k (S (BOX+k)):=fun k b h=>wK hw h
 refine { R with slot:=fun k hk=>(by rw[V7 _ _ (by omega)];exact R.slot k hk),box:=fun k=>?_,inj:=fun k k' b h h' =>R.inj k k' b (ho _ _ h).2 (ho _ _ h').2,nd:=fun k=>?_,sep:=fun k b h=>R.sep k b (ho _ _ h).2,fresh:=fun k h1 h2=>?_ }
 ·by_cases e:k=n
  ·subst e;rw[fG];exact hB
  ·rw[V7 _ _ (by omega)];exact R.box k
 ·by_cases e:k=n
  ·subst e;rw[fG,hw];exact List.nodup_nil
  ·rw[V7 _ _ (by omega)];exact R.nd k
 ·by_cases e:k=n
  ·subst e;rw[fG]at h2;exact absurd h2 hv
  ·rw[V7 _ _ (by omega)]at h2;exact R.fresh k h1 h2
theorem Rel.kill (R:Rel X cl ch S m ok a w) (n:Nat):Rel X cl ch (upd S (BOX+n) .dead) m ok a w:=R.killV n (by simp) rfl trivial
theorem Tk.killV (R:Rel X cl ch S m ok a w) (h:Tk X S m ok w T) (n:Nat) {v:V} (hw:O9 m n v=[]) {bs:List Nat} (hbs:∀b,b∈bs→b∈O9 m n (S (BOX+n))) (hnd:bs.Nodup):
  Tk X (upd S (BOX+n) v) m ok w (T++bs):=by
 refine⟨List.nodup_append.2 ⟨h.nodup,hnd,fun x hx y hy e=>?_⟩,fun b hb=>?_⟩
 ·subst e;exact(h.free x hx).2.2.2 n (hbs x hy)
 ·rcases List.mem_append.1 hb with hb | hb
  ·obtain⟨h1,h2,h3,h4⟩:=h.free b hb
   exact⟨h1,h2,h3,fun k e=>h4 k (wK hw e).2⟩
  ·obtain⟨h1,h2,h3⟩:=R.sep n b (hbs b hb)
   exact⟨h1,h2,h3,fun k e=>(wK hw e).1 (R.inj k n b (wK hw e).2 (hbs b hb))⟩
theorem Rel.mark (R:Rel X cl ch S m ok a w) {n:Nat} {md:M} {xs:List md.den} (hS:S (BOX+n)= .barrs md xs none):Rel X cl ch (upd S (BOX+(KJ+n)) (.blen (o8 xs) md.size)) m ok a w:=by
 refine R.killV (KJ+n) (by simp) rfl ?_
 have hb:=R.box n
 rw[hS]at hb
 obtain⟨_,l,Os,hm,ha,_⟩:=hb
 refine⟨n,l,rfl,hm,?_⟩
 cases l with
 | nil=>obtain⟨rfl,_⟩:=ha;rfl
 | st b=>cases ha
 | arr blk off len cap sz=>exact⟨by rw[ha.2.1];rfl,ha.1.symm⟩
theorem Tk.kill (R:Rel X cl ch S m ok a w) (h:Tk X S m ok w T) (n:Nat) {bs:List Nat} (hbs:∀b,b∈bs→b∈O9 m n (S (BOX+n))) (hnd:bs.Nodup):
  Tk X (upd S (BOX+n) .dead) m ok w (T++bs):=h.killV R n rfl hbs hnd
theorem Rel.lay (R:Rel X cl ch S m ok a w) {n:Nat} {l:Loc} {ks:List Nat} {v:V} {w' :World} (hn:S (BOX+n)= .undef) (hcl:cl≤n) (hch:n<ch) (hv:v≠.undef)
  (hos:w'.os=w.os) (htp:w'.tape=w.tape) (hout:w'.output=w.output) (hsz:w.heap.size≤w'.heap.size)
  (hkeep:∀b,b<w.heap.size→b∉O9 (iF m n l ks) n v→w'.heap[b]? =w.heap[b]?)
  (hnd:(O9 (iF m n l ks) n v).Nodup)
  (hfree:∀b∈O9 (iF m n l ks) n v,(∀t,¬ok b t)∧b<w'.heap.size∧(X.w0.heap.size≤b∨b∈X.O)∧∀k,b∉O9 m k (S (BOX+k)))
  (hB:zS ⟨w'.heap,ok,iF m n l ks⟩ n v):Rel X cl ch (upd S (BOX+n) v) (iF m n l ks) ok a w' :=by
 have hm:m n=none:=R.fresh n hcl hn
 have hR:Rel X cl ch S m ok a w' :=by
  refine R.world hos htp hout hsz (fun b hb h=>?_) (fun _ _ h=>h) (fun b t h=>⟨by have:=R.okLt b t h;omega,.inl h⟩)
  refine hkeep b hb (fun e=>?_)
  obtain⟨h1,h2,h3,h4⟩:=hfree b e
  rcases h with⟨t,h⟩ | ⟨k,h⟩ | h
  ·exact h1 t h
  ·exact h4 k h
  ·exact h h3
 have hle:Cx.le ⟨w'.heap,ok,m⟩ ⟨w'.heap,ok,iF m n l ks⟩:=⟨fun _ _ h=>h,fun _ _ _=>rfl,fun k x h=>by
  by_cases e:k=n
  ·subst e;simp[hm]at h
  ·show iF m n l ks k=some x;rw[dP _ _ _ e];exact h⟩
 have hob:∀k,k≠n→O9 (iF m n l ks) k (upd S (BOX+n) v (BOX+k))=O9 m k (S (BOX+k)):=fun k e=>by
  rw[V7 _ _ (by omega)];exact DU (dP _ _ _ e) (MO _ _ _ e)
 have hobn:O9 (iF m n l ks) n (upd S (BOX+n) v (BOX+n))=O9 (iF m n l ks) n v:=by rw[fG]
 refine { kept:=hR.kept,size:=hR.size,nodef:=hR.nodef,okLt:=hR.okLt,okIn:=hR.okIn,okOut:=hR.okOut,frame:=hR.frame,slot:=fun k hk=>(by rw[V7 _ _ (by omega)];exact Kr hle (hR.slot k hk)),box:=fun k=>?_,inj:=fun k k' b h h' =>?_,nd:=fun k=>?_,sep:=fun k b h=>?_,fresh:=fun k h1 h2=>?_,strict:=fun k h=>?_,gl:=fun g u hg=>Bl.le hle (hR.gl g u hg) }
 ·by_cases e:k=n
  ·subst e;rw[fG];exact hB
  ·rw[V7 _ _ (by omega)]
   refine OM hle (MO _ _ _ e) (fun b hb=>rfl) (hR.box k)
 ·by_cases e:k=n
  ·by_cases e' :k' =n
   ·rw[e,e']
   ·subst e
    rw[hobn]at h;rw[hob k' e']at h'
    exact absurd h' ((hfree b h).2.2.2 k')
  ·by_cases e' :k' =n
   ·subst e'
    rw[hobn]at h';rw[hob k e]at h
    exact absurd h ((hfree b h').2.2.2 k)
   ·rw[hob k e]at h;rw[hob k' e']at h'
    exact R.inj k k' b h h'
 ·by_cases e:k=n
  ·subst e;rw[hobn];exact hnd
  ·rw[hob k e];exact R.nd k
 ·by_cases e:k=n
  ·subst e;rw[hobn]at h
   obtain⟨h1,h2,h3,_⟩:=hfree b h
   exact⟨h1,h2,h3⟩
  ·rw[hob k e]at h;exact hR.sep k b h
 ·by_cases e:k=n
  ·subst e;rw[fG]at h2;exact absurd h2 hv
  ·rw[V7 _ _ (by omega)]at h2
   rw[dP _ _ _ e];exact R.fresh k h1 h2
 ·have e:k≠n:=by omega
  rw[dP _ _ _ e];exact R.strict k h
theorem Rel.modK (R:Rel X cl ch S m ok a w) (hT:Tk X S m ok w T) {n:Nat} {v:V} {ks:List Nat} {w' :World} (hv:v≠.undef)
  (hnd:(O9 (Ae m n ks) n v).Nodup) (hsub:∀b∈O9 (Ae m n ks) n v,b∈O9 m n (S (BOX+n))∨b∈T)
  (hos:w'.os=w.os) (htp:w'.tape=w.tape) (hout:w'.output=w.output) (hsz:w'.heap.size=w.heap.size)
  (hkeep:∀b,b∉O9 m n (S (BOX+n))→w'.heap[b]? =w.heap[b]?) (hB:zS ⟨w'.heap,ok,Ae m n ks⟩ n v)
  {T' :List Nat} (hnd' :T'.Nodup) (hT' :∀b∈T',(b∈O9 m n (S (BOX+n))∨b∈T)∧b∉O9 (Ae m n ks) n v):
  Rel X cl ch (upd S (BOX+n) v) (Ae m n ks) ok a w' ∧Tk X (upd S (BOX+n) v) (Ae m n ks) ok w' T' :=by
 have hsep:∀b,b∈O9 m n (S (BOX+n))∨b∈T→(∀t,¬ok b t)∧b<w.heap.size∧(X.w0.heap.size≤b∨b∈X.O)∧∀k,k≠n→b∉O9 m k (S (BOX+k)):=fun b h=>by
  rcases h with h | h
  ·obtain⟨h1,h2,h3⟩:=R.sep n b h
   exact⟨h1,h2,h3,fun k e h' =>e (R.inj k n b h' h)⟩
  ·obtain⟨h1,h2,h3,h4⟩:=hT.free b h
   exact⟨h1,h2,h3,fun k _=>h4 k⟩
 have hle:Cx.le ⟨w.heap,ok,m⟩ ⟨w'.heap,ok,Ae m n ks⟩:=⟨fun _ _ h=>h,fun b t hb=>hkeep b (fun e=>(R.sep n b e).1 t hb),fun _ _ h=>h⟩
 have hob:∀k,k≠n→O9 (Ae m n ks) k (upd S (BOX+n) v (BOX+k))=O9 m k (S (BOX+k)):=fun k e=>by
  rw[V7 _ _ (by omega)];exact DU rfl (UM _ _ e)
 have hobn:O9 (Ae m n ks) n (upd S (BOX+n) v (BOX+n))=O9 (Ae m n ks) n v:=by rw[fG]
 refine⟨?_,hnd',fun b hb=>?_⟩
 ·refine { kept:=R.kept,size:=R.size,nodef:=R.nodef,okLt:=fun b t hb=>(by rw[hsz];exact R.okLt b t hb),okIn:=R.okIn,okOut:=R.okOut,strict:=R.strict,slot:=fun k hk=>(by rw[V7 _ _ (by omega)];exact Kr hle (R.slot k hk)),box:=fun k=>?_,inj:=fun k k' b h h' =>?_,nd:=fun k=>?_,sep:=fun k b h=>?_,fresh:=fun k h1 h2=>?_,frame:=?_,gl:=fun g u hg=>Bl.le hle (R.gl g u hg) }
  ·by_cases e:k=n
   ·subst e;rw[fG];exact hB
   ·rw[V7 _ _ (by omega)]
    refine OM hle (UM _ _ e) (fun b hb=>hkeep b (fun e' =>e (R.inj k n b hb e'))) (R.box k)
  ·by_cases e:k=n
   ·by_cases e' :k' =n
    ·rw[e,e']
    ·subst e
     rw[hobn]at h;rw[hob k' e']at h'
     exact absurd h' ((hsep b (hsub b h)).2.2.2 k' e')
   ·by_cases e' :k' =n
    ·subst e'
     rw[hobn]at h';rw[hob k e]at h
     exact absurd h ((hsep b (hsub b h')).2.2.2 k e)
    ·rw[hob k e]at h;rw[hob k' e']at h'
     exact R.inj k k' b h h'
  ·by_cases e:k=n
   ·subst e;rw[hobn];exact hnd
   ·rw[hob k e];exact R.nd k
  ·by_cases e:k=n
   ·subst e;rw[hobn]at h
    obtain⟨h1,h2,h3,_⟩:=hsep b (hsub b h)
    exact⟨h1,by rw[hsz];exact h2,h3⟩
   ·rw[hob k e]at h;obtain⟨h1,h2,h3⟩:=R.sep k b h;exact⟨h1,by rw[hsz];exact h2,h3⟩
  ·obtain⟨f1,f2,f3,f4,f5⟩:=R.frame
   refine⟨hos.trans f1,htp.trans f2,hout.trans f3,by rw[hsz];exact f4,fun b hb hO=>?_⟩
   rw[hkeep b (fun e=>?_)]
   ·exact f5 b hb hO
   ·rcases(R.sep n b e).2.2 with h | h
    ·omega
    ·exact hO h
  ·by_cases e:k=n
   ·subst e;rw[fG]at h2;exact absurd h2 hv
   ·rw[V7 _ _ (by omega)]at h2;exact R.fresh k h1 h2
 ·obtain⟨h0,h0'⟩:=hT' b hb
  obtain⟨h1,h2,h3,h4⟩:=hsep b h0
  refine⟨h1,by rw[hsz];exact h2,h3,fun k h=>?_⟩
  by_cases e:k=n
  ·subst e;rw[hobn]at h;exact h0' h
  ·rw[hob k e]at h;exact h4 k e h
theorem Rel.mod (R:Rel X cl ch S m ok a w) {n:Nat} {v:V} {w' :World} (ho:O9 m n v=O9 m n (S (BOX+n))) (hv:v≠.undef)
  (hos:w'.os=w.os) (htp:w'.tape=w.tape) (hout:w'.output=w.output) (hsz:w'.heap.size=w.heap.size)
  (hkeep:∀b,b∉O9 m n (S (BOX+n))→w'.heap[b]? =w.heap[b]?) (hB:zS ⟨w'.heap,ok,m⟩ n v):Rel X cl ch (upd S (BOX+n) v) m ok a w' :=by
 have h:=R.modK (T:=[]) Tk.nil (n:=n) (v:=v) (ks:=m.kid n) (w' :=w') (T' :=[]) hv (by rw[qJ,ho];exact R.nd n) (by rw[qJ,ho];exact fun b h=> .inl h) hos htp hout hsz hkeep (by rw[qJ];exact hB) List.nodup_nil (fun b h=>by cases h)
 rw[qJ]at h
 exact h.1
theorem Rel.widen (R:Rel X cl ch S m ok a w) {n:Nat} {v:V} (hv:v≠.undef) (ho:O9 m n v=[]) {Ts:List Ty} {bs:List Nat} (hbs:∀b∈bs,b∈O9 m n (S (BOX+n)))
  (hB:zS ⟨w.heap,okW ok bs Ts,m⟩ n v):Rel X cl ch (upd S (BOX+n) v) m (okW ok bs Ts) a w:=by
 have hmono:∀b t,ok b t→okW ok bs Ts b t:=fun b t h=> .inl h
 have hob:∀k b,b∈O9 m k (upd S (BOX+n) v (BOX+k))→k≠n∧b∈O9 m k (S (BOX+k)):=fun k b h=>wK ho h
 have hle:Cx.le ⟨w.heap,ok,m⟩ ⟨w.heap,okW ok bs Ts,m⟩:=⟨hmono,fun _ _ _=>rfl,fun _ _ h=>h⟩
 refine { kept:=R.kept,size:=R.size,nodef:=R.nodef,strict:=R.strict,frame:=R.frame,okIn:=fun b t h=>hmono b t (R.okIn b t h),slot:=fun k hk=>(by rw[V7 _ _ (by omega)];exact Kr hle (R.slot k hk)),box:=fun k=>?_,inj:=fun k k' b h h' =>R.inj k k' b (hob _ _ h).2 (hob _ _ h').2,nd:=fun k=>?_,sep:=fun k b h=>?_,okLt:=fun b t h=>?_,okOut:=fun b t h=>?_,fresh:=fun k h1 h2=>?_,gl:=fun g u hg=>Bl.le hle (R.gl g u hg) }
 ·by_cases e:k=n
  ·subst e;rw[fG];exact hB
  ·rw[V7 _ _ (by omega)]
   exact OM hle rfl (fun b hb=>rfl) (R.box k)
 ·by_cases e:k=n
  ·subst e;rw[fG,ho];exact List.nodup_nil
  ·rw[V7 _ _ (by omega)];exact R.nd k
 ·obtain⟨e,h⟩:=hob k b h
  obtain⟨h1,h2,h3⟩:=R.sep k b h
  refine⟨fun t h' =>?_,h2,h3⟩
  rcases h' with h' | ⟨h',_⟩
  ·exact h1 t h'
  ·exact e (R.inj k n b h (hbs b h'))
 ·rcases h with h | ⟨h,_⟩
  ·exact R.okLt b t h
  ·exact(R.sep n b (hbs b h)).2.1
 ·rcases h with h | ⟨h,_⟩
  ·exact R.okOut b t h
  ·exact .inr (R.sep n b (hbs b h)).2.2
 ·by_cases e:k=n
  ·subst e;rw[fG]at h2;exact absurd h2 hv
  ·rw[V7 _ _ (by omega)]at h2;exact R.fresh k h1 h2
theorem Tk.widen (h:Tk X S m ok w T) {n:Nat} {v:V} (ho:O9 m n v=[]) {Ts:List Ty} {bs:List Nat} (hbs:∀b∈bs,b∈O9 m n (S (BOX+n))):
  Tk X (upd S (BOX+n) v) m (okW ok bs Ts) w T:=by
 refine⟨h.nodup,fun b hb=>?_⟩
 obtain⟨h1,h2,h3,h4⟩:=h.free b hb
 refine⟨fun t e=>?_,h2,h3,fun k e=>h4 k (wK ho e).2⟩
 rcases e with e | ⟨e,_⟩
 ·exact h1 t e
 ·exact h4 n (hbs b e)
theorem Rel.backV (R:Rel X cl ch S m ok a w) {n:Nat} {v:V} {O1 B:List Nat} (hv:v≠.undef) (hT:Tk X S m ok w (O1++B)) (ho:O9 m n v=O1) (hB:zS ⟨w.heap,ok,m⟩ n v):
  Rel X cl ch (upd S (BOX+n) v) m ok a w∧Tk X (upd S (BOX+n) v) m ok w B:=by
 have hnd:=List.nodup_append.1 hT.nodup
 have h:=R.modK hT (n:=n) (v:=v) (ks:=m.kid n) (w' :=w) (T' :=B) hv (by rw[qJ,ho];exact hnd.1) (by rw[qJ,ho];exact fun b h=> .inr (by simp[h])) rfl rfl rfl rfl (fun _ _=>rfl) (by rw[qJ];exact hB) hnd.2.1
  (fun b hb=>⟨.inr (by simp[hb]),by rw[qJ,ho];exact fun h=>hnd.2.2 b h b hb rfl⟩)
 rw[qJ]at h
 exact h
end
end Go.GP
namespace Go.GP
def Eu:Loc→Option (Nat×Nat)→Loc
 | .arr blk off len cap sz,some (lo,hi)=>if cap=lo then .arr blk off 0 0 sz else .arr blk (off+lo*sz) (hi -lo) (cap -lo) sz
 | l,_=>l
theorem Dl {C:Cx} {t:Ty} {xs:List t.den} {l:Loc} {vw:Option (Nat×Nat)} {v:Value} (ha:arrOk C t xs l) (hv:l.view vw v):
  arrOk C t (bF vw xs) (Eu l vw)∧(Eu l vw).view none v∧(Eu l vw).blks=l.blks:=by
 cases l with
 | st b=>cases ha
 | nil=>
  simp only[arrOk]at ha;subst ha
  cases vw with
  | none=>exact⟨rfl,hv,rfl⟩
  | some p=>obtain⟨lo,hi⟩:=p;obtain⟨rfl,rfl,rfl⟩:=hv;exact⟨rfl,rfl,rfl⟩
 | arr blk off len cap sz=>
  cases vw with
  | none=>exact⟨ha,hv,rfl⟩
  | some p=>
   obtain⟨lo,hi⟩:=p
   obtain⟨rfl,rfl,hc,c,T,hh,hs,hx⟩:=ha
   obtain⟨h1,h2,rfl⟩:=hv
   have hl:(bF (some (lo,hi)) xs).length=hi -lo:=by simp[bF,gu];omega
   by_cases e:cap=lo
   ·subst e
    have e2:hi=cap:=by omega
    subst e2
    simp only[Eu,if_true,Loc.view,Nat.sub_self]
    refine⟨⟨rfl,by rw[hl];omega,Nat.le_refl _,c,T,hh,?_,fun i x hi=>?_⟩,trivial,rfl⟩
    ·have:=Nat.zero_le (hi*t.size);omega
    ·have:i<0:=by
      have:=(O6.1 hi).1;rw[hl]at this;omega
     omega
   ·simp only[Eu,e,if_false,Loc.view]
    refine⟨⟨rfl,by rw[hl],by omega,c,T,hh,?_,fun i x hix=>?_⟩,trivial,rfl⟩
    ·have:off+lo*t.size+(cap -lo)*t.size=off+cap*t.size:=by
      rw[Nat.add_assoc,←Nat.add_mul];congr 2;omega
     rw[this];exact hs
    ·have hi' :i<hi -lo:=by rw[←hl];exact(O6.1 hix).1
     have hx' :xs[lo+i]? =some x:=by
      simp only[bF,gu,List.getElem?_drop,List.getElem?_take]at hix
      split at hix
      ·exact hix
      ·cases hix
     obtain⟨es,he,hr⟩:=hx _ x hx'
     refine⟨es,?_,hr⟩
     rw[←he];congr 1;rw[Nat.add_mul];omega
def Wj (ag:Bool) (v:Value) (cs:List Value):Prop:=match ag with
 | true=>∃arr,v= .agg arr∧arr.toList=cs
 | false=>cs=[v]
def mM (h:Array Obj) (ok:Nat→Ty→Prop):(ms:List MG)→U4 ms→List Value→List Nat→Prop
 | [],_,vs,O=>vs=[]∧O=[]
 | [m],x,vs,O=>∃v cs,vs=[v]∧Wj m.1 v cs∧ja h ok m.2 none x cs O
 | m::m' ::r,x,vs,O=>∃v cs vs' O1 O2,vs=v::vs' ∧O=O1++O2∧Wj m.1 v cs∧ja h ok m.2 none x.1 cs O1∧mM h ok (m' ::r) x.2 vs' O2
theorem jY {l:Loc} {vw:Option (Nat×Nat)} {v:Value} (h:l.view vw v):v.oneCell' =true:=by
 cases l <;> rcases vw with _ | ⟨lo,hi⟩ <;> simp only[Loc.view]at h
 ·subst h;rfl
 ·obtain⟨_,_,rfl⟩:=h;rfl
 ·subst h;rfl
 ·obtain⟨_,_,rfl⟩:=h;rfl
theorem PQ {h:Array Obj} {ok:Nat→Ty→Prop} {t:Ty} {x:t.den} {o:Nat} {v:Value} (k:Zu h ok t x o v):v.oneCell' =true:=by
 obtain⟨_,_,_,rfl,_⟩:=k;rfl
section
variable {h:Array Obj} {ok:Nat→Ty→Prop}
theorem rE {t:Ty} {xs:List t.den} {cs:List Value} {O:List Nat} :ja h ok (.own t) none xs cs O↔∃l v,cs=[v]∧l.view none v∧arrOk ⟨h,ok,nom⟩ t xs l∧O=l.blks:=by
 constructor
 ·rintro⟨v,e,_,l,hv,ha,ho⟩;exact⟨l,v,e,hv,ha,ho⟩
 ·rintro⟨l,v,e,hv,ha,ho⟩;exact⟨v,e,jY hv,l,hv,ha,ho⟩
theorem uq {m:M} {xs:List m.den} {cs:List Value} {O:List Nat} :ja h ok (.owns m) none xs cs O↔m.el=true∧∃l v Os,cs=[v]∧l.view none v∧
  xO h m.size (fun _ x es O=>ja h ok m none x es O) xs Os l∧O=l.blks++Os.flatten:=by
 constructor
 ·rintro⟨v,e,_,he,l,Os,hv,ha,ho⟩;exact⟨he,l,v,Os,e,hv,ha,ho⟩
 ·rintro⟨he,l,v,Os,e,hv,ha,ho⟩;exact⟨v,e,jY hv,he,l,Os,hv,ha,ho⟩
theorem a4T {a b:M} {x:a.den×b.den} {cs:List Value} {O:List Nat} :ja h ok (.pair a b) none x cs O↔∃c d O1 O2,cs=c++d∧O=O1++O2∧ja h ok a none x.1 c O1∧ja h ok b none x.2 d O2:=Iff.rfl
theorem pK:∀{m:M} {ho:Option Nat} {x:m.den} {cs:List Value} {O:List Nat},ja h ok m ho x cs O→∀v∈cs,v.oneCell' =true
 | .dat t,_,_,_,_,e=>AZ e.1
 | .own t,_,_,_,_,⟨v,e,hv,_⟩=>by subst e;simp[hv]
 | .owns t,_,_,_,_,⟨v,e,hv,_⟩=>by subst e;simp[hv]
 | .ownb t,_,_,_,_,⟨l,v,e,hv,_⟩=>by subst e;simp[jY hv]
 | .pair a b,_,_,_,_,⟨c,d,_,_,e,_,h1,h2⟩=>by
  subst e;intro v hv
  rcases List.mem_append.1 hv with hv | hv
  ·exact pK h1 v hv
  ·exact pK h2 v hv
 | .unit,_,_,_,_,⟨e,_⟩=>by subst e;simp
 | .box m,_,_,_,_,⟨_,_,_,_,e,_⟩=>by subst e;simp[Value.oneCell']
 | .rp t,_,_,_,_,⟨v,e,hv,_⟩=>by subst e;simp[PQ hv]
 | .fn f ts,_,_,_,_,⟨vs,e,_⟩=>by subst e;simp[Value.oneCell']
 | .ifc t m,_,_,_,_,⟨u,e,_⟩=>by subst e;simp[Value.oneCell']
 | .cell _,_,_,_,_,⟨v,e,h,_⟩=>by subst e;simp[h]
theorem KR {α β α' β' :Type} (ea:α=α') (eb:β=β') (e:(α×β)=(α' ×β')) (x:α×β):cast e x=(cast ea x.1,cast eb x.2):=by subst ea;subst eb;rfl
theorem M.ty_size:∀{m:M},m.el=true→m.ty.size=m.size
 | .dat _,_=>rfl
 | .own _,_=>rfl
 | .owns _,_=>rfl
 | .unit,_=>rfl
 | .pair a b,h=>by
  have h' :a.el=true∧b.el=true:=by simpa[M.el]using h
  simp[M.ty,Ty.size,M.size,M.ty_size h'.1,M.ty_size h'.2]
 | .box _,h=>by simp[M.el]at h
 | .ownb _,h=>by simp[M.el]at h
 | .rp _,h=>by simp[M.el]at h
 | .fn _ _,h=>by simp[M.el]at h
 | .ifc _ _,h=>by simp[M.el]at h
 | .cell _,h=>by simp[M.el]at h
theorem Z8:∀{m:M} {ho:Option Nat} {x:m.den} {cs:List Value} {O:List Nat},ja h ok m ho x cs O→cs.length=m.size
 | .dat t,_,_,_,_,e=>eX e.1
 | .own t,_,_,_,_,⟨v,e,hv,_⟩=>by subst e;rfl
 | .owns t,_,_,_,_,⟨v,e,hv,_⟩=>by subst e;rfl
 | .ownb t,_,_,_,_,⟨l,v,e,hv,_⟩=>by subst e;rfl
 | .pair a b,_,_,_,_,⟨c,d,_,_,e,_,h1,h2⟩=>by subst e;simp[Z8 h1,Z8 h2,M.size]
 | .unit,_,_,_,_,⟨e,_⟩=>by subst e;rfl
 | .box m,_,_,_,_,⟨_,_,_,_,e,_⟩=>by subst e;rfl
 | .rp t,_,_,_,_,⟨v,e,hv,_⟩=>by subst e;rfl
 | .fn f ts,_,_,_,_,⟨vs,e,_⟩=>by subst e;rfl
 | .ifc t m,_,_,_,_,⟨u,e,_⟩=>by subst e;rfl
 | .cell _,_,_,_,_,⟨v,e,_⟩=>by subst e;rfl
theorem WX {ok' :Nat→Ty→Prop} {α:Type} {t:Ty} {sz:Nat} {mp:Mp} (e:α=t.den) (e' :List α=List t.den) (hs:t.size=sz) {R:Nat→α→List Value→List Nat→Prop} {xs:List α} {Os:List (List Nat)} {l:Loc}
  (hR:∀i x es O,O∈Os→R i x es O→rep h ok' t (cast e x) es) (ha:xO h sz R xs Os l):arrOk ⟨h,ok',mp⟩ t (cast e' xs) l:=by
 subst e
 simp only[cast_eq]at hR ⊢
 cases l with
 | nil=>exact ha.1
 | st b=>exact ha
 | arr blk off len cap sz' =>
  obtain⟨h1,h2,h3,h7,c,T,h4,h5,h6⟩:=ha
  refine⟨by rw[hs];exact h1,h2,h3,c,T,h4,by rw[h1];exact h5,fun i x hi=>?_⟩
  obtain⟨es,O,hO,hc,hr⟩:=h6 i x hi
  exact⟨es,by rw[h1];exact hc,hR i x es O (bZ hO) hr⟩
theorem Kq {ok' :Nat→Ty→Prop} (hok:∀b t,ok b t→ok' b t):∀{m:M} (he:m.el=true) {x:m.den} {cs:List Value} {O:List Nat},(∀b∈O,∀t∈m.owned,ok' b t)→ja h ok m none x cs O→rep h ok' m.ty (cast (M.denEq m he) x) cs
 | .dat t,_,_,_,_,_,e=>cu hok (fun _ _ _=>rfl) e.1
 | .unit,_,_,_,_,_,e=>e.1
 | .own t,he,xs,_,_,hO,e=>by
  obtain⟨l,v,rfl,hv,ha,rfl⟩:=rE.1 e
  exact jl (C:=⟨h,ok,nom⟩) (vw:=none) ha hv hok (fun blk off len cap sz e=>by subst e;exact hO blk (by simp[Loc.blks]) t (by simp[M.owned]))
 | .pair a b,he,x,_,_,hO,e=>by
  obtain⟨c,d,O1,O2,rfl,rfl,h1,h2⟩:=e
  have h' :a.el=true∧b.el=true:=by simpa[M.el]using he
  have e:cast (M.denEq (.pair a b) he) x=(cast (M.denEq a h'.1) x.1,cast (M.denEq b h'.2) x.2):=KR _ _ _ _
  refine⟨c,d,rfl,?_,?_⟩
  ·rw[e];exact Kq hok h'.1 (fun b hb t ht=>hO b (by simp[hb]) t (by simp[M.owned,ht])) h1
  ·rw[e];exact Kq hok h'.2 (fun b hb t ht=>hO b (by simp[hb]) t (by simp[M.owned,ht])) h2
 | .owns m,he,xs,_,_,hO,e=>by
  obtain⟨_,l,v,Os,rfl,hv,ha,rfl⟩:=uq.1 e
  have he' :m.el=true:=he
  have hA:arrOk ⟨h,ok',nom⟩ m.ty (cast (congrArg List (M.denEq m he')) xs) l:=WX (M.denEq m he') _ (M.ty_size he') (fun i x es O hOi hr=>Kq hok he' (fun b hb t ht=>hO b (by
   simp only[List.mem_append,List.mem_flatten];exact .inr ⟨O,hOi,hb⟩) t (by simp[M.owned,ht])) hr) ha
  exact jl (C:=⟨h,ok',nom⟩) (t:=m.ty) (vw:=none) hA hv (fun _ _ h=>h) (fun blk off len cap sz e=>by subst e;exact hO blk (by simp[Loc.blks]) m.ty (by simp[M.owned]))
 | .box _,h,_,_,_,_,_=>by simp[M.el]at h
 | .ownb _,h,_,_,_,_,_=>by simp[M.el]at h
 | .rp _,h,_,_,_,_,_=>by simp[M.el]at h
 | .fn _ _,h,_,_,_,_,_=>by simp[M.el]at h
 | .ifc _ _,h,_,_,_,_,_=>by simp[M.el]at h
 | .cell _,h,_,_,_,_,_=>by simp[M.el]at h
theorem Hr {ok' :Nat→Ty→Prop} {m:M} {mp:Mp} (he:m.el=true) (hok:∀b t,ok b t→ok' b t) {xs:List m.den} {Os:List (List Nat)} {l:Loc} (hO:∀b∈Os.flatten,∀t∈m.owned,ok' b t)
  (ha:xO h m.size (fun _ x es O=>ja h ok m none x es O) xs Os l):arrOk ⟨h,ok',mp⟩ m.ty (cast (congrArg List (M.denEq m he)) xs) l:=
 WX (M.denEq m he) _ (M.ty_size he) (fun i x es O hOi hr=>Kq hok he (fun b hb t ht=>hO b (List.mem_flatten.2 ⟨O,hOi,hb⟩) t ht) hr) ha
end
theorem NU {h h' :Array Obj} {ok ok' :Nat→Ty→Prop} (hok:∀b t,ok b t→ok' b t) (hh:∀b t,ok b t→h'[b]? =h[b]?):
  ∀{ms:List MG} {x:U4 ms} {vs:List Value} {O:List Nat},(∀b∈O,h'[b]? =h[b]?)→mM h ok ms x vs O→mM h' ok' ms x vs O
 | [],_,_,_,_,e=>e
 | [m],_,_,_,hb,⟨v,cs,e,hg,hr⟩=>⟨v,cs,e,hg,dE hok hh hb hr⟩
 | m::m' ::r,_,_,_,hb,⟨v,cs,vs',O1,O2,e,eo,hg,h1,h2⟩=>by
  subst eo
  exact⟨v,cs,vs',O1,O2,e,rfl,hg,dE hok hh (fun b h=>hb b (by simp[h])) h1,NU hok hh (fun b h=>hb b (by simp[h])) h2⟩
section
variable {X:Fx} {cl ch:Nat} {S:Sm} {m:Mp} {ok:Nat→Ty→Prop} {a:Act} {w:World} {T:List Nat}
theorem dK {α:Type} {Q:α→Sm→Prop} {p q:Ty} {xs:List p.den} {k:List q.den→Cmd α} {S:Sm}
  (h:∀e:p=q,(k (e▸xs)).post S Q):(Ty.castL p q xs k .fail).post S Q:=by
 unfold Ty.castL
 split
 ·rename_i e;exact h e
 ·trivial
theorem aQ {α:Type} {Q:α→Sm→Prop} {b:Bool} {c:Cmd α} {S:Sm} (h:b=true→c.post S Q):(bif b then c else Cmd.fail).post S Q:=by
 cases b
 ·trivial
 ·exact h rfl
theorem Dp {α:Type} {Q:α→Sm→Prop} {p q:Ty} {x:p.den} {k:q.den→Cmd α} {S:Sm}
  (h:∀e:p=q,(k (e▸x)).post S Q):(TS p q x k .fail).post S Q:=by
 unfold TS
 split
 ·rename_i e;exact h e
 ·trivial
theorem Py {α:Type} {Q:α→Sm→Prop} {p q:M} {xs:List p.den} {k:List q.den→Cmd α} {S:Sm}
  (h:∀e:p=q,(k (e▸xs)).post S Q):(a1I p q xs k .fail).post S Q:=by
 unfold a1I
 split
 ·rename_i e;exact h (M.beq_eq e)
 ·trivial
theorem Xm {α:Type} {Q:α→Sm→Prop} {p:M} {t:Ty} {xs:List p.den} {k:List t.den→Cmd α} {S:Sm}
  (h:∀(e:p.el=true) (e' :p.ty=t),(k (e' ▸cast (congrArg List (M.denEq p e)) xs)).post S Q):(ZA p t xs k .fail).post S Q:=by
 unfold ZA
 split
 ·rename_i e
  obtain⟨e,rfl⟩:=e
  exact h e rfl
 ·trivial
theorem JZ {h:Array Obj} {ok ok' :Nat→Ty→Prop} {m:Mp} (k:∀b t,ok b t→ok' b t) {cs:List V} {vs:List Value} (hr:aS ⟨h,ok,m⟩ cs vs):aS ⟨h,ok',m⟩ cs vs:=
 AV (C:=⟨h,ok,m⟩) (D:=⟨h,ok',m⟩) ⟨k,fun _ _ _=>rfl,fun _ _ h=>h⟩ hr
theorem OO {h:Array Obj} {ok ok' :Nat→Ty→Prop} {m:Mp} (k:∀b t,ok b t→ok' b t) {c:V} {v:Value} (hr:gW ⟨h,ok,m⟩ c v):gW ⟨h,ok',m⟩ c v:=
 Kr (C:=⟨h,ok,m⟩) (D:=⟨h,ok',m⟩) ⟨k,fun _ _ _=>rfl,fun _ _ h=>h⟩ hr
theorem IJ {bs:List Nat} {Ts:List Ty} :∀b t,ok b t→okW ok bs Ts b t:=fun _ _ h=> .inl h
def okL (ln:Ty→Bool) (S:Sm) (m:Mp) (ok:Nat→Ty→Prop):Nat→Ty→Prop:=fun b t=>ok b t∨(ln t=true∧∃n,b∈O9 m n (S (BOX+n))∧t∈a6X (S (BOX+n)))
theorem a6N:okL xA S m ok=ok:=by funext b t;simp[okL,xA]
theorem UB {ln:Ty→Bool} {n:Nat} {v:V} (hv:O9 m n v=[]) {Ts:List Ty} {bs:List Nat} (hbs:O9 m n (S (BOX+n)) ⊆ bs) (hTs:a6X (S (BOX+n)) ⊆ Ts):
  ∀b t,okL ln S m ok b t→okL ln (upd S (BOX+n) v) m (okW ok bs Ts) b t:=by
 intro b t h
 rcases h with h | ⟨hl,k,hk,ht⟩
 ·exact .inl (.inl h)
 ·by_cases e:k=n
  ·subst e;exact .inl (.inr ⟨hbs hk,hTs ht⟩)
  ·exact .inr ⟨hl,k,by rw[V7 _ _ (by omega)];exact⟨hk,ht⟩⟩
def Y5 (S S' :Sm):Prop:=∀n,n<BOX→S' n=S n
theorem Y5.refl (S:Sm):Y5 S S:=fun _ _=>rfl
theorem Y5.trans {A B C:Sm} (h:Y5 A B) (k:Y5 B C):Y5 A C:=fun n hn=>(k n hn).trans (h n hn)
theorem Y5.box (S:Sm) (n:Nat) (v:V):Y5 S (upd S (BOX+n) v):=fun k hk=>V7 _ _ (by omega)
theorem TJ {ln:Ty→Bool} :∀{ts:List Ty},WS ln ts=true→∀t∈ts,ln t=true
 | [],_,_,h=>by cases h
 | u::r,e,t,h=>by
  unfold WS at e
  cases hl:ln u with
  | false=>rw[hl]at e;cases e
  | true=>
   rw[hl]at e
   rcases List.mem_cons.1 h with rfl | h
   ·exact hl
   ·exact TJ e t h
theorem Bg {α:Type} {Q:α→Sm→Prop} (ln:Ty→Bool):∀(t:Ty) {cs:List V} {K:t.den→List V→Cmd α} {S:Sm} {ok:Nat→Ty→Prop} {vs:List Value} (R:Rel X cl ch S m ok a w) (hT:Tk X S m ok w T)
  (hL:aS ⟨w.heap,ok,m⟩ cs vs)
  (hK:∀S' ok' x r us us',Rel X cl ch S' m ok' a w→Tk X S' m ok' w T→(∀b t,ok b t→ok' b t)→(∀b t,okL ln S m ok b t→okL ln S' m ok' b t)→Y5 S S' →vs=us++us' →rep w.heap (okL ln S' m ok') t x us→aS ⟨w.heap,ok',m⟩ r us' →(K x r).post S' Q),
  (jA ln t cs K).post S Q
 | .bool,cs,K,S,ok,vs,R,hT,hL,hK=>by
  unfold jA
  split
  ·obtain⟨v,r,rfl,h1,_,h3⟩:=hL
   exact hK _ _ _ _ [v] r R hT (fun _ _ h=>h) (fun _ _ h=>h) (Y5.refl _) rfl (by simp only[uy]at h1;simp[rep,h1]) h3
  ·trivial
 | .int k,cs,K,S,ok,vs,R,hT,hL,hK=>by
  unfold jA
  split
  ·rename_i k' n r0
   obtain⟨v,r,rfl,h1,_,h3⟩:=hL
   by_cases e:k=k'
   ·subst e
    simp only[decide_true,cond_true]
    exact hK _ _ _ _ [v] r R hT (fun _ _ h=>h) (fun _ _ h=>h) (Y5.refl _) rfl (by simp only[uy]at h1;simp[rep,h1]) h3
   ·simp only[e,decide_false,cond_false];trivial
  ·trivial
 | .str,cs,K,S,ok,vs,R,hT,hL,hK=>by
  unfold jA
  split
  ·obtain⟨v,r,rfl,h1,_,h3⟩:=hL
   exact hK _ _ _ _ [v] r R hT (fun _ _ h=>h) (fun _ _ h=>h) (Y5.refl _) rfl (by simp only[uy]at h1;simp[rep,h1]) h3
  ·trivial
 | .unit,cs,K,S,ok,vs,R,hT,hL,hK=>by
  unfold jA
  exact hK _ _ _ _ [] vs R hT (fun _ _ h=>h) (fun _ _ h=>h) (Y5.refl _) rfl rfl hL
 | .prod p q,cs,K,S,ok,vs,R,hT,hL,hK=>by
  unfold jA
  refine Bg ln p R hT hL fun S1 ok1 x r us us' R1 T1 k1 g1 s1 e1 h1 l1=>?_
  refine Bg ln q R1 T1 l1 fun S2 ok2 y r' vs2 vs2' R2 T2 k2 g2 s2 e2 h2 l2=>?_
  subst e1;subst e2
  exact hK _ _ _ _ (us++vs2) vs2' R2 T2 (fun b t h=>k2 b t (k1 b t h)) (fun b t h=>g2 b t (g1 b t h)) (s1.trans s2) (by simp) ⟨us,vs2,rfl,cu g2 (fun _ _ _=>rfl) h1,h2⟩ l2
 | .sl t,cs,K,S,ok,vs,R,hT,hL,hK=>by
  unfold jA
  split
  ·obtain⟨v,r,rfl,h1,_,h3⟩:=hL
   simp only[uy]at h1;subst h1
   exact hK _ _ _ _ [_] r R hT (fun _ _ h=>h) (fun _ _ h=>h) (Y5.refl _) rfl ⟨none,0,rfl,Nat.le_refl _,fun i x hi=>by simp at hi⟩ h3
  ·rename_i t' xs r0
   obtain⟨v,r,rfl,h1,_,h3⟩:=hL
   refine dK fun e=>?_
   subst e
   exact hK _ _ _ _ [v] r R hT (fun _ _ h=>h) (fun _ _ h=>h) (Y5.refl _) rfl (cu (fun _ _ h=> .inl h) (fun _ _ _=>rfl) h1) h3
  ·rename_i bx vw r0
   obtain⟨v,r,rfl,h1,_,h3⟩:=hL
   obtain⟨l,hm,hv⟩:=h1
   show Cmd.post (match S (BOX+bx)with | .barr t' xs=>_ | .bfrz t' xs=>_ | .barrs el xs none=>_ | _=>_) S Q
   have hb:=R.box bx
   split
   ·rename_i t' xs hS
    rw[hS]at hb
    obtain⟨l',hm',ha⟩:=hb
    simp only at hm hm'
    rw[hm]at hm';cases hm'
    refine dK fun e=>?_
    subst e
    have hob:O9 m bx (S (BOX+bx))=l.blks:=by
     rw[hS];cases l <;> first | (simp[O9,hm,Loc.blks];done) | cases ha
    cases hl:ln t'
    ·simp only[cond_false]
     show Cmd.post _ (upd S (BOX+bx) (.bfrz t' xs)) Q
     have hbs:∀b∈l.blks,b∈O9 m bx (S (BOX+bx)):=fun b h=>by rw[hob];exact h
     refine hK _ (okW ok l.blks [t']) _ _ [v] r (R.widen (by simp) rfl hbs ?_) (hT.widen rfl hbs) IJ (UB rfl (by rw[hob];exact fun _ h=>h) (by rw[hS];exact fun _ h=>h)) (Y5.box _ _ _) rfl ?_ (JZ IJ h3)
     ·refine⟨l,hm,oC IJ (fun _ _ _=>rfl) (fun _ _=>rfl) ha,?_⟩
      rintro blk off len cap sz rfl
      exact .inr ⟨by simp[Loc.blks],by simp⟩
     ·exact jl (C:=⟨w.heap,ok,m⟩) ha hv (fun b t h=> .inl (.inl h)) (fun blk off len cap sz e=>by subst e;exact .inl (.inr ⟨by simp[Loc.blks],by simp⟩))
    ·simp only[cond_true]
     refine hK _ _ _ _ [v] r R hT (fun _ _ h=>h) (fun _ _ h=>h) (Y5.refl _) rfl ?_ h3
     refine jl (C:=⟨w.heap,ok,m⟩) ha hv (fun b t h=> .inl h) (fun blk off len cap sz e=> .inr ⟨hl,bx,?_,by rw[hS];simp[a6X]⟩)
     rw[hob];subst e;simp[Loc.blks]
   ·rename_i t' xs hS
    rw[hS]at hb
    obtain⟨l',hm',ha,hok⟩:=hb
    simp only at hm hm'
    rw[hm]at hm';cases hm'
    refine dK fun e=>?_
    subst e
    exact hK _ _ _ _ [v] r R hT (fun _ _ h=>h) (fun _ _ h=>h) (Y5.refl _) rfl (jl (C:=⟨w.heap,ok,m⟩) ha hv (fun _ _ h=> .inl h) (fun blk off len cap sz e=> .inl (hok _ _ _ _ _ e))) h3
   ·rename_i md xs hS
    rw[hS]at hb
    obtain⟨hel,l',Os,hm',ha,hk⟩:=hb
    simp only at hm hm' hk
    rw[hm]at hm';cases hm'
    refine Xm fun e e' =>?_
    subst e'
    have hob:O9 m bx (S (BOX+bx))=l.blks++Os.flatten:=by
     rw[hS];simp only[O9];rw[hk];cases l <;> first | (simp[hm,Loc.blks];done) | cases ha
    simp only
    cases hl:(ln md.ty&&WS ln md.owned)
    ·simp only[cond_false]
     show Cmd.post _ (upd S (BOX+bx) (.bfrz md.ty _)) Q
     have hbs:∀b∈l.blks++Os.flatten,b∈O9 m bx (S (BOX+bx)):=fun b h=>by rw[hob];exact h
     have ha' :arrOk ⟨w.heap,okW ok (l.blks++Os.flatten) (md.ty::md.owned),m⟩ md.ty (cast (congrArg List (M.denEq md e)) xs) l:=
      Hr e IJ (fun b hb t ht=> .inr ⟨by simp[hb],by simp[ht]⟩) ha
     refine hK _ (okW ok (l.blks++Os.flatten) (md.ty::md.owned)) _ _ [v] r (R.widen (by simp) rfl hbs ?_) (hT.widen rfl hbs) IJ (UB rfl (by rw[hob];exact fun _ h=>h) (by rw[hS];exact fun _ h=>h)) (Y5.box _ _ _) rfl ?_ (JZ IJ h3)
     ·refine⟨l,hm,ha',?_⟩
      rintro blk off len cap sz rfl
      exact .inr ⟨by simp[Loc.blks],by simp⟩
     ·exact jl (C:=⟨w.heap,okW ok (l.blks++Os.flatten) (md.ty::md.owned),m⟩) ha' hv (fun b t h=> .inl h) (fun blk off len cap sz e=>by subst e;exact .inl (.inr ⟨by simp[Loc.blks],by simp⟩))
    ·simp only[cond_true]
     simp only[Bool.and_eq_true]at hl
     have ha' :arrOk ⟨w.heap,okL ln S m ok,m⟩ md.ty (cast (congrArg List (M.denEq md e)) xs) l:=
      Hr e (fun b t h=> .inl h) (fun b hb t ht=> .inr ⟨TJ hl.2 t ht,bx,by rw[hob];simp[hb],by rw[hS];simp[a6X,ht]⟩) ha
     refine hK _ _ _ _ [v] r R hT (fun _ _ h=>h) (fun _ _ h=>h) (Y5.refl _) rfl ?_ h3
     refine jl (C:=⟨w.heap,okL ln S m ok,m⟩) ha' hv (fun b t h=>h) (fun blk off len cap sz e=> .inr ⟨hl.1,bx,?_,by rw[hS];simp[a6X]⟩)
     rw[hob];subst e;simp[Loc.blks]
   ·trivial
  ·trivial
theorem Dc {α:Type} {Q:α→Sm→Prop} (t:Ty) {cs:List V} {K:t.den→List V→Cmd α} {S:Sm} {ok:Nat→Ty→Prop} {vs:List Value} (R:Rel X cl ch S m ok a w) (hT:Tk X S m ok w T)
  (hL:aS ⟨w.heap,ok,m⟩ cs vs)
  (hK:∀S' ok' x r us us',Rel X cl ch S' m ok' a w→Tk X S' m ok' w T→(∀b t,ok b t→ok' b t)→Y5 S S' →vs=us++us' →rep w.heap ok' t x us→aS ⟨w.heap,ok',m⟩ r us' →(K x r).post S' Q):
  (jA xA t cs K).post S Q:=
 Bg xA t R hT hL fun S' ok' x r us us' R' T' k g s e h l=>hK S' ok' x r us us' R' T' k s e (by rw[a6N]at h;exact h) l
theorem Loc.blks_nodup (l:Loc):l.blks.Nodup:=by cases l <;> simp[Loc.blks]
theorem Yz {α:Type} {Q:α→Sm→Prop} (t:Ty) {c:V} {K:t.den→Cmd α} {S:Sm} {ok:Nat→Ty→Prop} {v:Value} (R:Rel X cl ch S m ok a w) (hT:Tk X S m ok w T)
  (hv:uy ⟨w.heap,ok,m⟩ c v)
  (hK:∀S' ok' x,Rel X cl ch S' m ok' a w→Tk X S' m ok' w T→(∀b t,ok b t→ok' b t)→Y5 S S' →Zu w.heap ok' t x 0 v→(K x).post S' Q):(rpC t c K).post S Q:=by
 unfold rpC
 split
 ·refine Dp fun e=>?_
  subst e
  exact hK _ _ _ R hT (fun _ _ h=>h) (Y5.refl _) hv
 ·rename_i bx
  obtain⟨blk,hm,rfl⟩:=hv
  show Cmd.post (match S (BOX+bx)with | .bfc t' x=>_ | .bcells bs=>_ | _=>_) S Q
  have hb:=R.box bx
  split
  ·rename_i t' x hS
   rw[hS]at hb
   obtain⟨blk',es,hm',hok,hc,hr⟩:=hb
   simp only at hm hm'
   rw[hm]at hm';cases hm'
   refine Dp fun e=>?_
   subst e
   exact hK _ _ _ R hT (fun _ _ h=>h) (Y5.refl _) ⟨blk,0,es,rfl,hok,hc,hr⟩
  ·rename_i bs hS
   rw[hS]at hb
   obtain⟨blk',arr,Ty',hm',hh,hl⟩:=hb
   simp only at hm hm'
   rw[hm]at hm';cases hm'
   refine Dc t R hT hl fun S1 ok1 x q us us' R1 T1 k1 s1 e1 h1 l1=>?_
   cases q with
   | cons c q=>trivial
   | nil=>
    simp only[aS]at l1
    subst l1
    simp only[List.append_nil]at e1
    show Cmd.post (match S1 (BOX+bx)with | .bcells _=>_ | _=>_) S1 Q
    split
    ·rename_i bs' hS'
     show Cmd.post _ (upd S1 (BOX+bx) (.bfc t x)) Q
     have hbs:∀b∈[blk],b∈O9 m bx (S1 (BOX+bx)):=fun b h=>by rw[hS'];simp at h;subst h;simp[O9,hm]
     have hce:ai w.heap blk 0 t.size=some us:=by
      rw[iq hh 0 t.size (by have:=eX h1;rw[←e1]at this;simp at this;omega)]
      rw[e1,←eX h1];simp
     have hr:=cu (IJ (bs:=[blk]) (Ts:=[t])) (fun _ _ _=>rfl) h1
     refine hK _ (okW ok1 [blk] [t]) _ (R1.widen (by simp) rfl hbs ?_) (T1.widen rfl hbs) (fun b t h=> .inl (k1 b t h)) (s1.trans (Y5.box _ _ _)) ?_
     ·exact⟨blk,us,hm,.inr ⟨by simp,by simp⟩,hce,hr⟩
     ·exact⟨blk,0,us,rfl,.inr ⟨by simp,by simp⟩,hce,hr⟩
    ·trivial
  ·trivial
 ·trivial
theorem MR {α:Type} {Q:α→Sm→Prop} {h:Array Obj} {ok:Nat→Ty→Prop} :∀(ts:List Ty) {cs:List ((t:Ty)×t.den)} {vs:List Value} {K:MN ts→Cmd α} {S:Sm}
  (hc:zt h ok cs vs) (hK:∀x,zt h ok (ML ts x) vs→(K x).post S Q),(KQ ts cs K).post S Q
 | [],cs,vs,K,S,hc,hK=>by
  unfold KQ
  split
  ·exact hK _ hc
  ·trivial
 | [t],cs,vs,K,S,hc,hK=>by
  unfold KQ
  split
  ·refine Dp fun e=>?_
   subst e
   exact hK _ hc
  ·trivial
 | t::t' ::r,cs,vs,K,S,hc,hK=>by
  unfold KQ
  split
  ·obtain⟨v,vs',rfl,h1,h2⟩:=hc
   refine Dp fun e=>?_
   subst e
   exact MR (t' ::r) h2 fun y hy=>hK _ ⟨v,vs',rfl,h1,hy⟩
  ·trivial
theorem zA {α:Type} {Q:α→Sm→Prop} :∀(md:M) {cs:List V} {K:md.den→List V→Cmd α} {S:Sm} {ok:Nat→Ty→Prop} {vs:List Value} {T:List Nat} (R:Rel X cl ch S m ok a w) (hT:Tk X S m ok w T)
  (hL:aS ⟨w.heap,ok,m⟩ cs vs)
  (hK:∀S' ok' x r us us' O,Rel X cl ch S' m ok' a w→Tk X S' m ok' w (T++O)→(∀b t,ok b t→ok' b t)→Y5 S S' →vs=us++us' →ja w.heap ok' md none x us O→aS ⟨w.heap,ok',m⟩ r us' →(K x r).post S' Q),
  (exM xA md cs K).post S Q
 | .dat t,cs,K,S,ok,vs,T,R,hT,hL,hK=>by
  unfold exM
  exact Dc t R hT hL fun S' ok' x r us us' R' T' k s e h l=>hK S' ok' x r us us' [] R' (by simpa using T') k s e ⟨h,rfl⟩ l
 | .own t,cs,K,S,ok,vs,T,R,hT,hL,hK=>by
  unfold exM
  split
  ·obtain⟨v,r,rfl,h1,_,h3⟩:=hL
   simp only[uy]at h1;subst h1
   exact hK _ _ _ _ [_] r [] R (by simpa using hT) (fun _ _ h=>h) (Y5.refl _) rfl (rE.2 ⟨.nil,_,rfl,rfl,rfl,rfl⟩) h3
  ·rename_i bx vw r0
   obtain⟨v,r,rfl,h1,_,h3⟩:=hL
   obtain⟨l,hm,hv⟩:=h1
   show Cmd.post (match S (BOX+bx)with | .barr t' xs=>_ | _=>_) S Q
   have hb:=R.box bx
   split
   ·rename_i t' xs hS
    rw[hS]at hb
    obtain⟨l',hm',ha⟩:=hb
    simp only at hm hm'
    rw[hm]at hm';cases hm'
    refine dK fun e=>?_
    subst e
    obtain⟨a1,a2,a3⟩:=Dl (C:=⟨w.heap,ok,m⟩) ha hv
    show Cmd.post _ (upd S (BOX+bx) .dead) Q
    refine hK _ ok _ _ [v] r (Eu l vw).blks (R.kill bx) ?_ (fun _ _ h=>h) (Y5.box _ _ _) rfl (rE.2 ⟨_,v,rfl,a2,oC (fun _ _ h=>h) (fun _ _ _=>rfl) (fun _ _=>rfl) a1,rfl⟩) h3
    rw[a3]
    refine hT.kill R bx (fun b hb=>?_) (Loc.blks_nodup l)
    cases l with
    | nil=>simp[Loc.blks]at hb
    | st _=>cases ha
    | arr blk off len cap sz=>simp[Loc.blks]at hb;subst hb;simp[O9,hS,hm]
   ·trivial
  ·trivial
 | .ownb t,cs,K,S,ok,vs,T,R,hT,hL,hK=>by
  unfold exM
  split
  ·obtain⟨v,r,rfl,h1,_,h3⟩:=hL
   simp only[uy]at h1;subst h1
   exact hK _ _ _ _ [_] r [] R (by simpa using hT) (fun _ _ h=>h) (Y5.refl _) rfl ⟨.nil,_,rfl,rfl,rfl,rfl⟩ h3
  ·rename_i bx r0
   obtain⟨v,r,rfl,h1,_,h3⟩:=hL
   obtain⟨l,hm,hv⟩:=h1
   show Cmd.post (match S (BOX+bx)with | .barr t' xs=>_ | _=>_) S Q
   have hb:=R.box bx
   split
   ·rename_i t' xs hS
    rw[hS]at hb
    obtain⟨l',hm',ha⟩:=hb
    simp only at hm hm'
    rw[hm]at hm';cases hm'
    refine dK fun e=>?_
    subst e
    show Cmd.post _ (upd S (BOX+bx) (.gone t')) Q
    refine hK _ ok _ _ [v] r l.blks (R.killV bx (by simp) rfl ⟨l,hm,fun blk off len cap sz e=>by subst e;exact ha.1⟩) ?_ (fun _ _ h=>h) (Y5.box _ _ _) rfl ⟨l,v,rfl,hv,oC (fun _ _ h=>h) (fun _ _ _=>rfl) (fun _ _=>rfl) ha,rfl⟩ h3
    refine hT.killV R bx rfl (fun b hb=>?_) (Loc.blks_nodup l)
    cases l with
    | nil=>simp[Loc.blks]at hb
    | st _=>cases ha
    | arr blk off len cap sz=>simp[Loc.blks]at hb;subst hb;simp[O9,hS,hm]
   ·trivial
  ·trivial
 | .owns md,cs,K,S,ok,vs,T,R,hT,hL,hK=>by
  unfold exM
  split
  ·obtain⟨v,r,rfl,h1,_,h3⟩:=hL
   simp only[uy]at h1;subst h1
   refine aQ fun he=>?_
   exact hK _ _ _ _ [_] r [] R (by simpa using hT) (fun _ _ h=>h) (Y5.refl _) rfl (uq.2 ⟨he,.nil,_,[],rfl,rfl,⟨rfl,rfl⟩,rfl⟩) h3
  ·rename_i bx r0
   obtain⟨v,r,rfl,h1,_,h3⟩:=hL
   obtain⟨l,hm,hv⟩:=h1
   show Cmd.post (match S (BOX+bx)with | .barrs m' xs none=>_ | _=>_) S Q
   have hb:=R.box bx
   split
   ·rename_i md' xs hS
    rw[hS]at hb
    obtain⟨hel,l',Os,hm',ha,hk⟩:=hb
    simp only at hm hm' hk
    rw[hm]at hm';cases hm'
    refine Py fun e=>?_
    subst e
    have hob:O9 m bx (S (BOX+bx))=l.blks++Os.flatten:=by
     rw[hS];simp only[O9];rw[hk];cases l <;> first | (simp[hm,Loc.blks];done) | cases ha
    show Cmd.post _ (upd S (BOX+bx) .dead) Q
    refine hK _ ok _ _ [v] r (l.blks++Os.flatten) (R.kill bx) ?_ (fun _ _ h=>h) (Y5.box _ _ _) rfl (uq.2 ⟨hel,l,v,Os,rfl,hv,ha,rfl⟩) h3
    refine hT.kill R bx (fun b hb=>by rw[hob];exact hb) (by rw[←hob];exact R.nd bx)
   ·trivial
  ·trivial
 | .unit,cs,K,S,ok,vs,T,R,hT,hL,hK=>by
  unfold exM
  exact hK _ _ _ _ [] vs [] R (by simpa using hT) (fun _ _ h=>h) (Y5.refl _) rfl ⟨rfl,rfl⟩ hL
 | .pair p q,cs,K,S,ok,vs,T,R,hT,hL,hK=>by
  unfold exM
  refine zA p R hT hL fun S1 ok1 x r us us' O1 R1 T1 k1 s1 e1 h1 l1=>?_
  refine zA q R1 T1 l1 fun S2 ok2 y r' vs2 vs2' O2 R2 T2 k2 s2 e2 h2 l2=>?_
  subst e1;subst e2
  exact hK _ _ _ _ (us++vs2) vs2' (O1++O2) R2 (by simpa using T2) (fun b t h=>k2 b t (k1 b t h)) (s1.trans s2) (by simp) ⟨us,vs2,O1,O2,rfl,rfl,dE k2 (fun _ _ _=>rfl) (fun _ _=>rfl) h1,h2⟩ l2
 | .box md,cs,K,S,ok,vs,T,R,hT,hL,hK=>by
  unfold exM
  split
  ·rename_i bx r0
   obtain⟨v,r,rfl,h1,_,h3⟩:=hL
   obtain⟨blk,hm,hv⟩:=h1
   show Cmd.post (match S (BOX+bx)with | .bcells bs=>_ | _=>_) S Q
   have hb:=R.box bx
   split
   ·rename_i bs hS
    rw[hS]at hb
    obtain⟨blk',arr,Ty',hm',hh,hl⟩:=hb
    simp only at hm hm' hv
    rw[hm]at hm';cases hm'
    subst hv
    show Cmd.post _ (upd S (BOX+bx) .dead) Q
    have hT1:Tk X (upd S (BOX+bx) .dead) m ok w (T++[blk]):=hT.kill R bx (fun b hb=>by simp at hb;subst hb;simp[O9,hS,hm]) (by simp)
    refine zA md (R.kill bx) hT1 hl fun S1 ok1 x q us us' O R1 T1 k1 s1 e1 h1 l1=>?_
    cases q with
    | nil=>
     simp only[aS]at l1
     subst l1
     simp only[List.append_nil]at e1
     refine hK _ _ _ _ [_] r (blk::O) R1 (by simpa using T1) k1 ((Y5.box _ _ _).trans s1) rfl ⟨blk,arr,Ty',O,rfl,hh,by rw[e1];exact h1,rfl⟩ (JZ k1 h3)
    | cons c q=>trivial
   ·trivial
  ·trivial
 | .rp t,cs,K,S,ok,vs,T,R,hT,hL,hK=>by
  unfold exM
  split
  ·obtain⟨v,r,rfl,h1,_,h3⟩:=hL
   refine Yz t R hT h1 fun S1 ok1 x R1 T1 k1 s1 h1=>?_
   exact hK _ _ _ _ [v] r [] R1 (by simpa using T1) k1 s1 rfl ⟨v,rfl,h1,rfl⟩ (JZ k1 h3)
  ·trivial
 | .fn f ts,cs,K,S,ok,vs,T,R,hT,hL,hK=>by
  unfold exM
  split
  ·rename_i g caps r0
   obtain⟨v,r,rfl,⟨us,rfl,hc⟩,_,h3⟩:=hL
   cases hb:Nat.beq g f
   ·trivial
   ·simp only[cond_true]
    have e:=bT hb
    subst e
    exact MR ts hc fun x hx=>hK _ _ _ _ [_] r [] R (by simpa using hT) (fun _ _ h=>h) (Y5.refl _) rfl ⟨us,rfl,hx,rfl⟩ h3
  ·trivial
 | .ifc t md,cs,K,S,ok,vs,T,R,hT,hL,hK=>by
  unfold exM
  split
  ·rename_i t' c r0
   obtain⟨v,r,rfl,⟨u,rfl,hu,hc⟩,_,h3⟩:=hL
   cases hb:Nat.beq t' t
   ·trivial
   ·simp only[cond_true]
    have e:=bT hb
    subst e
    refine zA md (vs:=[u]) R hT ⟨u,[],rfl,hc,hu,rfl⟩ fun S1 ok1 x q us us' O R1 T1 k1 s1 e1 h1 l1=>?_
    cases q with
    | cons c q=>trivial
    | nil=>
     simp only[aS]at l1
     subst l1
     simp only[List.append_nil]at e1
     subst e1
     exact hK _ _ _ _ [_] r O R1 T1 k1 s1 rfl ⟨u,rfl,h1⟩ (JZ k1 h3)
  ·trivial
 | .cell (some none),cs,K,S,ok,vs,T,R,hT,hL,hK=>by
  unfold exM
  split
  ·obtain⟨v,r,rfl,h1,h2,h3⟩:=hL
   exact hK _ _ _ _ [v] r [] R (by simpa using hT) (fun _ _ h=>h) (Y5.refl _) rfl ⟨v,rfl,h2,fun _=>h1,(fun _ h=>nomatch h),rfl⟩ h3
  ·trivial
 | .cell (some (some b)),cs,K,S,ok,vs,T,R,hT,hL,hK=>by
  unfold exM
  split
  ·obtain⟨v,r,rfl,h1,h2,h3⟩:=hL
   cases b
   ·trivial
   ·exact hK _ _ _ _ [v] r [] R (by simpa using hT) (fun _ _ h=>h) (Y5.refl _) rfl ⟨v,rfl,h2,(fun h=>nomatch h),(fun b' h=>by cases h;exact h1),rfl⟩ h3
  ·obtain⟨v,r,rfl,h1,h2,h3⟩:=hL
   cases b
   ·exact hK _ _ _ _ [v] r [] R (by simpa using hT) (fun _ _ h=>h) (Y5.refl _) rfl ⟨v,rfl,h2,(fun h=>nomatch h),(fun b' h=>by cases h;exact h1),rfl⟩ h3
   ·trivial
  ·trivial
 | .cell none,cs,K,S,ok,vs,T,R,hT,hL,hK=>by
  unfold exM
  split
  ·obtain⟨v,r,rfl,h1,h2,h3⟩:=hL
   exact hK _ _ _ _ [v] r [] R (by simpa using hT) (fun _ _ h=>h) (Y5.refl _) rfl ⟨v,rfl,h2,(fun h=>nomatch h),(fun _ h=>nomatch h),rfl⟩ h3
  ·trivial
end
end Go.GP
namespace Go.GP
def bM (C:Cx):List V→List Value→Prop
 | [],vs=>vs=[]
 | c::cs,vs=>∃v r,vs=v::r∧gW C c v∧bM C cs r
theorem FU {h:Array Obj} {ok ok' :Nat→Ty→Prop} {m:Mp} (k:∀b t,ok b t→ok' b t):∀{cs:List V} {vs:List Value},bM ⟨h,ok,m⟩ cs vs→bM ⟨h,ok',m⟩ cs vs
 | [],_,e=>e
 | _::_,_,⟨v,r,e,h1,h2⟩=>⟨v,r,e,OO k h1,FU k h2⟩
theorem FT {h:Array Obj} {ok:Nat→Ty→Prop} {m m' :Mp} (k:∀n l,m n=some l→m' n=some l) {cs:List V} {vs:List Value} (hr:aS ⟨h,ok,m⟩ cs vs):aS ⟨h,ok,m'⟩ cs vs:=
 AV (C:=⟨h,ok,m⟩) (D:=⟨h,ok,m'⟩) ⟨fun _ _ h=>h,fun _ _ _=>rfl,k⟩ hr
theorem Yt {C:Cx} {c:V} {v:Value} (h1:c≠.undef) (h2:c≠.un) (h:uy C c v):v.oneCell' =true:=by
 cases c <;> simp only[uy]at h <;> try (subst h;rfl)
 case ne=>obtain⟨_,_,rfl,_⟩:=h;rfl
 ·exact absurd rfl h1
 ·exact absurd rfl h2
 ·obtain⟨a,cap,e,_⟩:=h;simp at e;subst e;rfl
 ·obtain⟨l,_,hv⟩:=h;exact jY hv
 ·obtain⟨b,_,rfl⟩:=h;rfl
 ·obtain⟨_,_,_,_,_,_,_,rfl⟩:=h;rfl
 ·exact PQ h
 all_goals first | exact h.elim | (obtain⟨_,rfl,_⟩:=h;rfl) | (obtain⟨_,_,rfl⟩:=h;rfl)
theorem yO {C:Cx} {c:V} {v:Value} (h:uy C c v):gW C c v:=by
 cases c <;> simp only[uy]at h <;> try exact h
 all_goals exact h.elim
section
variable {X:Fx} {cl ch:Nat} {S:Sm} {m:Mp} {ok:Nat→Ty→Prop} {a:Act} {w:World} {T:List Nat}
theorem EU {α:Type} {Q:α→Sm→Prop} {ag:Bool} {v:V} {x:Value} {K:List V→Cmd α} {S:Sm} {C:Cx} (hv:gW C v x)
  (hK:∀cs us,Wj ag x us→aS C cs us→(K cs).post S Q):(Ve ag v K).post S Q:=by
 unfold Ve
 split <;> try trivial
 ·obtain⟨arr,rfl,hl⟩:=hv
  exact hK _ _ ⟨arr,rfl,rfl⟩ hl
 ·rename_i h1 h2 h3 h4
  have hc:uy C v x:=by cases v <;> first | exact hv | exact absurd rfl (h1 _) | exact absurd rfl (h2 _)
  exact hK [v] [x] rfl ⟨x,[],rfl,hc,Yt (fun e=>h3 e) (fun e=>h4 e) hc,rfl⟩
theorem oI {α:Type} {Q:α→Sm→Prop} {v:V} {x:Value} {K:List V→Cmd α} {S:Sm} {C:Cx} (hv:gW C v x)
  (hK:∀cs,aS C cs x.cells.toList→(K cs).post S Q):(Dq v K).post S Q:=by
 unfold Dq
 split <;> try trivial
 ·obtain⟨arr,rfl,hl⟩:=hv
  exact hK _ hl
 ·rename_i h1 h2 h3 h4
  have hc:uy C v x:=by cases v <;> first | exact hv | exact absurd rfl (h1 _) | exact absurd rfl (h2 _)
  have h1' :=Yt (fun e=>h3 e) (fun e=>h4 e) hc
  have e:x.cells.toList=[x]:=by cases x <;> simp[Value.cells] <;> simp[Value.oneCell']at h1'
  refine hK [v] ?_
  rw[e];exact⟨x,[],rfl,hc,h1',rfl⟩
theorem Xq {α:Type} {Q:α→Sm→Prop} {md:MG} {v:V} {x:Value} {K:md.2.den→Cmd α} (R:Rel X cl ch S m ok a w) (hT:Tk X S m ok w T) (hv:gW ⟨w.heap,ok,m⟩ v x)
  (hK:∀S' ok' y cs O,Rel X cl ch S' m ok' a w→Tk X S' m ok' w (T++O)→(∀b t,ok b t→ok' b t)→Y5 S S' →Wj md.1 x cs→ja w.heap ok' md.2 none y cs O→(K y).post S' Q):
  (PX xA md v K).post S Q:=by
 refine EU hv fun cs us hg hl=>?_
 refine zA md.2 R hT hl fun S1 ok1 y r us1 us' O R1 T1 k1 s1 e1 h1 l1=>?_
 cases r with
 | cons c q=>trivial
 | nil=>
  simp only[aS]at l1
  subst l1
  simp only[List.append_nil]at e1
  subst e1
  exact hK _ _ _ _ _ R1 T1 k1 s1 hg h1
theorem a6a {α:Type} {ln:Ty→Bool} {md:M} (hd:md.isDat=false) (cs:List V) (K:md.den→List V→Cmd α):exM ln md cs K=exM xA md cs K:=by
 cases md <;> first | rfl | (simp[M.isDat]at hd;done) | (rename_i b;cases b <;> first | rfl | (rename_i b;cases b <;> rfl))
theorem Ub {α:Type} {Q:α→Sm→Prop} {ln:Ty→Bool} {md:MG} (hd:md.2.isDat=true) {v:V} {x:Value} {K:md.2.den→Cmd α} (R:Rel X cl ch S m ok a w) (hT:Tk X S m ok w T) (hv:gW ⟨w.heap,ok,m⟩ v x)
  (hK:∀S' ok' y cs,Rel X cl ch S' m ok' a w→Tk X S' m ok' w T→(∀b t,ok b t→ok' b t)→(∀b t,okL ln S m ok b t→okL ln S' m ok' b t)→Y5 S S' →Wj md.1 x cs→ja w.heap (okL ln S' m ok') md.2 none y cs []→(K y).post S' Q):
  (PX ln md v K).post S Q:=by
 obtain⟨ag,mm⟩:=md
 cases mm <;> simp[M.isDat]at hd
 refine EU hv fun cs us hg hl=>?_
 dsimp only
 unfold exM
 refine Bg ln _ R hT hl fun S1 ok1 y r us1 us' R1 T1 k1 g1 s1 e1 h1 l1=>?_
 cases r with
 | cons c q=>trivial
 | nil=>
  simp only[aS]at l1
  subst l1
  simp only[List.append_nil]at e1
  subst e1
  exact hK _ _ _ _ R1 T1 k1 g1 s1 hg ⟨h1,rfl⟩
theorem c0Y {ln:Ty→Bool} :∀b t,ok b t→okL ln S m ok b t:=fun _ _ h=> .inl h
theorem DF {α:Type} {Q:α→Sm→Prop} {ln:Ty→Bool} :∀(ms:List MG) {vs:List V} {xs:List Value} {K:U4 ms→Cmd α} {S:Sm} {ok:Nat→Ty→Prop} {T:List Nat} (R:Rel X cl ch S m ok a w) (hT:Tk X S m ok w T)
  (hv:bM ⟨w.heap,ok,m⟩ vs xs)
  (hK:∀S' ok' y O,Rel X cl ch S' m ok' a w→Tk X S' m ok' w (T++O)→(∀b t,ok b t→ok' b t)→Y5 S S' →mM w.heap (okL ln S' m ok') ms y xs O→(K y).post S' Q),
  (HY ln ms vs K).post S Q
 | [],vs,xs,K,S,ok,T,R,hT,hv,hK=>by
  unfold HY
  split
  ·simp only[bM]at hv;subst hv
   exact hK _ _ _ [] R (by simpa using hT) (fun _ _ h=>h) (Y5.refl _) ⟨rfl,rfl⟩
  ·trivial
 | [md],vs,xs,K,S,ok,T,R,hT,hv,hK=>by
  unfold HY
  split
  ·obtain⟨x,r,rfl,h1,h2⟩:=hv
   simp only[bM]at h2;subst h2
   cases hd:md.2.isDat
   ·unfold PX
    simp only[a6a hd]
    exact Xq R hT h1 fun S' ok' y cs O R' T' k s g h=>hK _ _ _ O R' T' k s ⟨x,cs,rfl,g,dE c0Y (fun _ _ _=>rfl) (fun _ _=>rfl) h⟩
   ·exact Ub hd R hT h1 fun S' ok' y cs R' T' k g s hg h=>hK _ _ _ [] R' (by simpa using T') k s ⟨x,cs,rfl,hg,h⟩
  ·trivial
 | md::md' ::r,vs,xs,K,S,ok,T,R,hT,hv,hK=>by
  unfold HY
  split
  ·obtain⟨x,xr,rfl,h1,h2⟩:=hv
   cases hd:md.2.isDat
   ·simp only[cond_false]
    unfold PX
    simp only[a6a hd]
    refine Xq R hT h1 fun S1 ok1 y cs O R1 T1 k1 s1 g1 h1' =>?_
    refine DF (md' ::r) R1 T1 (FU k1 h2) fun S2 ok2 z O2 R2 T2 k2 s2 h2' =>?_
    exact hK _ _ _ (O++O2) R2 (by simpa using T2) (fun b t h=>k2 b t (k1 b t h)) (s1.trans s2) ⟨x,cs,xr,O,O2,rfl,rfl,g1,dE (fun b t h=> .inl (k2 b t h)) (fun _ _ _=>rfl) (fun _ _=>rfl) h1',h2'⟩
   ·simp only[cond_true]
    refine DF (md' ::r) R hT h2 fun S2 ok2 z O2 R2 T2 k2 s2 h2' =>?_
    refine Ub hd R2 T2 (OO k2 h1) fun S1 ok1 y cs R1 T1 k1 g1 s1 hg h1' =>?_
    exact hK _ _ _ ([]++O2) R1 (by simpa using T1) (fun b t h=>k1 b t (k2 b t h)) (s2.trans s1) ⟨x,cs,xr,[],O2,rfl,rfl,hg,h1',NU g1 (fun _ _ _=>rfl) (fun _ _=>rfl) h2'⟩
  ·trivial
theorem Xp {α:Type} {Q:α→Sm→Prop} (ms:List MG) {vs:List V} {xs:List Value} {K:U4 ms→Cmd α} {S:Sm} {ok:Nat→Ty→Prop} {T:List Nat} (R:Rel X cl ch S m ok a w) (hT:Tk X S m ok w T)
  (hv:bM ⟨w.heap,ok,m⟩ vs xs)
  (hK:∀S' ok' y O,Rel X cl ch S' m ok' a w→Tk X S' m ok' w (T++O)→(∀b t,ok b t→ok' b t)→Y5 S S' →mM w.heap ok' ms y xs O→(K y).post S' Q):
  (HY xA ms vs K).post S Q:=
 DF ms R hT hv fun S' ok' y O R' T' k s h=>hK S' ok' y O R' T' k s (by rw[a6N]at h;exact h)
theorem Nj {α:Type} {Q:α→Sm→Prop} {tmps:Array Value} {C:Cx} :∀(ns:List Nat) {K:List V→Cmd α} {S:Sm} (hs:∀n,n<BOX→gW C (S n) (tmps.getD n Go.undef))
  (hK:∀vs,bM C vs (ns.map fun n=>tmps.getD n Go.undef)→(K vs).post S Q),(Vo ns K).post S Q
 | [],K,S,hs,hK=>hK [] rfl
 | n::ns,K,S,hs,hK=>by
  unfold Vo
  cases hb:Nat.blt n BOX
  ·trivial
  ·simp only[cond_true]
   show Cmd.post _ S Q
   refine Nj ns hs fun vs hvs=>?_
   exact hK _ ⟨_,_,rfl,hs n (by rw[Nat.blt_eq]at hb;exact hb),hvs⟩
def Zg (h:Array Obj) (ok:Nat→Ty→Prop) (sg:Sig) (x:jo sg) (tmps:Array Value) (O:List Nat):Prop:=
 mM h ok (sg.ms.map (·.2)) x ((sg.ms.map (·.1)).map fun n=>tmps.getD n Go.undef) O∧∀p∈sg.als,tmps.getD p.1 Go.undef=tmps.getD p.2 Go.undef
theorem a8e {C:Cx} {v u:V} {x y:Value} (h:b9z v u=true) (hv:gW C v x) (hu:gW C u y):x=y:=by
 cases v <;> try (cases h;done)
 case own a vw=>
 cases u <;> try (cases vw <;> cases h;done)
 case own b vu=>
 cases vw <;> cases vu <;> try (cases h;done)
 have:=bT (show Nat.beq a b=true from h)
 subst this
 obtain⟨l,hm,h1⟩:=hv
 obtain⟨l',hm',h2⟩:=hu
 rw[hm]at hm';cases hm'
 cases l with
 | nil=>exact(show x=_ from h1).trans (show y=_ from h2).symm
 | st b=>cases h1
 | arr blk off len cap sz=>exact(show x=_ from h1).trans (show y=_ from h2).symm
theorem TL {α:Type} {Q:α→Sm→Prop} {tmps:Array Value} {C:Cx} :∀(als:List (Nat×Nat)) {K:Cmd α} {S:Sm} (hs:∀n,n<BOX→gW C (S n) (tmps.getD n Go.undef))
  (hK:(∀p∈als,tmps.getD p.1 Go.undef=tmps.getD p.2 Go.undef)→K.post S Q),(a9X als K).post S Q
 | [],K,S,hs,hK=>hK (fun p hp=>by cases hp)
 | (n,k)::r,K,S,hs,hK=>by
  unfold a9X
  refine aQ fun hb=>?_
  simp only[Bool.and_eq_true]at hb
  show Cmd.post _ S Q
  refine aQ fun hv=>TL r hs fun h=>hK fun p hp=>?_
  rcases List.mem_cons.1 hp with rfl | hp
  ·have h1:=hb.1;have h2:=hb.2
   rw[Nat.blt_eq]at h1 h2
   exact a8e hv (hs n h1) (hs k h2)
  ·exact h p hp
theorem ZB {sg:Sig} {Q:jo sg→Sm→Prop} (R:Rel X cl ch S m ok a w)
  (hK:∀S' ok' y O,Rel X cl ch S' m ok' a w→Tk X S' m ok' w O→(∀b t,ok b t→ok' b t)→Y5 S S' →
   Zg w.heap ok' sg y a.tmps O→Q y S'):(a6b sg).post S Q:=by
 unfold a6b
 refine TL _ R.slot fun hals=>Nj _ R.slot fun vs hvs=>?_
 refine Xp (T:=[]) _ R Tk.nil hvs fun S' ok' y O R' T' k s h=>?_
 exact hK S' ok' y O R' T' k s ⟨h,hals⟩
theorem Rel.chmono (R:Rel X cl ch S m ok a w) {ch' :Nat} (h:ch≤ch'):Rel X cl ch' S m ok a w:={ R with strict:=fun n hn=>R.strict n (by omega) }
theorem uf {α:Type} {Q:α→Sm→Prop} {n:Nat} {v:V} {K:Cmd α} (hK:S (BOX+n)= .undef→K.post (upd S (BOX+n) v) Q):(uV n v K).post S Q:=by
 unfold uV
 show Cmd.post (match S (BOX+n)with | .undef=>_ | _=>_) S Q
 split
 ·rename_i h;exact hK h
 ·trivial
theorem Rel.adopt (R:Rel X cl ch S m ok a w) {n:Nat} {l:Loc} {ks:List Nat} {v:V} {O:List Nat} (hn:S (BOX+n)= .undef) (hcl:cl≤n) (hv:v≠.undef)
  (hT:Tk X S m ok w (O++T)) (ho:∀b∈O9 (iF m n l ks) n v,b∈O) (hnd:(O9 (iF m n l ks) n v).Nodup) (hB:zS ⟨w.heap,ok,iF m n l ks⟩ n v):
  Rel X cl (max ch (n+1)) (upd S (BOX+n) v) (iF m n l ks) ok a w∧Tk X (upd S (BOX+n) v) (iF m n l ks) ok w T∧(∀k l',m k=some l' →iF m n l ks k=some l'):=by
 have hm:m n=none:=R.fresh n hcl hn
 refine⟨(R.chmono (Nat.le_max_left ch (n+1))).lay hn hcl (by omega) hv rfl rfl rfl (Nat.le_refl _) (fun _ _ _=>rfl) hnd (fun b hb=>hT.free b (by simp[ho b hb])) hB,⟨?_,fun b hb=>?_⟩,fun k l' h=>?_⟩
 ·exact(List.nodup_append.1 hT.nodup).2.1
 ·obtain⟨h1,h2,h3,h4⟩:=hT.free b (by simp[hb])
  refine⟨h1,h2,h3,fun k e=>?_⟩
  by_cases ek:k=n
  ·subst ek;rw[fG]at e
   exact(List.nodup_append.1 hT.nodup).2.2 b (ho b e) b hb rfl
  ·rw[V7 _ _ (by omega)]at e
   refine h4 k ?_
   rw[←DU (m:=m) (dP m l ks ek) (MO m l ks ek)];exact e
 ·by_cases ek:k=n
  ·subst ek;simp[hm]at h
  ·rw[dP _ _ _ ek];exact h
theorem Jj {h:Array Obj} {ok:Nat→Ty→Prop} {m m' :Mp} {t:Ty} {xs:List t.den} {l:Loc} (hr:arrOk ⟨h,ok,m⟩ t xs l):arrOk ⟨h,ok,m'⟩ t xs l:=by cases l <;> exact hr
theorem a5j {α:Type} {Q:α→Sm→Prop} {S:Sm} {k:Nat} {v:V} {c:Cmd α} (h:c.post (upd S k v) Q):(Cmd.set k v c).post S Q:=h
theorem BZ {α:Type} {Q:α→Sm→Prop} :∀(md:M) {x:md.den} {n:Nat} {r:List V} {K:List V→Nat→Cmd α} {S:Sm} {m:Mp} {ch:Nat} {us us' :List Value} {O T:List Nat}
  (R:Rel X cl ch S m ok a w) (hcl:cl≤n) (hT:Tk X S m ok w (O++T)) (h:ja w.heap ok md none x us O) (hL:aS ⟨w.heap,ok,m⟩ r us')
  (hK:∀S' m' cs n' ch',Rel X cl ch' S' m' ok a w→ch' ≤max ch n' →Tk X S' m' ok w T→(∀k l,m k=some l→m' k=some l)→Y5 S S' →aS ⟨w.heap,ok,m'⟩ cs (us++us')→n≤n' →(K cs n').post S' Q),
  (emM md x n r K).post S Q
 | .dat t,x,n,r,K,S,m,ch,us,us',O,T,R,hcl,hT,h,hL,hK=>by
  unfold emM
  obtain⟨hr,rfl⟩:=h
  refine hK S m _ n ch R (Nat.le_max_left _ _) (by simpa using hT) (fun _ _ h=>h) (Y5.refl _) ?_ (Nat.le_refl _)
  rw[oO]
  exact um (qI (C:=⟨w.heap,ok,m⟩) hr) hL
 | .own t,x,n,r,K,S,m,ch,us,us',O,T,R,hcl,hT,h,hL,hK=>by
  unfold emM
  obtain⟨l,v,rfl,hv,ha,rfl⟩:=rE.1 h
  refine uf fun hn=>?_
  have hob:O9 (iF m n l []) n (.barr t x)=l.blks:=by cases l <;> first | (simp[O9,Loc.blks];done) | cases ha
  obtain⟨R',T',k'⟩:=R.adopt (l:=l) (ks:=[]) (v:=.barr t x) hn hcl (by simp) hT (fun b hb=>by rw[hob]at hb;exact hb) (by rw[hob];exact Loc.blks_nodup l) ⟨l,aG _ _ _ _,Jj ha⟩
  exact hK _ _ _ _ _ R' (by omega) T' k' (Y5.box _ _ _) ⟨v,us',rfl,⟨l,aG _ _ _ _,hv⟩,jY hv,FT k' hL⟩ (by omega)
 | .ownb t,x,n,r,K,S,m,ch,us,us',O,T,R,hcl,hT,h,hL,hK=>by
  unfold emM
  obtain⟨l,v,rfl,hv,ha,rfl⟩:=h
  refine uf fun hn=>?_
  have hob:O9 (iF m n l []) n (.barr t x)=l.blks:=by cases l <;> first | (simp[O9,Loc.blks];done) | cases ha
  obtain⟨R',T',k'⟩:=R.adopt (l:=l) (ks:=[]) (v:=.barr t x) hn hcl (by simp) hT (fun b hb=>by rw[hob]at hb;exact hb) (by rw[hob];exact Loc.blks_nodup l) ⟨l,aG _ _ _ _,Jj ha⟩
  exact hK _ _ _ _ _ R' (by omega) T' k' (Y5.box _ _ _) ⟨v,us',rfl,⟨l,aG _ _ _ _,hv⟩,jY hv,FT k' hL⟩ (by omega)
 | .owns md,x,n,r,K,S,m,ch,us,us',O,T,R,hcl,hT,h,hL,hK=>by
  unfold emM
  obtain⟨hw,l,v,Os,rfl,hv,ha,rfl⟩:=uq.1 h
  refine uf fun hn=>?_
  have hob:O9 (iF m n l Os.flatten) n (.barrs md x none)=l.blks++Os.flatten:=by cases l <;> first | (simp[O9,Loc.blks];done) | cases ha
  obtain⟨R',T',k'⟩:=R.adopt (l:=l) (ks:=Os.flatten) (v:=.barrs md x none) hn hcl (by simp) hT (fun b hb=>by rw[hob]at hb;exact hb) (by rw[hob];exact(List.nodup_append.1 hT.nodup).1)
   ⟨hw,l,Os,aG _ _ _ _,ha,by simp⟩
  refine a5j ?_
  have T2:=T'.killV R' (KJ+n) (v:=.blen (o8 x) md.size) rfl (bs:=[]) (fun b h=>by cases h) List.nodup_nil
  rw[List.append_nil]at T2
  exact hK _ _ _ _ _ (R'.mark (fG _ _ _)) (by omega) T2 k' ((Y5.box _ _ _).trans (Y5.box _ _ _)) ⟨v,us',rfl,⟨l,aG _ _ _ _,hv⟩,jY hv,FT k' hL⟩ (by omega)
 | .pair p q,x,n,r,K,S,m,ch,us,us',O,T,R,hcl,hT,h,hL,hK=>by
  unfold emM
  obtain⟨c,d,O1,O2,rfl,rfl,h1,h2⟩:=a4T.1 h
  have hT1:Tk X S m ok w (O2++(O1++T)):=hT.perm (by
   rw[List.append_assoc]
   exact(List.perm_append_comm_assoc _ _ _))
  refine BZ q R hcl hT1 h2 hL fun S1 m1 cs1 n1 ch1 R1 c1 T1 k1 s1 l1 e1=>?_
  refine BZ p R1 (by omega) T1 h1 l1 fun S2 m2 cs2 n2 ch2 R2 c2 T2 k2 s2 l2 e2=>?_
  exact hK _ _ _ _ _ R2 (by omega) T2 (fun k l h=>k2 k l (k1 k l h)) (s1.trans s2) (by simpa using l2) (by omega)
 | .unit,x,n,r,K,S,m,ch,us,us',O,T,R,hcl,hT,h,hL,hK=>by
  unfold emM
  obtain⟨rfl,rfl⟩:=h
  exact hK S m _ n ch R (Nat.le_max_left _ _) (by simpa using hT) (fun _ _ h=>h) (Y5.refl _) (by simpa using hL) (Nat.le_refl _)
 | .box md,x,n,r,K,S,m,ch,us,us',O,T,R,hcl,hT,h,hL,hK=>by
  unfold emM
  obtain⟨blk,arr,Tt,O',rfl,hh,hr,rfl⟩:=h
  have hT1:Tk X S m ok w (O' ++([blk]++T)):=hT.perm (by simpa using List.perm_middle.symm)
  refine BZ md (r:=[]) (us' :=[]) R (by omega) hT1 hr rfl fun S1 m1 cs1 n1 ch1 R1 c1 T1 k1 s1 l1 e1=>?_
  refine uf fun hn=>?_
  obtain⟨R',T',k'⟩:=R1.adopt (l:=.st blk) (ks:=[]) (v:=.bcells cs1) hn hcl (by simp) T1 (fun b hb=>by
   simp only[O9,aG]at hb;simp at hb;simp[hb]) (by simp[O9]) ⟨blk,arr,Tt,aG _ _ _ _,hh,FT (fun k l (h:m1 k=some l)=>by
    by_cases ek:k=n
    ·subst ek;have:=R1.fresh k hcl hn;rw[this]at h;cases h
    ·rw[dP _ _ _ ek];exact h) (by simpa using l1)⟩
  refine hK _ _ _ _ _ R' (by omega) T' (fun k l h=>k' k l (k1 k l h)) (s1.trans (Y5.box _ _ _)) ⟨_,us',rfl,⟨blk,aG _ _ _ _,rfl⟩,rfl,FT k' (FT k1 hL)⟩ (by omega)
 | .rp t,x,n,r,K,S,m,ch,us,us',O,T,R,hcl,hT,h,hL,hK=>by
  unfold emM
  obtain⟨v,rfl,hv,rfl⟩:=h
  exact hK S m _ n ch R (Nat.le_max_left _ _) (by simpa using hT) (fun _ _ h=>h) (Y5.refl _) ⟨v,us',rfl,hv,PQ hv,hL⟩ (Nat.le_refl _)
 | .fn f ts,x,n,r,K,S,m,ch,us,us',O,T,R,hcl,hT,h,hL,hK=>by
  unfold emM
  obtain⟨vs,rfl,hv,rfl⟩:=h
  exact hK S m _ n ch R (Nat.le_max_left _ _) (by simpa using hT) (fun _ _ h=>h) (Y5.refl _) ⟨_,us',rfl,⟨vs,rfl,hv⟩,rfl,hL⟩ (Nat.le_refl _)
 | .ifc t md,x,n,r,K,S,m,ch,us,us',O,T,R,hcl,hT,h,hL,hK=>by
  unfold emM
  obtain⟨u,rfl,h1⟩:=h
  refine BZ md (r:=[]) (us' :=[]) R hcl hT h1 rfl fun S1 m1 cs1 n1 ch1 R1 c1 T1 k1 s1 l1 e1=>?_
  split
  ·rename_i c
   obtain⟨v',r',e,h1',h2',h3'⟩:=l1
   simp only[List.append_nil,List.cons_append,List.nil_append,List.cons.injEq]at e
   obtain⟨rfl,rfl⟩:=e
   exact hK _ _ _ _ _ R1 c1 T1 k1 s1 ⟨_,us',rfl,⟨u,rfl,h2',h1'⟩,rfl,FT k1 hL⟩ e1
  ·trivial
 | .cell (some none),x,n,r,K,S,m,ch,us,us',O,T,R,hcl,hT,h,hL,hK=>by
  unfold emM
  obtain⟨v,rfl,hv,h2,h4,rfl⟩:=h
  exact hK S m _ n ch R (Nat.le_max_left _ _) (by simpa using hT) (fun _ _ h=>h) (Y5.refl _) ⟨v,us',rfl,h2 rfl,hv,hL⟩ (Nat.le_refl _)
 | .cell (some (some b)),x,n,r,K,S,m,ch,us,us',O,T,R,hcl,hT,h,hL,hK=>by
  unfold emM
  obtain⟨v,rfl,hv,h2,h4,rfl⟩:=h
  exact hK S m _ n ch R (Nat.le_max_left _ _) (by simpa using hT) (fun _ _ h=>h) (Y5.refl _) ⟨v,us',rfl,h4 _ rfl,hv,hL⟩ (Nat.le_refl _)
 | .cell none,x,n,r,K,S,m,ch,us,us',O,T,R,hcl,hT,h,hL,hK=>by
  unfold emM
  obtain⟨v,rfl,hv,h2,h4,rfl⟩:=h
  exact hK S m _ n ch R (Nat.le_max_left _ _) (by simpa using hT) (fun _ _ h=>h) (Y5.refl _) ⟨v,us',rfl,trivial,hv,hL⟩ (Nat.le_refl _)
theorem Rj {C:Cx} {ag:Bool} {cs:List V} {us:List Value} {x:Value} (hg:Wj ag x us) (hl:aS C cs us):gW C (mkV ag cs) x:=by
 cases ag
 ·simp only[Wj]at hg;subst hg
  cases cs with
  | nil=>simp[aS]at hl
  | cons c r=>
   obtain⟨v,r',e,h1,h2,h3⟩:=hl
   simp at e;obtain⟨rfl,rfl⟩:=e
   cases r with
   | nil=>exact yO h1
   | cons d r=>obtain⟨_,_,e,_⟩:=h3;cases e
 ·obtain⟨arr,rfl,rfl⟩:=hg
  exact⟨arr,rfl,hl⟩
theorem Dy {α:Type} {Q:α→Sm→Prop} :∀(ms:List MG) {x:U4 ms} {n:Nat} {K:List V→Nat→Cmd α} {S:Sm} {m:Mp} {ch:Nat} {xs:List Value} {O T:List Nat}
  (R:Rel X cl ch S m ok a w) (hcl:cl≤n) (hT:Tk X S m ok w (O++T)) (h:mM w.heap ok ms x xs O)
  (hK:∀S' m' vs n' ch',Rel X cl ch' S' m' ok a w→ch' ≤max ch n' →Tk X S' m' ok w T→(∀k l,m k=some l→m' k=some l)→Y5 S S' →bM ⟨w.heap,ok,m'⟩ vs xs→n≤n' →(K vs n').post S' Q),
  (Hz ms x n K).post S Q
 | [],x,n,K,S,m,ch,xs,O,T,R,hcl,hT,h,hK=>by
  unfold Hz
  obtain⟨rfl,rfl⟩:=h
  exact hK S m [] n ch R (Nat.le_max_left _ _) (by simpa using hT) (fun _ _ h=>h) (Y5.refl _) rfl (Nat.le_refl _)
 | [md],x,n,K,S,m,ch,xs,O,T,R,hcl,hT,h,hK=>by
  unfold Hz
  obtain⟨v,cs,rfl,hg,hr⟩:=h
  refine BZ md.2 (us' :=[]) R hcl hT hr rfl fun S1 m1 cs1 n1 ch1 R1 c1 T1 k1 s1 l1 e1=>?_
  exact hK _ _ _ _ _ R1 c1 T1 k1 s1 ⟨v,[],rfl,Rj hg (by simpa using l1),rfl⟩ e1
 | md::md' ::r,x,n,K,S,m,ch,xs,O,T,R,hcl,hT,h,hK=>by
  unfold Hz
  obtain⟨v,cs,vs',O1,O2,rfl,rfl,hg,h1,h2⟩:=h
  refine BZ md.2 (us' :=[]) R hcl (by simpa using hT) h1 rfl fun S1 m1 cs1 n1 ch1 R1 c1 T1 k1 s1 l1 e1=>?_
  refine Dy (md' ::r) R1 (by omega) T1 h2 fun S2 m2 vs2 n2 ch2 R2 c2 T2 k2 s2 l2 e2=>?_
  exact hK _ _ _ _ _ R2 (by omega) T2 (fun k l h=>k2 k l (k1 k l h)) (s1.trans s2) ⟨v,vs',rfl,Rj hg (FT k2 (by simpa using l1)),l2⟩ (by omega)
theorem Oa {Q:Unit→Sm→Prop} :∀(ns:List Nat) {vs:List V} {S:Sm} (R:Rel X cl ch S m ok a w) (hv:bM ⟨w.heap,ok,m⟩ vs (ns.map fun n=>a.tmps.getD n Go.undef))
  (hK:∀S',Rel X cl ch S' m ok a w→Q () S'),(Ry ns vs).post S Q
 | [],vs,S,R,hv,hK=>by
  cases vs with
  | nil=>exact hK S R
  | cons v vs=>trivial
 | n::ns,vs,S,R,hv,hK=>by
  cases vs with
  | nil=>trivial
  | cons v vs=>
   unfold Ry
   obtain⟨x,r,e,h1,h2⟩:=hv
   simp only[List.map_cons,List.cons.injEq]at e
   obtain⟨rfl,rfl⟩:=e
   cases hb:Nat.blt n BOX
   ·trivial
   ·simp only[cond_true]
    show Cmd.post _ (upd S n v) Q
    exact Oa ns (R.slotV (by rw[Nat.blt_eq]at hb;exact hb) h1) h2 hK
theorem Kz {Q:Unit→Sm→Prop} :∀(ns:List Nat) {vs:List V} {S:Sm} {K:Cmd Unit} (R:Rel X cl ch S m ok a w) (hv:bM ⟨w.heap,ok,m⟩ vs (ns.map fun n=>a.tmps.getD n Go.undef))
  (hK:∀S',Rel X cl ch S' m ok a w→K.post S' Q),(OU ns vs K).post S Q
 | [],vs,S,K,R,hv,hK=>by
  simp only[List.map_nil]at hv
  cases vs with
  | nil=>exact hK S R
  | cons _ _=>obtain⟨_,_,e,_⟩:=hv;cases e
 | n::ns,vs,S,K,R,hv,hK=>by
  cases vs with
  | nil=>trivial
  | cons v vs=>
   obtain⟨x,r,e,h1,h2⟩:=hv
   simp only[List.map_cons,List.cons.injEq]at e
   obtain⟨rfl,rfl⟩:=e
   unfold OU
   refine aQ fun hb=>?_
   show Cmd.post _ (upd S n v) Q
   exact Kz ns (R.slotV (by rw[Nat.blt_eq]at hb;exact hb) h1) h2 hK
theorem Ob {Q:Unit→Sm→Prop} :∀(als:List (Nat×Nat)) {S:Sm} (R:Rel X cl ch S m ok a w) (h:∀p∈als,a.tmps.getD p.1 Go.undef=a.tmps.getD p.2 Go.undef)
  (hK:∀S',Rel X cl ch S' m ok a w→Q () S'),(Ws als).post S Q
 | [],S,R,h,hK=>hK S R
 | (n,k)::r,S,R,h,hK=>by
  unfold Ws
  refine aQ fun hb=>?_
  simp only[Bool.and_eq_true]at hb
  have h1:=hb.1;have h2:=hb.2
  rw[Nat.blt_eq]at h1 h2
  show Cmd.post _ (upd S n (S k)) Q
  refine Ob r (R.slotV h1 ?_) (fun p hp=>h p (List.mem_cons_of_mem _ hp)) hK
  rw[h (n,k) List.mem_cons_self]
  exact R.slot k h2
theorem Zx {sg:Sig} {x:jo sg} {nb lim:Nat} {Q:Unit→Sm→Prop} {O:List Nat} (R:Rel X cl ch S m ok a w) (hcl:cl≤nb) (hT:Tk X S m ok w O)
  (h:Zg w.heap ok sg x a.tmps O)
  (hK:∀S' m',Rel X cl (max ch lim) S' m' ok a w→(∀k l,m k=some l→m' k=some l)→Q () S'):(a5X sg x nb lim).post S Q:=by
 unfold a5X
 refine Dy (T:=[]) _ R hcl (by simpa using hT) h.1 fun S1 m1 vs n1 ch1 R1 c1 T1 k1 s1 l1 e1=>?_
 cases hb:Nat.ble n1 lim
 ·trivial
 ·simp only[cond_true]
  have:n1≤lim:=Nat.le_of_ble_eq_true hb
  exact Kz _ (R1.chmono (ch' :=max ch lim) (by omega)) l1 fun S' R' =>Ob _ R' h.2 fun S'' R'' =>hK S'' m1 R'' k1
end
end Go.GP
namespace Go.GP
def a9K (P:Program) (t:TypeId):TD→Prop
 | .bool=>P.underlying t=some .bool
 | .int k=>P.underlying t=some (.int k)
 | .str=>P.underlying t=some .string
 | .sl e=>P.underlying t=some (.slice e)
 | .ptr e=>P.underlying t=some (.pointer e)
 | .struct fs=>∃fields,P.underlying t=some (.struct fields)∧fields.toList.map (fun f=>(f.type,f.offset))=fs
 | .arr n e=>P.underlying t=some (.array n e)
 | .other=>∃d,P.underlying t=some d∧(match d with | .struct _ | .array _ _=>False | _=>True)
structure TiOk (P:Program) (t:TypeId) (i:TI):Prop where
 info:∃inf,P.info? t=some inf∧inf.size=i.size∧inf.bytes=i.bytes∧
  (i.zero.length=i.size→∃z,inf.zero=some z∧aS ⟨#[],fun _ _=>False,nom⟩ i.zero z.cells.toList)∧
  (∀u,i.ty=some u→u.size=i.size∧∃z,inf.zero=some z∧rep #[] (fun _ _=>False) u u.zero z.cells.toList)
 td:a9K P t i.td
 one:eH i.td=false→i.size=1
def Ze (n:Nat) (v:Value) (rs:List Value):Prop:=rs.length=n∧v=(match rs with | [x]=>x | l=> .tuple l.toArray)
def sQ (h:Array Obj):List MG→List Value→List Value→List Nat→Prop
 | [],[],os,B=>os=[]∧B=[]
 | (_,.box _)::ms,v::vs,os,B=>∃b arr T os' B',v= .pointer (some ⟨b,0,none⟩)∧h[b]? =some (.cells arr T (0,0))∧os= .agg arr::os' ∧B=b::B' ∧sQ h ms vs os' B'
 | (_,.ifc _ (.box _))::ms,v::vs,os,B=>∃t b arr T os' B',v= .iface t (.pointer (some ⟨b,0,none⟩))∧h[b]? =some (.cells arr T (0,0))∧os= .agg arr::os' ∧B=b::B' ∧sQ h ms vs os' B'
 | (_,.ownb _)::ms,v::vs,os,B=>∃os',os=v::os' ∧sQ h ms vs os' B
 | _::ms,_::vs,os,B=>sQ h ms vs os B
 | _,_,_,_=>False
def x9 (P:Program) (gl:List (Nat×(t:Ty)×List t.den)) (f:FuncId) (s:FSpec):Prop:=
 ∀(w:World) (ok:Nat→Ty→Prop) (O:List Nat) (vals:List Value) (x:U4 s.ps) (r:U4 (s.rs++s.outs)),
  (∀b t,ok b t→b<w.heap.size)→O.Nodup→(∀b∈O,(∀t,¬ok b t)∧b<w.heap.size)→(∀g u,Y9 gl g=some u→Bl ⟨w.heap,ok,nom⟩ g u.1 u.2)→
  mM w.heap ok s.ps x vals O→s.fn x=some r→
  Calls P f vals.toArray w fun e w' =>∃v ok' O' rs os B,e= .returned v∧Frame' w w' O∧(∀b t,ok b t→ok' b t)∧(∀b t,ok' b t→b<w'.heap.size∧(ok b t∨w.heap.size≤b∨b∈O))∧
   (O' ++B).Nodup∧(∀b∈O' ++B,(∀t,¬ok' b t)∧b<w'.heap.size∧(w.heap.size≤b∨b∈O))∧
   Ze s.rs.length v rs∧sQ w'.heap s.ps vals os B∧mM w'.heap ok' (s.rs++s.outs) r (rs++os) O'
def Gv (P:Program) (t:TypeId) (sh:List Ty):Prop:=
 ∀(w:World) (C:Cx) (cs ds:List V) (xs ys:Array Value) (e:Bool) (op:BinOp) (x y:Operand),vK sh cs=true→vK sh ds=true→aS C cs xs.toList→aS C ds ys.toList→uG cs ds=some e→
  (op= .eql∨op= .neq)→(do eqGuard op t x y (.agg xs) (.agg ys);binOp op t (.agg xs) (.agg ys):Sem Value).run P w= .ok (.bool (if op= .eql then e else !e)) w
def zo (P:Program) (t:Nat) (n:String) (f:Nat) (d:Option Nat):Prop:=
 ∀(v:Value) (w:World),match d with
  | none=>(method (P.types.size+Made.depth) t v n).run P w= .ok (f,v) w
  | some e=>∀ad,v= .pointer (some ad)→(method (P.types.size+Made.depth) t v n).run P w=((loadVar e ad).run P w).andThen fun u w' => .ok (f,u) w'
structure FxOk (X:Fx):Prop where
 nt:64*X.E.nt≤999936
 tt:∀t i,Y9 X.E.tt t=some i→TiOk X.P t i
 fs:∀p∈X.E.fs,x9 X.P X.E.gl p.1 p.2
 eqs:∀t sh,Y9 X.E.eqs t=some sh→Gv X.P t sh
 ms:∀p∈X.E.ms,zo X.P p.1.1 p.1.2 p.2.1 p.2.2
 fn:∀p∈X.E.fs,∃fn,X.P.funcs[p.1]? =some fn∧fn.body.isSome=true∧(fn.name== "runtime.NumGoroutine")=false
theorem FxOk.ntB {X:Fx} (H:FxOk X):X.E.nt≤BOX:=by have:=H.nt;show X.E.nt≤1000000;omega
def fF (X:Fx) (cl ch:Nat) (o:Oper) (a:Act) (w:World) (m:Mp) (ok:Nat→Ty→Prop) (S' :Sm):Prop:=
 ∀(next:Act→World→Prop) (Q:Exit→Act→World→Prop),
  (∀m' ok' a' w',Rel X cl ch S' m' ok' a' w' →(∀k l,m k=some l→m' k=some l)→(∀b t,ok b t→ok' b t)→next a' w')→o.wp X.P a w next Q
theorem CS {α:Type} {ι:Sort _} {Q:ι→α→Sm→Prop} :∀{c:Cmd α} {S:Sm},(∀i,c.post S (Q i))→c.post S (fun x S' =>∀i,Q i x S')
 | .ret x,S,h=>fun i=>h i
 | .fail,S,h=>trivial
 | .get k c,S,h=>CS (c:=c (S k)) h
 | .set k v c,S,h=>CS (c:=c) h
 | .opt o c,S,h=>fun x e=>CS (c:=c x) fun i=>h i x e
 | .br b c d,S,h=>⟨fun e=>CS (c:=c) fun i=>(h i).1 e,fun e=>CS (c:=d) fun i=>(h i).2 e⟩
section
variable {X:Fx} {cl ch:Nat} {S:Sm} {m:Mp} {ok:Nat→Ty→Prop} {a:Act} {w:World} {o:Oper}
theorem Y6 {α:Type} {Q:α→Sm→Prop} {b:Bool} {c:Cmd α} {S:Sm} (h:b=true→c.post S Q):(bif b then c else Cmd.fail).post S Q:=by
 cases b
 ·trivial
 ·exact h rfl
theorem Il {a b:Nat} (h:Nat.blt a b=true):a<b:=by rw[Nat.blt_eq]at h;exact h
theorem uF (H:FxOk X) {S:Sm} {m0 m:Mp} {ok0 ok:Nat→Ty→Prop} {w0 w:World} {a:Act} (R:Rel X cl ch S m ok a w) (hm:∀k l,m0 k=some l→m k=some l) (hok:∀b t,ok0 b t→ok b t)
  {v:V} {x:Value} (hv:gW ⟨w.heap,ok,m⟩ v x) (run:(execOp a.eval o).run X.P w0= .ok (.value x) w):
  (aC X.E o.dst v).post S (fun _ S' =>fF X cl ch o a w0 m0 ok0 S'):=by
 unfold aC
 cases hd:o.dst with
 | none=>
  intro next Q hn
  unfold Oper.wp
  rw[run,Oper.upon_value,hd]
  exact hn m ok a w R hm hok
 | some d=>
  refine Y6 fun hb=>?_
  intro next Q hn
  unfold Oper.wp
  rw[run,Oper.upon_value,hd]
  exact hn m ok _ w (R.put H.ntB hb hv) hm hok
theorem Zp (C:Cx) (v:Value):gW C (Zo v) v:=by
 unfold Zo
 split <;> first | exact rfl | trivial
theorem V6 {α:Type} {Q:α→Sm→Prop} (R:Rel X cl ch S m ok a w) {x:Operand} {K:V→Cmd α} (hK:∀v,gW ⟨w.heap,ok,m⟩ v (a.eval x)→(K v).post S Q):(oz x K).post S Q:=by
 unfold oz
 cases x with
 | tmp t=>
  exact Y6 fun hb=>hK (S t) (R.slot t (Il hb))
 | const v=>exact hK _ (Zp _ v)
 | global g=>exact hK _ rfl
 | func f=>exact hK _ rfl
theorem iE {α:Type} {Q:α→Sm→Prop} (R:Rel X cl ch S m ok a w):∀(xs:List Operand) {K:List V→Cmd α} (hK:∀vs,bM ⟨w.heap,ok,m⟩ vs (xs.map a.eval)→(K vs).post S Q),(NL xs K).post S Q
 | [],K,hK=>hK [] rfl
 | x::r,K,hK=>by
  unfold NL
  refine V6 R fun v hv=>?_
  exact iE R r fun vs hvs=>hK _ ⟨_,_,rfl,hv,hvs⟩
theorem U2 (H:FxOk X) (R:Rel X cl ch S m ok a w) {v:V} {x:Value} (hv:gW ⟨w.heap,ok,m⟩ v x) (run:(execOp a.eval o).run X.P w= .ok (.value x) w):
  (aC X.E o.dst v).post S (fun _ S' =>fF X cl ch o a w m ok S'):=uF H R (fun _ _ h=>h) (fun _ _ h=>h) hv run
theorem LY {C:Cx} {x:Bool} {v:Value} (h:gW C (.b x) v):v= .bool x:=h
theorem mO {C:Cx} {k:IntKind} {n:Int} {v:Value} (h:gW C (.i k n) v):v= .int k n:=h
theorem IW {C:Cx} {l:List UInt8} {v:Value} (h:gW C (.s l) v):v= .string ⟨l.toArray⟩:=h
theorem a2j (H:FxOk X) (R:Rel X cl ch S m ok a w) {x:Operand} (ho:o.op= .move x∨o.op= .assign x):(oz x fun v=>aC X.E o.dst v).post S (fun _ S' =>fF X cl ch o a w m ok S'):=by
 refine V6 R fun v hv=>U2 H R hv ?_
 rcases ho with ho | ho <;> simp[execOp,ho]
theorem b0N (H:FxOk X) (R:Rel X cl ch S m ok a w) {c x y:Operand} {q:Nat} (ho:o.op= .pick c x y):(Y1 X.E q o).post S (fun _ S' =>fF X cl ch o a w m ok S'):=by
 unfold Y1
 simp only[ho]
 refine V6 R fun v hv=>?_
 split <;> try trivial
 rename_i t
 have hc:=LY hv
 cases t
 ·simp only[cond_false]
  refine V6 R fun v hv=>U2 H R hv ?_
  simp[execOp,ho,hc,asBool]
 ·simp only[cond_true]
  refine V6 R fun v hv=>U2 H R hv ?_
  simp[execOp,ho,hc,asBool]
theorem aF {α β:Type} {Q:α→Sm→Prop} {x:Option β} {c:β→Cmd α} {S:Sm} (h:∀y,x=some y→(c y).post S Q):(Cmd.opt x c).post S Q:=h
theorem a3E {yc:Operand} {a:Act} {k:IntKind} {b:Int} (h:yX yc=false) (he:a.eval yc= .int k b):b≠0:=by
 unfold yX at h
 split at h
 ·simp[Act.eval]at he;obtain⟨_,rfl⟩:=he;simpa using h
 ·simp at h
theorem a6B {yc:Operand} {a:Act} {k:IntKind} {b:Int} (h:Cj yc=false) (he:a.eval yc= .int k b):¬b<0:=by
 unfold Cj at h
 split at h
 ·simp[Act.eval]at he;obtain⟨_,rfl⟩:=he;simpa using h
 ·simp at h
theorem a4y (H:FxOk X) (R:Rel X cl ch S m ok a w) {op:BinOp} {t:TypeId} {x y:Operand} {yt:TypeId} (ho:o.op= .binOp op t x y yt) {k k' :IntKind} {p q:Int}
  (hx:a.eval x= .int k p) (hy:a.eval y= .int k' q):(He X.E t op y (.i k p) (.i k' q) fun v=>aC X.E o.dst v).post S (fun _ S' =>fF X cl ch o a w m ok S'):=by
 have run:∀v,(binOp op t (.int k p) (.int k' q)).run X.P w= .ok v w→(execOp a.eval o).run X.P w= .ok (.value v) w:=fun v h=>by
  simp[execOp,ho,hx,hy,eqGuard_at_int,h]
 have fin:∀(v:V) (u:Value),gW ⟨w.heap,ok,m⟩ v u→(binOp op t (.int k p) (.int k' q)).run X.P w= .ok u w→(aC X.E o.dst v).post S (fun _ S' =>fF X cl ch o a w m ok S'):=
  fun v u hv h=>U2 H R hv (run u h)
 unfold He
 cases op <;> simp only[]
 case shl=>
  cases hn:Cj y
  ·simp only[cond_false]
   have h0:=a6B hn hy
   exact fin _ _ rfl (by simp[binOp,Op.shift,h0,a6m])
  ·simp only[cond_true]
   refine aF fun r hr=>?_
   unfold Qn at hr
   split at hr
   ·cases hr
   ·rename_i h0;cases hr
    exact fin _ _ rfl (by simp[binOp,Op.shift,h0,a6m])
 case shr=>
  cases hn:Cj y
  ·simp only[cond_false]
   have h0:=a6B hn hy
   exact fin _ _ rfl (by simp[binOp,Op.shift,h0,kF])
  ·simp only[cond_true]
   refine aF fun r hr=>?_
   unfold Qo at hr
   split at hr
   ·cases hr
   ·rename_i h0;cases hr
    exact fin _ _ rfl (by simp[binOp,Op.shift,h0,kF])
 all_goals
  refine Y6 fun hk=>?_
  have hk' :k=k' :=of_decide_eq_true hk
  subst hk'
 case quo=>
  cases hz:yX y
  ·simp only[cond_false]
   have h0:=a3E hz hy
   exact fin _ _ rfl (by simp[binOp,Op.intDiv,h0,X4])
  ·simp only[cond_true]
   refine aF fun r hr=>?_
   unfold iI at hr
   split at hr
   ·cases hr
   ·rename_i h0;cases hr
    exact fin _ _ rfl (by simp[binOp,Op.intDiv,h0])
 case rem=>
  cases hz:yX y
  ·simp only[cond_false]
   have h0:=a3E hz hy
   exact fin _ _ rfl (by simp[binOp,Op.intDiv,h0,X5])
  ·simp only[cond_true]
   refine aF fun r hr=>?_
   unfold kQ at hr
   split at hr
   ·cases hr
   ·rename_i h0;cases hr
    exact fin _ _ rfl (by simp[binOp,Op.intDiv,h0])
 case add=>exact fin _ _ rfl (by simp[binOp,Op.intArith,x8])
 case sub=>exact fin _ _ rfl (by simp[binOp,Op.intArith,G8])
 case mul=>exact fin _ _ rfl (by simp[binOp,Op.intArith,N9])
 case and=>exact fin _ _ rfl (by simp[binOp,Op.intBits,XB])
 case or=>exact fin _ _ rfl (by simp[binOp,Op.intBits,ior])
 case xor=>exact fin _ _ rfl (by simp[binOp,Op.intBits,a6n])
 case andNot=>exact fin _ _ rfl (by simp[binOp,Op.intBits,a1Q])
 case eql=>exact fin _ _ rfl (by simp[binOp,Op.intCmp,ieq];rfl)
 case neq=>exact fin _ _ rfl (by simp[binOp,Op.intCmp,ieq,D6];rfl)
 case lss=>exact fin _ _ rfl (by simp[binOp,Op.intCmp,ilt])
 case leq=>exact fin _ _ rfl (by simp[binOp,Op.intCmp,ile])
 case gtr=>exact fin _ _ rfl (by simp[binOp,Op.intCmp,ilt])
 case geq=>exact fin _ _ rfl (by simp[binOp,Op.intCmp,ile])
theorem a4z (H:FxOk X) (R:Rel X cl ch S m ok a w) {op:BinOp} {t:TypeId} {x y:Operand} {yt:TypeId} (ho:o.op= .binOp op t x y yt) {p q:List UInt8}
  (hx:a.eval x= .string ⟨p.toArray⟩) (hy:a.eval y= .string ⟨q.toArray⟩):(He X.E t op y (.s p) (.s q) fun v=>aC X.E o.dst v).post S (fun _ S' =>fF X cl ch o a w m ok S'):=by
 have run:∀v,(Op.stringOp op ⟨p.toArray⟩ ⟨q.toArray⟩).run X.P w= .ok v w→(execOp a.eval o).run X.P w= .ok (.value v) w:=fun v h=>by
  simp[execOp,ho,hx,hy,eqGuard_at_string,binOp,h]
 have fin:∀(v:V) (u:Value),gW ⟨w.heap,ok,m⟩ v u→(Op.stringOp op ⟨p.toArray⟩ ⟨q.toArray⟩).run X.P w= .ok u w→(aC X.E o.dst v).post S (fun _ S' =>fF X cl ch o a w m ok S'):=
  fun v u hv h=>U2 H R hv (run u h)
 unfold He
 cases op <;> simp only[] <;> try trivial
 case add=>
  refine aF fun r hr=>?_
  unfold d4N at hr
  split at hr
  ·rename_i hle;cases hr
   have e:(⟨p.toArray⟩:ByteArray)++⟨q.toArray⟩=⟨(p++q).toArray⟩:=by
    apply ByteArray.ext
    apply Array.ext'
    simp[ByteArray.data_append]
   refine fin _ (.string ⟨(p++q).toArray⟩) rfl ?_
   have hs:¬((9223372036854775807:Int)<(p.length:Int)+(q.length:Int)):=by omega
   simp[Op.stringOp,e,ByteArray.size,hs]
  ·cases hr
 case eql=>exact fin _ _ rfl (by simp only[Op.stringOp,ByteArray.toList_mk,seq,Sem.run_pure];rw[show(p==q)=decide (p=q) by rw[Bool.eq_iff_iff];simp])
 case neq=>exact fin _ _ rfl (by simp only[Op.stringOp,ByteArray.toList_mk,seq,D6,Sem.run_pure];rw[show(p==q)=decide (p=q) by rw[Bool.eq_iff_iff];simp])
 case lss=>exact fin _ _ rfl (by simp[Op.stringOp,ByteArray.toList_mk,slt])
theorem a0c (H:FxOk X) (R:Rel X cl ch S m ok a w) {op:BinOp} {t:TypeId} {x y:Operand} {yt:TypeId} (ho:o.op= .binOp op t x y yt) {p q:Bool}
  (hx:a.eval x= .bool p) (hy:a.eval y= .bool q):(He X.E t op y (.b p) (.b q) fun v=>aC X.E o.dst v).post S (fun _ S' =>fF X cl ch o a w m ok S'):=by
 unfold He
 cases hi:Y9 X.E.tt t with
 | none=>trivial
 | some i=>
 have ht' :=(H.tt t i hi).td
 simp only[]
 cases hd:i.td <;> try trivial
 rw[hd]at ht'
 have ht:X.P.underlying t=some .bool:=ht'
 have he' :∀d,(Op.equalIn (d+1) t (.bool p) (.bool q)).run X.P w= .ok (p==q) w:=fun d=>by
  simp[Op.equalIn,run_underlying ht]
 have he:(Op.equal t (.bool p) (.bool q)).run X.P w= .ok (p==q) w:=he' 9999
 have run:∀v,(binOp op t (.bool p) (.bool q)).run X.P w= .ok v w→(execOp a.eval o).run X.P w= .ok (.value v) w:=fun v h=>by
  simp[execOp,ho,hx,hy,eqGuard_at_bool,h]
 have fin:∀(v:V) (u:Value),gW ⟨w.heap,ok,m⟩ v u→(binOp op t (.bool p) (.bool q)).run X.P w= .ok u w→(aC X.E o.dst v).post S (fun _ S' =>fF X cl ch o a w m ok S'):=
  fun v u hv h=>U2 H R hv (run u h)
 cases op <;> try trivial
 case eql=>exact fin _ _ rfl (by simp[binOp,he,dB])
 case neq=>exact fin _ _ rfl (by simp[binOp,he,dB,D6])
end
end Go.GP
namespace Go.GP
section
variable {X:Fx} {cl ch:Nat} {S:Sm} {m:Mp} {ok:Nat→Ty→Prop} {a:Act} {w:World} {o:Oper}
theorem lJ {α:Type} {Q:α→Sm→Prop} (H:FxOk X) {t:Nat} {K:TI→Cmd α} (hK:∀i,TiOk X.P t i→(K i).post S Q):(tiC X.E t K).post S Q:=by
 unfold tiC
 cases hi:Y9 X.E.tt t with
 | none=>trivial
 | some i=>exact hK i (H.tt t i hi)
theorem a5o {P:Program} {t:TypeId} :∀{d:TD},a9K P t d→∃e,P.underlying t=some e
 | .bool,h=>⟨_,h⟩
 | .int _,h=>⟨_,h⟩
 | .str,h=>⟨_,h⟩
 | .sl _,h=>⟨_,h⟩
 | .ptr _,h=>⟨_,h⟩
 | .struct _,⟨_,h,_⟩=>⟨_,h⟩
 | .arr _ _,h=>⟨_,h⟩
 | .other,⟨_,h,_⟩=>⟨_,h⟩
theorem VF (H:FxOk X) (R:Rel X cl ch S m ok a w) {op:BinOp} {t:TypeId} {x y:Operand} {yt:TypeId} (ho:o.op= .binOp op t x y yt) {ad:Option Addr} {n c:Nat}
  (hx:a.eval x= .slice ad n c) (hy:a.eval y= .slice none 0 0):(a6F X.E t op ad.isNone fun v=>aC X.E o.dst v).post S (fun _ S' =>fF X cl ch o a w m ok S'):=by
 unfold a6F
 cases hi:Y9 X.E.tt t with
 | none=>trivial
 | some i=>
 have ht' :=(H.tt t i hi).td
 simp only[]
 cases hd:i.td <;> try trivial
 rename_i e
 rw[hd]at ht'
 have ht:X.P.underlying t=some (.slice e):=ht'
 have he' :∀d,(Op.equalIn (d+1) t (.slice ad n c) (.slice none 0 0)).run X.P w= .ok ad.isNone w:=fun d=>by
  cases ad <;> simp[Op.equalIn,run_underlying ht]
 have he:(Op.equal t (.slice ad n c) (.slice none 0 0)).run X.P w= .ok ad.isNone w:=he' 9999
 have run:∀v,(binOp op t (.slice ad n c) (.slice none 0 0)).run X.P w= .ok v w→(execOp a.eval o).run X.P w= .ok (.value v) w:=fun v h=>by
  simp[execOp,ho,hx,hy,eqGuard_at_slice,h]
 cases op <;> try trivial
 case eql=>exact U2 H R (v:=.b ad.isNone) (x:=.bool ad.isNone) rfl (run _ (by simp[binOp,he]))
 case neq=>exact U2 H R (v:=.b (D6 ad.isNone)) (x:=.bool (!ad.isNone)) rfl (run _ (by simp[binOp,he]))
theorem a6P (H:FxOk X) (R:Rel X cl ch S m ok a w) {op:BinOp} {t:TypeId} {x y:Operand} {yt:TypeId} {q:Nat} (ho:o.op= .binOp op t x y yt):
  (Y1 X.E q o).post S (fun _ S' =>fF X cl ch o a w m ok S'):=by
 unfold Y1
 simp only[ho]
 refine V6 R fun u hu=>V6 R fun v hv=>?_
 cases u <;> try (unfold He;trivial)
 case b p=>
  cases v <;> try (unfold He;trivial)
  exact a0c H R ho (LY hu) (LY hv)
 case i k p=>
  cases v <;> try (unfold He;trivial)
  exact a4y H R ho (mO hu) (mO hv)
 case s p=>
  cases v <;> try (unfold He;trivial)
  exact a4z H R ho (IW hu) (IW hv)
 case nl=>
  cases v <;> try (unfold He;trivial)
  exact VF H R ho (ad:=none) (show a.eval x= .slice none 0 0 from hu) hv
 case ne=>
  cases v <;> try (unfold He;trivial)
  obtain⟨ad,c,hx,hb⟩:=hu
  subst hb
  exact VF H R ho (ad:=ad) hx hv
 case sl t' xs=>
  cases v <;> try (unfold He;trivial)
  obtain⟨ad,c,hx,hle,hx'⟩:=(show rep w.heap ok (.sl t') xs [a.eval x]from hu)
  cases xs with
  | nil=>exact⟨fun _=>trivial,fun h=>by simp[ieq,o8]at h⟩
  | cons z zs=>
   obtain⟨blk,off,es,rfl,_⟩:=hx' 0 z rfl
   exact⟨fun _=>trivial,fun _=>VF H R ho (ad:=some _) (by simpa using hx) hv⟩
 case agg cs=>
  cases v <;> try (unfold He;trivial)
  case agg ds=>
  obtain⟨xs,hx,hl⟩:=hu
  obtain⟨ys,hy,hl'⟩:=hv
  unfold He
  simp only[]
  cases hq:Y9 X.E.eqs t with
  | none=>trivial
  | some sh=>
  simp only[]
  refine Y6 fun hm=>?_
  simp only[Bool.and_eq_true]at hm
  have hE:=H.eqs t sh hq
  cases he:uG cs ds with
  | none=>cases op <;> trivial
  | some e=>
   cases op <;> try trivial
   case eql=>
    refine U2 H R (v:=.b e) (x:=.bool e) rfl ?_
    have h:=hE w _ cs ds xs ys e .eql x y hm.1 hm.2 hl hl' he (.inl rfl)
    simp only[execOp,ho,hx,hy]
    rw[Sem.run_bind,h];rfl
   case neq=>
    refine U2 H R (v:=.b (D6 e)) (x:=.bool (!e)) rfl ?_
    have h:=hE w _ cs ds xs ys e .neq x y hm.1 hm.2 hl hl' he (.inr rfl)
    simp only[execOp,ho,hx,hy]
    rw[Sem.run_bind,h];rfl
theorem b0O (H:FxOk X) (R:Rel X cl ch S m ok a w) {op:UnOp} {t:TypeId} {x:Operand} {q:Nat} (ho:o.op= .unOp op t x):
  (Y1 X.E q o).post S (fun _ S' =>fF X cl ch o a w m ok S'):=by
 unfold Y1
 simp only[ho]
 refine V6 R fun u hu=>?_
 cases u <;> cases op <;> try (unfold unC;trivial)
 case b.not p=>exact U2 H R (v:=.b (D6 p)) (x:=.bool (!p)) rfl (by simp[execOp,ho,LY hu,Op.unary])
 case i.neg k p=>exact U2 H R (v:=.i k (G8 k 0 p)) (x:=.int k (k.wrap (0 -p))) rfl (by simp[execOp,ho,mO hu,Op.unary,Op.intArith])
 case i.xor k p=>exact U2 H R (v:=.i k (a6n k (bif k.signed then -1 else k.max) p)) rfl (by
   simp only[execOp,ho,mO hu,Op.unary,Op.intBits,a6n]
   cases k.signed <;> simp)
theorem a7c {α:Type} {Q:α→Sm→Prop} (R:Rel X cl ch S m ok a w) {u:Ty} {y:V} {vy:Value} {K:List u.den→Cmd α} (hy:gW ⟨w.heap,ok,m⟩ y vy)
  (hK:∀xs,rep w.heap (fun _ _=>True) (.sl u) xs [vy]→(K xs).post S Q):(a4F u y K).post S Q:=by
 unfold a4F
 split <;> try trivial
 ·have hv:vy= .slice none 0 0:=hy
  subst hv
  exact hK [] ⟨none,0,rfl,Nat.le_refl _,fun i x hi=>by simp at hi⟩
 ·obtain⟨ad,c,rfl,_⟩:=(show ∃a c,vy=Value.slice a 0 c∧a.isNone=_ from hy)
  exact hK [] ⟨ad,c,rfl,Nat.zero_le _,fun i x hi=>by simp at hi⟩
 ·refine dK fun e=>?_
  subst e
  exact hK _ (cu (fun _ _ _=>trivial) (fun _ _ _=>rfl) (show rep w.heap ok (.sl _) _ [vy]from hy))
 ·rename_i bx vw
  obtain⟨l,hm,hv⟩:=hy
  show Cmd.post (match S (BOX+bx)with | .barr t' xs=>_ | .bfrz t' xs=>_ | _=>_) S Q
  have hb:=R.box bx
  split <;> try trivial
  ·rename_i t' xs hS
   rw[hS]at hb
   obtain⟨l',hm',ha⟩:=hb
   simp only at hm hm'
   rw[hm]at hm';cases hm'
   refine dK fun e=>?_
   subst e
   exact hK _ (jl (C:=⟨w.heap,ok,m⟩) ha hv (fun _ _ _=>trivial) (fun _ _ _ _ _ _=>trivial))
  ·rename_i t' xs hS
   rw[hS]at hb
   obtain⟨l',hm',ha,hok⟩:=hb
   simp only at hm hm'
   rw[hm]at hm';cases hm'
   refine dK fun e=>?_
   subst e
   exact hK _ (jl (C:=⟨w.heap,ok,m⟩) ha hv (fun _ _ _=>trivial) (fun _ _ _ _ _ _=>trivial))
theorem a0d (H:FxOk X) (R:Rel X cl ch S m ok a w) {src t:TypeId} {x:Operand} {q:Nat} (ho:o.op= .convert src t x):
  (Y1 X.E q o).post S (fun _ S' =>fF X cl ch o a w m ok S'):=by
 unfold Y1
 simp only[ho]
 refine V6 R fun u hu=>lJ H fun j hj=>lJ H fun i hi=>?_
 obtain⟨e,he⟩:=a5o hj.td
 have hd:=hi.td
 split <;> try trivial
 ·rename_i k' n k htd
  rw[htd]at hd
  exact U2 H R (v:=.i k (wrap k n)) (x:=.int k (k.wrap n)) rfl (by simp[execOp,ho,mO hu,convert,run_underlying he,run_underlying (show X.P.underlying t=some (.int k)from hd),Conv.intToInt])
 ·rename_i l htd
  rw[htd]at hd
  refine U2 H R (v:=.s l) (x:=.string ⟨l.toArray⟩) rfl ?_
  simp only[execOp,ho,IW hu,convert,Sem.run_bind,run_underlying he,run_underlying (show X.P.underlying t=some .string from hd),Result.andThen_ok]
  cases e <;> simp
 ·rename_i hns htd
  rw[htd]at hd
  split <;> try trivial
  rename_i el hjd
  have hjs:=hj.td
  rw[hjd]at hjs
  refine lJ H fun k hk=>?_
  have hkd:=hk.td
  split <;> try trivial
  rename_i hke
  rw[hke]at hkd
  refine a7c R hu fun xs hr=>?_
  obtain⟨ad,cap,hv,hcap,hcells⟩:=hr
  have hv:=(List.cons.inj hv).1
  refine U2 H R (v:=.s (a5S xs)) (x:=.string ⟨(a5S xs).toArray⟩) rfl ?_
  have hh:(convert src t (a.eval x)).run X.P w= .ok (.string ⟨(a5S xs).toArray⟩) w:=by
   rw[hv]
   cases xs with
   | nil=>
    have:=run_convert_bytes_nil (P:=X.P) w src el hjs hkd 0 cap t hd
    cases ad with
    | none=>exact this
    | some ad=>
     obtain⟨b,o,s⟩:=ad
     rw[run_convert_bytes_string w src t el _ _ cap hjs hkd hd]
     simp[Conv.bytesToString,a5S]
     rfl
   | cons y ys=>
    obtain⟨blk,off,es,rfl,_,_,_⟩:=hcells 0 y rfl
    have:=run_convert_bytes_arg (P:=X.P) w src el hjs hkd blk off (y::ys).length cap (y::ys) rfl (fun i hi=>?_) t hd
    ·exact this
    ·obtain⟨blk2,off2,es2,e2,_,hc,hr2⟩:=hcells i _ (Y8 hi)
     simp only[Option.some.injEq,Addr.mk.injEq]at e2
     obtain⟨rfl,rfl,_⟩:=e2
     obtain⟨c,T,f,hb,hn,rfl⟩:=oH hc
     have hr3:((c.toList.drop (off+i*1)).take 1)=[.int .u8 (y::ys)[i]]:=hr2
     have h5:=congrArg (fun l=>l[0]?) hr3
     simp only[List.getElem?_take_of_lt (show 0<1 by omega),List.getElem?_drop,Nat.add_zero,Nat.mul_one,List.getElem?_cons_zero,Array.getElem?_toList]at h5
     simp only[World.cell?,hb,h5,Option.isSome_none]
     simp[List.getD,Y8 hi]
  simp only[execOp,ho]
  rw[Sem.run_bind,hh]
  rfl
theorem a0e (H:FxOk X) (R:Rel X cl ch S m ok a w) {x:Operand} {n:Nat} {q:Nat} (ho:o.op= .extract x n):
  (Y1 X.E q o).post S (fun _ S' =>fF X cl ch o a w m ok S'):=by
 unfold Y1
 simp only[ho]
 refine V6 R fun u hu=>?_
 cases u <;> try trivial
 case tup vs=>
 obtain⟨arr,hx,hl⟩:=hu
 have key:∀(vs:List V) (us:List Value) (n:Nat) (v:V),Wl ⟨w.heap,ok,m⟩ vs us→vs[n]? =some v→∃u,us[n]? =some u∧gW ⟨w.heap,ok,m⟩ v u:=by
  intro vs
  induction vs with
  | nil=>intro us n v _ h;simp at h
  | cons c cs ih=>
   rintro us n v ⟨u,r,rfl,h1,h2⟩ h
   cases n with
   | zero=>
    simp at h;subst h
    refine⟨u,rfl,?_⟩
    cases c <;> first | exact h1 | exact h1.elim
   | succ n=>simpa using ih r n v h2 (by simpa using h)
 simp only[]
 split
 ·rename_i v hv
  obtain⟨u,hu,hr⟩:=key vs arr.toList n v hl hv
  refine U2 H R hr ?_
  have:arr[n]? =some u:=by simpa using hu
  simp[execOp,ho,hx,Instr.extract,this]
 ·trivial
theorem a6T (H:FxOk X) (R:Rel X cl ch S m ok a w) {t:TypeId} {x ix:Operand} {q:Nat} (ho:o.op= .index t x ix):
  (Y1 X.E q o).post S (fun _ S' =>fF X cl ch o a w m ok S'):=by
 unfold Y1
 simp only[ho]
 refine V6 R fun u hu=>V6 R fun v hv=>lJ H fun i hi=>?_
 have hd:=hi.td
 split <;> try trivial
 rename_i l k n htd
 rw[htd]at hd
 refine aF fun c hc=>?_
 unfold sat at hc
 split at hc
 ·rename_i h0
  cases hl:l[n.toNat]? with
  | none=>simp[hl]at hc
  | some b=>
   simp[hl]at hc;subst hc
   refine U2 H R (v:=.i .u8 b.toNat) (x:=.int .u8 b.toNat) rfl ?_
   have e:(⟨l.toArray⟩:ByteArray)[n.toNat]? =some b:=by
    obtain⟨h1,h2⟩:=O6.1 hl
    have hs:n.toNat<(⟨l.toArray⟩:ByteArray).size:=by simpa[ByteArray.size]using h1
    show decidableGetElem? _ _=_
    unfold decidableGetElem?
    rw[dif_pos hs,←h2];rfl
   simp[execOp,ho,IW hu,mO hv,Instr.index,asIntOf,run_underlying (show X.P.underlying t=some .string from hd),h0,e]
 ·cases hc
theorem Yd (H:FxOk X) (R:Rel X cl ch S m ok a w) {x:Operand} {q:Nat} (ho:o.op= .nilCheck x):
  (Y1 X.E q o).post S (fun _ S' =>fF X cl ch o a w m ok S'):=by
 unfold Y1
 simp only[ho]
 refine V6 R fun u hu=>?_
 cases u <;> try trivial
 case ptr bx f=>
  obtain⟨b,h1,h2⟩:=hu
  exact U2 H R (v:=.ptr bx f) ⟨b,h1,h2⟩ (by simp[execOp,ho,h2])
 case ep bx ix f=>
  obtain⟨_,_,_,_,_,h1,h2,h3⟩:=hu
  exact U2 H R (v:=.ep bx ix f) ⟨_,_,_,_,_,h1,h2,h3⟩ (by simp[execOp,ho,h3])
 case dp u y f=>
  obtain⟨_,_,_,h1,h2⟩:=hu
  exact U2 H R (v:=.dp u y f) ⟨_,_,_,h1,h2⟩ (by simp[execOp,ho,h1])
 case glob g=>exact U2 H R (v:=.glob g) hu (by have hu:a.eval x=_:=hu;simp[execOp,ho,hu])
end
end Go.GP
namespace Go.GP
theorem rO {w:World} {blk off n:Nat} {es:List Value} (e:ai w.heap blk off n=some es) {j:Nat} {v:Value} (h:es[j]? =some v):w.cell? ⟨blk,off+j,none⟩=some v:=by
 obtain⟨c,T,f,hb,hn,rfl⟩:=oH e
 rw[cell_of_row w blk (off+j) c T f hb]
 have hj:j<n:=by
  have:=(O6.1 h).1
  simp at this;omega
 rw[List.getElem?_take,if_pos hj,List.getElem?_drop]at h
 simpa using h
theorem zi {P:Program} {t:TypeId} {d:TD} (h:a9K P t d) (w:World):(isAgg t).run P w= .ok (eH d) w:=by
 unfold isAgg
 cases d <;> simp only[a9K]at h
 case struct fs=>
  obtain⟨fields,hu,_⟩:=h
  rw[Sem.run_bind,run_underlying hu];rfl
 case other=>
  obtain⟨e,hu,hn⟩:=h
  rw[Sem.run_bind,run_underlying hu]
  cases e <;> first | rfl | exact hn.elim
 all_goals (rw[Sem.run_bind,run_underlying h];rfl)
theorem mQ {P:Program} {t:TypeId} {i:TI} (h:TiOk P t i) (w:World):(sizeOf t).run P w= .ok i.size w:=by
 obtain⟨inf,h1,h2,_⟩:=h.info
 simp[sizeOf,typeInfo,h1,h2]
def Oh (ag:Bool) (es:List Value):Value:=match ag with | true=> .agg es.toArray | false=>es.headD Go.undef
theorem ut {P:Program} {t:TypeId} {i:TI} (hi:TiOk P t i) (w:World) {blk off:Nat} {es:List Value} (e:ai w.heap blk off i.size=some es):
  (loadVar t ⟨blk,off,none⟩).run P w= .ok (Oh (eH i.td) es) w:=by
 have hl:=jb e
 unfold loadVar
 rw[Sem.run_bind,zi hi.td]
 simp only[Result.andThen_ok]
 cases ha:eH i.td
 ·have h1:=hi.one ha
  rw[h1]at hl
  obtain⟨v,rfl⟩:∃v,es=[v]:=by
   cases es with
   | nil=>simp at hl
   | cons v r=>cases r with
    | nil=>exact⟨v,rfl⟩
    | cons _ _=>simp at hl
  have hc:=rO e (j:=0) (v:=v) rfl
  simp only[Nat.add_zero]at hc
  simp[hc,Oh]
 ·have hc:=run_loadCells_list (P:=P) w ⟨blk,off,none⟩ es (fun j v h=>by rw[Addr.add_lit];exact rO e h)
  rw[hl]at hc
  simp[mQ hi,hc,Oh]
theorem wP {C:Cx} {ag:Bool} {cs:List V} {es:List Value} (h:aS C cs es) (h1:ag=false→es.length=1):gW C (mkV ag cs) (Oh ag es):=by
 refine Rj (us:=es) ?_ h
 cases ag
 ·have:=h1 rfl
  obtain⟨v,rfl⟩:∃v,es=[v]:=by
   cases es with
   | nil=>simp at this
   | cons v r=>cases r with
    | nil=>exact⟨v,rfl⟩
    | cons _ _=>simp at this
  rfl
 ·exact⟨es.toArray,rfl,by simp⟩
theorem PS:∀(n:Nat) (cs r:List V),PR n cs=some r→n≤cs.length∧r=cs.drop n
 | 0,cs,r,h=>by simp[PR]at h;simp[h]
 | n+1,[],r,h=>by simp[PR]at h
 | n+1,c::cs,r,h=>by
  obtain⟨h1,h2⟩:=PS n cs r (by simpa[PR]using h)
  exact⟨by simp;omega,by simpa using h2⟩
theorem RV {α:Type} {Q:α→Sm→Prop} {S:Sm} :∀(n:Nat) (cs:List V) {K:List V→Cmd α} (hK:n≤cs.length→(K (cs.take n)).post S Q),(YX n cs K .fail).post S Q
 | 0,cs,K,hK=>by simpa[YX]using hK (Nat.zero_le _)
 | n+1,[],K,hK=>trivial
 | n+1,c::cs,K,hK=>by
  unfold YX
  exact RV n cs fun h=>by simpa using hK (by simp;omega)
theorem zl {α:Type} {Q:α→Sm→Prop} {S:Sm} {off n:Nat} {cs:List V} {K:List V→Cmd α} (hK:off+n≤cs.length→(K ((cs.drop off).take n)).post S Q):(Tz off n cs K .fail).post S Q:=by
 unfold Tz
 split
 ·rename_i r hr
  obtain⟨h1,rfl⟩:=PS _ _ _ hr
  refine RV n _ fun h=>hK ?_
  simp at h;omega
 ·trivial
def V4 {α:Type} (off:Nat) (vs cs:List α):List α:=cs.take off++vs++cs.drop (off+vs.length)
theorem zf {α:Type} {Q:α→Sm→Prop} {S:Sm} :∀(off:Nat) (vs cs:List V) {K:List V→Cmd α} (hK:off+vs.length≤cs.length→(K (V4 off vs cs)).post S Q),(LQ off vs cs K .fail).post S Q
 | 0,[],cs,K,hK=>by
  have:=hK (by simp)
  cases cs <;> simpa[LQ,V4]using this
 | 0,v::vs,[],K,hK=>by simp[LQ];trivial
 | 0,v::vs,c::cs,K,hK=>by
  unfold LQ
  exact zf 0 vs cs fun h=>by simpa[V4]using hK (by simp at h ⊢;omega)
 | n+1,vs,[],K,hK=>by cases vs <;> simp[LQ] <;> trivial
 | n+1,vs,c::cs,K,hK=>by
  have e:LQ (n+1) vs (c::cs) K Cmd.fail=LQ n vs cs (fun r=>K (c::r)) Cmd.fail:=by cases vs <;> rfl
  rw[e]
  refine zf n vs cs fun h=>?_
  have:=hK (by simp;omega)
  have e2:n+1+vs.length=(n+vs.length)+1:=by omega
  simpa[V4,e2]using this
theorem AX {C:Cx} {off:Nat} {vs cs:List V} {us xs:List Value} (hv:aS C vs us) (hc:aS C cs xs):aS C (V4 off vs cs) (V4 off us xs):=by
 unfold V4
 rw[←gK hv]
 exact um (um (uo off hc) hv) (qH _ hc)
theorem yQ {P:Program} {t:TypeId} {i:TI} (hi:TiOk P t i) (w:World) {blk off:Nat} {c:Array Value} {T:TypeId} (hb:w.heap[blk]? =some (.cells c T (0,0))) {v:Value}
  (hs:v.cells.size=i.size) (ho:off+i.size≤c.size) (h1:∀u∈v.cells.toList,u.oneCell' =true):
  (storeVar t ⟨blk,off,none⟩ v).run P w= .ok () (w.setRow blk (V4 off v.cells.toList c.toList).toArray):=by
 have h:=run_storeCells_at P blk off T v.cells.toList 0 c w hb (by simp;omega) h1
 simp only[Nat.add_zero]at h
 unfold storeVar
 simp[mQ hi,hs,h,V4]
section
variable {X:Fx} {cl ch:Nat} {S:Sm} {m:Mp} {ok:Nat→Ty→Prop} {a:Act} {w:World} {o:Oper}
theorem Rel.own_cells (R:Rel X cl ch S m ok a w) {n:Nat} {cs:List V} (h:S (BOX+n)= .bcells cs):∃blk arr T,m n=some (.st blk)∧w.heap[blk]? =some (.cells arr T (0,0))∧aS ⟨w.heap,ok,m⟩ cs arr.toList:=by
 have:=R.box n
 rw[h]at this
 exact this
theorem Rel.own_arr (R:Rel X cl ch S m ok a w) {n:Nat} {t:Ty} {xs:List t.den} (h:S (BOX+n)= .barr t xs):∃l,m n=some l∧arrOk ⟨w.heap,ok,m⟩ t xs l:=by
 have:=R.box n
 rw[h]at this
 exact this
theorem Rel.own_frz (R:Rel X cl ch S m ok a w) {n:Nat} {t:Ty} {xs:List t.den} (h:S (BOX+n)= .bfrz t xs):∃l,m n=some l∧arrOk ⟨w.heap,ok,m⟩ t xs l∧(∀blk off len cap sz,l= .arr blk off len cap sz→ok blk t):=by
 have:=R.box n
 rw[h]at this
 exact this
theorem Rel.own_barrs (R:Rel X cl ch S m ok a w) {n:Nat} {md:M} {xs:List md.den} {hole:Option (Nat×Nat)} (h:S (BOX+n)= .barrs md xs hole):md.el=true∧∃l Os,m n=some l∧Vd ⟨w.heap,ok,m⟩ md xs hole Os l∧m.kid n=Os.flatten:=by
 have:=R.box n
 rw[h]at this
 exact this
theorem Rel.own_fc (R:Rel X cl ch S m ok a w) {n:Nat} {t:Ty} {x:t.den} (h:S (BOX+n)= .bfc t x):∃blk es,m n=some (.st blk)∧ok blk t∧ai w.heap blk 0 t.size=some es∧rep w.heap ok t x es:=by
 have:=R.box n
 rw[h]at this
 exact this
theorem uJ:∀(m:M) (x:m.den) (r:List V),Ez m x r=Ez m x []++r
 | .dat t,x,r=>oO t x r
 | .pair a b,x,r=>by
  simp only[Ez]
  rw[uJ a x.1 (Ez b x.2 r),uJ b x.2 r,uJ a x.1 (Ez b x.2 [])]
  simp
 | .unit,_,_=>rfl
 | .own _,_,_=>rfl
 | .owns _,_,_=>rfl
 | .box _,_,_=>rfl
 | .ownb _,_,_=>rfl
 | .rp _,_,_=>rfl
 | .fn _ _,_,_=>rfl
 | .ifc _ _,_,_=>rfl
 | .cell _,_,_=>rfl
theorem DI:∀(m:M) (x:m.den),(Ez m x []).length=m.size
 | .dat t,x=>lK t x
 | .pair a b,x=>by
  simp only[Ez,M.size]
  rw[uJ a,List.length_append,DI a x.1,DI b x.2]
 | .unit,_=>rfl
 | .own _,_=>rfl
 | .owns _,_=>rfl
 | .box _,_=>rfl
 | .ownb _,_=>rfl
 | .rp _,_=>rfl
 | .fn _ _,_=>rfl
 | .ifc _ _,_=>rfl
 | .cell _,_=>rfl
theorem pJ {C:Cx} {cs:List Value} (h:cs.length=1) (h1:∀v∈cs,v.oneCell' =true):aS C [.undef] cs:=by
 match cs,h with
 | [v],_=>exact⟨v,[],rfl,trivial,h1 v (by simp),rfl⟩
theorem IV {C:Cx} :∀{m:M} {ho:Option Nat} {x:m.den} {cs:List Value} {O:List Nat},ja C.h C.ok m ho x cs O→aS C (Ez m x []) cs
 | .dat t,_,_,_,_,h=>qI h.1
 | .pair a b,_,x,_,_,h=>by
  obtain⟨c,d,O1,O2,rfl,rfl,h1,h2⟩:=h
  simp only[Ez]
  rw[uJ a]
  exact um (IV h1) (IV h2)
 | .unit,_,_,_,_,h=>by obtain⟨rfl,_⟩:=h;rfl
 | .own _,_,_,_,_,h=>pJ (Z8 h) (pK h)
 | .owns _,_,_,_,_,h=>pJ (Z8 h) (pK h)
 | .box _,_,_,_,_,h=>pJ (Z8 h) (pK h)
 | .ownb _,_,_,_,_,h=>pJ (Z8 h) (pK h)
 | .rp _,_,_,_,_,h=>pJ (Z8 h) (pK h)
 | .fn _ _,_,_,_,_,h=>pJ (Z8 h) (pK h)
 | .ifc _ _,_,_,_,_,h=>pJ (Z8 h) (pK h)
 | .cell _,_,_,_,_,h=>pJ (Z8 h) (pK h)
theorem aO {α:Type} {Q:α→Sm→Prop} {S:Sm} {k:Nat} {c:V→Cmd α} (h:(c (S k)).post S Q):(Cmd.get k c).post S Q:=h
theorem iL {α:Type} {Q:α→Sm→Prop} {S:Sm} {k:Nat} {v:V} {c:Cmd α} (h:c.post (upd S k v) Q):(Cmd.set k v c).post S Q:=h
theorem DN {α:Type} {Q:α→Sm→Prop} (H:FxOk X) (R:Rel X cl ch S m ok a w) {t:Nat} {p:V} {x:Value} (hp:gW ⟨w.heap,ok,m⟩ p x) {K:V→Cmd α}
  (hK:∀v u ad,gW ⟨w.heap,ok,m⟩ v u→x= .pointer (some ad)→(loadVar t ad).run X.P w= .ok u w→(K v).post S Q):(JH X.E t p K).post S Q:=by
 unfold JH
 refine lJ H fun i hi=>?_
 cases p <;> try trivial
 case ptr bx off=>
  obtain⟨blk,hm,rfl⟩:=hp
  refine aO ?_
  split <;> try trivial
  ·rename_i cs hS
   obtain⟨blk',arr,T,hm',hh,hl⟩:=R.own_cells hS
   simp only at hm
   rw[hm]at hm';cases hm'
   refine zl fun hle=>?_
   have hlen:=gK hl
   have e:=iq hh off i.size (by simp at hlen;omega)
   refine hK _ _ _ (wP (uo _ (qH _ hl)) (fun ha=>by have:=jb e;rw[hi.one ha]at this;rw[hi.one ha];exact this)) rfl ?_
   exact ut hi w e
  ·rename_i u y hS
   obtain⟨blk',es,hm',hok,he,hr⟩:=R.own_fc hS
   simp only at hm
   rw[hm]at hm';cases hm'
   refine zl fun hle=>?_
   rw[lK]at hle
   have e:=xq he off i.size hle
   rw[Nat.zero_add]at e
   refine hK _ _ _ (wP (uo _ (qH _ (qI (C:=⟨w.heap,ok,m⟩) hr))) (fun ha=>by have:=jb e;rw[hi.one ha]at this;rw[hi.one ha];exact this)) rfl ?_
   exact ut hi w e
 case ep bx ix off=>
  obtain⟨blk,o',len,cap,sz,hm,hlt,rfl⟩:=hp
  refine aO ?_
  have key:∀{u:Ty} {xs:List u.den},arrOk ⟨w.heap,ok,m⟩ u xs (.arr blk o' len cap sz)→(Cmd.opt (I9 xs ix) fun x=>Tz off i.size (flat u x []) (fun r=>K (mkV (eH i.td) r)) Cmd.fail).post S Q:=by
   intro u xs ha
   obtain⟨rfl,rfl,h3,c,T,hh,hs,hx⟩:=ha
   refine aF fun y hy=>?_
   obtain⟨es,he,hr⟩:=hx ix y hy
   refine zl fun hle=>?_
   rw[lK]at hle
   have e:=xq he off i.size hle
   refine hK _ _ _ (wP (uo _ (qH _ (qI (C:=⟨w.heap,ok,m⟩) hr))) (fun ha=>by have:=jb e;rw[hi.one ha]at this;rw[hi.one ha];exact this)) rfl ?_
   exact ut hi w e
  split <;> try trivial
  ·rename_i u xs hS
   obtain⟨l,hm',ha⟩:=R.own_arr hS
   simp only at hm
   rw[hm]at hm';cases hm'
   exact key ha
  ·rename_i u xs hS
   obtain⟨l,hm',ha,_⟩:=R.own_frz hS
   simp only at hm
   rw[hm]at hm';cases hm'
   exact key ha
  ·rename_i md xs hole hS
   obtain⟨_,l,Os,hm',ha,_⟩:=R.own_barrs hS
   simp only at hm
   rw[hm]at hm';cases hm'
   obtain⟨rfl,rfl,h3,h7,c,T,hh,hs,hx⟩:=ha
   refine aF fun y hy=>?_
   obtain⟨es,O,hO,he,hr⟩:=hx ix y hy
   refine zl fun hle=>?_
   rw[DI]at hle
   have e:=xq he off i.size hle
   refine hK _ _ _ (wP (uo _ (qH _ (IV (C:=⟨w.heap,ok,m⟩) hr))) (fun ha=>by have:=jb e;rw[hi.one ha]at this;rw[hi.one ha];exact this)) rfl ?_
   exact ut hi w e
 case dp u y off=>
  obtain⟨blk,o',es,rfl,hb,he,hr⟩:=hp
  refine zl fun hle=>?_
  rw[lK]at hle
  have e:=xq he off i.size hle
  refine hK _ _ _ (wP (uo _ (qH _ (qI (C:=⟨w.heap,ok,m⟩) hr))) (fun ha=>by have:=jb e;rw[hi.one ha]at this;rw[hi.one ha];exact this)) rfl ?_
  exact ut hi w e
theorem qV (h:Array Obj) (o:Obj) {b:Nat} (hb:b<h.size):(h.push o)[b]? =h[b]?:=by rw[Array.getElem?_push,if_neg (by omega)]
theorem Rel.new (R:Rel X cl ch S m ok a w) {n:Nat} {l:Loc} {ks:List Nat} {v:V} {obj:Obj} (hn:S (BOX+n)= .undef) (hcl:cl≤n) (hch:n<ch) (hv:v≠.undef)
  (hb:O9 (iF m n l ks) n v=[w.heap.size]) (hB:zS ⟨(w.alloc obj).heap,ok,iF m n l ks⟩ n v):
  Rel X cl ch (upd S (BOX+n) v) (iF m n l ks) ok a (w.alloc obj):=by
 refine R.lay hn hcl hch hv rfl rfl rfl (by simp) (fun b hb' _=>qV _ _ hb') (by rw[hb];simp) (fun b h=>?_) hB
 rw[hb]at h
 simp only[List.mem_singleton]at h
 subst h
 refine⟨fun t h' =>Nat.lt_irrefl _ (R.okLt _ t h'),by simp,.inl R.frame.size,fun k h' =>Nat.lt_irrefl _ (R.sep k _ h').2.1⟩
theorem Rel.newK (R:Rel X cl ch S m ok a w) {T:List Nat} (hT:Tk X S m ok w T) {n:Nat} {l:Loc} {ks:List Nat} {v:V} {obj:Obj} (hn:S (BOX+n)= .undef) (hcl:cl≤n) (hch:n<ch) (hv:v≠.undef)
  (hb:O9 (iF m n l ks) n v=w.heap.size::ks) (hnd:ks.Nodup) (hks:∀b∈ks,b∈T) (hB:zS ⟨(w.alloc obj).heap,ok,iF m n l ks⟩ n v):
  Rel X cl ch (upd S (BOX+n) v) (iF m n l ks) ok a (w.alloc obj):=by
 refine R.lay hn hcl hch hv rfl rfl rfl (by simp) (fun b hb' _=>qV _ _ hb') (by rw[hb];exact List.nodup_cons.2 ⟨fun h=>Nat.lt_irrefl _ (hT.free _ (hks _ h)).2.1,hnd⟩) (fun b h=>?_) hB
 rw[hb]at h
 rcases List.mem_cons.1 h with rfl | h
 ·exact⟨fun t h' =>Nat.lt_irrefl _ (R.okLt _ t h'),by simp,.inl R.frame.size,fun k h' =>Nat.lt_irrefl _ (R.sep k _ h').2.1⟩
 ·obtain⟨h1,h2,h3,h4⟩:=hT.free b (hks b h)
  exact⟨h1,by simp;omega,h3,h4⟩
theorem Rel.le_new (R:Rel X cl ch S m ok a w) {n:Nat} {l:Loc} {ks:List Nat} {obj:Obj} (hn:S (BOX+n)= .undef) (hcl:cl≤n):Cx.le ⟨w.heap,ok,m⟩ ⟨(w.alloc obj).heap,ok,iF m n l ks⟩:=
 ⟨fun _ _ h=>h,fun b t hb=>qV _ _ (R.okLt b t hb),fun k x h=>by
  by_cases e:k=n
  ·subst e;have:=R.fresh k hcl hn;simp only at h;rw[this]at h;cases h
  ·show iF m n l ks k=some x;rw[dP _ _ _ e];exact h⟩
theorem kz (H:FxOk X) {q:Nat} (d:Option Tmp) (hd:∀t,d=some t→t<X.E.nt):CB*q≤J8 q d∧J8 q d+64≤CB*q+CB:=by
 have:=H.nt
 cases d with
 | none=>simp only[J8];show 1000000*q≤1000000*q+999936∧1000000*q+999936+64≤1000000*q+1000000;omega
 | some t=>simp only[J8];have h2:LT.lt (α:=Nat) t X.E.nt:=hd t rfl;clear hd;generalize X.E.nt=n at*;revert this h2;generalize (t:Nat)=t';intro this h2;show 1000000*q≤1000000*q+64*t' ∧1000000*q+64*t' +64≤1000000*q+1000000;omega
theorem Uy (H:FxOk X) {q:Nat} (R:Rel X (CB*q) (CB*q+CB) S m ok a w) {v:V} {l:Loc} {obj:Obj} {vv:V} {x:Value} (hv:v≠.undef)
  (hb:O9 (iF m (J8 q o.dst) l []) (J8 q o.dst) v=[w.heap.size]) (hB:S (BOX+J8 q o.dst)= .undef→CB*q≤J8 q o.dst→zS ⟨(w.alloc obj).heap,ok,iF m (J8 q o.dst) l []⟩ (J8 q o.dst) v)
  (hx:gW ⟨(w.alloc obj).heap,ok,iF m (J8 q o.dst) l []⟩ vv x) (run:(execOp a.eval o).run X.P w= .ok (.value x) (w.alloc obj)):
  (uV (J8 q o.dst) v (aC X.E o.dst vv)).post S (fun _ S' =>fF X (CB*q) (CB*q+CB) o a w m ok S'):=by
 refine uf fun hn=>?_
 cases hd:o.dst with
 | none=>
  have hin:=kz H (q:=q) none (fun t h=>by cases h)
  rw[hd]at hn hB hb hx
  have R' :=R.new hn hin.1 (by omega) hv hb (hB hn hin.1)
  have:=uF (o:=o) H R' (m0:=m) (ok0:=ok) (fun k l' h=>(R.le_new (obj:=obj) hn hin.1).m k l' h) (fun _ _ h=>h) hx run
  rw[hd]at this
  exact this
 | some t=>
  unfold aC
  refine Y6 fun hb' =>?_
  have hin:=kz H (q:=q) (some t) (fun t' h=>by cases h;exact(wJ hb').1)
  rw[hd]at hn hB hb hx
  have R' :=R.new hn hin.1 (by omega) hv hb (hB hn hin.1)
  have:=uF (o:=o) H R' (m0:=m) (ok0:=ok) (fun k l' h=>(R.le_new (obj:=obj) hn hin.1).m k l' h) (fun _ _ h=>h) hx run
  rw[hd]at this
  unfold aC at this
  simp only[hb',cond_true]at this
  exact this
theorem Rf {C:Cx} :∀{cs:List V} {vs:List Value},aS ⟨#[],fun _ _=>False,nom⟩ cs vs→aS C cs vs:=by
 intro cs vs h
 exact AV (C:=⟨#[],fun _ _=>False,nom⟩) ⟨fun _ _ h=>h.elim,fun _ _ h=>h.elim,fun _ _ h=>by cases h⟩ h
theorem a6O (H:FxOk X) {q:Nat} (R:Rel X (CB*q) (CB*q+CB) S m ok a w) {t:TypeId} (ho:o.op= .alloc t):(Y1 X.E q o).post S (fun _ S' =>fF X (CB*q) (CB*q+CB) o a w m ok S'):=by
 unfold Y1
 simp only[ho]
 refine lJ H fun i hi=>Y6 fun hz=>?_
 obtain⟨inf,h1,h2,h3,h4,h5⟩:=hi.info
 obtain⟨z,hz1,hz2⟩:=h4 (bT hz)
 refine Uy (l:=.st w.heap.size) (obj:=.cells z.cells t) H R (by simp) (by simp[O9]) (fun hn hc=>?_) ⟨w.heap.size,by simp,rfl⟩ ?_
 ·exact⟨w.heap.size,z.cells,t,by simp,heap_alloc_new w _,Rf hz2⟩
 ·simp[execOp,ho,Instr.alloc,zeroValue,typeInfo,h1,hz1,newVar,newRow]
theorem c1c (H:FxOk X) {q:Nat} (R:Rel X (CB*q) (CB*q+CB) S m ok a w) {t:TypeId} {x:Operand} (ho:o.op= .box t x):(Y1 X.E q o).post S (fun _ S' =>fF X (CB*q) (CB*q+CB) o a w m ok S'):=by
 unfold Y1
 simp only[ho]
 refine V6 R fun u hu=>oI hu fun cs hcs=>?_
 refine Uy (l:=.st w.heap.size) (obj:=.cells (a.eval x).cells t) H R (by simp) (by simp[O9]) (fun hn hc=>?_) ⟨w.heap.size,by simp,rfl⟩ ?_
 ·exact⟨w.heap.size,(a.eval x).cells,t,by simp,heap_alloc_new w _,AV (R.le_new hn hc) hcs⟩
 ·simp[execOp,ho,Instr.box,newVar,newRow]
end
end Go.GP
namespace Go.GP
theorem kP {α:Type} {p:Nat} {us L:List α} (h:p+us.length≤L.length) (i:Nat):
  (V4 p us L)[i]? =if i<p then L[i]? else if i<p+us.length then us[i -p]? else L[i]?:=by
 unfold V4
 rw[List.append_assoc]
 by_cases h1:i<p
 ·rw[if_pos h1,List.getElem?_append_left (by simp;omega),List.getElem?_take,if_pos h1]
 ·rw[if_neg h1,List.getElem?_append_right (by simp;omega)]
  have e:(L.take p).length=p:=by simp;omega
  rw[e]
  by_cases h2:i<p+us.length
  ·rw[if_pos h2,List.getElem?_append_left (by omega)]
  ·rw[if_neg h2,List.getElem?_append_right (by omega),List.getElem?_drop]
   congr 1;omega
theorem rH {α:Type} {p:Nat} {us L:List α} (h:p+us.length≤L.length):(V4 p us L).length=L.length:=by
 unfold V4;simp;omega
theorem a1g {α:Type} {p b n:Nat} {us L:List α} (h:p+us.length≤L.length) (hd:b+n≤p∨p+us.length≤b):((V4 p us L).drop b).take n=(L.drop b).take n:=by
 apply List.ext_getElem?
 intro i
 rw[List.getElem?_take,List.getElem?_take]
 split
 ·rw[List.getElem?_drop,List.getElem?_drop,kP h]
  rcases hd with hd | hd
  ·rw[if_pos (by omega)]
  ·rw[if_neg (by omega),if_neg (by omega)]
 ·rfl
theorem MJ {α:Type} {b off n:Nat} {us L:List α} (h:b+n≤L.length) (ho:off+us.length≤n):((V4 (b+off) us L).drop b).take n=V4 off us ((L.drop b).take n):=by
 have hl:((L.drop b).take n).length=n:=by simp;omega
 apply List.ext_getElem?
 intro i
 rw[List.getElem?_take,kP (by rw[hl];exact ho)]
 by_cases hi:i<n
 ·rw[if_pos hi,List.getElem?_drop,kP (by omega),List.getElem?_take,if_pos hi,List.getElem?_drop]
  by_cases h1:i<off
  ·rw[if_pos (by omega),if_pos h1]
  ·rw[if_neg (by omega),if_neg h1]
   by_cases h2:i<off+us.length
   ·rw[if_pos (by omega),if_pos h2];congr 1;omega
   ·rw[if_neg (by omega),if_neg h2]
 ·rw[if_neg hi,if_neg (by omega),if_neg (by omega),List.getElem?_take,if_neg hi]
theorem Gh {w:World} {blk:Nat} {c:Array Value} {T:TypeId} (hb:w.heap[blk]? =some (.cells c T (0,0))) (L:List Value) (off n:Nat) (h:off+n≤L.length):
  ai (w.setRow blk L.toArray).heap blk off n=some ((L.drop off).take n):=by
 rw[iq (setRow_heap w blk c L.toArray T (0,0) hb) off n (by simpa using h)]
theorem a5P {a b:Nat} (h:a<b):Nat.blt a b=true:=by unfold Nat.blt;exact Nat.ble_eq_true_of_le h
theorem a5O {a b:Nat} (h:¬a<b):Nat.blt a b=false:=by
 cases e:Nat.blt a b
 ·rfl
 ·exact absurd (Il e) h
theorem yw {α:Type} :∀{Os:List (List α)} {i:Nat} {O1 P O2:List α},Os[i]? =some (O1++P++O2)→Os.flatten.Perm ((Os.set i (O1++O2)).flatten++P)
 | [],i,_,_,_,h=>by simp at h
 | A::Os,0,O1,P,O2,h=>by
  simp at h;subst h
  simp only[List.set_cons_zero,List.flatten_cons,List.append_assoc]
  refine List.Perm.append_left O1 ?_
  have:=(List.perm_append_comm (l₁:=P) (l₂:=O2++Os.flatten))
  simpa using this
 | A::Os,i+1,O1,P,O2,h=>by
  simp at h
  simp only[List.set_cons_succ,List.flatten_cons,List.append_assoc]
  exact List.Perm.append_left A (yw (by simpa using h))
section
variable {X:Fx} {cl ch:Nat} {S:Sm} {m:Mp} {ok:Nat→Ty→Prop} {a:Act} {w:World} {o:Oper}
theorem c1g {h h' :Array Obj} {ok:Nat→Ty→Prop} {m:Mp} (k:∀b t,ok b t→h'[b]? =h[b]?) {cs:List V} {vs:List Value} (hr:aS ⟨h,ok,m⟩ cs vs):aS ⟨h',ok,m⟩ cs vs:=
 AV (C:=⟨h,ok,m⟩) (D:=⟨h',ok,m⟩) ⟨fun _ _ h=>h,k,fun _ _ h=>h⟩ hr
theorem IL {α:Type} {Q:α→Sm→Prop} {S:Sm} {h:Array Obj} {ok:Nat→Ty→Prop} :∀(md:M) (off:Nat) {x:md.den} {es:List Value} {O:List Nat} {K:V→Cmd α} (hr:ja h ok md none x es O)
  (hK:∀v l ks u O1 Op O2,O=O1++Op++O2→ja h ok md (some off) x es (O1++O2)→es[off]? =some u→l.view none u→
   (∀mp n,zS ⟨h,ok,iF mp n l ks⟩ n v∧O9 (iF mp n l ks) n v=Op∧iF mp n l ks n=some l)→v≠.undef→(K v).post S Q),
  (QJ md off x K .fail).post S Q
 | .own t,off,x,es,O,K,hr,hK=>by
  unfold QJ
  refine Y6 fun hb=>?_
  have:=bT hb
  subst this
  obtain⟨l,v,rfl,hv,ha,rfl⟩:=rE.1 hr
  refine hK _ l [] v [] l.blks [] (by simp) ⟨v,rfl,jY hv,rfl⟩ rfl hv (fun mp n=>⟨⟨l,by simp,Jj ha⟩,?_,by simp⟩) (by simp)
  cases l <;> first | (simp[O9,Loc.blks];done) | cases ha
 | .owns md,off,x,es,O,K,hr,hK=>by
  unfold QJ
  refine Y6 fun hb=>?_
  have:=bT hb
  subst this
  obtain⟨he,l,v,Os,rfl,hv,ha,rfl⟩:=uq.1 hr
  refine hK _ l Os.flatten v [] (l.blks++Os.flatten) [] (by simp) ⟨v,rfl,jY hv,rfl⟩ rfl hv (fun mp n=>⟨⟨he,l,Os,by simp,ha,by simp⟩,?_,by simp⟩) (by simp)
  cases l <;> first | (simp[O9,Loc.blks];done) | cases ha
 | .pair p q,off,x,es,O,K,hr,hK=>by
  unfold QJ
  obtain⟨c,d,O1,O2,rfl,rfl,h1,h2⟩:=hr
  have hc:=Z8 h1
  by_cases hlt:off<p.size
  ·have hb:Nat.blt off p.size=true:=a5P hlt
   simp only[hb,cond_true]
   refine IL p off h1 fun v l ks u A Op B e1 e2 e3 e4 e5 e6=>?_
   refine hK v l ks u A Op (B++O2) (by subst e1;simp) ⟨c,d,A++B,O2,rfl,by simp,?_,?_⟩ (by rw[List.getElem?_append_left (by rw[hc];exact hlt)];exact e3) e4 e5 e6
   ·simp only[hlt,if_true];exact e2
   ·simp only[hlt,if_true];exact h2
  ·have hb:Nat.blt off p.size=false:=a5O hlt
   simp only[hb,cond_false]
   refine IL q (off -p.size) h2 fun v l ks u A Op B e1 e2 e3 e4 e5 e6=>?_
   refine hK v l ks u (O1++A) Op B (by subst e1;simp) ⟨c,d,O1,A++B,rfl,by simp,?_,?_⟩ (by rw[List.getElem?_append_right (by omega),hc];exact e3) e4 e5 e6
   ·simp only[hlt,if_false];exact h1
   ·simp only[hlt,if_false];exact e2
 | .dat _,_,_,_,_,_,_,_=>trivial
 | .unit,_,_,_,_,_,_,_=>trivial
 | .box _,_,_,_,_,_,_,_=>trivial
 | .ownb _,_,_,_,_,_,_,_=>trivial
 | .cell _,_,_,_,_,_,_,_=>trivial
 | .rp _,_,_,_,_,_,_,_=>trivial
 | .fn _ _,_,_,_,_,_,_,_=>trivial
 | .ifc _ _,_,_,_,_,_,_,_=>trivial
def UX (h:Array Obj) (ok:Nat→Ty→Prop) (v:V) (u:Value) (Op:List Nat):Prop:=
 (v= .nl∧u= .slice none 0 0∧Op=[])∨(∃t ys l,v= .barr t ys∧l.view none u∧arrOk ⟨h,ok,nom⟩ t ys l∧Op=l.blks)∨
 (∃md ys l Os,v= .barrs md ys none∧md.el=true∧l.view none u∧xO h md.size (fun _ x es O=>ja h ok md none x es O) ys Os l∧Op=l.blks++Os.flatten)
theorem UX.one {h:Array Obj} {v:V} {u:Value} {Op:List Nat} (k:UX h ok v u Op):u.oneCell' =true:=by
 rcases k with⟨_,rfl,_⟩ | ⟨_,_,l,_,hv,_⟩ | ⟨_,_,l,_,_,_,hv,_⟩
 ·rfl
 ·exact jY hv
 ·exact jY hv
theorem Lj {α:Type} {Q:α→Sm→Prop} {S:Sm} {h:Array Obj} {ok:Nat→Ty→Prop} {v:V} {u:Value} {Op:List Nat} (hp:UX h ok v u Op):∀(md:M) (off:Nat) {ho:Option Nat} {x:md.den} {es:List Value} {O:List Nat} {K:md.den→Cmd α}
  (hr:ja h ok md ho x es O) (hh:ho=none∨ho=some off) (hel:md.el=true)
  (hK:∀y O1 Old O2,O=O1++Old++O2→ja h ok md none y (es.set off u) (O1++Op++O2)→off<es.length→(K y).post S Q),
  (ZM md off v x K .fail).post S Q
 | .own t,off,ho,x,es,O,K,hr,hh,hel,hK=>by
  unfold ZM
  refine Y6 fun hb=>?_
  have:=bT hb
  subst this
  obtain⟨v0,rfl,_,_⟩:=hr
  rcases hp with⟨rfl,rfl,rfl⟩ | ⟨t',ys,l,rfl,hv,ha,rfl⟩ | ⟨md',ys,l,Os,rfl,_,hv,ha,rfl⟩
  ·exact hK [] [] O [] (by simp) ⟨_,rfl,rfl,.nil,rfl,rfl,rfl⟩ (by simp)
  ·simp only
   refine dK fun e=>?_
   subst e
   exact hK _ [] O [] (by simp) ⟨u,rfl,jY hv,l,hv,ha,by simp⟩ (by simp)
  ·trivial
 | .owns md,off,ho,x,es,O,K,hr,hh,hel,hK=>by
  unfold ZM
  refine Y6 fun hb=>?_
  have:=bT hb
  subst this
  obtain⟨v0,rfl,_,_⟩:=hr
  rcases hp with⟨rfl,rfl,rfl⟩ | ⟨t',ys,l,rfl,hv,ha,rfl⟩ | ⟨md',ys,l,Os,rfl,he,hv,ha,rfl⟩
  ·exact hK [] [] O [] (by simp) ⟨_,rfl,rfl,by simpa[M.el]using hel,.nil,[],rfl,⟨rfl,rfl⟩,rfl⟩ (by simp)
  ·trivial
  ·simp only
   refine Py fun e=>?_
   subst e
   exact hK _ [] O [] (by simp) ⟨u,rfl,jY hv,he,l,Os,hv,ha,by simp⟩ (by simp)
 | .pair p q,off,ho,x,es,O,K,hr,hh,hel,hK=>by
  unfold ZM
  obtain⟨c,d,O1,O2,rfl,rfl,h1,h2⟩:=hr
  have hc:=Z8 h1
  have hel' :p.el=true∧q.el=true:=by simpa[M.el]using hel
  by_cases hlt:off<p.size
  ·have hb:Nat.blt off p.size=true:=a5P hlt
   simp only[hb,cond_true]
   have h2' :ja h ok q none x.2 d O2:=by
    rcases hh with rfl | rfl
    ·exact h2
    ·simpa only[hlt,if_true]using h2
   refine Lj hp p off h1 (by rcases hh with rfl | rfl <;> first | exact .inl rfl | (right;simp only[hlt,if_true])) hel'.1 fun y A Old B e1 e2 e3=>?_
   refine hK _ A Old (B++O2) (by subst e1;simp) ⟨c.set off u,d,A++Op++B,O2,?_,by simp,e2,h2'⟩ (by simp;omega)
   rw[List.set_append_left _ _ (by omega)]
  ·have hb:Nat.blt off p.size=false:=a5O hlt
   simp only[hb,cond_false]
   have h1' :ja h ok p none x.1 c O1:=by
    rcases hh with rfl | rfl
    ·exact h1
    ·simpa only[hlt,if_false]using h1
   refine Lj hp q (off -p.size) h2 (by rcases hh with rfl | rfl <;> first | exact .inl rfl | (right;simp only[hlt,if_false])) hel'.2 fun y A Old B e1 e2 e3=>?_
   refine hK _ (O1++A) Old B (by subst e1;simp) ⟨c,d.set (off -p.size) u,O1,A++Op++B,?_,by simp,h1',e2⟩ (by simp;omega)
   rw[List.set_append_right _ _ (by omega),hc]
 | .dat _,_,_,_,_,_,_,_,_,_,_=>trivial
 | .unit,_,_,_,_,_,_,_,_,_,_=>trivial
 | .box _,_,_,_,_,_,_,_,_,_,_=>trivial
 | .ownb _,_,_,_,_,_,_,_,_,_,_=>trivial
 | .cell _,_,_,_,_,_,_,_,_,_,_=>trivial
 | .rp _,_,_,_,_,_,_,_,_,_,_=>trivial
 | .fn _ _,_,_,_,_,_,_,_,_,_,_=>trivial
 | .ifc _ _,_,_,_,_,_,_,_,_,_,_=>trivial
theorem Gm {α:Type} {Q:α→Sm→Prop} {C:Cx} {ln:Ty→Bool} :∀(t:Ty) {cs:List V} {K:t.den→List V→Cmd α} {S:Sm} {vs:List Value} (hf:t.flat=true) (hL:aS C cs vs)
  (hK:∀x r us us',vs=us++us' →(∀h ok,rep h ok t x us)→aS C r us' →(K x r).post S Q),(jA ln t cs K).post S Q
 | .bool,cs,K,S,vs,hf,hL,hK=>by
  unfold jA
  split
  ·obtain⟨v,r,rfl,h1,_,h3⟩:=hL
   exact hK _ _ [v] r rfl (fun _ _=>by simp only[uy]at h1;simp[rep,h1]) h3
  ·trivial
 | .int k,cs,K,S,vs,hf,hL,hK=>by
  unfold jA
  split
  ·obtain⟨v,r,rfl,h1,_,h3⟩:=hL
   refine aQ fun e=>?_
   have e:=of_decide_eq_true e
   subst e
   exact hK _ _ [v] r rfl (fun _ _=>by simp only[uy]at h1;simp[rep,h1]) h3
  ·trivial
 | .str,cs,K,S,vs,hf,hL,hK=>by
  unfold jA
  split
  ·obtain⟨v,r,rfl,h1,_,h3⟩:=hL
   exact hK _ _ [v] r rfl (fun _ _=>by simp only[uy]at h1;simp[rep,h1]) h3
  ·trivial
 | .unit,cs,K,S,vs,hf,hL,hK=>by
  unfold jA
  exact hK _ _ [] vs rfl (fun _ _=>rfl) hL
 | .prod p q,cs,K,S,vs,hf,hL,hK=>by
  unfold jA
  simp[Ty.flat]at hf
  refine Gm p hf.1 hL fun x r us us' e1 h1 l1=>?_
  refine Gm q hf.2 l1 fun y r' vs2 vs2' e2 h2 l2=>?_
  subst e1;subst e2
  exact hK _ _ (us++vs2) vs2' (by simp) (fun h ok=>⟨us,vs2,rfl,h1 h ok,h2 h ok⟩) l2
 | .sl t,cs,K,S,vs,hf,hL,hK=>by simp[Ty.flat]at hf
theorem YT {α:Type} {off:Nat} {us c d:List α} (h:off+us.length≤c.length):V4 off us (c++d)=V4 off us c++d:=by
 apply List.ext_getElem?
 intro i
 have hs:=rH h
 rw[kP (by simp;omega)]
 by_cases hi:i<c.length
 ·rw[List.getElem?_append_left hi,List.getElem?_append_left (l₁:=V4 off us c) (by rw[hs];exact hi),kP h]
 ·rw[List.getElem?_append_right (by omega),List.getElem?_append_right (l₁:=V4 off us c) (by rw[hs];omega),hs,if_neg (by omega),if_neg (by omega)]
theorem WG {α:Type} {off:Nat} {us c d:List α} (h:(off -c.length)+us.length≤d.length) (h' :c.length≤off):V4 off us (c++d)=c++V4 (off -c.length) us d:=by
 apply List.ext_getElem?
 intro i
 rw[kP (by simp;omega)]
 by_cases hi:i<c.length
 ·rw[List.getElem?_append_left hi,if_pos (by omega),List.getElem?_append_left hi]
 ·rw[List.getElem?_append_right (by omega),List.getElem?_append_right (l₂:=V4 (off -c.length) us d) (by omega),kP h]
  by_cases h1:i<off
  ·simp only[h1,if_true,show i -c.length<off -c.length by omega]
  ·by_cases h2:i<off+us.length
   ·simp only[h1,if_false,h2,if_true,show ¬(i -c.length<off -c.length) by omega,show i -c.length<off -c.length+us.length by omega];congr 1;omega
   ·simp only[h1,if_false,h2,show ¬(i -c.length<off -c.length) by omega,show ¬(i -c.length<off -c.length+us.length) by omega]
theorem KU {α:Type} {Q:α→Sm→Prop} {h:Array Obj} {ok:Nat→Ty→Prop} {m:Mp} :∀(md:M) (off:Nat) {ho:Option Nat} {x:md.den} {es us:List Value} {vs:List V} {O:List Nat} {K:md.den→Cmd α} {S:Sm}
  (hr:ja h ok md ho x es O) (hv:aS ⟨h,ok,m⟩ vs us)
  (hK:∀y,off+us.length≤es.length→ja h ok md ho y (V4 off us es) O→(K y).post S Q),(a3T md off vs x K).post S Q
 | .dat t,off,ho,x,es,us,vs,O,K,S,hr,hv,hK=>by
  unfold a3T
  refine aQ fun hf=>zf _ _ _ fun hle=>?_
  rw[lK]at hle
  obtain⟨hr,rfl⟩:=hr
  have hl:=eX hr
  have hlv:=gK hv
  have hnew:=AX (off:=off) hv (qI (C:=⟨h,ok,m⟩) hr)
  refine Gm t hf hnew fun y q vs1 vs2 e1 h1 l1=>?_
  cases q with
  | cons _ _=>trivial
  | nil=>
  simp only[aS]at l1
  subst l1
  simp only[List.append_nil]at e1
  subst e1
  exact hK y (by omega) ⟨h1 _ _,rfl⟩
 | .pair p q,off,ho,x,es,us,vs,O,K,S,hr,hv,hK=>by
  unfold a3T
  obtain⟨c,d,O1,O2,rfl,rfl,h1,h2⟩:=hr
  have hc:=Z8 h1
  by_cases hlt:off<p.size
  ·have hb:Nat.blt off p.size=true:=a5P hlt
   simp only[hb,cond_true]
   refine KU p off h1 hv fun y hle e2=>?_
   exact hK _ (by simp;omega) ⟨_,d,O1,O2,YT hle,rfl,e2,h2⟩
  ·have hb:Nat.blt off p.size=false:=a5O hlt
   simp only[hb,cond_false]
   refine KU q (off -p.size) h2 hv fun y hle e2=>?_
   refine hK _ (by simp;omega) ⟨c,_,O1,O2,?_,rfl,h1,e2⟩
   rw[WG (by omega) (by omega),hc]
 | .own _,_,_,_,_,_,_,_,_,_,_,_,_=>trivial
 | .owns _,_,_,_,_,_,_,_,_,_,_,_,_=>trivial
 | .unit,_,_,_,_,_,_,_,_,_,_,_,_=>trivial
 | .box _,_,_,_,_,_,_,_,_,_,_,_,_=>trivial
 | .ownb _,_,_,_,_,_,_,_,_,_,_,_,_=>trivial
 | .cell _,_,_,_,_,_,_,_,_,_,_,_,_=>trivial
 | .rp _,_,_,_,_,_,_,_,_,_,_,_,_=>trivial
 | .fn _ _,_,_,_,_,_,_,_,_,_,_,_,_=>trivial
 | .ifc _ _,_,_,_,_,_,_,_,_,_,_,_,_=>trivial
theorem a4i (i:Nat):Vq none i=none:=rfl
theorem Ql {i o j:Nat} (h:j≠i):Vq (some (i,o)) j=none:=by simp[Vq,h]
theorem Uj {i o:Nat} :Vq (some (i,o)) i=some o:=by simp[Vq]
theorem QZ {C:Cx} {n:Nat} {md:M} {xs:List md.den} {hole:Option (Nat×Nat)} {blk off len cap sz:Nat} {Os:List (List Nat)} (he:md.el=true) (hm:C.m n=some (.arr blk off len cap sz))
  (ha:Vd C md xs hole Os (.arr blk off len cap sz)) (hk:C.m.kid n=Os.flatten):zS C n (.barrs md xs hole):=⟨he,_,Os,hm,ha,hk⟩
theorem a6D (H:FxOk X) {q:Nat} {S1:Sm} {m1:Mp} {ok1:Nat→Ty→Prop} {w0:World} {Op:List Nat} (R:Rel X (CB*q) (CB*q+CB) S1 m1 ok1 a w) (hT:Tk X S1 m1 ok1 w Op)
  (hm:∀k l,m k=some l→m1 k=some l) (hok:∀b t,ok b t→ok1 b t) {v:V} {l:Loc} {ks:List Nat} {vv:V} {x:Value} (hv:v≠.undef)
  (ho:O9 (iF m1 (J8 q o.dst) l ks) (J8 q o.dst) v=Op) (hB:zS ⟨w.heap,ok1,iF m1 (J8 q o.dst) l ks⟩ (J8 q o.dst) v)
  (hx:gW ⟨w.heap,ok1,iF m1 (J8 q o.dst) l ks⟩ vv x) (run:(execOp a.eval o).run X.P w0= .ok (.value x) w):
  (uV (J8 q o.dst) v (aC X.E o.dst vv)).post S1 (fun _ S' =>fF X (CB*q) (CB*q+CB) o a w0 m ok S'):=by
 refine uf fun hn=>?_
 cases hd:o.dst with
 | none=>
  have hin:=kz H (q:=q) none (fun t h=>by cases h)
  rw[hd]at hn hB hx ho
  obtain⟨R',_,hm'⟩:=R.adopt (T:=[]) hn hin.1 hv (by simpa using hT) (fun b h=>by rw[ho]at h;exact h) (by rw[ho];exact hT.nodup) hB
  rw[Nat.max_eq_left (by omega)]at R'
  have:=uF (o:=o) H R' (m0:=m) (ok0:=ok) (fun k l' h=>hm' k l' (hm k l' h)) hok hx run
  rw[hd]at this
  exact this
 | some t=>
  unfold aC
  refine Y6 fun hb' =>?_
  have hin:=kz H (q:=q) (some t) (fun t' h=>by cases h;exact(wJ hb').1)
  rw[hd]at hn hB hx ho
  obtain⟨R',_,hm'⟩:=R.adopt (T:=[]) hn hin.1 hv (by simpa using hT) (fun b h=>by rw[ho]at h;exact h) (by rw[ho];exact hT.nodup) hB
  rw[Nat.max_eq_left (by omega)]at R'
  have:=uF (o:=o) H R' (m0:=m) (ok0:=ok) (fun k l' h=>hm' k l' (hm k l' h)) hok hx run
  rw[hd]at this
  unfold aC at this
  simp only[hb',cond_true]at this
  exact this
theorem b0M (H:FxOk X) {q:Nat} (R:Rel X (CB*q) (CB*q+CB) S m ok a w) {t:TypeId} {x:Operand} (ho:o.op= .load t x):(Y1 X.E q o).post S (fun _ S' =>fF X (CB*q) (CB*q+CB) o a w m ok S'):=by
 unfold Y1
 simp only[ho]
 refine V6 R fun p hp=>?_
 have plain:(JH X.E t p fun v=>aC X.E o.dst v).post S (fun _ S' =>fF X (CB*q) (CB*q+CB) o a w m ok S'):=by
  refine DN H R hp fun v u ad hv hx hr=>U2 H R hv ?_
  simp[execOp,ho,hx,Instr.loadAt,Instr.sureAddr,hr]
 unfold b1R
 split
 ·rename_i bx idx off
  refine aO ?_
  split
  ·rename_i md xs hS
   cases hown:md.ownAt off
   ·simpa only[cond_false]using plain
   simp only[cond_true]
   refine lJ H fun i hi=>aQ fun hi1=>?_
   simp only[Bool.and_eq_true,Bool.not_eq_true']at hi1
   obtain⟨hsz,hagg⟩:=hi1
   have hsz:=bT hsz
   have hp' :=hp
   obtain⟨blk,o',len,cap,sz,hm,hlt,hx⟩:=hp
   obtain⟨hel,l,Os,hm',ha,hk⟩:=R.own_barrs hS
   simp only at hm
   rw[hm]at hm';cases hm'
   cases Ac (match o.dst with | some d=>d | none=>BOX) X.E.tk <;> simp only[cond_true,cond_false]
   ·refine Dc (T:=[]) (.sl md.ty) R Tk.nil (cs:=[.own bx none]) (vs:=[.slice (some ⟨blk,o',none⟩) len cap]) ⟨_,_,rfl,⟨_,hm,rfl⟩,rfl,rfl⟩ fun S1 ok1 _ _ us us' R1 T1 k1 s1 e1 h1 l1=>?_
    refine DN H R1 (OO k1 hp') fun v u ad hv hx hr=>uF H R1 (fun _ _ h=>h) k1 hv ?_
    simp[execOp,ho,hx,Instr.loadAt,Instr.sureAddr,hr]
   ·refine aF fun e0 he0=>?_
    obtain⟨rfl,rfl,h3,h7,c,T,hh,hs,hxs⟩:=ha
    obtain⟨es,O,hO,he,hr⟩:=hxs idx e0 he0
    refine IL md off hr fun v l2 ks u O1 Op O2 eO hr' hu hv hB hvu=>?_
    refine iL ?_
    have hOs:Os.flatten.Perm ((Os.set idx (O1++O2)).flatten++Op):=yw (by rw[hO,eO])
    have hown0:O9 m bx (S (BOX+bx))=blk::Os.flatten:=by simp[O9,hS,hm,hk]
    have hown1:O9 (Ae m bx (Os.set idx (O1++O2)).flatten) bx (.barrs md xs (some (idx,off)))=blk::(Os.set idx (O1++O2)).flatten:=by simp[O9,hm]
    have hnd:=R.nd bx
    rw[hown0]at hnd
    have hperm:(blk::Os.flatten).Perm ((blk::(Os.set idx (O1++O2)).flatten)++Op):=by simpa using hOs.cons blk
    have hnd' :=List.nodup_append.1 (hperm.nodup_iff.1 hnd)
    have hB1:zS ⟨w.heap,ok,Ae m bx (Os.set idx (O1++O2)).flatten⟩ bx (.barrs md xs (some (idx,off))):=by
     refine QZ (Os:=Os.set idx (O1++O2)) hel hm ⟨rfl,rfl,h3,by simp[h7],c,T,hh,hs,fun j z hz=>?_⟩ (by simp)
     by_cases hj:j=idx
     ·subst hj
      rw[show xs[j]? =some e0 from he0]at hz;cases hz
      refine⟨es,O1++O2,?_,he,by simp only[Uj];exact hr'⟩
      rw[List.getElem?_set,if_pos rfl,if_pos (by rw[h7];exact hlt)]
     ·obtain⟨es2,O',hO2,he2,hr2⟩:=hxs j z hz
      refine⟨es2,O',?_,he2,by simp only[Ql hj];exact hr2⟩
      rw[List.getElem?_set,if_neg (fun e=>hj e.symm)];exact hO2
    obtain⟨R1,T1⟩:=R.modK (T:=[]) Tk.nil (n:=bx) (v:=.barrs md xs (some (idx,off))) (ks:=(Os.set idx (O1++O2)).flatten) (w' :=w) (T' :=Op) (by simp) (by rw[hown1];exact hnd'.1)
     (fun b hb=> .inl (by rw[hown0];rw[hown1]at hb;exact hperm.mem_iff.2 (List.mem_append_left _ hb))) rfl rfl rfl rfl (fun _ _=>rfl) hB1 hnd'.2.1
     (fun b hb=>⟨.inl (by rw[hown0];exact hperm.mem_iff.2 (List.mem_append_right _ hb)),fun h=>hnd'.2.2 b (by rw[hown1]at h;exact h) b hb rfl⟩)
    obtain⟨hB2,hB3,hB4⟩:=hB (Ae m bx (Os.set idx (O1++O2)).flatten) (J8 q o.dst)
    refine a6D (ok:=ok) (m:=m) H R1 T1 (fun _ _ h=>h) (fun _ _ h=>h) hvu hB3 hB2 ⟨l2,hB4,hv⟩ ?_
    have hlt2:=(O6.1 hu)
    have hle:off+1≤md.size:=by have:=Z8 hr;have:=hlt2.1;omega
    have e:=xq he off i.size (by omega)
    have hr2:=ut hi w e
    have h1:(es.drop off).take i.size=[u]:=by
     obtain⟨hlt3,rfl⟩:=hlt2
     rw[hsz,List.drop_eq_getElem_cons hlt3];rfl
    rw[h1,hagg]at hr2
    simp[execOp,ho,hx,Instr.loadAt,Instr.sureAddr,hr2,Oh]
  ·exact plain
 ·exact plain
theorem En {S' :Sm} {t:TypeId} {x y:Operand} {w' :World} {m' :Mp} {ok' :Nat→Ty→Prop} (ho:o.op= .store t x y) (hd:o.dst=none) (run:(Instr.storeAt t (a.eval x) (a.eval y)).run X.P w= .ok () w')
  (R:Rel X cl ch S' m' ok' a w') (hm:∀k l,m k=some l→m' k=some l) (hok:∀b t,ok b t→ok' b t):fF X cl ch o a w m ok S' :=by
 intro next Q hn
 unfold Oper.wp
 have e:(execOp a.eval o).run X.P w= .ok .skip w' :=by simp[execOp,ho,run]
 rw[e,Oper.upon_skip,hd]
 exact hn m' ok' a w' R hm hok
theorem a1f {α:Type} {off:Nat} {u:α} {L:List α} (h:off<L.length):V4 off [u] L=L.set off u:=by
 apply List.ext_getElem?
 intro i
 rw[kP (by simp;omega),List.getElem?_set]
 by_cases h1:i=off
 ·subst h1;rw[if_neg (by omega),if_pos (by simp),if_pos rfl,if_pos h];simp
 ·by_cases h2:i<off
  ·rw[if_pos h2,if_neg (by omega)]
  ·rw[if_neg h2,if_neg (by simp;omega),if_neg (by omega)]
theorem a3S {u:Value} (h:u.oneCell' =true):u.cells.toList=[u]:=by cases u <;> simp[Value.oneCell',Value.cells]at*
theorem Ro {w:World} {blk o' sz len cap off idx:Nat} {c:Array Value} {T:TypeId} (hh:w.heap[blk]? =some (.cells c T (0,0))) (hs:o' +cap*sz≤c.size) (hlc:len≤cap) (hlt:idx<len) {us es:List Value}
  (he:ai w.heap blk (o' +idx*sz) sz=some es) (hf:off+us.length≤sz):
  o' +idx*sz+off+us.length≤c.size∧(V4 (o' +idx*sz+off) us c.toList).length=c.size∧
  ai (w.setRow blk (V4 (o' +idx*sz+off) us c.toList).toArray).heap blk (o' +idx*sz) sz=some (V4 off us es)∧
  (∀j,j<len→j≠idx→ai (w.setRow blk (V4 (o' +idx*sz+off) us c.toList).toArray).heap blk (o' +j*sz) sz=ai w.heap blk (o' +j*sz) sz):=by
 have hcap:(idx+1)*sz≤cap*sz:=Nat.mul_le_mul_right _ (by omega)
 rw[Nat.add_mul,Nat.one_mul]at hcap
 have hfit:o' +idx*sz+off+us.length≤c.size:=by omega
 have hcl:c.toList.length=c.size:=by simp
 have hsp:(V4 (o' +idx*sz+off) us c.toList).length=c.size:=by rw[rH (by rw[hcl];exact hfit)];exact hcl
 refine⟨hfit,hsp,?_,fun j hj hne=>?_⟩
 ·rw[Gh hh _ _ _ (by rw[hsp];omega),MJ (by rw[hcl];omega) (by omega)]
  obtain⟨c2,T2,f2,hb2,hn2,rfl⟩:=oH he
  rw[hh]at hb2;cases hb2
  rfl
 ·have hcap' :(j+1)*sz≤cap*sz:=Nat.mul_le_mul_right _ (by omega)
  rw[Nat.add_mul,Nat.one_mul]at hcap'
  rw[Gh hh _ _ _ (by rw[hsp];omega),iq hh _ _ (by omega),a1g (by rw[hcl];exact hfit)]
  rcases Nat.lt_or_gt_of_ne hne with hlt' | hgt
  ·left
   have:(j+1)*sz≤idx*sz:=Nat.mul_le_mul_right _ (by omega)
   rw[Nat.add_mul,Nat.one_mul]at this;omega
  ·right
   have:(idx+1)*sz≤j*sz:=Nat.mul_le_mul_right _ (by omega)
   rw[Nat.add_mul,Nat.one_mul]at this;omega
theorem Np {j o2 idx off:Nat} (h:ZJ (some (j,o2)) idx off=true):j=idx∧o2=off:=by
 simp only[ZJ]at h
 cases hb:Nat.beq o2 off <;> rw[hb]at h
 ·cases h
 ·exact⟨bT h,bT hb⟩
theorem Oe {Q:Unit→Sm→Prop} (R:Rel X cl ch S m ok a w) {Op:List Nat} (hT:Tk X S m ok w Op) {t:TypeId} {i:TI} (hi:TiOk X.P t i) (h1:i.size=1) {bx idx off:Nat} {md:M} {xs:List md.den} {hole:Option (Nat×Nat)}
  (hS:S (BOX+bx)= .barrs md xs hole) {blk o' len cap sz:Nat} (hm:m bx=some (.arr blk o' len cap sz)) {v:V} {u:Value} (hp:UX w.heap ok v u Op)
  (hK:∀S' m' w',Rel X cl ch S' m' ok a w' →(∀k l,m k=some l→m' k=some l)→(storeVar t ⟨blk,o' +idx*sz+off,none⟩ u).run X.P w= .ok () w' →Q () S'):
  (WH bx idx off md xs hole v (.ret ())).post S Q:=by
 unfold WH
 refine⟨fun hb=>?_,fun _=>trivial⟩
 refine aF fun e0 he0=>?_
 have he0' :xs[idx]? =some e0:=he0
 obtain⟨hel,l,Os,hm',ha,hk⟩:=R.own_barrs hS
 rw[hm]at hm';cases hm'
 obtain⟨rfl,rfl,h3,h7,c,T,hh,hs,hxs⟩:=ha
 obtain⟨es,O,hO,he,hr⟩:=hxs idx e0 he0'
 have hho:Vq hole idx=none∨Vq hole idx=some off:=by
  rcases hole with _ | ⟨j,o2⟩
  ·exact .inl rfl
  ·obtain⟨e1,e2⟩:=Np hb
   subst e1;subst e2
   exact .inr Uj
 have hho' :∀j,j≠idx→Vq hole j=none:=fun j hj=>by
  rcases hole with _ | ⟨j',o2⟩
  ·rfl
  ·obtain⟨e1,_⟩:=Np hb
   subst e1
   exact Ql hj
 refine Lj hp md off hr hho hel fun y O1 Old O2 eO hr' hoff=>iL ?_
 have hlt:idx<xs.length:=(O6.1 he0').1
 have hes:es.length=md.size:=Z8 hr
 have hu1:=hp.one
 have huc:=a3S hu1
 obtain⟨hfit,hsp,hnew,hold⟩:=Ro (us:=[u]) (off:=off) hh hs h3 hlt he (by simp;omega)
 have run:=yQ hi w (off:=o' +idx*md.size+off) hh (v:=u) (by have:=congrArg List.length huc;simp at this;omega) (by simpa[h1]using hfit) (by rw[huc];simp[hu1])
 rw[huc]at run
 generalize hw' :w.setRow blk (V4 (o' +idx*md.size+off) [u] c.toList).toArray=w' at run hnew hold
 have hrow:w'.heap[blk]? =some (.cells (V4 (o' +idx*md.size+off) [u] c.toList).toArray T (0,0)):=by subst hw';exact setRow_heap w blk c _ T (0,0) hh
 have hoth:∀b,b≠blk→w'.heap[b]? =w.heap[b]?:=fun b hb=>by subst hw';exact setRow_other w blk b _ hb
 have hsize:w'.heap.size=w.heap.size:=by subst hw';simp
 have hos:w'.os=w.os:=by subst hw';rfl
 have htp:w'.tape=w.tape:=by subst hw';rfl
 have hout:w'.output=w.output:=by subst hw';rfl
 have hO1:Os.flatten.Perm ((Os.set idx (O1++O2)).flatten++Old):=yw (by rw[hO,eO])
 have hO2:(Os.set idx (O1++Op++O2)).flatten.Perm ((Os.set idx (O1++O2)).flatten++Op):=by
  have:=yw (Os:=Os.set idx (O1++Op++O2)) (i:=idx) (O1:=O1) (P:=Op) (O2:=O2) (by rw[List.getElem?_set,if_pos rfl,if_pos (by rw[h7];exact hlt)])
  rwa[List.set_set]at this
 have hown0:O9 m bx (S (BOX+bx))=blk::Os.flatten:=by simp[O9,hS,hm,hk]
 have hown1:O9 (Ae m bx (Os.set idx (O1++Op++O2)).flatten) bx (.barrs md (S9 xs idx y) none)=blk::(Os.set idx (O1++Op++O2)).flatten:=by simp[O9,hm]
 have hnd:=R.nd bx
 rw[hown0]at hnd
 have hnd0:=List.nodup_cons.1 hnd
 have hndA:=List.nodup_append.1 (hO1.nodup_iff.1 hnd0.2)
 have hfreeOp:∀b∈Op,b∉blk::Os.flatten:=fun b hb h=>(hT.free b hb).2.2.2 bx (by rw[hown0];exact h)
 have hsubA:∀b∈(Os.set idx (O1++O2)).flatten,b∈Os.flatten:=fun b hb=>hO1.mem_iff.2 (List.mem_append_left _ hb)
 have hneO:∀b∈Os.flatten,b≠blk:=fun b hb e=>hnd0.1 (e▸hb)
 have hneP:∀b∈Op,b≠blk:=fun b hb e=>hfreeOp b hb (by simp[e])
 have hkeep:∀b t,ok b t→w'.heap[b]? =w.heap[b]?:=fun b t hb=>hoth b (fun e=>(R.sep bx blk (by rw[hown0];simp)).1 t (e▸hb))
 have hB:zS ⟨w'.heap,ok,Ae m bx (Os.set idx (O1++Op++O2)).flatten⟩ bx (.barrs md (S9 xs idx y) none):=by
  refine QZ (Os:=Os.set idx (O1++Op++O2)) hel hm ⟨rfl,by simp[S9],h3,by simp[h7,S9],_,T,hrow,by simp[hsp];exact hs,fun j z hz=>?_⟩ (by simp)
  unfold S9 at hz
  rw[List.getElem?_set]at hz
  split at hz
  ·rename_i hj
   subst hj
   cases hz
   refine⟨_,O1++Op++O2,by rw[List.getElem?_set,if_pos rfl,if_pos (by rw[h7];exact hlt)],hnew,?_⟩
   rw[a1f (by omega)]
   refine dE (fun _ _ h=>h) hkeep (fun b hb=>hoth b ?_) hr'
   rcases List.mem_append.1 hb with hb | hb
   ·rcases List.mem_append.1 hb with hb | hb
    ·exact hneO b (List.mem_flatten.2 ⟨O,bZ hO,by rw[eO];simp[hb]⟩)
    ·exact hneP b hb
   ·exact hneO b (List.mem_flatten.2 ⟨O,bZ hO,by rw[eO];simp[hb]⟩)
  ·rename_i hj
   obtain⟨es2,O',hO2',he2,hr2⟩:=hxs j z hz
   refine⟨es2,O',by rw[List.getElem?_set,if_neg hj];exact hO2',by rw[←he2];exact hold j (O6.1 hz).1 (fun e=>hj e.symm),?_⟩
   simp only[a4i]
   rw[hho' j (fun e=>hj e.symm)]at hr2
   exact dE (fun _ _ h=>h) hkeep (fun b hb=>hoth b (hneO b (List.mem_flatten.2 ⟨O',bZ hO2',hb⟩))) hr2
 have hmod:=R.modK hT (n:=bx) (v:=.barrs md (S9 xs idx y) none) (ks:=(Os.set idx (O1++Op++O2)).flatten) (w' :=w') (T' :=[]) (by simp)
  (by
   rw[hown1]
   refine List.nodup_cons.2 ⟨fun h=>?_,hO2.nodup_iff.2 (List.nodup_append.2 ⟨hndA.1,hT.nodup,fun x hx z hz e=>?_⟩)⟩
   ·rcases List.mem_append.1 (hO2.mem_iff.1 h)with h | h
    ·exact hnd0.1 (hsubA _ h)
    ·exact hneP _ h rfl
   ·subst e;exact hfreeOp x hz (by simp[hsubA x hx]))
  (fun b hb=>by
   rw[hown1]at hb;rw[hown0]
   rcases List.mem_cons.1 hb with hb | hb
   ·exact .inl (by simp[hb])
   ·rcases List.mem_append.1 (hO2.mem_iff.1 hb)with h | h
    ·exact .inl (by simp[hsubA _ h])
    ·exact .inr h)
  hos htp hout hsize (fun b hb=>hoth b (fun e=>hb (by rw[hown0,e];simp))) hB List.nodup_nil (fun b hb=>by cases hb)
 exact hK _ _ w' hmod.1 (fun _ _ h=>h) run
theorem a6V (H:FxOk X) (R:Rel X cl ch S m ok a w) {t:TypeId} {x y:Operand} {q:Nat} (ho:o.op= .store t x y):(Y1 X.E q o).post S (fun _ S' =>fF X cl ch o a w m ok S'):=by
 unfold Y1
 simp only[ho]
 cases hd:o.dst with
 | some d=>trivial
 | none=>
 refine V6 R fun p hp=>V6 R fun v hv=>?_
 unfold a9C
 refine lJ H fun i hi=>?_
 cases p <;> try trivial
 case ptr bx off=>
  obtain⟨blk,hm,hx⟩:=hp
  refine aO ?_
  split <;> try trivial
  rename_i cs hS
  obtain⟨blk',arr,T,hm',hh,hl⟩:=R.own_cells hS
  simp only at hm hm'
  rw[hm]at hm';cases hm'
  refine oI hv fun vs hvs=>aQ fun hlen=>zf _ _ _ fun hle=>iL ?_
  have hlen' :=bT hlen
  have hL:=gK hl
  have hL2:=gK hvs
  have hsz:(a.eval y).cells.size=i.size:=by simp at hL2;omega
  have hown:O9 m bx (S (BOX+bx))=[blk]:=by simp[O9,hS,hm]
  have hfit:off+i.size≤arr.size:=by simp at hL;omega
  have run:=yQ hi w hh (v:=a.eval y) hsz hfit (Ko hvs)
  refine En ho hd (w' :=w.setRow blk (V4 off (a.eval y).cells.toList arr.toList).toArray) (by simp[Instr.storeAt,Instr.sureAddr,hx,run]) ?_ (fun _ _ h=>h) (fun _ _ h=>h)
  refine R.mod (by rw[hown];simp[O9,hm]) (by simp) rfl rfl rfl (by simp) (fun b hb=>setRow_other w blk b _ (by rw[hown]at hb;simpa using hb)) ?_
  refine⟨blk,_,T,hm,setRow_heap w blk arr _ T (0,0) hh,?_⟩
  refine c1g (fun b t hb=>setRow_other w blk b _ (fun e=>(R.sep bx blk (by rw[hown];simp)).1 t (e▸hb))) ?_
  simpa using AX hvs hl
 case ep bx ix off=>
  obtain⟨blk,o',len,cap,sz,hm,hlt,hx⟩:=hp
  simp only at hm
  refine aO ?_
  split <;> try trivial
  ·rename_i u xs hS
   obtain⟨l,hm',ha⟩:=R.own_arr hS
   rw[hm]at hm';cases hm'
   obtain⟨rfl,rfl,h3,c,T,hh,hs,hxs⟩:=ha
   refine aF fun e0 he0=>?_
   obtain⟨es,he,hr⟩:=hxs ix e0 he0
   refine oI hv fun vs hvs=>aQ fun hlen=>zf _ _ _ fun hle=>?_
   rw[lK]at hle
   have hlen' :=bT hlen
   have hL2:=gK hvs
   have hsz:(a.eval y).cells.size=i.size:=by simp at hL2;omega
   have hes:=jb he
   have hnew:=AX (off:=off) hvs (qI (C:=⟨w.heap,ok,m⟩) hr)
   refine Dc (T:=[]) u R Tk.nil hnew fun S1 ok1 y1 q1 us us' R1 T1 k1 s1 e1 h1 l1=>?_
   cases q1 with
   | cons _ _=>trivial
   | nil=>
   simp only[aS]at l1
   subst l1
   simp only[List.append_nil]at e1
   subst e1
   refine aO ?_
   split <;> try trivial
   rename_i u' xs' hS1
   refine dK fun e=>?_
   subst e
   refine iL ?_
   obtain⟨l,hm',ha⟩:=R1.own_arr hS1
   rw[hm]at hm';cases hm'
   obtain⟨hszu,hlen2,h3',c',T',hh',hs',hxs'⟩:=ha
   rw[hh]at hh';cases hh'
   have hown:O9 m bx (S1 (BOX+bx))=[blk]:=by simp[O9,hS1,hm]
   have hvl:(a.eval y).cells.toList.length=i.size:=by simpa using hsz
   obtain⟨hfit,hsp,hnew2,hold⟩:=Ro (us:=(a.eval y).cells.toList) (off:=off) hh hs h3 hlt he (by rw[hvl];omega)
   have run:=yQ hi w (off:=o' +ix*u'.size+off) hh (v:=a.eval y) hsz (by rw[hvl]at hfit;exact hfit) (Ko hvs)
   refine En ho hd (w' :=w.setRow blk (V4 (o' +ix*u'.size+off) (a.eval y).cells.toList c.toList).toArray) (by simp[Instr.storeAt,Instr.sureAddr,hx,run]) ?_ (fun _ _ h=>h) k1
   refine R1.mod (by rw[hown];simp[O9,hm]) (by simp) rfl rfl rfl (by simp) (fun b hb=>setRow_other w blk b _ (by rw[hown]at hb;simpa using hb)) ?_
   have hkeep:∀b t,ok1 b t→(w.setRow blk (V4 (o' +ix*u'.size+off) (a.eval y).cells.toList c.toList).toArray).heap[b]? =w.heap[b]?:=
    fun b t hb=>setRow_other w blk b _ (fun e=>(R1.sep bx blk (by rw[hown];simp)).1 t (e▸hb))
   refine⟨_,hm,rfl,by simp[S9,hlen2],h3,_,T,setRow_heap w blk c _ T (0,0) hh,by simp[hsp];exact hs,fun j z hz=>?_⟩
   unfold S9 at hz
   rw[List.getElem?_set]at hz
   split at hz
   ·rename_i hj
    subst hj
    split at hz
    ·cases hz
     exact⟨_,hnew2,cu (fun _ _ h=>h) hkeep h1⟩
    ·cases hz
   ·rename_i hj
    obtain⟨es2,he2,hr2⟩:=hxs' j z hz
    have hj2:=(O6.1 hz).1
    exact⟨_,(hold j (by rw[hlen2];exact hj2) (fun e=>hj e.symm)).trans he2,cu (fun _ _ h=>h) hkeep hr2⟩
  ·rename_i md xs hole hS
   cases hcd:(md.ownAt off&&Nat.beq i.size 1&&!eH i.td)
   ·simp only[cond_false]
    refine oI hv fun vs hvs=>aQ fun hlen=>aF fun e0 he0=>?_
    have he0' :xs[ix]? =some e0:=he0
    obtain⟨hel,l,Os,hm',ha,hk⟩:=R.own_barrs hS
    rw[hm]at hm';cases hm'
    obtain⟨rfl,rfl,h3,h7,c,T,hh,hs,hxs⟩:=ha
    obtain⟨es,O,hO,he,hr⟩:=hxs ix e0 he0'
    refine KU md off hr hvs fun y1 hle hr' =>iL ?_
    have hes:es.length=md.size:=Z8 hr
    have hlen' :=bT hlen
    have hL2:=gK hvs
    have hsz:(a.eval y).cells.size=i.size:=by simp at hL2;omega
    have hvl:(a.eval y).cells.toList.length=i.size:=by simpa using hsz
    obtain⟨hfit,hsp,hnew2,hold⟩:=Ro (us:=(a.eval y).cells.toList) (off:=off) hh hs h3 hlt he (by omega)
    have run:=yQ hi w (off:=o' +ix*md.size+off) hh (v:=a.eval y) hsz (by rw[hvl]at hfit;exact hfit) (Ko hvs)
    have hown:O9 m bx (S (BOX+bx))=blk::Os.flatten:=by simp[O9,hS,hm,hk]
    have hnd:=R.nd bx
    rw[hown]at hnd
    have hnd0:=List.nodup_cons.1 hnd
    have hneO:∀b∈Os.flatten,b≠blk:=fun b hb e=>hnd0.1 (e▸hb)
    refine En ho hd (w' :=w.setRow blk (V4 (o' +ix*md.size+off) (a.eval y).cells.toList c.toList).toArray) (by simp[Instr.storeAt,Instr.sureAddr,hx,run]) ?_ (fun _ _ h=>h) (fun _ _ h=>h)
    have hkeep:∀b t,ok b t→(w.setRow blk (V4 (o' +ix*md.size+off) (a.eval y).cells.toList c.toList).toArray).heap[b]? =w.heap[b]?:=
     fun b t hb=>setRow_other w blk b _ (fun e=>(R.sep bx blk (by rw[hown];simp)).1 t (e▸hb))
    refine R.mod (by rw[hown];simp[O9,hm,hk]) (by simp) rfl rfl rfl (by simp) (fun b hb=>setRow_other w blk b _ (fun e=>hb (by rw[hown,e];simp))) ?_
    refine QZ (Os:=Os) hel hm ⟨rfl,by simp[S9],h3,by simp[h7,S9],_,T,setRow_heap w blk c _ T (0,0) hh,by simp[hsp];exact hs,fun j z hz=>?_⟩ hk
    unfold S9 at hz
    rw[List.getElem?_set]at hz
    split at hz
    ·rename_i hj
     subst hj
     cases hz
     exact⟨_,O,hO,hnew2,dE (fun _ _ h=>h) hkeep (fun b hb=>setRow_other w blk b _ (hneO b (List.mem_flatten.2 ⟨O,bZ hO,hb⟩))) hr'⟩
    ·rename_i hj
     obtain⟨es2,O2,hO2,he2,hr2⟩:=hxs j z hz
     have hj2:=(O6.1 hz).1
     exact⟨_,O2,hO2,(hold j (by omega) (fun e=>hj e.symm)).trans he2,dE (fun _ _ h=>h) hkeep (fun b hb=>setRow_other w blk b _ (hneO b (List.mem_flatten.2 ⟨O2,bZ hO2,hb⟩))) hr2⟩
   ·simp only[cond_true]
    simp only[Bool.and_eq_true,Bool.not_eq_true']at hcd
    obtain⟨⟨_,hsz1⟩,_⟩:=hcd
    have hsz1:=bT hsz1
    have fin:∀{S' :Sm} {m' :Mp} {w' :World},Rel X cl ch S' m' ok a w' →(∀k l,m k=some l→m' k=some l)→(storeVar t ⟨blk,o' +ix*sz+off,none⟩ (a.eval y)).run X.P w= .ok () w' →fF X cl ch o a w m ok S' :=
     fun R' hm' run=>En ho hd (by simp[Instr.storeAt,Instr.sureAddr,hx,run]) R' hm' (fun _ _ h=>h)
    split
    ·have hv' :a.eval y= .slice none 0 0:=hv
     exact Oe (Op:=[]) R Tk.nil hi hsz1 hS hm (.inl ⟨rfl,hv',rfl⟩) (fun S' m' w' R' h' run=>fin R' h' run)
    ·rename_i b2
     obtain⟨l2,hm2,hv2⟩:=hv
     simp only at hm2
     refine aO ?_
     refine aQ fun harr=>iL (aO ?_)
     split <;> try trivial
     rename_i md2 xs2 hole2 hS2
     have T1:=Tk.kill R (T:=[]) Tk.nil b2 (bs:=O9 m b2 (S (BOX+b2))) (fun _ h=>h) (R.nd b2)
     rw[List.nil_append]at T1
     refine Oe (R.kill b2) T1 hi hsz1 hS2 hm ?_ (fun S' m' w' R' h' run=>fin R' h' run)
     cases hb2:S (BOX+b2) <;> rw[hb2]at harr <;> try cases harr
     ·rename_i t2 ys
      obtain⟨l',hm',ha'⟩:=R.own_arr hb2
      rw[hm2]at hm';cases hm'
      refine .inr (.inl ⟨t2,ys,l2,rfl,hv2,Jj ha',?_⟩)
      cases l2 <;> first | (simp[O9,hm2,Loc.blks];done) | cases ha'
     ·rename_i md3 ys hole3
      obtain⟨hel3,l',Os,hm',ha',hk'⟩:=R.own_barrs hb2
      rw[hm2]at hm';cases hm'
      rcases hole3 with _ | ⟨p1,p2⟩
      ·refine .inr (.inr ⟨md3,ys,l2,Os,rfl,hel3,hv2,ha',?_⟩)
       cases l2 <;> first | (simp[O9,hm2,Loc.blks,hk'];done) | cases ha'
      ·cases harr
    ·trivial
end
end Go.GP
namespace Go.GP
section
variable {X:Fx} {cl ch:Nat} {S:Sm} {m:Mp} {ok:Nat→Ty→Prop} {a:Act} {w:World} {o:Oper}
theorem Bz (H:FxOk X) {t f off n:Nat} {ag:Bool} (h:EZ X.E t f=some (off,n,ag)):
  ∃fields fld j,X.P.underlying t=some (.struct fields)∧fields[f]? =some fld∧fld.offset=off∧TiOk X.P fld.type j∧j.size=n∧n≠0∧ag=eH j.td:=by
 unfold EZ at h
 cases hi:Y9 X.E.tt t with
 | none=>simp[hi]at h
 | some i=>
  have Hi:=H.tt t i hi
  have htd:=Hi.td
  simp only[hi]at h
  cases hd:i.td <;> simp only[hd]at h <;> try (simp at h;done)
  rename_i fs
  rw[hd]at htd
  obtain⟨fields,hu,hf⟩:=htd
  cases hfs:fs[f]? with
  | none=>simp[hfs]at h
  | some x=>
   obtain⟨ft,off'⟩:=x
   simp only[hfs]at h
   cases hj:Y9 X.E.tt ft with
   | none=>simp[hj]at h
   | some j=>
    simp only[hj]at h
    cases hb:Nat.beq j.size 0
    ·simp only[hb,cond_false,Option.some.injEq,Prod.mk.injEq]at h
     obtain⟨rfl,rfl,rfl⟩:=h
     rw[←hf]at hfs
     simp only[List.getElem?_map,Option.map_eq_some_iff]at hfs
     obtain⟨fld,hfl,he⟩:=hfs
     simp only[Prod.mk.injEq]at he
     obtain⟨rfl,rfl⟩:=he
     refine⟨fields,fld,j,hu,by simpa using hfl,rfl,H.tt _ _ hj,rfl,fun e=>?_,rfl⟩
     rw[e]at hb;simp at hb
    ·simp[hb]at h
theorem Gg {P:Program} {t f off:Nat} {fields:Array Field} {fld:Field} {j:TI} (w:World) (hu:P.underlying t=some (.struct fields)) (hf:fields[f]? =some fld) (ho:fld.offset=off)
  (hj:TiOk P fld.type j) (hn:j.size≠0) (b p:Nat):(Instr.fieldAt t (.pointer (some ⟨b,p,none⟩)) f).run P w= .ok (.pointer (some ⟨b,p+off,none⟩)) w:=by
 simp[Instr.fieldAt,run_underlying hu,hf,Instr.sureAddr,fieldPlace,mQ hj,hn,Addr.add_lit,ho]
theorem VC (H:FxOk X) (R:Rel X cl ch S m ok a w) {t:TypeId} {x:Operand} {f q:Nat} (ho:o.op= .fieldAddr t x f):(Y1 X.E q o).post S (fun _ S' =>fF X cl ch o a w m ok S'):=by
 unfold Y1
 simp only[ho]
 refine V6 R fun p hp=>?_
 split <;> try trivial
 rename_i off n ag hfo
 obtain⟨fields,fld,j,hu,hf,hoff,hj,hn,hn0,_⟩:=Bz H hfo
 have hj0:j.size≠0:=by omega
 cases p <;> try trivial
 case ptr bx o' =>
  obtain⟨blk,h1,h2⟩:=hp
  exact U2 H R (v:=.ptr bx (o' +off)) ⟨blk,h1,rfl⟩ (by simp[execOp,ho,h2,Gg w hu hf hoff hj hj0])
 case ep bx ix o' =>
  obtain⟨blk,o2,len,cap,sz,h1,h2,h3⟩:=hp
  exact U2 H R (v:=.ep bx ix (o' +off)) ⟨blk,o2,len,cap,sz,h1,h2,rfl⟩ (by simp[execOp,ho,h3,Gg w hu hf hoff hj hj0,Nat.add_assoc])
 case dp u y o' =>
  obtain⟨blk,o2,es,h1,h2⟩:=hp
  exact U2 H R (v:=.dp u y (o' +off)) ⟨blk,o2,es,rfl,h2⟩ (by simp[execOp,ho,h1,Gg w hu hf hoff hj hj0,Nat.add_assoc])
theorem a6S (H:FxOk X) (R:Rel X cl ch S m ok a w) {t:TypeId} {x:Operand} {f q:Nat} (ho:o.op= .field t x f):(Y1 X.E q o).post S (fun _ S' =>fF X cl ch o a w m ok S'):=by
 unfold Y1
 simp only[ho]
 refine V6 R fun p hp=>?_
 split <;> try trivial
 rename_i off n ag hfo
 obtain⟨fields,fld,j,hu,hf,hoff,hj,hn,hn0,rfl⟩:=Bz H hfo
 refine EU hp fun ps us hg hl=>zl fun hle=>?_
 obtain⟨arr,hx,rfl⟩:=hg
 have hL:=gK hl
 have hlen:((arr.toList.drop off).take n).length=n:=by simp at hL ⊢;omega
 refine U2 H R (wP (uo n (qH off hl)) (fun ha=>by rw[hlen,←hn];exact hj.one ha)) ?_
 have hpart:(part fld.type arr off).run X.P w= .ok (Oh (eH j.td) ((arr.toList.drop off).take n)) w:=by
  unfold part
  rw[Sem.run_bind,zi hj.td]
  simp only[Result.andThen_ok]
  cases ha:eH j.td
  ·have h1:=hj.one ha
   have hlt:off<arr.size:=by simp at hL;omega
   simp only[Bool.false_eq_true,if_false,Oh]
   rw[show arr[off]? =some arr[off]from by simp[hlt]]
   have:n=1:=by omega
   subst this
   simp[List.take_one,hlt]
  ·simp only[if_true,Oh,Sem.run_bind,mQ hj,Result.andThen_ok,hn,Sem.run_pure]
   congr 2
   apply Array.ext'
   simp[List.extract_eq_take_drop]
 simp[execOp,ho,hx,Instr.field,run_underlying hu,hf,asAgg,hoff,hpart]
theorem Dx (H:FxOk X) {t n sz:Nat} (h:Dw X.E t=some (false,n,sz)):∃e j,X.P.underlying t=some (.slice e)∧TiOk X.P e j∧j.size=sz:=by
 unfold Dw at h
 cases hi:Y9 X.E.tt t with
 | none=>simp[hi]at h
 | some i=>
  have htd:=(H.tt t i hi).td
  simp only[hi]at h
  cases hd:i.td <;> simp only[hd]at h <;> try (simp at h;done)
  ·rename_i e
   rw[hd]at htd
   cases hj:Y9 X.E.tt e with
   | none=>simp[hj]at h
   | some j=>simp[hj]at h;exact⟨e,j,htd,H.tt _ _ hj,h.2⟩
  ·rename_i l e
   cases hj:Y9 X.E.tt e <;> simp[hj]at h
theorem Zw (H:FxOk X) {t n sz:Nat} (h:Dw X.E t=some (true,n,sz)):∃e j,X.P.underlying t=some (.array n e)∧TiOk X.P e j∧j.size=sz:=by
 unfold Dw at h
 cases hi:Y9 X.E.tt t with
 | none=>simp[hi]at h
 | some i=>
  have htd:=(H.tt t i hi).td
  simp only[hi]at h
  cases hd:i.td <;> simp only[hd]at h <;> try (simp at h;done)
  ·rename_i e
   cases hj:Y9 X.E.tt e <;> simp[hj]at h
  ·rename_i l e
   rw[hd]at htd
   cases hj:Y9 X.E.tt e with
   | none=>simp[hj]at h
   | some j=>simp[hj]at h;obtain⟨rfl,h⟩:=h;exact⟨e,j,htd,H.tt _ _ hj,h⟩
theorem Fh {α:Type} {l:List α} {n:Int} {y:α} (h:lat l n=some y):0≤n∧l[n.toNat]? =some y∧n.toNat<l.length∧n<l.length:=by
 unfold lat at h
 split at h
 ·rename_i h0
  have:=(O6.1 h).1
  exact⟨h0,h,this,by omega⟩
 ·cases h
theorem pO {P:Program} {t e:TypeId} {j:TI} (w:World) (hu:P.underlying t=some (.slice e)) (hj:TiOk P e j) {k:IntKind} {n:Int} {b p len cap:Nat} (h0:0≤n) (hlt:n<len):
  (Instr.indexAt t (.slice (some ⟨b,p,none⟩) len cap) (.int k n)).run P w= .ok (.pointer (some ⟨b,p+n.toNat*j.size,none⟩)) w:=by
 simp[Instr.indexAt,asIntOf,run_underlying hu,h0,hlt,mQ hj,Addr.add_lit]
theorem Wp {P:Program} {t e:TypeId} {j:TI} (w:World) {len:Nat} (hu:P.underlying t=some (.array len e)) (hj:TiOk P e j) {k:IntKind} {n:Int} {b p:Nat} (h0:0≤n) (hlt:n<len):
  (Instr.indexAt t (.pointer (some ⟨b,p,none⟩)) (.int k n)).run P w= .ok (.pointer (some ⟨b,p+n.toNat*j.size,none⟩)) w:=by
 simp[Instr.indexAt,asIntOf,run_underlying hu,h0,hlt,mQ hj,Addr.add_lit,Instr.sureAddr]
theorem a5u {C:Cx} {t:Ty} {xs:List t.den} {l:Loc} {vw:Option (Nat×Nat)} {v:Value} (ha:arrOk C t xs l) (hv:l.view vw v) {i:Nat} {y:t.den} (hy:(bF vw xs)[i]? =some y):
  ∃blk off len cap,l= .arr blk off len cap t.size∧xs[XJ vw+i]? =some y∧∃p c,v= .slice (some ⟨blk,p,none⟩) (bF vw xs).length c∧p+i*t.size=off+(XJ vw+i)*t.size:=by
 cases l with
 | nil=>
  simp only[arrOk]at ha;subst ha
  rcases vw with _ | ⟨lo,hi⟩ <;> simp[bF,gu]at hy
 | st b=>cases ha
 | arr blk off len cap sz=>
  obtain⟨rfl,rfl,hc,_⟩:=ha
  rcases vw with _ | ⟨lo,hi⟩
  ·simp only[Loc.view]at hv;subst hv
   exact⟨blk,off,_,cap,rfl,by simpa[XJ,bF]using hy,off,cap,rfl,by simp[XJ]⟩
  ·obtain⟨h1,h2,rfl⟩:=hv
   have hl:(bF (some (lo,hi)) xs).length=hi -lo:=by simp[bF,gu];omega
   have hi' :i<hi -lo:=by rw[←hl];exact(O6.1 hy).1
   have hx' :xs[lo+i]? =some y:=by
    simp only[bF,gu,List.getElem?_drop,List.getElem?_take]at hy
    split at hy
    ·exact hy
    ·cases hy
   have hne:cap≠lo:=by omega
   exact⟨blk,off,_,cap,rfl,hx',off+lo*t.size,cap -lo,by rw[hl];simp[hne],by simp[XJ,Nat.add_mul];omega⟩
theorem VD (H:FxOk X) (R:Rel X cl ch S m ok a w) {t:TypeId} {x ix:Operand} {q:Nat} (ho:o.op= .indexAddr t x ix):(Y1 X.E q o).post S (fun _ S' =>fF X cl ch o a w m ok S'):=by
 unfold Y1
 simp only[ho]
 refine V6 R fun u hu=>V6 R fun v hv=>?_
 unfold Qm
 split <;> try trivial
 ·
  rename_i k n l sz hsz
  obtain⟨e,j,hut,hj,hjs⟩:=Dx H hsz
  have hix:=mO hv
  cases u <;> try trivial
  case sl u xs=>
   refine Y6 fun hb=>aF fun y hy=>?_
   have hb' :=bT hb
   obtain⟨h0,hget,hlt,hlt'⟩:=Fh hy
   obtain⟨ad,cap,hx,hc,hel⟩:=hu
   simp only[List.cons.injEq,and_true]at hx
   obtain⟨blk,off,es,rfl,hok,he,hr⟩:=hel _ y hget
   refine U2 H R (v:=.dp u y 0) (x:=.pointer (some ⟨blk,off+n.toNat*u.size,none⟩)) ⟨blk,off+n.toNat*u.size,es,rfl,hok,he,hr⟩ ?_
   simp[execOp,ho,hx,hix,pO w hut hj h0 hlt',hjs,hb']
  case own bx vw=>
   obtain⟨loc,hm,hview⟩:=hu
   refine aO ?_
   split
   ·rename_i ln sz' hSl
    split <;> try trivial
    refine aQ fun hb=>⟨fun hin=>?_,fun _=>trivial⟩
    have hb' :=bT hb
    have hin' :=of_decide_eq_true (show decide (0≤n∧n<ln)=true from hin)
    have hbx:=R.box (KJ+bx)
    rw[hSl]at hbx
    obtain⟨k',l',e,hm',hl⟩:=hbx
    have e' :k' =bx:=by omega
    subst e'
    simp only at hm hm'
    rw[hm]at hm';cases hm'
    cases loc with
    | nil=>simp only at hl;omega
    | st b=>cases hl
    | arr blk off len cap sz2=>
     obtain⟨rfl,rfl⟩:=hl
     simp only[Loc.view]at hview
     refine U2 H R (v:=.ep k' (toN n) 0) (x:=.pointer (some ⟨blk,off+n.toNat*sz',none⟩)) ⟨blk,off,len,cap,sz',hm,by unfold toN;omega,rfl⟩ ?_
     simp[execOp,ho,hview,hix,pO w hut hj hin'.1 hin'.2,hjs,hb']
   refine aO ?_
   split <;> try trivial
   ·rename_i u xs hS
    refine Y6 fun hb=>aF fun y hy=>?_
    have hb' :=bT hb
    obtain⟨h0,hget,hlt,hlt'⟩:=Fh hy
    obtain⟨loc',hm',ha⟩:=R.own_arr hS
    simp only at hm
    rw[hm]at hm';cases hm'
    obtain⟨blk,off,len,cap,rfl,hx2,p,c,hvv,hp⟩:=a5u ha hview hget
    have hlen:=ha.2.1
    have hlt2:=(O6.1 hx2).1
    rw[b0D]
    refine U2 H R (v:=.ep bx (XJ vw+toN n) 0) (x:=.pointer (some ⟨blk,p+n.toNat*u.size,none⟩)) ⟨blk,off,len,cap,u.size,hm,by rw[hlen];exact hlt2,by rw[hp];rfl⟩ ?_
    simp[execOp,ho,hvv,hix,pO w hut hj h0 hlt',hjs,hb']
   ·rename_i u xs hS
    refine Y6 fun hb=>aF fun y hy=>?_
    have hb' :=bT hb
    obtain⟨h0,hget,hlt,hlt'⟩:=Fh hy
    obtain⟨loc',hm',ha,hok⟩:=R.own_frz hS
    simp only at hm
    rw[hm]at hm';cases hm'
    obtain⟨ad,cap,hx,hc,hel⟩:=jl (C:=⟨w.heap,ok,m⟩) ha hview (fun _ _ h=>h) hok
    simp only[List.cons.injEq,and_true]at hx
    obtain⟨blk,off,es,rfl,hok',he,hr⟩:=hel _ y hget
    refine U2 H R (v:=.dp u y 0) (x:=.pointer (some ⟨blk,off+n.toNat*u.size,none⟩)) ⟨blk,off+n.toNat*u.size,es,rfl,hok',he,hr⟩ ?_
    simp[execOp,ho,hx,hix,pO w hut hj h0 hlt',hjs,hb']
   ·rename_i md xs hole hS
    split <;> try trivial
    refine aQ fun hb=>aF fun y hy=>?_
    have hb' :=bT hb
    obtain⟨h0,hget,hlt,hlt'⟩:=Fh hy
    obtain⟨hel,loc',Os,hm',ha,hk⟩:=R.own_barrs hS
    simp only at hm
    rw[hm]at hm';cases hm'
    cases loc with
    | st b=>cases ha
    | nil=>obtain⟨e1,_⟩:=ha;subst e1;simp at hlt
    | arr blk off len cap sz' =>
     obtain⟨rfl,rfl,h3,_⟩:=ha
     simp only[Loc.view]at hview
     refine U2 H R (v:=.ep bx (toN n) 0) (x:=.pointer (some ⟨blk,off+n.toNat*md.size,none⟩)) ⟨blk,off,xs.length,cap,md.size,hm,hlt,rfl⟩ ?_
     simp[execOp,ho,hview,hix,pO w hut hj h0 hlt',hjs,hb']
 ·
  rename_i k n l sz hsz
  obtain⟨e,j,hut,hj,hjs⟩:=Zw H hsz
  have hix:=mO hv
  cases u <;> try trivial
  case glob g=>
   cases hg:Y9 X.E.gl g with
   | none=>simp only[hg];trivial
   | some p=>
   obtain⟨u,xs⟩:=p
   simp only[hg]
   refine Y6 fun hb=>aF fun y hy=>?_
   simp only[Bool.and_eq_true]at hb
   have hb1:=bT hb.1
   have hb2:=bT hb.2
   obtain⟨h0,hget,hlt,hlt'⟩:=Fh hy
   obtain⟨hok,_,hel⟩:=R.gl g _ hg
   obtain⟨es,he,hr⟩:=hel _ y hget
   have hx:a.eval x= .pointer (some ⟨g,0,none⟩):=hu
   refine U2 H R (v:=.dp u y 0) (x:=.pointer (some ⟨g,0+n.toNat*u.size,none⟩)) ⟨g,n.toNat*u.size,es,by simp,hok,he,hr⟩ ?_
   have:=Wp w hut hj (k:=k) (b:=g) (p:=0) h0 (by rw[hb2];exact hlt')
   simp only[hjs,hb1]at this
   simp[execOp,ho,hx,hix,this]
theorem a6u {α β:Type} {f:α→β} {args:Array α} {u:β} (h:args.toList.map f=[u]):∃y,args=#[y]∧f y=u:=by
 obtain⟨l⟩:=args
 simp only[List.map_eq_cons_iff,List.map_eq_nil_iff]at h
 obtain⟨y,r,h1,h2,h3⟩:=h
 subst h3
 exact⟨y,by rw[h1],h2⟩
theorem XH {α β:Type} {f:α→β} {args:Array α} {u v:β} (h:args.toList.map f=[u,v]):∃y z,args=#[y,z]∧f y=u∧f z=v:=by
 obtain⟨l⟩:=args
 simp only[List.map_eq_cons_iff,List.map_eq_nil_iff]at h
 obtain⟨y,r,h1,h2,z,r',h3,h4,h5⟩:=h
 subst h5
 subst h3
 exact⟨y,z,by rw[h1],h2,h4⟩
theorem c1e (H:FxOk X) (R:Rel X cl ch S m ok a w) {c:Call} {q:Nat} (ho:o.op= .call c) (hc:c.callee= .builtin .len):(Y1 X.E q o).post S (fun _ S' =>fF X cl ch o a w m ok S'):=by
 obtain⟨cal,args,ats⟩:=c
 simp only at hc;subst hc
 unfold Y1
 simp only[ho]
 refine iE R _ fun vs hvs=>?_
 split <;> try trivial
 rename_i t rt x hat
 obtain⟨u,r,he,hx,hr⟩:=hvs
 simp only[bM]at hr;subst hr
 refine lJ H fun i hi=>?_
 have htd:=hi.td
 obtain⟨y,rfl,rfl⟩:=a6u he
 have h0:ats[0]? =some t:=by
  obtain⟨l⟩:=ats
  simp only at hat
  simp[hat]
 have fin:∀(v:V) (n:Nat),gW ⟨w.heap,ok,m⟩ v (.int .i64 n)→(Builtin.len_ ats o.type #[a.eval y]).run X.P w= .ok (.int .i64 n) w→(aC X.E o.dst v).post S (fun _ S' =>fF X cl ch o a w m ok S'):=fun v n hv h=>
  U2 H R hv (by simp[execOp,ho,resolve,invoke,builtin,h])
 unfold c8Y
 split <;> try trivial
 ·rename_i l htd'
  rw[htd']at htd
  refine fin _ l.length rfl ?_
  simp[Builtin.len_,h0,run_underlying (show X.P.underlying t=some .string from htd),IW hx,goInt]
  rfl
 ·rename_i e u xs htd'
  rw[htd']at htd
  obtain⟨ad,cap,hv,_⟩:=hx
  simp only[List.cons.injEq,and_true]at hv
  refine fin _ xs.length rfl ?_
  simp[Builtin.len_,h0,run_underlying (show X.P.underlying t=some (.slice e)from htd),hv,goInt]
 ·rename_i e htd'
  rw[htd']at htd
  have hv:a.eval y= .slice none 0 0:=hx
  refine fin _ 0 rfl ?_
  simp[Builtin.len_,h0,run_underlying (show X.P.underlying t=some (.slice e)from htd),hv,goInt]
 ·rename_i e bx vw htd'
  rw[htd']at htd
  obtain⟨loc,hm,hview⟩:=hx
  refine aO ?_
  split
  ·rename_i ln sz' hSl
   split <;> try trivial
   have hbx:=R.box (KJ+bx)
   rw[hSl]at hbx
   obtain⟨k',l',e',hm',hl⟩:=hbx
   have e2:k' =bx:=by omega
   subst e2
   simp only at hm hm'
   rw[hm]at hm';cases hm'
   cases loc with
   | nil=>
    simp only at hl;subst hl
    simp only[Loc.view]at hview
    refine fin _ 0 rfl ?_
    simp[Builtin.len_,h0,run_underlying (show X.P.underlying t=some (.slice e)from htd),hview,goInt]
   | st b=>cases hl
   | arr blk off len cap sz2=>
    obtain⟨rfl,rfl⟩:=hl
    simp only[Loc.view]at hview
    refine fin _ len rfl ?_
    simp[Builtin.len_,h0,run_underlying (show X.P.underlying t=some (.slice e)from htd),hview,goInt]
  refine aO ?_
  have key:∀{u:Ty} {xs:List u.den},arrOk ⟨w.heap,ok,m⟩ u xs loc→(aC X.E o.dst (.i .i64 (o8 (bF vw xs)))).post S (fun _ S' =>fF X cl ch o a w m ok S'):=fun {u xs} ha=>by
   obtain⟨ad,cap,hv,_⟩:=jl (C:=⟨w.heap,ok,m⟩) (ok' :=fun _ _=>True) ha hview (fun _ _ _=>trivial) (fun _ _ _ _ _ _=>trivial)
   simp only[List.cons.injEq,and_true]at hv
   refine fin _ (bF vw xs).length rfl ?_
   simp[Builtin.len_,h0,run_underlying (show X.P.underlying t=some (.slice e)from htd),hv,goInt]
  split <;> try trivial
  ·rename_i u xs hS
   obtain⟨loc',hm',ha⟩:=R.own_arr hS
   simp only at hm
   rw[hm]at hm';cases hm'
   exact key ha
  ·rename_i u xs hS
   obtain⟨loc',hm',ha,_⟩:=R.own_frz hS
   simp only at hm
   rw[hm]at hm';cases hm'
   exact key ha
  ·rename_i md xs hole hS
   split <;> try trivial
   obtain⟨hel,loc',Os,hm',ha,hk⟩:=R.own_barrs hS
   simp only at hm
   rw[hm]at hm';cases hm'
   cases loc with
   | st b=>cases ha
   | nil=>
    obtain⟨e1,_⟩:=ha;subst e1
    simp only[Loc.view]at hview
    refine fin _ 0 rfl ?_
    simp[Builtin.len_,h0,run_underlying (show X.P.underlying t=some (.slice e)from htd),hview,goInt]
   | arr blk off len cap sz' =>
    obtain⟨rfl,rfl,h3,_⟩:=ha
    simp only[Loc.view]at hview
    refine fin _ xs.length rfl ?_
    simp[Builtin.len_,h0,run_underlying (show X.P.underlying t=some (.slice e)from htd),hview,goInt]
theorem UC (H:FxOk X) (R:Rel X cl ch S m ok a w) {c:Call} {q:Nat} (ho:o.op= .call c) (hc:c.callee= .builtin .min∨c.callee= .builtin .max):(Y1 X.E q o).post S (fun _ S' =>fF X cl ch o a w m ok S'):=by
 obtain⟨cal,args,ats⟩:=c
 simp only at hc
 rcases hc with rfl | rfl
 all_goals
  unfold Y1
  simp only[ho]
  refine iE R _ fun vs hvs=>?_
  split <;> try trivial
  rename_i k p k' r
  obtain⟨u,r',he,hx,v,r'',he',hy,hr⟩:=hvs
  simp only[bM]at hr;subst hr
  rw[he']at he
  refine Y6 fun hk=>?_
  have hk' :k=k' :=of_decide_eq_true hk
  subst hk'
  obtain⟨y,z,rfl,rfl,rfl⟩:=XH he
 ·refine U2 H R (v:=.i k (jf p r)) rfl ?_
  simp[execOp,ho,resolve,invoke,builtin,Builtin.min_,Builtin.min2,mO hx,mO hy,jf]
 ·refine U2 H R (v:=.i k (fO p r)) rfl ?_
  simp[execOp,ho,resolve,invoke,builtin,Builtin.max_,Builtin.max2,mO hx,mO hy,fO]
end
end Go.GP
namespace Go.GP
def Bnd (d:Int) (o:Option Value) (n:Int):Prop:=(o=none∧n=d)∨∃k,o=some (.int k n)
theorem Eh {P:Program} {w:World} {isS:Bool} {len cap:Nat} {lo hi:Option Value} {x y:Int} (hlo:Bnd 0 lo x) (hhi:Bnd len hi y) (h0:0≤x) (h1:x≤y) (h2:y≤len) (hc:len≤cap):
  (Instr.sliceBounds isS len cap lo hi none).run P w= .ok (x.toNat,y.toNat,cap) w:=by
 have hyc:y≤cap:=by omega
 have hy0:0≤y:=by omega
 have e:((y.toNat:Nat):Int)=y:=by omega
 rcases hlo with⟨rfl,rfl⟩ | ⟨k,rfl⟩ <;> rcases hhi with⟨rfl,rfl⟩ | ⟨k',rfl⟩
 ·simp[Instr.sliceBounds]
 ·simp[Instr.sliceBounds,Instr.sliceBound,asIntOf,hy0,hyc]
 ·simp[Instr.sliceBounds,Instr.sliceBound,asIntOf,h0,h1]
 ·simp[Instr.sliceBounds,Instr.sliceBound,asIntOf,hy0,hyc,h0,e,h1]
theorem Uu {α:Type} {l r:List α} {x y:Int} (h:Fj l x y=some r):0≤x∧x≤y∧y≤l.length∧r=(l.take y.toNat).drop x.toNat:=by
 unfold Fj at h
 split at h
 ·rename_i hh;cases h;exact⟨hh.1,hh.2.1,hh.2.2,rfl⟩
 ·cases h
theorem SB (l:List UInt8) (x y:Nat):(⟨l.toArray⟩:ByteArray).extract x y=⟨((l.take y).drop x).toArray⟩:=by
 apply ByteArray.ext
 apply Array.ext'
 simp[ByteArray.data_extract,List.extract_eq_take_drop,List.drop_take]
theorem b0V {h:Array Obj} {ok:Nat→Ty→Prop} {t:Ty} {xs:List t.den} {ad:Option Addr} {cap:Nat} {x y:Nat} (hr:rep h ok (.sl t) xs [.slice ad xs.length cap]) (h1:x≤y) (h2:y≤xs.length):
  rep h ok (.sl t) ((xs.take y).drop x) [.slice (if cap=x then ad else ad.map (·.add (x*t.size))) (y -x) (cap -x)]:=by
 obtain⟨ad',cap',e,hc,hel⟩:=hr
 simp only[List.cons.injEq,Value.slice.injEq,and_true,true_and]at e
 obtain⟨rfl,rfl⟩:=e
 have hl:((xs.take y).drop x).length=y -x:=by simp;omega
 refine⟨_,cap -x,by rw[hl],by rw[hl];omega,fun i z hz=>?_⟩
 have hi:i<y -x:=by rw[←hl];exact(O6.1 hz).1
 have hz' :xs[x+i]? =some z:=by
  simp only[List.getElem?_drop,List.getElem?_take]at hz
  split at hz
  ·exact hz
  ·cases hz
 obtain⟨blk,off,es,rfl,hb,he,hrp⟩:=hel _ z hz'
 have hne:cap≠x:=by omega
 refine⟨blk,off+x*t.size,es,by simp[hne,Addr.add_lit],hb,?_,hrp⟩
 rw[←he];congr 1;rw[Nat.add_mul];omega
section
variable {X:Fx} {cl ch:Nat} {S:Sm} {m:Mp} {ok:Nat→Ty→Prop} {a:Act} {w:World} {o:Oper}
theorem oD {C:Cx} {d n:Int} {v:Option V} {u:Option Value} (h:vW d v=some n) (hr:(v=none∧u=none)∨∃c x,v=some c∧u=some x∧gW C c x):Bnd d u n:=by
 rcases hr with⟨rfl,rfl⟩ | ⟨c,x,rfl,rfl,hr⟩
 ·simp[vW]at h;subst h;exact .inl ⟨rfl,rfl⟩
 ·cases c <;> simp[vW]at h
  subst h
  exact .inr ⟨_,by rw[mO hr]⟩
theorem Bf (H:FxOk X) (R:Rel X cl ch S m ok a w) {t:TypeId} {x:V} {u:Value} {lo hi:Option V} {lv hv:Option Value} (hx:gW ⟨w.heap,ok,m⟩ x u)
  (hlo:(lo=none∧lv=none)∨∃c y,lo=some c∧lv=some y∧gW ⟨w.heap,ok,m⟩ c y) (hhi:(hi=none∧hv=none)∨∃c y,hi=some c∧hv=some y∧gW ⟨w.heap,ok,m⟩ c y)
  {K:V→Cmd Unit} {Q:Unit→Sm→Prop} (hK:∀v z,gW ⟨w.heap,ok,m⟩ v z→(Instr.sliceAt t u lv hv none).run X.P w= .ok z w→(K v).post S Q):(MF X.E t x lo hi K).post S Q:=by
 unfold MF
 cases x <;> try trivial
 case s l=>
  refine lJ H fun i hi' =>?_
  have htd:=hi'.td
  split <;> try trivial
  rename_i p q htd' hp hq
  rw[htd']at htd
  refine aF fun r hr=>?_
  obtain⟨h0,h1,h2,rfl⟩:=Uu hr
  have hb:=Eh (P:=X.P) (w:=w) (isS:=false) (cap:=l.length) (oD hp hlo) (oD hq hhi) h0 h1 h2 (Nat.le_refl _)
  refine hK (.s _) (.string ⟨((l.take q.toNat).drop p.toNat).toArray⟩) rfl ?_
  have hus:X.P.underlying t=some .string:=htd
  have hs:(⟨l.toArray⟩:ByteArray).size=l.length:=rfl
  simp[Instr.sliceAt,run_underlying hus,Instr.slice,IW hx,hs,hb,SB]
 case sl v l=>
  dsimp only
  split <;> try trivial
  rename_i n sz p q hsz hp hq
  obtain⟨e,j,hut,hj,hjs⟩:=Dx H hsz
  refine Y6 fun hbq=>aF fun r hr=>?_
  have hbq' :=bT hbq
  obtain⟨h0,h1,h2,rfl⟩:=Uu hr
  have hx' :rep w.heap ok (.sl v) l [u]:=hx
  obtain⟨ad,cap,hu,hc,_⟩:=id hx'
  simp only[List.cons.injEq,and_true]at hu
  subst hu
  have hb:=Eh (P:=X.P) (w:=w) (isS:=true) (cap:=cap) (oD hp hlo) (oD hq hhi) h0 h1 h2 hc
  refine hK (.sl v _) _ (b0V (x:=p.toNat) (y:=q.toNat) hx' (by omega) (by omega)) ?_
  simp[Instr.sliceAt,run_underlying hut,Instr.slice,hb,mQ hj,hjs,hbq']
 case own bx vw=>
  cases vw with
  | some _=>trivial
  | none=>
  obtain⟨loc,hm,hview⟩:=hx
  refine aO ?_
  have key:∀{v:Ty} {xs:List v.den} {n sz:Nat} {p q:Int},arrOk ⟨w.heap,ok,m⟩ v xs loc→Dw X.E t=some (false,n,sz)→vW 0 lo=some p→vW (o8 xs) hi=some q→
    (bif Nat.beq sz v.size then Cmd.br (jm p q (o8 xs)) (K (.own bx (some (toN p,toN q)))) .fail else .fail).post S Q:=fun {v xs n sz p q} ha hsz hp hq=>by
   obtain⟨e,j,hut,hj,hjs⟩:=Dx H hsz
   refine Y6 fun hbq=>⟨fun hr=>?_,fun _=>trivial⟩
   have hbq' :=bT hbq
   have hr' :=of_decide_eq_true (show decide (0≤p∧p≤q∧q≤o8 xs)=true from hr)
   obtain⟨h0,h1,h2⟩:=hr'
   have h2' :q≤(xs.length:Int):=h2
   cases loc with
   | st b=>cases ha
   | nil=>
    simp only[arrOk]at ha
    subst ha
    simp only[Loc.view]at hview
    subst hview
    have h2'' :q≤((0:Nat):Int):=by simpa using h2'
    have hb:=Eh (P:=X.P) (w:=w) (isS:=true) (len:=0) (cap:=0) (oD hp hlo) (by have:=oD hq hhi;simpa[o8]using this) h0 h1 h2'' (Nat.le_refl _)
    have ep:p=0:=by omega
    have eq:q=0:=by omega
    subst ep;subst eq
    refine hK (.own bx (some (toN 0,toN 0))) (.slice none 0 0) ⟨.nil,hm,rfl,rfl,rfl⟩ ?_
    simp[Instr.sliceAt,run_underlying hut,Instr.slice,hb,mQ hj]
   | arr blk off len cap sz' =>
    obtain⟨rfl,rfl,hc,_⟩:=ha
    simp only[Loc.view]at hview
    subst hview
    have hb:=Eh (P:=X.P) (w:=w) (isS:=true) (cap:=cap) (oD hp hlo) (oD hq hhi) h0 h1 h2' hc
    refine hK (.own bx (some (toN p,toN q))) _ ⟨_,hm,by unfold toN;omega,by unfold toN;omega,rfl⟩ ?_
    have e1:(if cap=p.toNat then some (⟨blk,off,none⟩:Addr)else some ⟨blk,off+p.toNat*v.size,none⟩)=some (if cap=p.toNat then⟨blk,off,none⟩else⟨blk,off+p.toNat*v.size,none⟩):=by split <;> rfl
    simp[Instr.sliceAt,run_underlying hut,Instr.slice,hb,mQ hj,hjs,hbq',Addr.add_lit,toN,e1]
    by_cases ecp:cap=p.toNat <;> simp[ecp]
  split <;> try trivial
  ·rename_i v xs hS
   obtain⟨loc',hm',ha⟩:=R.own_arr hS
   simp only at hm
   rw[hm]at hm';cases hm'
   split <;> try trivial
   rename_i n sz p q hsz hp hq
   exact key ha hsz hp hq
  ·rename_i v xs hS
   obtain⟨loc',hm',ha,_⟩:=R.own_frz hS
   simp only at hm
   rw[hm]at hm';cases hm'
   split <;> try trivial
   rename_i n sz p q hsz hp hq
   exact key ha hsz hp hq
theorem a6U (H:FxOk X) (R:Rel X cl ch S m ok a w) {t:TypeId} {x:Operand} {lo hi:Option Operand} {q:Nat} (ho:o.op= .slice t x lo hi none):(Y1 X.E q o).post S (fun _ S' =>fF X cl ch o a w m ok S'):=by
 unfold Y1
 simp only[ho]
 refine V6 R fun v hv=>iE R _ fun bs hbs=>?_
 split <;> try trivial
 ·refine Bf H R (lv:=none) (hv:=none) hv (.inl ⟨rfl,rfl⟩) (.inl ⟨rfl,rfl⟩) fun r z hr hz=>U2 H R hr ?_
  simp[execOp,ho,hz]
 ·rename_i l c
  obtain⟨y,r,he,h1,h2⟩:=hbs
  simp only[bM]at h2;subst h2
  simp at he;subst he
  refine Bf H R (lv:=some (a.eval l)) (hv:=none) hv (.inr ⟨_,_,rfl,rfl,h1⟩) (.inl ⟨rfl,rfl⟩) fun r z hr hz=>U2 H R hr ?_
  simp[execOp,ho,hz]
 ·rename_i h c
  obtain⟨y,r,he,h1,h2⟩:=hbs
  simp only[bM]at h2;subst h2
  simp at he;subst he
  refine Bf H R (lv:=none) (hv:=some (a.eval h)) hv (.inl ⟨rfl,rfl⟩) (.inr ⟨_,_,rfl,rfl,h1⟩) fun r z hr hz=>U2 H R hr ?_
  simp[execOp,ho,hz]
 ·rename_i l h c d
  obtain⟨y,r,he,h1,y',r',he',h2,h3⟩:=hbs
  simp only[bM]at h3;subst h3
  subst he'
  simp at he
  obtain⟨rfl,rfl⟩:=he
  refine Bf H R (lv:=some (a.eval l)) (hv:=some (a.eval h)) hv (.inr ⟨_,_,rfl,rfl,h1⟩) (.inr ⟨_,_,rfl,rfl,h2⟩) fun r z hr hz=>U2 H R hr ?_
  simp[execOp,ho,hz]
end
end Go.GP
namespace Go.GP
def af (h:Array Obj) (ok:Nat→Ty→Prop) (t:Ty) (xs:List t.den) (cs:List Value):Prop:=
 cs.length=xs.length*t.size∧∀i x,xs[i]? =some x→rep h ok t x ((cs.drop (i*t.size)).take t.size)
theorem af.nil {h:Array Obj} {ok:Nat→Ty→Prop} {t:Ty} :af h ok t [] []:=⟨by simp,fun i x hi=>by simp at hi⟩
theorem af.append {h:Array Obj} {ok:Nat→Ty→Prop} {t:Ty} {xs ys:List t.den} {cs ds:List Value} (hx:af h ok t xs cs) (hy:af h ok t ys ds):af h ok t (xs++ys) (cs++ds):=by
 refine⟨by simp[hx.1,hy.1,Nat.add_mul],fun i x hi=>?_⟩
 by_cases hlt:i<xs.length
 ·rw[List.getElem?_append_left hlt]at hi
  have h1:=hx.2 i x hi
  have hle:(i+1)*t.size≤cs.length:=by rw[hx.1];exact Nat.mul_le_mul_right _ (by omega)
  rw[Nat.add_mul,Nat.one_mul]at hle
  rw[List.drop_append_of_le_length (by omega),List.take_append_of_le_length (by simp;omega)]
  exact h1
 ·rw[List.getElem?_append_right (by omega)]at hi
  have h1:=hy.2 _ x hi
  have hle:cs.length≤i*t.size:=by rw[hx.1];exact Nat.mul_le_mul_right _ (by omega)
  rw[List.drop_append,List.drop_eq_nil_of_le hle,List.nil_append]
  have:i*t.size -cs.length=(i -xs.length)*t.size:=by rw[hx.1,Nat.sub_mul]
  rw[this];exact h1
theorem af.one {h:Array Obj} {ok:Nat→Ty→Prop} {t:Ty} {x:t.den} {cs:List Value} (hr:rep h ok t x cs):af h ok t [x] cs:=by
 refine⟨by simp[eX hr],fun i y hi=>?_⟩
 have:i=0:=by
  have:=(O6.1 hi).1;simp at this;exact this
 subst this
 simp at hi;subst hi
 have:(List.drop (0*t.size) cs).take t.size=cs:=by simp[←eX hr]
 rw[this];exact hr
theorem af.mono {h h' :Array Obj} {ok ok' :Nat→Ty→Prop} {t:Ty} {xs:List t.den} {cs:List Value} (hok:∀b t,ok b t→ok' b t) (hh:∀b t,ok b t→h'[b]? =h[b]?) (hr:af h ok t xs cs):af h' ok' t xs cs:=
 ⟨hr.1,fun i x hi=>cu hok hh (hr.2 i x hi)⟩
theorem af.rep_all {h:Array Obj} {ok:Nat→Ty→Prop} {t:Ty} {x:t.den} {cs:List Value} (hr:rep h ok t x cs):∀n,af h ok t (List.replicate n x) ((List.replicate n cs).flatten)
 | 0=>by simpa using af.nil
 | n+1=>by
  have:=(af.one hr).append (af.rep_all hr n)
  simpa[List.replicate_succ]using this
theorem af.one_cell {h:Array Obj} {ok:Nat→Ty→Prop} {t:Ty} :∀{xs:List t.den} {cs:List Value},af h ok t xs cs→∀v∈cs,v.oneCell' =true
 | [],cs,hr=>by have:=hr.1;simp at this;simp[this]
 | x::xs,cs,hr=>by
  intro v hv
  have h0:=hr.2 0 x rfl
  simp only[Nat.zero_mul,List.drop_zero]at h0
  have hl:=hr.1
  simp only[List.length_cons,Nat.add_mul,Nat.one_mul]at hl
  have hrest:af h ok t xs (cs.drop t.size):=by
   refine⟨by simp;omega,fun i y hi=>?_⟩
   have:=hr.2 (i+1) y (by simpa using hi)
   rw[List.drop_drop]
   rwa[show t.size+i*t.size=(i+1)*t.size by rw[Nat.add_mul];omega]
  rw[←List.take_append_drop t.size cs]at hv
  rcases List.mem_append.1 hv with hv | hv
  ·exact AZ h0 v hv
  ·exact af.one_cell hrest v hv
theorem af.arrOk {C:Cx} {t:Ty} {xs:List t.den} {cs:List Value} (hr:af C.h C.ok t xs cs) {blk off cap:Nat} {c:Array Value} {T:TypeId} (hb:C.h[blk]? =some (.cells c T (0,0)))
  (hcap:xs.length≤cap) (hfit:off+cap*t.size≤c.size) (he:(c.toList.drop off).take (xs.length*t.size)=cs):Go.GP.arrOk C t xs (.arr blk off xs.length cap t.size):=by
 refine⟨rfl,rfl,hcap,c,T,hb,hfit,fun i x hi=>?_⟩
 have hlt:=(O6.1 hi).1
 have hle:(i+1)*t.size≤xs.length*t.size:=Nat.mul_le_mul_right _ (by omega)
 rw[Nat.add_mul,Nat.one_mul]at hle
 have hle2:xs.length*t.size≤cap*t.size:=Nat.mul_le_mul_right _ hcap
 refine⟨_,iq hb _ _ (by omega),?_⟩
 have h1:=hr.2 i x hi
 rw[←he,List.drop_take,List.take_take,List.drop_drop]at h1
 rwa[Nat.min_eq_left (by omega)]at h1
theorem TP {C:Cx} {t:Ty} {xs:List t.den} {blk off len cap sz:Nat} (h:arrOk C t xs (.arr blk off len cap sz)):
  ∃c T,C.h[blk]? =some (.cells c T (0,0))∧sz=t.size∧len=xs.length∧len≤cap∧off+cap*sz≤c.size∧af C.h C.ok t xs ((c.toList.drop off).take (len*sz)):=by
 obtain⟨rfl,rfl,h3,c,T,hb,hf,hx⟩:=h
 refine⟨c,T,hb,rfl,rfl,h3,hf,?_,fun i x hi=>?_⟩
 ·have:xs.length*t.size≤cap*t.size:=Nat.mul_le_mul_right _ h3
  simp;omega
 ·obtain⟨es,he,hr⟩:=hx i x hi
  obtain⟨c',T',f',hb',hn',rfl⟩:=oH he
  rw[hb]at hb';cases hb'
  have hlt:=(O6.1 hi).1
  have hle:(i+1)*t.size≤xs.length*t.size:=Nat.mul_le_mul_right _ (by omega)
  rw[Nat.add_mul,Nat.one_mul]at hle
  rw[List.drop_take,List.take_take,List.drop_drop,Nat.min_eq_left (by omega)]
  exact hr
def pU (h:Array Obj) (ok:Nat→Ty→Prop) (m:M) (xs:List m.den) (cs:List Value) (Os:List (List Nat)):Prop:=
 cs.length=xs.length*m.size∧Os.length=xs.length∧∀i x,xs[i]? =some x→∃O,Os[i]? =some O∧ja h ok m none x ((cs.drop (i*m.size)).take m.size) O
theorem pU.nil {h:Array Obj} {ok:Nat→Ty→Prop} {m:M} :pU h ok m [] [] []:=⟨by simp,rfl,fun i x hi=>by simp at hi⟩
theorem pU.append {h:Array Obj} {ok:Nat→Ty→Prop} {t:M} {xs ys:List t.den} {cs ds:List Value} {Os Ps:List (List Nat)} (hx:pU h ok t xs cs Os) (hy:pU h ok t ys ds Ps):pU h ok t (xs++ys) (cs++ds) (Os++Ps):=by
 refine⟨by simp[hx.1,hy.1,Nat.add_mul],by simp[hx.2.1,hy.2.1],fun i x hi=>?_⟩
 by_cases hlt:i<xs.length
 ·rw[List.getElem?_append_left hlt]at hi
  obtain⟨O,hO,h1⟩:=hx.2.2 i x hi
  have hle:(i+1)*t.size≤cs.length:=by rw[hx.1];exact Nat.mul_le_mul_right _ (by omega)
  rw[Nat.add_mul,Nat.one_mul]at hle
  rw[List.drop_append_of_le_length (by omega),List.take_append_of_le_length (by simp;omega)]
  exact⟨O,by rw[List.getElem?_append_left (by rw[hx.2.1];exact hlt)];exact hO,h1⟩
 ·rw[List.getElem?_append_right (by omega)]at hi
  obtain⟨O,hO,h1⟩:=hy.2.2 _ x hi
  have hle:cs.length≤i*t.size:=by rw[hx.1];exact Nat.mul_le_mul_right _ (by omega)
  rw[List.drop_append,List.drop_eq_nil_of_le hle,List.nil_append]
  have:i*t.size -cs.length=(i -xs.length)*t.size:=by rw[hx.1,Nat.sub_mul]
  rw[this];exact⟨O,by rw[List.getElem?_append_right (by rw[hx.2.1];omega),hx.2.1];exact hO,h1⟩
theorem pU.one {h:Array Obj} {ok:Nat→Ty→Prop} {t:M} {x:t.den} {cs:List Value} {O:List Nat} (hr:ja h ok t none x cs O):pU h ok t [x] cs [O]:=by
 refine⟨by simp[Z8 hr],rfl,fun i y hi=>?_⟩
 have:i=0:=by
  have:=(O6.1 hi).1;simp at this;exact this
 subst this
 simp at hi;subst hi
 have:(List.drop (0*t.size) cs).take t.size=cs:=by simp[←Z8 hr]
 rw[this];exact⟨O,rfl,hr⟩
theorem pU.mono {h h' :Array Obj} {ok ok' :Nat→Ty→Prop} {t:M} {xs:List t.den} {cs:List Value} {Os:List (List Nat)} (hok:∀b t,ok b t→ok' b t) (hh:∀b t,ok b t→h'[b]? =h[b]?) (hO:∀b∈Os.flatten,h'[b]? =h[b]?) (hr:pU h ok t xs cs Os):pU h' ok' t xs cs Os:=
 ⟨hr.1,hr.2.1,fun i x hi=>by
  obtain⟨O,h1,h2⟩:=hr.2.2 i x hi
  exact⟨O,h1,dE hok hh (fun b hb=>hO b (List.mem_flatten.2 ⟨O,bZ h1,hb⟩)) h2⟩⟩
theorem pU.rep_all {h:Array Obj} {ok:Nat→Ty→Prop} {t:M} {x:t.den} {cs:List Value} (hr:ja h ok t none x cs []):∀n,pU h ok t (List.replicate n x) ((List.replicate n cs).flatten) (List.replicate n [])
 | 0=>by simpa using pU.nil
 | n+1=>by
  have:=(pU.one hr).append (pU.rep_all hr n)
  simpa[List.replicate_succ]using this
theorem pU.one_cell {h:Array Obj} {ok:Nat→Ty→Prop} {t:M} :∀{xs:List t.den} {cs:List Value} {Os:List (List Nat)},pU h ok t xs cs Os→∀v∈cs,v.oneCell' =true
 | [],cs,_,hr=>by have:=hr.1;simp at this;simp[this]
 | x::xs,cs,Os,hr=>by
  intro v hv
  obtain⟨O,hO,h0⟩:=hr.2.2 0 x rfl
  simp only[Nat.zero_mul,List.drop_zero]at h0
  have hl:=hr.1
  simp only[List.length_cons,Nat.add_mul,Nat.one_mul]at hl
  have hl2:=hr.2.1
  simp only[List.length_cons]at hl2
  have hrest:pU h ok t xs (cs.drop t.size) (Os.drop 1):=by
   refine⟨by simp;omega,by simp;omega,fun i y hi=>?_⟩
   obtain⟨O',hO',this⟩:=hr.2.2 (i+1) y (by simpa using hi)
   rw[List.drop_drop]
   refine⟨O',by rw[List.getElem?_drop,Nat.add_comm];exact hO',?_⟩
   rwa[show t.size+i*t.size=(i+1)*t.size by rw[Nat.add_mul];omega]
  rw[←List.take_append_drop t.size cs]at hv
  rcases List.mem_append.1 hv with hv | hv
  ·exact pK h0 v hv
  ·exact pU.one_cell hrest v hv
theorem pU.arrs {h:Array Obj} {ok:Nat→Ty→Prop} {t:M} {xs:List t.den} {cs:List Value} {Os:List (List Nat)} (hr:pU h ok t xs cs Os) {blk off cap:Nat} {c:Array Value} {T:TypeId} (hb:h[blk]? =some (.cells c T (0,0)))
  (hcap:xs.length≤cap) (hfit:off+cap*t.size≤c.size) (he:(c.toList.drop off).take (xs.length*t.size)=cs):xO h t.size (fun _ x es O=>ja h ok t none x es O) xs Os (.arr blk off xs.length cap t.size):=by
 refine⟨rfl,rfl,hcap,hr.2.1,c,T,hb,hfit,fun i x hi=>?_⟩
 have hlt:=(O6.1 hi).1
 have hle:(i+1)*t.size≤xs.length*t.size:=Nat.mul_le_mul_right _ (by omega)
 rw[Nat.add_mul,Nat.one_mul]at hle
 have hle2:xs.length*t.size≤cap*t.size:=Nat.mul_le_mul_right _ hcap
 obtain⟨O,hO,h1⟩:=hr.2.2 i x hi
 refine⟨_,O,hO,iq hb _ _ (by omega),?_⟩
 rw[←he,List.drop_take,List.take_take,List.drop_drop]at h1
 rwa[Nat.min_eq_left (by omega)]at h1
theorem WY {h:Array Obj} {ok:Nat→Ty→Prop} {t:M} {xs:List t.den} {Os:List (List Nat)} {blk off len cap sz:Nat} (k:xO h t.size (fun _ x es O=>ja h ok t none x es O) xs Os (.arr blk off len cap sz)):
  ∃c T,h[blk]? =some (.cells c T (0,0))∧sz=t.size∧len=xs.length∧len≤cap∧off+cap*sz≤c.size∧pU h ok t xs ((c.toList.drop off).take (len*sz)) Os:=by
 obtain⟨rfl,rfl,h3,h7,c,T,hb,hf,hx⟩:=k
 refine⟨c,T,hb,rfl,rfl,h3,hf,?_,h7,fun i x hi=>?_⟩
 ·have:xs.length*t.size≤cap*t.size:=Nat.mul_le_mul_right _ h3
  simp;omega
 ·obtain⟨es,O,hO,he,hr⟩:=hx i x hi
  obtain⟨c',T',f',hb',hn',rfl⟩:=oH he
  rw[hb]at hb';cases hb'
  have hlt:=(O6.1 hi).1
  have hle:(i+1)*t.size≤xs.length*t.size:=Nat.mul_le_mul_right _ (by omega)
  rw[Nat.add_mul,Nat.one_mul]at hle
  rw[List.drop_take,List.take_take,List.drop_drop,Nat.min_eq_left (by omega)]
  exact⟨O,hO,hr⟩
theorem a5T {α β:Type} (e:α=β) (e' :List α=List β):cast e' []=[]:=by subst e;rfl
theorem Sz {h:Array Obj} {ok:Nat→Ty→Prop} {C:Cx} :∀(m:M) (he:m.el=true) {zs:List V} {cs r:List Value},rep h ok m.ty m.ty.zero cs→aS C zs (cs++r)→NH m zs=true→ja h ok m none (m.zero he) cs []
 | .dat t,_,_,_,_,hr,_,_=>⟨hr,rfl⟩
 | .unit,_,_,_,_,hr,_,_=>⟨hr,rfl⟩
 | .own t,he,zs,cs,r,hr,hz,hn=>by
  obtain⟨a,cap,rfl,_⟩:=hr
  unfold NH at hn
  split at hn
  ·obtain⟨v,r',e,h1,_⟩:=hz
   simp only[List.cons_append,List.nil_append,List.cons.injEq]at e
   obtain⟨rfl,rfl⟩:=e
   exact⟨_,rfl,rfl,.nil,h1,rfl,rfl⟩
  ·cases hn
 | .owns t,he,zs,cs,r,hr,hz,hn=>by
  obtain⟨a,cap,rfl,_⟩:=hr
  unfold NH at hn
  split at hn
  ·obtain⟨v,r',e,h1,_⟩:=hz
   simp only[List.cons_append,List.nil_append,List.cons.injEq]at e
   obtain⟨rfl,rfl⟩:=e
   have he' :t.el=true:=by simpa[M.el]using he
   refine uq.2 ⟨he',.nil,_,[],rfl,h1,⟨?_,rfl⟩,rfl⟩
   exact a5T (M.denEq t he').symm _
  ·cases hn
 | .pair p q,he,zs,cs,r,hr,hz,hn=>by
  obtain⟨c,d,rfl,h1,h2⟩:=hr
  have he' :p.el=true∧q.el=true:=by simpa[M.el]using he
  have hp:=eX h1
  rw[M.ty_size he'.1]at hp
  unfold NH at hn
  split at hn
  ·rename_i r' hd
   obtain⟨_,rfl⟩:=PS _ _ _ hd
   cases hb:NH p zs <;> rw[hb]at hn
   ·cases hn
   ·have a1:=Sz p he'.1 (r:=d++r) h1 (by simpa using hz) hb
    have hz' :=qH p.size hz
    rw[show(c++d++r).drop p.size=d++r by rw[←hp,List.append_assoc,List.drop_left]]at hz'
    have a2:=Sz q he'.2 (r:=r) h2 hz' hn
    refine⟨c,d,[],[],rfl,rfl,?_,?_⟩
    ·have:=KR (M.denEq p he'.1).symm (M.denEq q he'.2).symm (M.denEq (.pair p q) he).symm (p.ty.zero,q.ty.zero)
     exact(congrArg (fun z:p.den×q.den=>ja h ok p none z.1 c []) this).mpr a1
    ·have:=KR (M.denEq p he'.1).symm (M.denEq q he'.2).symm (M.denEq (.pair p q) he).symm (p.ty.zero,q.ty.zero)
     exact(congrArg (fun z:p.den×q.den=>ja h ok q none z.2 d []) this).mpr a2
  ·cases hn
 | .box _,he,_,_,_,_,_,_=>by simp[M.el]at he
 | .ownb _,he,_,_,_,_,_,_=>by simp[M.el]at he
 | .cell _,he,_,_,_,_,_,_=>by simp[M.el]at he
 | .rp _,he,_,_,_,_,_,_=>by simp[M.el]at he
 | .fn _ _,he,_,_,_,_,_,_=>by simp[M.el]at he
 | .ifc _ _,he,_,_,_,_,_,_=>by simp[M.el]at he
theorem Fq (z:Array Value):∀n,(madeCells z (n*z.size)).toList=(List.replicate n z.toList).flatten:=by
 intro n
 rcases Nat.eq_zero_or_pos z.size with h0 | h0
 ·have:z=#[]:=by simpa using h0
  subst this
  simp[madeCells]
 induction n with
 | zero=>simp[madeCells]
 | succ n ih=>
  rw[List.replicate_succ',List.flatten_append,←ih]
  simp only[madeCells,Array.toList_map,Array.toList_range,List.flatten_cons,List.flatten_nil,List.append_nil]
  rw[Nat.add_mul,Nat.one_mul,List.range_add,List.map_append,List.map_map]
  congr 1
  apply List.ext_getElem
  ·simp
  ·intro i h1 h2
   simp at h1 h2
   simp[Nat.mod_eq_of_lt h1,Nat.add_mod,h1,getElem!_pos]
theorem Aq {X:Fx} (H:FxOk X) {t e:Nat} {u:Ty} (h:Ir X.E t=some (e,u)):
  ∃j z inf,X.P.underlying t=some (.slice e)∧TiOk X.P e j∧X.P.info? e=some inf∧inf.size=u.size∧j.size=u.size∧inf.bytes≤65536∧inf.zero=some z∧rep #[] (fun _ _=>False) u u.zero z.cells.toList:=by
 unfold Ir at h
 cases hi:Y9 X.E.tt t with
 | none=>simp[hi]at h
 | some i=>
  have htd:=(H.tt t i hi).td
  simp only[hi]at h
  cases hd:i.td <;> simp only[hd]at h <;> try (simp at h;done)
  rename_i e'
  rw[hd]at htd
  cases hj:Y9 X.E.tt e' with
  | none=>simp[hj]at h
  | some j=>
   simp only[hj]at h
   cases hy:j.ty with
   | none=>simp[hy]at h
   | some u' =>
    simp only[hy]at h
    cases hb:(Nat.beq u'.size j.size&&Nat.ble j.bytes 65536)
    ·simp[hb]at h
    ·simp only[hb,cond_true,Option.some.injEq,Prod.mk.injEq]at h
     obtain⟨rfl,rfl⟩:=h
     simp only[Bool.and_eq_true]at hb
     have h1:=bT hb.1
     have h2:=Nat.le_of_ble_eq_true hb.2
     obtain⟨inf,a1,a2,a3,a4,a5⟩:=(H.tt e' j hj).info
     obtain⟨b1,z,b2,b3⟩:=a5 u' hy
     exact⟨j,z,inf,htd,H.tt _ _ hj,a1,by omega,by omega,by omega,b2,b3⟩
section
variable {X:Fx} {cl ch:Nat} {S:Sm} {m:Mp} {ok:Nat→Ty→Prop} {a:Act} {w:World} {o:Oper}
theorem UK {C:Cx} {t:Ty} {x:t.den} {cs:List Value} (h:rep #[] (fun _ _=>False) t x cs):rep C.h C.ok t x cs:=
 cu (fun _ _ h=>h.elim) (fun _ _ h=>h.elim) h
theorem CG (H:FxOk X) {q:Nat} {v vv:V} {Q:Unit→Sm→Prop}
  (hK:∀n,n=J8 q o.dst→CB*q≤n→n+64≤CB*q+CB→S (BOX+n)= .undef→(aC X.E o.dst vv).post (upd S (BOX+n) v) Q):
  (uV (J8 q o.dst) v (aC X.E o.dst vv)).post S Q:=by
 refine uf fun hn=>?_
 cases hd:o.dst with
 | none=>
  have hin:=kz H (q:=q) none (fun t h=>by cases h)
  rw[hd]at hn
  have:=hK (J8 q none) (by rw[hd]) hin.1 hin.2 hn
  rwa[hd]at this
 | some t=>
  cases hb:UA X.E t with
  | false=>unfold aC;simp only[hb,cond_false];trivial
  | true=>
   have hin:=kz H (q:=q) (some t) (fun t' h=>by cases h;exact(wJ hb).1)
   rw[hd]at hn
   have:=hK (J8 q (some t)) (by rw[hd]) hin.1 hin.2 hn
   rwa[hd]at this
theorem a4q (H:FxOk X) {q:Nat} {v vv u:V} {Q:Unit→Sm→Prop}
  (hK:∀n,n=J8 q o.dst→CB*q≤n→n+64≤CB*q+CB→S (BOX+n)= .undef→(Cmd.set (BOX+(KJ+n)) u (aC X.E o.dst vv)).post (upd S (BOX+n) v) Q):
  (uV (J8 q o.dst) v (.set (BOX+(KJ+J8 q o.dst)) u (aC X.E o.dst vv))).post S Q:=by
 refine uf fun hn=>?_
 cases hd:o.dst with
 | none=>
  have hin:=kz H (q:=q) none (fun t h=>by cases h)
  rw[hd]at hn
  have:=hK (J8 q none) (by rw[hd]) hin.1 hin.2 hn
  rwa[hd]at this
 | some t=>
  cases hb:UA X.E t with
  | false=>refine iL ?_;unfold aC;simp only[hb,cond_false];trivial
  | true=>
   have hin:=kz H (q:=q) (some t) (fun t' h=>by cases h;exact(wJ hb).1)
   rw[hd]at hn
   have:=hK (J8 q (some t)) (by rw[hd]) hin.1 hin.2 hn
   rwa[hd]at this
theorem ZU (R:Rel X cl ch S m ok a w) {w1:World} (hos:w1.os=w.os) (htp:w1.tape=w.tape) (hout:w1.output=w.output) (hh:w1.heap=w.heap)
  {u:Ty} {xs:List u.den} {cs:List Value} {e:TypeId} {c:Array Value} {cap n:Nat} (hr:af w.heap ok u xs cs)
  (hcap:xs.length≤cap) (hfit:cap*u.size≤c.size) (he:c.toList.take (xs.length*u.size)=cs) (hcl:cl≤n) (hch:n<ch) (hn:S (BOX+n)= .undef):
  Rel X cl ch (upd S (BOX+n) (.barr u xs)) (iF m n (.arr w.heap.size 0 xs.length cap u.size) []) ok a (w1.alloc (.cells c e)):=by
 have R1:Rel X cl ch S m ok a w1:=R.same hos htp hout hh
 have hblk:(w1.alloc (.cells c e)).heap[w.heap.size]? =some (.cells c e (0,0)):=by rw[←hh];exact heap_alloc_new w1 _
 refine R1.new hn hcl hch (by simp) (by simp[O9,hh]) ⟨_,aG _ _ _ _,?_⟩
 refine af.arrOk (cs:=cs) (hr.mono (fun _ _ h=>h) (fun b t hb=>?_)) hblk hcap (by omega) (by simpa using he)
 have:=R.okLt b t hb
 show(w1.heap.push (.cells c e))[b]? =_
 rw[hh]
 exact qV _ _ this
theorem LC (H:FxOk X) {q:Nat} (R:Rel X (CB*q) (CB*q+CB) S m ok a w) {w1:World} (hos:w1.os=w.os) (htp:w1.tape=w.tape) (hout:w1.output=w.output) (hh:w1.heap=w.heap)
  {u:Ty} {xs:List u.den} {cs:List Value} {e:TypeId} {c:Array Value} {cap:Nat} (hr:af w.heap ok u xs cs)
  (hcap:xs.length≤cap) (hfit:cap*u.size≤c.size) (he:c.toList.take (xs.length*u.size)=cs) {w0:World} {m0:Mp} {ok0:Nat→Ty→Prop} (hm:∀k l,m0 k=some l→m k=some l) (hok:∀b t,ok0 b t→ok b t)
  (run:(execOp a.eval o).run X.P w0= .ok (.value (.slice (some ⟨w.heap.size,0,none⟩) xs.length cap)) (w1.alloc (.cells c e))):
  (uV (J8 q o.dst) (.barr u xs) (aC X.E o.dst (.own (J8 q o.dst) none))).post S (fun _ S' =>fF X (CB*q) (CB*q+CB) o a w0 m0 ok0 S'):=by
 refine CG H fun n e1 h1 h2 hn=>?_
 rw[←e1]
 clear e1
 generalize CB*q=Z at*
 have R' :=ZU R hos htp hout hh (e:=e) hr hcap hfit he h1 (by show n<Z+1000000;change n+64≤Z+1000000 at h2;omega) hn
 refine uF H R' (fun k l h=>?_) hok ⟨_,aG _ _ _ _,rfl⟩ run
 by_cases ek:k=n
 ·subst ek
  have:=R.fresh k h1 hn
  have h3:=hm _ _ h
  rw[this]at h3;cases h3
 ·rw[dP _ _ _ ek];exact hm _ _ h
theorem NE (R:Rel X cl ch S m ok a w) {T:List Nat} (hT:Tk X S m ok w T) {w1:World} (hos:w1.os=w.os) (htp:w1.tape=w.tape) (hout:w1.output=w.output) (hh:w1.heap=w.heap)
  {md:M} (hel:md.el=true) {xs:List md.den} {cs:List Value} {Os:List (List Nat)} {e:TypeId} {c:Array Value} {cap n:Nat} (hr:pU w.heap ok md xs cs Os) (hnd:Os.flatten.Nodup) (hO:∀b∈Os.flatten,b∈T)
  (hcap:xs.length≤cap) (hfit:cap*md.size≤c.size) (he:c.toList.take (xs.length*md.size)=cs) (hcl:cl≤n) (hch:n<ch) (hn:S (BOX+n)= .undef):
  Rel X cl ch (upd S (BOX+n) (.barrs md xs none)) (iF m n (.arr w.heap.size 0 xs.length cap md.size) Os.flatten) ok a (w1.alloc (.cells c e)):=by
 have R1:Rel X cl ch S m ok a w1:=R.same hos htp hout hh
 have T1:Tk X S m ok w1 T:=⟨hT.nodup,fun b hb=>by rw[hh];exact hT.free b hb⟩
 have hblk:(w1.alloc (.cells c e)).heap[w.heap.size]? =some (.cells c e (0,0)):=by rw[←hh];exact heap_alloc_new w1 _
 have hold:∀b,b<w.heap.size→(w1.alloc (.cells c e)).heap[b]? =w.heap[b]?:=fun b hb=>by
  show(w1.heap.push (.cells c e))[b]? =_
  rw[hh]
  exact qV _ _ hb
 refine R1.newK T1 hn hcl hch (by simp) (by simp[O9,hh]) hnd hO ⟨hel,_,Os,aG _ _ _ _,?_,by simp⟩
 exact pU.arrs (cs:=cs) (hr.mono (fun _ _ h=>h) (fun b t hb=>hold b (R.okLt b t hb)) (fun b hb=>hold b (hT.free b (hO b hb)).2.1)) hblk hcap (by omega) (by simpa using he)
theorem QC (H:FxOk X) {q:Nat} (R:Rel X (CB*q) (CB*q+CB) S m ok a w) {T:List Nat} (hT:Tk X S m ok w T) {w1:World} (hos:w1.os=w.os) (htp:w1.tape=w.tape) (hout:w1.output=w.output) (hh:w1.heap=w.heap)
  {md:M} (hel:md.el=true) {xs:List md.den} {cs:List Value} {Os:List (List Nat)} {e:TypeId} {c:Array Value} {cap:Nat} (hr:pU w.heap ok md xs cs Os) (hnd:Os.flatten.Nodup) (hO:∀b∈Os.flatten,b∈T)
  (hcap:xs.length≤cap) (hfit:cap*md.size≤c.size) (he:c.toList.take (xs.length*md.size)=cs) {w0:World} {m0:Mp} {ok0:Nat→Ty→Prop} (hm:∀k l,m0 k=some l→m k=some l) (hok:∀b t,ok0 b t→ok b t)
  (run:(execOp a.eval o).run X.P w0= .ok (.value (.slice (some ⟨w.heap.size,0,none⟩) xs.length cap)) (w1.alloc (.cells c e))):
  (uV (J8 q o.dst) (.barrs md xs none) (aC X.E o.dst (.own (J8 q o.dst) none))).post S (fun _ S' =>fF X (CB*q) (CB*q+CB) o a w0 m0 ok0 S'):=by
 refine CG H fun n e1 h1 h2 hn=>?_
 rw[←e1]
 clear e1
 generalize CB*q=Z at*
 have R' :=NE R hT hos htp hout hh (e:=e) hel hr hnd hO hcap hfit he h1 (by show n<Z+1000000;change n+64≤Z+1000000 at h2;omega) hn
 refine uF H R' (fun k l h=>?_) hok ⟨_,aG _ _ _ _,rfl⟩ run
 by_cases ek:k=n
 ·subst ek
  have:=R.fresh k h1 hn
  have h3:=hm _ _ h
  rw[this]at h3;cases h3
 ·rw[dP _ _ _ ek];exact hm _ _ h
theorem XX (H:FxOk X) {q:Nat} (R:Rel X (CB*q) (CB*q+CB) S m ok a w) {T:List Nat} (hT:Tk X S m ok w T) {w1:World} (hos:w1.os=w.os) (htp:w1.tape=w.tape) (hout:w1.output=w.output) (hh:w1.heap=w.heap)
  {md:M} (hel:md.el=true) {xs:List md.den} {cs:List Value} {Os:List (List Nat)} {e:TypeId} {c:Array Value} {cap:Nat} (hr:pU w.heap ok md xs cs Os) (hnd:Os.flatten.Nodup) (hO:∀b∈Os.flatten,b∈T)
  (hcap:xs.length≤cap) (hfit:cap*md.size≤c.size) (he:c.toList.take (xs.length*md.size)=cs) {w0:World} {m0:Mp} {ok0:Nat→Ty→Prop} (hm:∀k l,m0 k=some l→m k=some l) (hok:∀b t,ok0 b t→ok b t)
  (run:(execOp a.eval o).run X.P w0= .ok (.value (.slice (some ⟨w.heap.size,0,none⟩) xs.length cap)) (w1.alloc (.cells c e))):
  (uV (J8 q o.dst) (.barrs md xs none) (.set (BOX+(KJ+J8 q o.dst)) (.blen (o8 xs) md.size) (aC X.E o.dst (.own (J8 q o.dst) none)))).post S (fun _ S' =>fF X (CB*q) (CB*q+CB) o a w0 m0 ok0 S'):=by
 refine a4q H fun n e1 h1 h2 hn=>?_
 refine iL ?_
 rw[←e1]
 clear e1
 generalize CB*q=Z at*
 have R' :=NE R hT hos htp hout hh (e:=e) hel hr hnd hO hcap hfit he h1 (by show n<Z+1000000;change n+64≤Z+1000000 at h2;omega) hn
 refine uF H (R'.mark (fG _ _ _)) (fun k l h=>?_) hok ⟨_,aG _ _ _ _,rfl⟩ run
 by_cases ek:k=n
 ·subst ek
  have:=R.fresh k h1 hn
  have h3:=hm _ _ h
  rw[this]at h3;cases h3
 ·rw[dP _ _ _ ek];exact hm _ _ h
theorem VE (H:FxOk X) {q:Nat} (R:Rel X (CB*q) (CB*q+CB) S m ok a w) {t:TypeId} {l c:Operand} (ho:o.op= .makeSlice t l c):(Y1 X.E q o).post S (fun _ S' =>fF X (CB*q) (CB*q+CB) o a w m ok S'):=by
 unfold Y1
 simp only[ho]
 split
 ·rename_i md hom
  split <;> try trivial
  rename_i e u het
  obtain⟨j,z,inf,hu,hj,h1,h2,h3,h4,h5,h6⟩:=Aq H het
  have hz:=eX h6
  refine V6 R fun v hv=>?_
  split <;> try trivial
  rename_i k n
  refine aQ fun hc=>?_
  simp only[Bool.and_eq_true]at hc
  obtain⟨⟨hs,hsz⟩,hza⟩:=hc
  split <;> try trivial
  rename_i hel
  obtain⟨hel,rfl⟩:=hel
  refine aF fun xs hxs=>?_
  have hec:a.eval c=a.eval l:=by
   unfold Rw at hs
   split at hs
   ·have:=bT hs
    subst this;rfl
   ·cases hs
  unfold gU at hxs
  split at hxs
  ·rename_i hh
   cases hxs
   have e1:=mO hv
   have e2:=hec.trans e1
   have hms:=M.ty_size hel
   have hby:(inf.bytes:Int)*n≤65536*1073741824:=by
    have:inf.bytes*n.toNat≤65536*1073741824:=Nat.mul_le_mul h4 (by omega)
    have e:(n.toNat:Int)=n:=by omega
    rw[←e,←Int.natCast_mul]
    generalize inf.bytes*n.toNat=p at*
    omega
   have hrun:=run_make (P:=X.P) w t e inf z hu h1 h5 k k n n hh.1 (Int.le_refl _) (by omega) (by omega)
   have hflat:=Fq z.cells n.toNat
   have hzs:z.cells.size=md.ty.size:=by simpa using hz
   have hzero:ja w.heap ok md none (md.zero hel) z.cells.toList []:=by
    unfold a3F at hza
    rw[het]at hza
    simp only at hza
    cases hj2:Y9 X.E.tt e with
    | none=>rw[hj2]at hza;cases hza
    | some j2=>
     rw[hj2]at hza
     simp only at hza
     cases hb:Nat.beq j2.zero.length j2.size <;> rw[hb]at hza
     ·cases hza
     ·obtain⟨inf2,a1,a2,a3,a4,a5⟩:=(H.tt e j2 hj2).info
      rw[h1]at a1;cases a1
      obtain⟨z2,b1,b2⟩:=a4 (bT hb)
      rw[h5]at b1;cases b1
      exact Sz md hel (r:=[]) (UK (C:=⟨w.heap,ok,m⟩) h6) (by simpa using b2) hza
   refine XX H R (T:=[]) Tk.nil rfl rfl rfl rfl (cs:=(List.replicate n.toNat z.cells.toList).flatten) (c:=madeCells z.cells (n.toNat*inf.size)) (cap:=n.toNat) (e:=e) hel (pU.rep_all hzero _) (by simp) (by simp) (by simp) (by simp[size_madeCells,h2,hms]) ?_ (fun _ _ h=>h) (fun _ _ h=>h) (w1:=w) ?_
   ·rw[h2,←hzs,hflat]
    rw[List.take_of_length_le (by simp[List.length_flatten,hzs,hms])]
   ·simp[execOp,ho,e1,e2,hrun]
  ·cases hxs
 split <;> try trivial
 rename_i e u het
 obtain⟨j,z,inf,hu,hj,h1,h2,h3,h4,h5,h6⟩:=Aq H het
 have hz:=eX h6
 have key:∀{k k' :IntKind} {n n' :Int},a.eval l= .int k n→a.eval c= .int k' n' →0≤n→n≤n' →n' ≤1073741824→
   (uV (J8 q o.dst) (.barr u (List.replicate n.toNat u.zero)) (aC X.E o.dst (.own (J8 q o.dst) none))).post S (fun _ S' =>fF X (CB*q) (CB*q+CB) o a w m ok S'):=fun {k k' n n'} e1 e2 g0 g1 g2=>by
  have hby:(inf.bytes:Int)*n' ≤65536*1073741824:=by
   have:inf.bytes*n'.toNat≤65536*1073741824:=Nat.mul_le_mul h4 (by omega)
   have e:(n'.toNat:Int)=n' :=by omega
   rw[←e,←Int.natCast_mul]
   generalize inf.bytes*n'.toNat=p at*
   omega
  have hrun:=run_make (P:=X.P) w t e inf z hu h1 h5 k k' n n' g0 g1 (by omega) (by omega)
  have hflat:=Fq z.cells n'.toNat
  have hzs:z.cells.size=u.size:=by simpa using hz
  refine LC H R rfl rfl rfl rfl (cs:=(List.replicate n.toNat z.cells.toList).flatten) (c:=madeCells z.cells (n'.toNat*inf.size)) (cap:=n'.toNat) (e:=e) (af.rep_all (UK (C:=⟨w.heap,ok,m⟩) h6) _) (by simp;omega) (by simp[size_madeCells,h2]) ?_ (fun _ _ h=>h) (fun _ _ h=>h) (w1:=w) ?_
  ·rw[h2,←hzs,hflat]
   have:n'.toNat=n.toNat+(n'.toNat -n.toNat):=by omega
   rw[this,←List.replicate_append_replicate,List.flatten_append,List.take_append_of_le_length (by simp[List.length_flatten]),List.take_of_length_le (by simp[List.length_flatten])]
  ·simp[execOp,ho,e1,e2,hrun]
 refine V6 R fun v hv=>?_
 split <;> try trivial
 rename_i k n
 cases hs:Rw l c
 ·simp only[cond_false]
  refine V6 R fun v' hv' =>?_
  split <;> try trivial
  rename_i k' n'
  refine⟨fun hr=>aF fun xs hxs=>?_,fun _=>trivial⟩
  have hr' :=of_decide_eq_true (show decide (0≤n∧n≤n' ∧n' ≤1073741824)=true from hr)
  unfold gU at hxs
  split at hxs
  ·cases hxs
   exact key (mO hv) (mO hv') hr'.1 hr'.2.1 hr'.2.2
  ·cases hxs
 ·simp only[cond_true]
  refine aF fun xs hxs=>?_
  have hec:a.eval c=a.eval l:=by
   unfold Rw at hs
   split at hs
   ·have:=bT hs
    subst this;rfl
   ·cases hs
  unfold gU at hxs
  split at hxs
  ·rename_i hh
   cases hxs
   exact key (mO hv) (hec.trans (mO hv)) hh.1 (Int.le_refl _) hh.2
  ·cases hxs
end
end Go.GP
