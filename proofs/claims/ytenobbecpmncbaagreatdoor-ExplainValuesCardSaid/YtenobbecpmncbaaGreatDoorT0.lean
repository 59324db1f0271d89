import Derived.ProofKit
import Derived.Below
import Derived.Laws.CopyRow
import Derived.Laws.BytesArg
import Derived.Laws.Cells
import Derived.Laws.Append
import Derived.Laws.Strings
import Derived.Lib.SmallJoins
import Derived.Laws.MakeOwn
import Derived.ArgAppend
set_option linter.all false
namespace Go.GP
theorem l7{p:Prop}(h:p:=by omega):p:=h
theorem A7{p:Prop}(h:p:=by simp):p:=h
theorem G7{p:Prop}(h:p:=by decide):p:=h
theorem az{p:Prop}(h:p:=by simp;omega):p:=h
theorem I9:True:=trivial
def P9:=@List.take_succ_eq_append_getElem
def L8:=@Int.mul_le_mul_of_nonneg_right
def aC:=@List.take_append_of_le_length
def Y7:=@Array.getD_eq_getD_getElem?
def aT:=@Int.add_mul_emod_self_right
def aA:=@Array.getElem?_eq_some_iff
def H6:=@List.getElem?_append_right
def iI:=@Array.getElem?_append_left
def dD:=@Int.tmod_eq_emod_of_nonneg
def iJ:=@List.findSome?_eq_none_iff
def N9:=@List.getElem?_append_left
def jh:=@List.drop_eq_getElem_cons
def lZ:=@List.extract_eq_take_drop
def P8:=@Array.getElem?_eq_getElem
def dH:=@Classical.byContradiction
def gz:=@List.pairwise_iff_getElem
def AY:=@List.mem_take_iff_getElem
def jE:=@List.getElem?_take_of_lt
def nG:=@Option.isSome_iff_exists
def jV:=@List.getElem?_cons_zero
def O7:=@List.length_eq_zero_iff
def jW:=@List.getElem?_replicate
def fF:=@List.drop_eq_nil_of_le
def aJ:=@List.take_of_length_le
def oP:=@List.pairwise_lt_range
def oO:=@List.getElem?_set_self
def kT:=@List.filter_eq_nil_iff
def ai:=@Int.add_mul_ediv_right
def kS:=@Int.ediv_eq_zero_of_lt
def aU:=@List.mem_append_right
def V8:=@Nat.le_of_ble_eq_true
def ay:=@Array.getElem?_toList
def qf:=@List.perm_append_comm
def iQ:=@List.set_append_right
def iR:=@List.take_append_drop
def pX:=@Array.getElem?_modify
def gu:=@List.getElem?_eq_none
def bT:=@List.length_filter_le
def wI:=@List.findSome?_append
def wH:=@List.countP_le_length
def pY:=@Int.le_ediv_of_mul_le
def U4:=@Int.ediv_mul_add_emod
def lm:=@Int.ediv_lt_of_lt_mul
def af:=@List.length_singleton
def qc:=@List.length_replicate
def G6:=@List.mem_append_left
def P5:=@List.mem_cons_of_mem
def G9:=@Nat.mul_le_mul_right
def qG:=@MapKept.run_checkKey
def xH:=@List.getElem?_zipIdx
def jQ:=@List.replicate_succ
def jP:=@List.flatten_append
def bI:=@List.getElem_of_mem
def bF:=@Array.length_toList
def bJ:=@List.map_congr_left
def X4:=@Int.toNat_of_nonneg
def sD:=@List.getElem?_range
def F5:=@List.length_append
def U6:=@List.getElem?_drop
def ak:=@List.getElem?_take
def kL:=@List.mem_cons_self
def D8:=@List.mem_singleton
def ui:=@List.set_cons_zero
def dh:=@Bool.false_eq_true
def iH:=@Nat.eq_zero_or_pos
def kN:=@List.zip_cons_cons
def U9:=@List.pairwise_cons
def kK:=@List.filter_append
def J8:=@Int.emod_lt_of_pos
def iG:=@Int.mul_right_comm
def zk:=@List.countP_append
def I7:=@List.nodup_append
def bH:=@Bool.not_eq_true'
def F6:=@List.append_assoc
def I4:=@Result.andThen_ok
def H7:=@Option.some.injEq
def dF:=@List.ext_getElem?
def V7:=@List.getElem?_set
def Y8:=@List.getElem?_map
def ji:=@List.size_toArray
def eX:=@List.length_range
def O9:=@Int.toNat_natCast
def oN:=@List.any_eq_false
def Hf:=@Bool.not_eq_false
def uI:=@List.getElem_take
def dG:=@List.foldl_append
def dA:=@List.mem_flatten
def x9:=@Bool.and_eq_true
def au:=@List.cons_append
def G5:=@List.length_cons
def qy:=@Array.toList_map
def lS:=@List.ext_getElem
def lT:=@List.range'_succ
def fU:=@List.length_take
def ax:=@List.take_length
def qC:=@List.length_drop
def jI:=@Nat.le_add_right
def lQ:=@List.all_eq_true
def S9:=@List.getElem_mem
def jJ:=@Option.bind_some
def dB:=@Option.getD_some
def qE:=@List.not_mem_nil
def dn:=@List.filter_cons
def AA:=@List.drop_length
def qA:=@Bool.not_eq_true
def fQ:=@List.any_eq_true
def di:=@Int.ediv_le_self
def A8:=@List.mem_append
def F7:=@List.append_nil
def fB:=@Nat.le_max_left
def J4:=@List.nil_append
def I5:=@List.cons.injEq
def eU:=@Bool.eq_iff_iff
def eY:=@List.nodup_cons
def iT:=@Nat.min_eq_left
def bV:=@List.map_append
def qX:=@Int.natCast_mul
def aH:=@List.foldl_cons
def nC:=@List.length_set
def bU:=@List.length_nil
def J7:=@List.length_map
def iU:=@Option.map_some
def X6:=@List.range_succ
def kH:=@Bool.or_eq_true
def N8:=@List.mem_filter
def V6:=@Option.some.inj
def wG:=@List.any_append
def qY:=@Int.natCast_pow
def P6:=@Int.emod_nonneg
def U7:=@Int.ediv_nonneg
def jr:=@List.drop_take
def ik:=@List.take_take
def ae:=@List.drop_drop
def dY:=@List.nodup_nil
def U3:=@List.mem_range
def P7:=@Int.mul_nonneg
def jq:=@Int.mul_le_mul
def oI:=@Bool.and_assoc
def C9:=@List.mem_cons
def qg:=@Nat.add_assoc
def iP:=@List.map_cons
def Y5:=@List.cons.inj
def pW:=@Addr.mk.injEq
def qh:=@Nat.lt_irrefl
def jZ:=@Prod.mk.injEq
def aS:=@Bool.true_and
def yV:=@List.any_cons
def lY:=@Bool.not_true
def ML:=@Bool.false_or
def bn:=@Nat.sub_self
def zN:=@List.map_nil
def Y9:=@Sem.run_pure
def F8:=@Sem.run_bind
def fA:=@Nat.add_zero
def jD:=@Addr.add_lit
def iy:=@Nat.zero_add
def qZ:=@List.map_map
def U8:=@List.mem_map
def aF:=@Nat.le_trans
def E5:=@Nat.le_refl
def J3:=@Nat.add_mul
def pI:=@Nat.zero_le
def kP:=@Nat.mul_one
def aW:=@Nat.one_mul
def aV:=@Int.le_refl
def gq:=@Int.add_mul
def dI:=@Int.one_mul
def kJ:=@Int.sub_mul
def jg:=@Int.neg_mul
def eP:=@Nat.blt_eq
def jT:=@Array.ext'
def fZ:=@Int.not_lt
def jU:=@Int.not_le
def dZ:=@Prod.ext
theorem Z4{α:Type _}{l:List α}{i:Nat}{a:α} :l[i]? =some a↔∃h:i<l.length,l[i]=a:=List.getElem?_eq_some_iff
theorem gY{α:Type _}{l:List α}{i:Nat}(h:i<l.length):l[i]? =some l[i]:=List.getElem?_eq_getElem h
theorem iO{n m:Nat}(h:Nat.beq n m=true):n=m:=Nat.eq_of_beq_eq_true h
theorem su{α:Type _}{l:List α}{i:Nat}{a:α}(h:l[i]? =some a):a∈l:=List.mem_of_getElem? h
theorem rZ{α:Type _}{l:List α}{i:Nat}{a:α} :l.getD i a=l[i]?.getD a:=List.getD_eq_getElem?_getD
universe u
set_option linter.unusedVariables false
inductive Ty where
 |bool|int (k:IntKind)|str|sl (t:Ty)|prod (a b:Ty)|unit|ent (ka va:Bool) (k v:Ty)
def tbb(a b:Bool):Bool:=bif a then b else !b
theorem a4a:∀{a b:Bool},tbb a b=true->a=b:=by decide
theorem a2c:∀(a:Bool),tbb a a=true:=by decide
def Ty.beq:Ty->Ty->Bool
 | .bool,b=>match b with| .bool=>true|_=>false
 | .int k,b=>match b with| .int k' =>decide (k=k')|_=>false
 | .str,b=>match b with| .str=>true|_=>false
 | .sl t,b=>match b with| .sl u=>Ty.beq t u|_=>false
 | .prod p q,b=>match b with| .prod p' q' =>bif Ty.beq p p' then Ty.beq q q' else false|_=>false
 | .unit,b=>match b with| .unit=>true|_=>false
 | .ent x y p q,b=>match b with| .ent x' y' p' q' =>bif tbb x x' &&tbb y y' then(bif Ty.beq p p' then Ty.beq q q' else false)else false|_=>false
theorem Ty.beq_eq:∀{a b:Ty},Ty.beq a b=true->a=b
 | .bool,b,h=>by cases b<;>first|rfl|cases h
 | .int k,b,h=>by cases b<;>first|(cases h;done)|(rename_i k';have:=of_decide_eq_true (show decide (k=k')=true from h);subst this;rfl)
 | .str,b,h=>by cases b<;>first|rfl|cases h
 | .sl t,b,h=>by cases b<;>first|(cases h;done)|(rename_i u;have:=Ty.beq_eq (show Ty.beq t u=true from h);subst this;rfl)
 | .prod p q,b,h=>by
  cases b<;>try (cases h;done)
  rename_i p' q';cases hp:Ty.beq p p'
  ·have h' :(bif Ty.beq p p' then Ty.beq q q' else false)=true:=h;rw[hp]at h';cases h'
  ·have h' :(bif Ty.beq p p' then Ty.beq q q' else false)=true:=h;rw[hp]at h';rw[Ty.beq_eq hp,Ty.beq_eq (show Ty.beq q q' =true from h')]
 | .unit,b,h=>by cases b<;>first|rfl|cases h
 | .ent x y p q,b,h=>by
  cases b<;>try (cases h;done)
  rename_i x' y' p' q';have h0:(bif tbb x x' &&tbb y y' then(bif Ty.beq p p' then Ty.beq q q' else false)else false)=true:=h;cases hx:tbb x x'<;>cases hy:tbb y y'<;>rw[hx,hy]at h0<;>try (cases h0;done)
  cases hp:Ty.beq p p'<;>rw[hp]at h0
  ·cases h0
  ·rw[a4a hx,a4a hy,Ty.beq_eq hp,Ty.beq_eq (show Ty.beq q q' =true from h0)]
theorem Ty.beq_refl:∀(a:Ty),Ty.beq a a=true
 | .bool=>rfl| .int k=>by show decide (k=k)=true;simp| .str=>rfl| .sl t=>Ty.beq_refl t| .prod p q=>by show(bif Ty.beq p p then Ty.beq q q else false)=true;rw[Ty.beq_refl p,Ty.beq_refl q];rfl| .unit=>rfl| .ent x y p q=>by show(bif tbb x x&&tbb y y then(bif Ty.beq p p then Ty.beq q q else false)else false)=true;rw[a2c,a2c,Ty.beq_refl p,Ty.beq_refl q];rfl
instance:DecidableEq Ty:=λa b=>match h:Ty.beq a b with
 |true=> .isTrue (Ty.beq_eq h)|false=> .isFalse (λe=>by subst e;rw[Ty.beq_refl]at h;cases h)
@[reducible] def Ty.den:Ty->Type
 | .bool=>Bool| .int _=>Int| .str=>List UInt8| .sl t=>List t.den| .prod a b=>a.den×b.den| .unit=>Unit| .ent _ _ a b=>a.den×b.den
def Ty.isEnt:Ty->Bool| .ent ..=>true|_=>false
def Ty.size:Ty->Nat
 | .bool| .int _| .str| .sl _=>1| .prod a b=>a.size+b.size| .unit=>0| .ent _ _ a b=>a.size+b.size
def Ty.flat:Ty->Bool
 | .bool| .int _| .str| .unit=>true| .sl _=>false| .prod a b=>a.flat&&b.flat
 | .ent ..=>false
def Ty.zero:(t:Ty)->t.den
 | .bool=>false| .int _=>(0:Int)| .str=>[]| .sl _=>[]| .prod a b=>(a.zero,b.zero)| .unit=>()| .ent _ _ a b=>(a.zero,b.zero)
inductive M where
 |dat (t:Ty)|own (t:Ty)|pair (a b:M)|unit|box (m:M)
 |owns (el:M)|ownb (t:Ty)|rp (t:Ty)|fn (f:Nat) (ts:List Ty)|ifc (t:Nat) (m:M)|cell (n:Option (Option Bool))
def M.beq:M->M->Bool
 | .dat t,b=>match b with| .dat u=>Ty.beq t u|_=>false
 | .own t,b=>match b with| .own u=>Ty.beq t u|_=>false
 | .pair p q,b=>match b with| .pair p' q' =>bif M.beq p p' then M.beq q q' else false|_=>false
 | .unit,b=>match b with| .unit=>true|_=>false
 | .owns m,b=>match b with| .owns m' =>M.beq m m'|_=>false
 |_,_=>false
theorem M.beq_eq:∀{a b:M},M.beq a b=true->a=b
 | .dat t,b,h=>by cases b<;>first|(cases h;done)|(rename_i u;have:=Ty.beq_eq (show Ty.beq t u=true from h);subst this;rfl)
 | .own t,b,h=>by cases b<;>first|(cases h;done)|(rename_i u;have:=Ty.beq_eq (show Ty.beq t u=true from h);subst this;rfl)
 | .pair p q,b,h=>by
  cases b<;>try (cases h;done)
  rename_i p' q';cases hp:M.beq p p'
  ·have h' :(bif M.beq p p' then M.beq q q' else false)=true:=h;rw[hp]at h';cases h'
  ·have h' :(bif M.beq p p' then M.beq q q' else false)=true:=h;rw[hp]at h';rw[M.beq_eq hp,M.beq_eq (show M.beq q q' =true from h')]
 | .unit,b,h=>by cases b<;>first|rfl|cases h
 | .owns m,b,h=>by cases b<;>first|(cases h;done)|(rename_i u;have:=M.beq_eq (show M.beq m u=true from h);subst this;rfl)
 | .box _,b,h=>by cases h| .ownb _,b,h=>by cases h| .rp _,b,h=>by cases h| .fn _ _,b,h=>by cases h| .ifc _ _,b,h=>by cases h| .cell _,b,h=>by cases h
@[reducible] def QP:List Ty->Type
 |[]=>Unit|[t]=>t.den|t::t' ::r=>t.den×QP (t' ::r)
@[reducible] def M.den:M->Type
 | .dat t=>t.den| .own t=>List t.den| .pair a b=>a.den×b.den| .unit=>Unit| .box m=>m.den| .owns el=>List el.den| .ownb t=>List t.den| .rp t=>t.den| .fn _ ts=>QP ts| .ifc _ m=>m.den| .cell _=>Unit
def M.size:M->Nat
 | .dat t=>t.size| .own _=>1| .pair a b=>a.size+b.size| .unit=>0| .box _=>1| .owns _| .ownb _| .rp _| .fn _ _| .ifc _ _| .cell _=>1
def M.el:M->Bool
 | .unit=>true| .dat t| .own t=> !t.isEnt| .owns m=>m.el| .pair a b=>a.el&&b.el|_=>false
def M.ty:M->Ty
 | .dat t=>t| .own t=> .sl t| .owns m=> .sl m.ty| .pair a b=> .prod a.ty b.ty|_=> .unit
theorem M.denEq:∀(m:M),m.el=true->m.den=m.ty.den
 | .dat _,_=>rfl| .own _,_=>rfl| .unit,_=>rfl| .owns m,h=>congrArg List (M.denEq m h)| .pair a b,h=>by
  have h' :a.el=true/\b.el=true:=by simpa[M.el]using h
  show(a.den×b.den)=(a.ty.den×b.ty.den);rw[M.denEq a h'.1,M.denEq b h'.2]
 | .box _,h=>by simp[M.el]at h| .ownb _,h=>by simp[M.el]at h| .rp _,h=>by simp[M.el]at h| .fn _ _,h=>by simp[M.el]at h| .ifc _ _,h=>by simp[M.el]at h| .cell _,h=>by simp[M.el]at h
def M.zero:(m:M)->m.el=true->m.den
 |m,h=>cast (M.denEq m h).symm m.ty.zero
abbrev MG:=Bool×M
@[reducible] def dX:List MG->Type
 |[]=>Unit|[m]=>m.2.den|m::m' ::r=>m.2.den×dX (m' ::r)
inductive V where
 |undef
 |un
 |b (x:Bool)|i (k:IntKind) (n:Int)|s (l:List UInt8)
 |nl
 |sl (t:Ty) (xs:List t.den)
 |own (bx:Nat) (vw:Option (Nat×Nat))
 |ptr (bx off:Nat)
 |ep (bx idx off:Nat)
 |dp (t:Ty) (x:t.den) (off:Nat)
 |agg (cs:List V)|tup (cs:List V)
 |glob (g:Nat)|fnv (f:Nat)|clos (f:Nat) (caps:List ((t:Ty)×t.den))|ifc (t:Nat) (v:V)
 |bcells (cs:List V)|barr (t:Ty) (xs:List t.den)|bfrz (t:Ty) (xs:List t.den)|biter (l:List UInt8) (pos:Nat)
 |barrs (el:M) (xs:List el.den) (hole:Option (Nat×Nat×Option Nat))|bfc (t:Ty) (x:t.den)
 |dead|gone (t:Ty)|blen (n:Int) (sz:Nat)
 |ne (b:Bool)
def o5{α β:Type}(o:Option α)(f:α->Option β):Option β:=match o with|some x=>f x|none=>none
def l9{α:Type}(b:Bool)(x y:α):α:=match b with|true=>x|false=>y
def D9(a b:Int):Bool:=decide (a<b)
def J6(a b:Int):Bool:=decide (a<=b)
def o8(a b:Int):Bool:=decide (a=b)
def jd(a b:Bool):Bool:=a==b
def E9(a:Bool):Bool:=!a
def dE(a b:Bool):Bool:=a&&b
def seq(a b:List UInt8):Bool:=decide (a=b)
def slt(a b:List UInt8):Bool:=Op.bytesLess a b
def wrap(k:IntKind)(n:Int):Int:=k.wrap n
def D7(k:IntKind)(a b:Int):Int:=k.wrap (a+b)
def H9(k:IntKind)(a b:Int):Int:=k.wrap (a -b)
def X9(k:IntKind)(a b:Int):Int:=k.wrap (a*b)
def bQ(k:IntKind)(a b:Int):Int:=k.wrap (a.tdiv b)
def cZ(a b:Int):Int:=a.tmod b
def oG(k:IntKind)(a b:Int):Option Int:=if b=0 then none else some (k.wrap (a.tdiv b))
def xG(a b:Int):Option Int:=if b=0 then none else some (a.tmod b)
def a0I(k:IntKind)(a b:Int):Int:=k.wrap (BitVec.ofInt k.bits a&&& BitVec.ofInt k.bits b).toNat
def ior(k:IntKind)(a b:Int):Int:=k.wrap (BitVec.ofInt k.bits a ||| BitVec.ofInt k.bits b).toNat
def a8u(k:IntKind)(a b:Int):Int:=k.wrap (BitVec.ofInt k.bits a^^^BitVec.ofInt k.bits b).toNat
def a4R(k:IntKind)(a b:Int):Int:=k.wrap (BitVec.ofInt k.bits a&&& ~~~(BitVec.ofInt k.bits b)).toNat
def a8s(k:IntKind)(a b:Int):Int:=k.wrap (a*2^(min b.toNat k.bits))
def rY(k:IntKind)(a b:Int):Int:=a.fdiv (2^(min b.toNat k.bits))
def UG(k:IntKind)(a b:Int):Option Int:=if b<0 then none else some (a8s k a b)
def UH(k:IntKind)(a b:Int):Option Int:=if b<0 then none else some (rY k a b)
def qF(a b:Int):Int:=if b<a then b else a
def nz(a b:Int):Int:=if a<b then b else a
def x8{α:Type}(l:List α):Int:=l.length
def uw(a b:List UInt8):Option (List UInt8):=if a.length+b.length<=4611686018427387904 then some (a++b)else none
def MS(a b:Nat):Bool:=Nat.beq a b
def inb(i n:Int):Bool:=decide (0<=i/\i<n)
def H8{α:Type}(l:List α)(i:Int):Option α:=if 0<=i then l[i.toNat]? else none
def sat(l:List UInt8)(i:Int):Option Int:=if 0<=i then(l[i.toNat]?).map (λc=>(c.toNat:Int))else none
def Y3{α:Type}(l:List α)(i:Nat):Option α:=l[i]?
def bu{α:Type}(l:List α)(i:Nat)(x:α):List α:=l.set i x
def BM{α:Type}(l:List α)(lo hi:Int):Option (List α):=if 0<=lo/\lo<=hi/\hi<=l.length then some ((l.take hi.toNat).drop lo.toNat)else none
def pF{α:Type}(l:List α)(lo hi:Nat):List α:=(l.take hi).drop lo
def sS(lo hi n:Int):Bool:=decide (0<=lo/\lo<=hi/\hi<=n)
def mM{α:Type}(xs ys:List α):Option (List α):=if xs.length+ys.length<=1073741824 then some (xs++ys)else none
def sU{α:Type}(n:Int)(x:α):Option (List α):=if 0<=n/\n<=1073741824 then some (List.replicate n.toNat x)else none
def Y0(i:Int):Nat:=i.toNat
def c1X(n:Int):UInt8:=UInt8.ofNat n.toNat
def a7M(l:List Int):List UInt8:=l.map c1X
def Jq{α β:Type}(eq:α->α->Bool):List (α×β)->α->β->β
 |[],_,z=>z|p::r,k,z=>bif eq k p.1 then p.2 else Jq eq r k z
def Js{α β:Type}(eq:α->α->Bool):List (α×β)->α->Bool
 |[],_=>false|p::r,k=>bif eq k p.1 then true else Js eq r k
def LK{α β:Type}(eq:α->α->Bool):List (α×β)->α->β->List (α×β)
 |[],k,x=>[(k,x)]|p::r,k,x=>bif eq k p.1 then(k,x)::r else p::LK eq r k x
def IR{α β:Type}(eq:α->α->Bool)(l:List (α×β))(k:α)(z:β):β:=Jq eq l k z
def Jr{α β:Type}(eq:α->α->Bool)(l:List (α×β))(k:α):Bool:=Js eq l k
def Ll{α β:Type}(eq:α->α->Bool)(l:List (α×β))(k:α)(x:β):List (α×β):=LK eq l k x
def keq:(t:Ty)->t.den->t.den->Bool
 | .bool=>λa b=>jd a b
 | .int _=>λa b=>o8 a b
 | .str=>λa b=>seq a b
 | .prod p q=>λa b=>dE (keq p a.1 b.1) (keq q a.2 b.2)
 |_=>λ_ _=>true
def a5Z{α:Type}(eq:α->α->Bool):List α->List α->Bool
 |[],[]=>true|a::r,b::q=>eq a b&&a5Z eq r q|_,_=>false
def IL:(t:Ty)->t.den->t.den->Bool
 | .bool=>λa b=>tbb a b
 | .int _=>λa b=>decide (a=b)
 | .str=>λa b=>decide (a=b)
 | .sl t=>λa b=>a5Z (IL t) a b
 | .prod p q=>λa b=>IL p a.1 b.1&&IL q a.2 b.2
 | .unit=>λ_ _=>true
 | .ent _ _ p q=>λa b=>IL p a.1 b.1&&IL q a.2 b.2
def deq(t:Ty)(a b:t.den):Bool:=IL t a b
inductive Out (σ ε ρ:Type) where
 |nx (s:σ)|ex (e:ε)|rt (r:ρ)
def aI{σ ε α:Type}(o:σ⊕ε)(f:σ->α)(g:ε->α):α:=match o with| .inl s=>f s| .inr e=>g e
def qj{σ ε ρ:Type}(f:σ->Option (Out σ ε ρ)):Nat->σ->Option (ε⊕ρ)
 |0,_=>none
 |n+1,s=>match f s with
  |some (.nx s')=>qj f n s'|some (.ex e)=>some (.inl e)|some (.rt r)=>some (.inr r)|none=>none
def qi{σ ε:Type}(f:σ->Option (σ⊕ε)):Nat->σ->Option ε
 |0,_=>none
 |n+1,s=>match f s with
  |some (.inl s')=>qi f n s'|some (.inr e)=>some e|none=>none
def jS:Nat:=18446744073709551616
def aY{σ ε ρ:Type}(f:σ->Option (Out σ ε ρ))(s:σ):Option (ε⊕ρ):=qj f jS s
def dC{σ ε:Type}(f:σ->Option (σ⊕ε))(s:σ):Option ε:=qi f jS s
inductive Cmd (α:Type):Type 1 where
 |ret (x:α)
 |fail
 |get (k:Nat) (c:V->Cmd α)
 |set (k:Nat) (v:V) (c:Cmd α)
 |opt {β:Type} (o:Option β) (c:β->Cmd α)
 |br (b:Bool) (c d:Cmd α)
inductive Ent where
 |kv (k:Nat) (v:V)|mask (lo hi:Nat)
abbrev St:=List Ent
def dU:St->Nat->V
 |[],_=> .undef| .kv k v::r,n=>bif Nat.beq k n then v else dU r n| .mask lo hi::r,n=>bif Nat.ble lo n&&Nat.blt n hi then .undef else dU r n
abbrev Tr:=List Nat×List Nat
def V.force{R:Type}(v:V)(K:V->R):R:=
 match v with
 | .undef=>K .undef| .un=>K .un| .b x=>K (.b x)
 | .i k n=>match k with
  | .i8=>K (.i .i8 n)| .i16=>K (.i .i16 n)| .i32=>K (.i .i32 n)| .i64=>K (.i .i64 n)| .u8=>K (.i .u8 n)| .u16=>K (.i .u16 n)| .u32=>K (.i .u32 n)| .u64=>K (.i .u64 n)
 | .s l=>K (.s l)| .nl=>K .nl| .ne z=>K (.ne z)| .sl t xs=>K (.sl t xs)
 | .own bx vw=>match vw with|none=>K (.own bx none)|some p=>K (.own bx (some p))
 | .ptr bx off=>K (.ptr bx off)| .ep bx idx off=>K (.ep bx idx off)| .dp t x off=>K (.dp t x off)| .agg cs=>K (.agg cs)| .tup cs=>K (.tup cs)| .glob g=>K (.glob g)| .fnv f=>K (.fnv f)| .clos f bs=>K (.clos f bs)
 | .ifc t v=>v.force λv=>K (.ifc t v)
 | .barrs t xs h=>match h with|none=>K (.barrs t xs none)|some (p1,p2,p3)=>match p3 with|none=>K (.barrs t xs (some (p1,p2,none)))|some p3=>K (.barrs t xs (some (p1,p2,some p3)))
 | .bfc t x=>K (.bfc t x)| .bcells cs=>K (.bcells cs)| .barr t xs=>K (.barr t xs)| .bfrz t xs=>K (.bfrz t xs)| .biter l p=>K (.biter l p)| .dead=>K .dead| .gone t=>K (.gone t)| .blen n sz=>K (.blen n sz)
def Qe{R:Type} :List V->(List V->R)->R
 |[],K=>K []
 |v::r,K=>v.force λv' =>Qe r λr' =>K (v' ::r')
def V.force2{R:Type}(v:V)(K:V->R):R:=
 v.force λv=>match v with
  | .agg cs=>Qe cs λcs=>K (.agg cs)
  | .bcells cs=>Qe cs λcs=>K (.bcells cs)
  | .tup cs=>Qe cs λcs=>K (.tup cs)|v=>K v
def Cmd.runK{α R:Type} :Cmd α->St->Tr->(α->St->Tr->Option R)->Option R
 | .ret x,s,t,K=>K x s t| .fail,_,_,_=>none
 | .get k c,s,t,K=>(dU s k).force λv=>(c v).runK s (k::t.1,t.2) K
 | .set k v c,s,t,K=>v.force2 λv=>c.runK (.kv k v::s) (t.1,k::t.2) K
 | .opt o c,s,t,K=>o5 o λx=>(c x).runK s t K| .br b c d,s,t,K=>l9 b (c.runK s t K) (d.runK s t K)
def Cmd.bind{α β:Type} :Cmd α->(α->Cmd β)->Cmd β
 | .ret x,f=>f x| .fail,_=> .fail
 | .get k c,f=> .get k λv=>(c v).bind f| .set k v c,f=> .set k v (c.bind f)
 | .opt o c,f=> .opt o λx=>(c x).bind f| .br b c d,f=> .br b (c.bind f) (d.bind f)
inductive TD where
 |bool|int (k:IntKind)|str
 |sl (elem:Nat)|ptr (elem:Nat)
 |struct (fs:List (Nat×Nat))
 |arr (n elem:Nat)
 |map (key elem:Nat)
 |other
structure TI where
 size:Nat
 bytes:Nat
 td:TD
 ty:Option Ty
 zero:List V
def dV{α:Type} :List (Nat×α)->Nat->Option α
 |[],_=>none|(k,v)::r,n=>bif Nat.beq k n then some v else dV r n
structure FSpec where
 ps:List MG
 rs:List MG
 outs:List MG
 fn:dX ps->Option (dX (rs++outs))
structure Env where
 nt:Nat
 eqs:List (Nat×List Ty)
 tt:List (Nat×TI)
 gl:List (Nat×(t:Ty)×List t.den)
 fs:List (Nat×FSpec)
 om:List (Nat×M):=[]
 tk:List Nat:=[]
 ms:List ((Nat×String)×Nat×Option Nat):=[]
 kp:List Nat:=[]
 rc:List Nat:=[]
abbrev aO:Nat:=1000000
abbrev CB:Nat:=1000000
abbrev PG:Nat:=1000000000000
def Ty.castL{R:Type u}(a b:Ty)(xs:List a.den)(k:List b.den->R)(f:R):R:=if h:a=b then k (h▸xs)else f
def Xk{R:Type u}(a b:Ty)(x:a.den)(k:b.den->R)(f:R):R:=if h:a=b then k (h▸x)else f
def flat:(t:Ty)->t.den->List V->List V
 | .bool,x,r=> .b x::r| .int k,n,r=> .i k n::r| .str,l,r=> .s l::r| .sl t,xs,r=> .sl t xs::r| .prod a b,x,r=>flat a x.1 (flat b x.2 r)| .unit,_,r=>r| .ent _ _ a b,x,r=>flat a x.1 (flat b x.2 r)
def iY{α:Type}(vw:Option (Nat×Nat))(xs:List α):List α:=match vw with|none=>xs|some (lo,hi)=>pF xs lo hi
def Iy:(m:M)->m.den->List V->List V
 | .dat t,x,r=>flat t x r| .pair a b,x,r=>Iy a x.1 (Iy b x.2 r)| .unit,_,r=>r|_,_,r=> .undef::r
def a4G{R:Type u}(a b:M)(xs:List a.den)(k:List b.den->R)(f:R):R:=match h:M.beq a b with
 |true=>k (M.beq_eq h▸xs)|false=>f
def a2J{R:Type u}(m:M)(t:Ty)(xs:List m.den)(k:List t.den->R)(f:R):R:=
 if h:m.el=true/\m.ty=t then k (cast (congrArg List ((M.denEq m h.1).trans (congrArg Ty.den h.2))) xs)else f
def M.owned:M->List Ty
 | .own t=>[t]| .owns m=>m.ty::m.owned| .pair a b=>a.owned++b.owned|_=>[]
def ZV(ln:Ty->Bool):List Ty->Bool|[]=>true|t::r=>bif ln t then ZV ln r else false
def oZ{α:Type}(ln:Ty->Bool):(t:Ty)->List V->(t.den->List V->Cmd α)->Cmd α
 | .bool,cs,K=>match cs with| .b x::r=>K x r|_=> .fail
 | .int k,cs,K=>match cs with| .i k' n::r=>(bif decide (k=k')then K n r else Cmd.fail)|_=> .fail
 | .str,cs,K=>match cs with| .s l::r=>K l r|_=> .fail
 | .prod a b,cs,K=>oZ ln a cs λx r=>oZ ln b r λy r' =>K (x,y) r'| .unit,cs,K=>K () cs| .ent ..,_,_=> .fail
 | .sl t,cs,K=>match cs with
  | .nl::r=>bif t.isEnt then .fail else K [] r| .sl t' xs::r=>Ty.castL t' t xs (λys=>K ys r) Cmd.fail
  | .own bx vw::r=> .get (aO+bx) λ
   | .barr t' xs=>Ty.castL t' t xs (λys=>bif ln t then K (iY vw ys) r else Cmd.set (aO+bx) (.bfrz t ys) (K (iY vw ys) r)) Cmd.fail| .bfrz t' xs=>Ty.castL t' t xs (λys=>K (iY vw ys) r) Cmd.fail| .barrs el xs none=>a2J el t xs (λys=>bif ln t&&ZV ln el.owned then K (iY vw ys) r else Cmd.set (aO+bx) (.bfrz t ys) (K (iY vw ys) r)) Cmd.fail|_=> .fail
  |_=> .fail
def Be:Ty->Bool:=λ_=>false
def a6O{α:Type}(t:Ty)(v:V)(K:List t.den->Cmd α):Cmd α:=match v with
 | .nl=>bif t.isEnt then .fail else K []| .ne _=>bif t.isEnt then .fail else K []| .sl t' xs=>Ty.castL t' t xs K Cmd.fail
 | .own bx vw=> .get (aO+bx) λ
  | .barr t' xs=>Ty.castL t' t xs (λys=>K (iY vw ys)) Cmd.fail| .bfrz t' xs=>Ty.castL t' t xs (λys=>K (iY vw ys)) Cmd.fail|_=> .fail
 |_=> .fail
def rpC{α:Type}(t:Ty)(v:V)(K:t.den->Cmd α):Cmd α:=match v with
 | .dp t' x 0=>Xk t' t x K .fail
 | .ptr bx 0=> .get (aO+bx) λ
  | .bfc t' x=>Xk t' t x K .fail
  | .bcells bs=>oZ Be t bs λx q=>(match q with
   |[]=> .get (aO+bx) λ
    | .bcells _=>Cmd.set (aO+bx) (.bfc t x) (K x)|_=> .fail
   |_=> .fail)
  |_=> .fail
 |_=> .fail
def MC{α:Type} :(ts:List Ty)->List ((t:Ty)×t.den)->(QP ts->Cmd α)->Cmd α
 |[],cs,K=>match cs with|[]=>K ()|_=> .fail
 |[t],cs,K=>match cs with|[⟨t',x⟩]=>Xk t' t x K .fail|_=> .fail
 |t::t' ::r,cs,K=>match cs with
  |⟨u,x⟩::cs=>Xk u t x (λx=>MC (t' ::r) cs λy=>K (x,y)) .fail|[]=> .fail
def QO:(ts:List Ty)->QP ts->List ((t:Ty)×t.den)
 |[],_=>[]|[t],x=>[⟨t,x⟩]|t::t' ::r,x=>⟨t,x.1⟩::QO (t' ::r) x.2
def exM{α:Type}(ln:Ty->Bool):(m:M)->List V->(m.den->List V->Cmd α)->Cmd α
 | .dat t,cs,K=>oZ ln t cs K
 | .own t,cs,K=>match cs with
  | .nl::r=>bif t.isEnt then .fail else K [] r
  | .own bx vw::r=> .get (aO+bx) λ
   | .barr t' xs=>Ty.castL t' t xs (λys=>Cmd.set (aO+bx) .dead (K (iY vw ys) r)) Cmd.fail|_=> .fail
  |_=> .fail
 | .pair a b,cs,K=>exM Be a cs λx r=>exM Be b r λy r' =>K (x,y) r'| .unit,cs,K=>K () cs
 | .box m,cs,K=>match cs with
  | .ptr bx 0::r=> .get (aO+bx) λ
   | .bcells bs=>Cmd.set (aO+bx) .dead (exM Be m bs λx q=>match q with|[]=>K x r|_=> .fail)|_=> .fail
  |_=> .fail
 | .owns m,cs,K=>match cs with
  | .nl::r=>bif m.el then K [] r else .fail
  | .own bx none::r=> .get (aO+bx) λ
   | .barrs m' xs none=>a4G m' m xs (λys=>Cmd.set (aO+bx) .dead (K ys r)) Cmd.fail|_=> .fail
  |_=> .fail
 | .ownb t,cs,K=>match cs with
  | .nl::r=>bif t.isEnt then .fail else K [] r
  | .own bx none::r=> .get (aO+bx) λ
   | .barr t' xs=>Ty.castL t' t xs (λys=>Cmd.set (aO+bx) (.gone t) (K ys r)) Cmd.fail|_=> .fail
  |_=> .fail
 | .rp t,cs,K=>match cs with
  |v::r=>rpC t v λx=>K x r|_=> .fail
 | .fn f ts,cs,K=>match cs with
  | .clos g caps::r=>bif Nat.beq g f then MC ts caps λx=>K x r else .fail
  | .fnv g::r=>bif Nat.beq g f then MC ts [] λx=>K x r else .fail|_=> .fail
 | .ifc t m,cs,K=>match cs with
  | .ifc t' v::r=>bif Nat.beq t' t then exM Be m [v] λx q=>(match q with|[]=>K x r|_=> .fail)else .fail|_=> .fail
 | .cell (some none),cs,K=>match cs with
  | .nl::r=>K () r|_=> .fail
 | .cell (some (some b)),cs,K=>match cs with
  | .ne true::r=>bif b then K () r else .fail| .ne false::r=>bif b then .fail else K () r|_=> .fail
 | .cell none,cs,K=>match cs with
  |_::r=>K () r|_=> .fail
def cellsOf(v:V):List V:=match v with| .agg cs=>cs|v=>[v]
def zD{α:Type}(n:Nat)(v:V)(K:Cmd α):Cmd α:=.get (aO+n) λ
 | .undef=> .set (aO+n) v K|_=> .fail
def emM{α:Type} :(m:M)->m.den->Nat->List V->(List V->Nat->Cmd α)->Cmd α
 | .dat t,x,n,r,K=>K (flat t x r) n| .own t,xs,n,r,K=>zD n (.barr t xs) (K (.own n none::r) (n+1))
 | .pair a b,x,n,r,K=>emM b x.2 n r λr' n' =>emM a x.1 n' r' K| .unit,_,n,r,K=>K r n
 | .box m,x,n,r,K=>emM m x (n+1) [] λcs n' =>zD n (.bcells cs) (K (.ptr n 0::r) n')| .owns m,xs,n,r,K=>zD n (.barrs m xs none) (.set (aO+(PG+n)) (.blen (x8 xs) m.size) (K (.own n none::r) (n+1)))| .ownb t,xs,n,r,K=>zD n (.barr t xs) (K (.own n none::r) (n+1))| .rp t,x,n,r,K=>K (.dp t x 0::r) n| .fn f ts,x,n,r,K=>K (.clos f (QO ts x)::r) n
 | .ifc t m,x,n,r,K=>emM m x n [] λcs n' =>match cs with|[c]=>K (.ifc t c::r) n'|_=> .fail
 | .cell (some none),_,n,r,K=>K (.nl::r) n| .cell (some (some b)),_,n,r,K=>K (.ne b::r) n| .cell none,_,n,r,K=>K (.undef::r) n
structure Sig where
 ms:List (Nat×MG)
 als:List (Nat×Nat)
@[reducible] def qo (s:Sig):Type:=dX (s.ms.map (·.2))
def TW{α:Type}(ag:Bool)(v:V)(K:List V->Cmd α):Cmd α:=match ag,v with
 |true,.agg cs=>K cs|true,_=> .fail|false,.agg _=> .fail|false,.tup _=> .fail|false,.undef=> .fail|false,.un=> .fail|false,v=>K [v]
def GI{α:Type}(v:V)(K:List V->Cmd α):Cmd α:=match v with
 | .agg cs=>K cs| .tup _=> .fail| .undef=> .fail| .un=> .fail|v=>K [v]
def M.isDat:M->Bool| .dat _=>true|_=>false
def Um{α:Type}(ln:Ty->Bool)(m:MG)(v:V)(K:m.2.den->Cmd α):Cmd α:=
 TW m.1 v λcs=>exM ln m.2 cs λx q=>match q with|[]=>K x|_=> .fail
def LG{α:Type}(ln:Ty->Bool):(ms:List MG)->List V->(dX ms->Cmd α)->Cmd α
 |[],vs,K=>match vs with|[]=>K ()|_=> .fail
 |[m],vs,K=>match vs with
  |[v]=>Um ln m v K|_=> .fail
 |m::m' ::r,vs,K=>match vs with
  |v::vs=>bif m.2.isDat then LG ln (m' ::r) vs λy=>Um ln m v λx=>K (x,y)
   else Um ln m v λx=>LG ln (m' ::r) vs λy=>K (x,y)
  |[]=> .fail
def YI{α:Type} :List Nat->(List V->Cmd α)->Cmd α
 |[],K=>K []
 |s::r,K=>bif Nat.blt s aO then .get s λv=>YI r λvs=>K (v::vs)else .fail
def b3V:V->V->Bool
 | .own a none,.own b none=>Nat.beq a b|_,_=>false
def b1X{α:Type} :List (Nat×Nat)->Cmd α->Cmd α
 |[],K=>K
 |(n,k)::r,K=>bif Nat.blt n aO&&Nat.blt k aO then .get n λv=> .get k λu=>bif b3V v u then b1X r K else .fail else .fail
def a8j(s:Sig):Cmd (qo s):=b1X s.als (YI (s.ms.map (·.1)) λvs=>LG Be (s.ms.map (·.2)) vs .ret)
def mkV(ag:Bool)(cs:List V):V:=match ag,cs with|true,cs=> .agg cs|false,[v]=>v|false,_=> .undef
def LD{α:Type} :(ms:List MG)->dX ms->Nat->(List V->Nat->Cmd α)->Cmd α
 |[],_,n,K=>K [] n
 |[m],x,n,K=>emM m.2 x n [] λcs n' =>K [mkV m.1 cs] n'
 |m::m' ::r,x,n,K=>emM m.2 x.1 n [] λcs n' =>LD (m' ::r) x.2 n' λvs n'' =>K (mkV m.1 cs::vs) n''
def VS:List Nat->List V->Cmd Unit
 |[],[]=> .ret ()|n::ns,v::vs=>bif Nat.blt n aO then .set n v (VS ns vs)else .fail|_,_=> .fail
def Tq:List Nat->List V->Cmd Unit->Cmd Unit
 |[],[],K=>K|n::ns,v::vs,K=>bif Nat.blt n aO then .set n v (Tq ns vs K)else .fail|_,_,_=> .fail
def Zx:List (Nat×Nat)->Cmd Unit
 |[]=> .ret ()
 |(n,k)::r=>bif Nat.blt n aO&&Nat.blt k aO then .get k λv=> .set n v (Zx r)else .fail
def a8b(s:Sig)(x:qo s)(nb lim:Nat):Cmd Unit:=
 LD (s.ms.map (·.2)) x nb λvs n=>bif Nat.ble n lim then Tq (s.ms.map (·.1)) vs (Zx s.als)else .fail
def a2y:Value->V
 | .bool b=> .b b| .int k n=> .i k n| .string s=> .s s.data.toList| .slice none 0 0=> .nl|_=> .undef
def qH{α:Type}(x:Operand)(K:V->Cmd α):Cmd α:=
 match x with
 | .tmp t=>bif Nat.blt t aO then .get t K else .fail| .const v=>K (a2y v)| .global g=>K (.glob g)| .func f=>K (.fnv f)
def Rz{α:Type} :List Operand->(List V->Cmd α)->Cmd α
 |[],K=>K []
 |x::r,K=>qH x λv=>Rz r λvs=>K (v::vs)
def Uk(n:Nat)(cs:List V):Option (List V):=match n,cs with
 |0,cs=>some cs|n+1,_::cs=>Uk n cs|_+1,[]=>none
def a2a{R:Type u}(n:Nat)(cs:List V)(K:List V->R)(f:R):R:=match n,cs with
 |0,_=>K []|n+1,c::cs=>a2a n cs (λr=>K (c::r)) f|_+1,[]=>f
def WT{R:Type u}(off n:Nat)(cs:List V)(K:List V->R)(f:R):R:=match Uk off cs with|some r=>a2a n r K f|none=>f
def Qw{R:Type u}(off:Nat)(vs cs:List V)(K:List V->R)(f:R):R:=match off,vs,cs with
 |0,[],cs=>K cs|0,v::vs,_::cs=>Qw 0 vs cs (λr=>K (v::r)) f|n+1,vs,c::cs=>Qw n vs cs (λr=>K (c::r)) f|_,_,[]=>f
def Dn:Operand->Bool
 | .const (.int _ n)=>decide (n=0)|_=>true
def FZ:Operand->Bool
 | .const (.int _ n)=>decide (n<0)|_=>true
def eq1:V->V->Option Bool
 | .b x,.b y=>some (jd x y)| .i j x,.i k y=>bif decide (j=k)then some (o8 x y)else none| .s x,.s y=>some (seq x y)|_,_=>none
def zJ:List V->List V->Option Bool
 |[],[]=>some true
 |a::r,b::q=>match eq1 a b with
  |none=>none
  |some e=>match r,q with
   |[],[]=>some e|_,_=>(match zJ r q with|some e' =>some (dE e e')|none=>none)
 |_,_=>none
def Aj:List Ty->List V->Bool
 |[],[]=>true| .bool::ts,.b _::cs=>Aj ts cs| .int k::ts,.i k' _::cs=>decide (k=k')&&Aj ts cs| .str::ts,.s _::cs=>Aj ts cs|_,_=>false
def DU(n:Nat):List Nat->Bool|[]=>false|k::r=>bif Nat.beq k n then true else DU n r
def a8R{α:Type}(E:Env)(t:Nat)(op:BinOp)(b:Bool)(K:V->Cmd α):Cmd α:=
 match dV E.tt t with
 |some i=>match i.td,op with
  | .sl _,.eql=>K (.b b)| .sl _,.neq=>K (.b (E9 b))|_,_=> .fail
 |none=> .fail
def Ja{α:Type}(E:Env)(t:Nat)(op:BinOp)(yc:Operand)(x y:V)(K:V->Cmd α):Cmd α:=
 match x,y with
 | .i k a,.i k' b=>
  match op with
  | .shl=>bif FZ yc then Cmd.opt (UG k a b) λr=>K (.i k r)else K (.i k (a8s k a b))
  | .shr=>bif FZ yc then Cmd.opt (UH k a b) λr=>K (.i k r)else K (.i k (rY k a b))|_=>
  bif decide (k=k')then
   match op with
   | .add=>K (.i k (D7 k a b))| .sub=>K (.i k (H9 k a b))| .mul=>K (.i k (X9 k a b))
   | .quo=>bif Dn yc then Cmd.opt (oG k a b) λr=>K (.i k r)else K (.i k (bQ k a b))
   | .rem=>bif Dn yc then Cmd.opt (xG a b) λr=>K (.i k r)else K (.i k (cZ a b))| .and=>K (.i k (a0I k a b))| .or=>K (.i k (ior k a b))| .xor=>K (.i k (a8u k a b))| .andNot=>K (.i k (a4R k a b))| .eql=>K (.b (o8 a b))| .neq=>K (.b (E9 (o8 a b)))| .lss=>K (.b (D9 a b))| .leq=>K (.b (J6 a b))| .gtr=>K (.b (D9 b a))| .geq=>K (.b (J6 b a))|_=> .fail
  else .fail
 | .s a,.s b=>
  match op with
  | .add=>Cmd.opt (uw a b) λr=>K (.s r)| .eql=>K (.b (seq a b))| .neq=>K (.b (E9 (seq a b)))| .lss=>K (.b (slt a b))|_=> .fail
 | .b a,.b b=>
  match dV E.tt t with
  |some i=>match i.td,op with
   | .bool,.eql=>K (.b (jd a b))| .bool,.neq=>K (.b (E9 (jd a b)))|_,_=> .fail
  |none=> .fail
 | .agg xs,.agg ys=>
  match dV E.eqs t with
  |some sh=>bif Aj sh xs&&Aj sh ys then(match op,zJ xs ys with
   | .eql,some e=>K (.b e)| .neq,some e=>K (.b (E9 e))
   |_,_=> .fail)else .fail
  |none=> .fail
 | .nl,.nl=>a8R E t op true K| .ne b,.nl=>a8R E t op b K| .sl u xs,.nl=>bif u.isEnt then .fail else .br (o8 (x8 xs) 0) .fail (a8R E t op false K)|_,_=> .fail
def unC{α:Type}(op:UnOp)(x:V)(K:V->Cmd α):Cmd α:=
 match op,x with
 | .neg,.i k a=>K (.i k (H9 k 0 a))| .xor,.i k a=>K (.i k (a8u k (bif k.signed then -1 else k.max) a))| .not,.b a=>K (.b (E9 a))|_,_=> .fail
def XV(E:Env)(t:Nat):Bool:=bif Nat.blt t E.nt then !(DU t E.kp)else false
def fH(E:Env)(d:Option Tmp)(v:V):Cmd Unit:=match d with|some t=>bif XV E t then .set t v (.ret ())else .fail|none=> .ret ()
def U1(q:Nat)(d:Option Tmp):Nat:=match d with|some t=>CB*q+64*t|none=>CB*q+999936
def tiC{α:Type}(E:Env)(t:Nat)(K:TI->Cmd α):Cmd α:=match dV E.tt t with|some i=>K i|none=> .fail
def bi:TD->Bool| .struct _| .arr _ _=>true|_=>false
def LJ{α:Type}(E:Env)(t:Nat)(p:V)(K:V->Cmd α):Cmd α:=
 tiC E t λi=>match p with
 | .ptr bx off=> .get (aO+bx) λ
  | .bcells cs=>WT off i.size cs (λr=>K (mkV (bi i.td) r)) Cmd.fail| .bfc u x=>WT off i.size (flat u x []) (λr=>K (mkV (bi i.td) r)) Cmd.fail|_=> .fail
 | .ep bx idx off=> .get (aO+bx) λ
  | .barr u xs=>Cmd.opt (Y3 xs idx) λx=>WT off i.size (flat u x []) (λr=>K (mkV (bi i.td) r)) Cmd.fail
  | .bfrz u xs=>Cmd.opt (Y3 xs idx) λx=>WT off i.size (flat u x []) (λr=>K (mkV (bi i.td) r)) Cmd.fail
  | .barrs m xs _=>Cmd.opt (Y3 xs idx) λx=>WT off i.size (Iy m x []) (λr=>K (mkV (bi i.td) r)) Cmd.fail|_=> .fail
 | .dp u x off=>WT off i.size (flat u x []) (λr=>K (mkV (bi i.td) r)) Cmd.fail|_=> .fail
def Vq{R:Type u} :(m:M)->Nat->m.den->(V->R)->R->R
 | .own t,off,xs,K,f=>bif Nat.beq off 0 then K (.barr t xs)else f| .owns m,off,xs,K,f=>bif Nat.beq off 0 then K (.barrs m xs none)else f| .pair a b,off,x,K,f=>bif Nat.blt off a.size then Vq a off x.1 K f else Vq b (off -a.size) x.2 K f|_,_,_,_,f=>f
def a2W{R:Type u} :(m:M)->Nat->V->m.den->(m.den->R)->R->R
 | .own t,off,v,_,K,f=>bif Nat.beq off 0 then(match v with| .barr t' ys=>Ty.castL t' t ys K f| .nl=>bif t.isEnt then f else K []|_=>f)else f| .owns m,off,v,_,K,f=>bif Nat.beq off 0 then(match v with| .barrs m' ys none=>a4G m' m ys K f| .nl=>K []|_=>f)else f| .pair a b,off,v,x,K,f=>bif Nat.blt off a.size then a2W a off v x.1 (λy=>K (y,x.2)) f else a2W b (off -a.size) v x.2 (λy=>K (x.1,y)) f|_,_,_,_,_,f=>f
def a5Y{α:Type} :(m:M)->Nat->List V->m.den->(m.den->Cmd α)->Cmd α
 | .dat t,off,vs,x,K=>bif t.flat then Qw off vs (flat t x []) (λr=>oZ Be t r λy q=>match q with|[]=>K y|_=> .fail) .fail else .fail| .pair a b,off,vs,x,K=>bif Nat.blt off a.size then a5Y a off vs x.1 (λy=>K (y,x.2))else a5Y b (off -a.size) vs x.2 (λy=>K (x.1,y))|_,_,_,_,_=> .fail
def M.ownAt:M->Nat->Bool
 | .own _,off=>Nat.beq off 0| .owns _,off=>Nat.beq off 0| .pair a b,off=>bif Nat.blt off a.size then a.ownAt off else b.ownAt (off -a.size)|_,_=>false
def YK(h:Option (Nat×Nat×Option Nat))(idx off:Nat):Bool:=match h with|none=>true|some (i,o,_)=>bif Nat.beq o off then MS i idx else false
def b3C{α:Type}(E:Env)(d:Option Tmp)(nm t:Nat)(p:V)(K:V->Cmd α):Cmd α:=
 match p with
 | .ep bx idx off=> .get (aO+bx) λ
  | .barrs m xs none=>bif m.ownAt off then tiC E t λi=>(bif Nat.beq i.size 1&&!bi i.td then
     (bif DU (match d with|some d=>d|none=>aO) E.tk then
      Cmd.opt (Y3 xs idx) λx=>Vq m off x (λv=>Cmd.set (aO+bx) (.barrs m xs (some (idx,off,none))) (zD nm v (Cmd.set (aO+bx) (.barrs m xs (some (idx,off,some nm))) (K (.own nm none))))) .fail
     else oZ Be (.sl m.ty) [.own bx none] λ_ _=>LJ E t p K)else .fail)
    else LJ E t p K
  | .barrs m xs (some (i,o,some n))=>bif m.ownAt off then tiC E t λj=>(bif Nat.beq j.size 1&&!bi j.td then
     .br (YK (some (i,o,some n)) idx off) (K (.own n none)) .fail else .fail)
    else LJ E t p K
  |_=>LJ E t p K
 |_=>LJ E t p K
def ZH(bx idx off:Nat)(m:M)(xs:List m.den)(hole:Option (Nat×Nat×Option Nat))(v:V)(K:Cmd Unit):Cmd Unit:=
 .br (YK hole idx off) (Cmd.opt (Y3 xs idx) λx=>a2W m off v x (λy=>Cmd.set (aO+bx) (.barrs m (bu xs idx y) none) K) .fail) .fail
def b6X:V->Bool| .barr ..=>true| .barrs _ _ none=>true|_=>false
def b1z(E:Env)(t:Nat)(p v:V):Cmd Unit:=
 tiC E t λi=>match p with
 | .ptr bx off=> .get (aO+bx) λ
  | .bcells cs=>GI v λvs=>bif Nat.beq vs.length i.size then Qw off vs cs (λr=>Cmd.set (aO+bx) (.bcells r) (.ret ())) Cmd.fail else .fail|_=> .fail
 | .ep bx idx off=> .get (aO+bx) λ
  | .barr u xs=>Cmd.opt (Y3 xs idx) λx=>GI v λvs=>bif Nat.beq vs.length i.size then Qw off vs (flat u x []) (λr=>
    oZ Be u r λy q=>match q with
     |[]=> .get (aO+bx) λ
      | .barr u' xs' =>Ty.castL u' u xs' (λxs' =>Cmd.set (aO+bx) (.barr u (bu xs' idx y)) (.ret ())) Cmd.fail|_=> .fail
     |_=> .fail) Cmd.fail else .fail
  | .barrs m xs hole=>bif m.ownAt off&&Nat.beq i.size 1&&!bi i.td then(match v with
    | .nl=>ZH bx idx off m xs hole .nl (.ret ())
    | .own b2 none=> .get (aO+b2) λw=>bif b6X w then Cmd.set (aO+b2) .dead (.get (aO+bx) λ
     | .barrs m xs hole=>ZH bx idx off m xs hole w (.ret ())
     |_=> .fail)else .fail
    |_=> .fail)
   else match hole with
    |none=>GI v λvs=>bif Nat.beq vs.length i.size then Cmd.opt (Y3 xs idx) λx=>a5Y m off vs x λy=>Cmd.set (aO+bx) (.barrs m (bu xs idx y) none) (.ret ())else .fail|some _=> .fail
  |_=> .fail
 |_=> .fail
def szB(sz:Nat)(u:Ty):Bool:=bif u.isEnt then false else Nat.beq sz u.size
def Jh(E:Env)(t f:Nat):Option (Nat×Nat×Bool):=
 match dV E.tt t with
 |some i=>match i.td with
  | .struct fs=>match fs[f]? with
   |some (ft,off)=>match dV E.tt ft with|some j=>bif Nat.beq j.size 0 then none else some (off,j.size,bi j.td)|none=>none
   |none=>none
  |_=>none
 |none=>none
def a0R(vw:Option (Nat×Nat)):Nat:=match vw with|none=>0|some (lo,_)=>lo
def b4M(vw:Option (Nat×Nat))(n:Nat):Nat:=match vw with|none=>n|some (lo,_)=>lo+n
theorem b2n(vw:Option (Nat×Nat))(n:Nat):b4M vw n=a0R vw+n:=by cases vw<;>simp[b4M,a0R]
def GL(E:Env)(t:Nat):Option (Bool×Nat×Nat):=
 match dV E.tt t with
 |some i=>match i.td with
  | .sl e=>match dV E.tt e with|some j=>some (false,0,j.size)|none=>none
  | .arr n e=>match dV E.tt e with|some j=>some (true,n,j.size)|none=>none
  |_=>none
 |none=>none
def UE{α:Type}(E:Env)(t:Nat)(x ix:V)(K:V->Cmd α):Cmd α:=
 match ix,GL E t with
 | .i _ n,some (false,_,sz)=>match x with
  | .sl u xs=>bif szB sz u then Cmd.opt (H8 xs n) λy=>K (.dp u y 0)else .fail
  | .own bx vw=> .get (aO+(PG+bx)) λ
   | .blen ln sz' =>(match vw with|none=>bif Nat.beq sz sz' then .br (inb n ln) (K (.ep bx (Y0 n) 0)) .fail else .fail|_=> .fail)
   |_=> .get (aO+bx) λ
   | .barr u xs=>bif szB sz u then Cmd.opt (H8 (iY vw xs) n) λ_=>K (.ep bx (b4M vw (Y0 n)) 0)else .fail
   | .bfrz u xs=>bif szB sz u then Cmd.opt (H8 (iY vw xs) n) λy=>K (.dp u y 0)else .fail| .barrs m xs _=>(match vw with|none=>bif Nat.beq sz m.size then Cmd.opt (H8 xs n) λ_=>K (.ep bx (Y0 n) 0)else .fail|_=> .fail)|_=> .fail
  |_=> .fail
 | .i _ n,some (true,l,sz)=>match x with
  | .glob g=>match dV E.gl g with
   |some ⟨u,xs⟩=>bif Nat.beq sz u.size&&Nat.beq l xs.length then Cmd.opt (H8 xs n) λy=>K (.dp u y 0)else .fail|none=> .fail
  |_=> .fail
 |_,_=> .fail
def b6Z{α:Type}(td:TD)(x:V)(K:V->Cmd α):Cmd α:=
 match td,x with
 | .str,.s l=>K (.i .i64 (x8 l))| .sl _,.sl t xs=>bif t.isEnt then .fail else K (.i .i64 (x8 xs))| .map ..,.sl t xs=>bif t.isEnt then K (.i .i64 (x8 xs))else .fail
 | .map ..,.own bx none=> .get (aO+bx) λ
  | .barr t xs=>bif t.isEnt then K (.i .i64 (x8 xs))else .fail| .bfrz t xs=>bif t.isEnt then K (.i .i64 (x8 xs))else .fail|_=> .fail
 | .sl _,.nl=>K (.i .i64 0)
 | .sl _,.own bx vw=> .get (aO+(PG+bx)) λ
  | .blen ln _=>(match vw with|none=>K (.i .i64 ln)|_=> .fail)
  |_=> .get (aO+bx) λ
  | .barr t xs=>bif t.isEnt then .fail else K (.i .i64 (x8 (iY vw xs)))| .bfrz t xs=>bif t.isEnt then .fail else K (.i .i64 (x8 (iY vw xs)))| .barrs _ xs _=>(match vw with|none=>K (.i .i64 (x8 xs))|_=> .fail)|_=> .fail
 |_,_=> .fail
def AB(d:Int):Option V->Option Int
 |none=>some d|some (.i _ n)=>some n|some _=>none
def QK{α:Type}(E:Env)(t:Nat)(x:V)(lo hi:Option V)(K:V->Cmd α):Cmd α:=
 match x with
 | .s l=>tiC E t λi=>match i.td,AB 0 lo,AB (x8 l) hi with
  | .str,some a,some b=>Cmd.opt (BM l a b) λr=>K (.s r)|_,_,_=> .fail
 | .sl u l=>match GL E t,AB 0 lo,AB (x8 l) hi with
  |some (false,_,sz),some a,some b=>bif szB sz u then Cmd.opt (BM l a b) λr=>K (.sl u r)else .fail|_,_,_=> .fail
 | .own bx none=> .get (aO+bx) λ
  | .barr u xs=>match GL E t,AB 0 lo,AB (x8 xs) hi with
   |some (false,_,sz),some a,some b=>bif szB sz u then .br (sS a b (x8 xs)) (K (.own bx (some (Y0 a,Y0 b)))) .fail else .fail|_,_,_=> .fail
  | .bfrz u xs=>match GL E t,AB 0 lo,AB (x8 xs) hi with
   |some (false,_,sz),some a,some b=>bif szB sz u then .br (sS a b (x8 xs)) (K (.own bx (some (Y0 a,Y0 b)))) .fail else .fail|_,_,_=> .fail
  |_=> .fail
 |_=> .fail
def GN(E:Env)(t:Nat):Option (Nat×Ty):=
 match dV E.tt t with
 |some i=>match i.td with
  | .sl e=>match dV E.tt e with
   |some j=>match j.ty with|some u=>bif (Nat.beq u.size j.size&&Nat.ble j.bytes 65536&&!u.isEnt)then some (e,u)else none|none=>none
   |none=>none
  |_=>none
 |none=>none
def a4C(E:Env)(nm:Nat)(t:Nat)(x y:V)(K:V->Cmd Unit):Cmd Unit:=
 match GN E t with
 |none=> .fail
 |some (_,u)=>match dV E.om t with
  |none=>
   a6O u y λys=>
   match x with
   | .nl=>Cmd.opt (mM [] ys) λzs=>zD nm (.barr u zs) (K (.own nm none))
   | .own bx vw=> .get (aO+bx) λ
    | .barr u' xs=>Ty.castL u' u xs (λxs=>Cmd.opt (mM (iY vw xs) ys) λzs=>Cmd.set (aO+bx) .dead (zD nm (.barr u zs) (K (.own nm none)))) Cmd.fail|_=> .fail
   |_=> .fail
  |some m=>bif Nat.beq m.size u.size then exM Be (.owns m) [y] λys _=>exM Be (.owns m) [x] λxs _=>Cmd.opt (mM xs ys) λzs=>zD nm (.barrs m zs none) (K (.own nm none))else .fail
def yR{α:Type}(u:Ty):List (Nat×V)->Nat->Nat->(List u.den->Cmd α)->Cmd α
 |[],_,0,K=>K []
 |(i,v)::r,n,m+1,K=>bif Nat.beq i n then GI v λcs=>oZ Be u cs λx q=>match q with|[]=>yR u r (n+1) m λxs=>K (x::xs)|_=> .fail else .fail
 |_,_,_,_=> .fail
def ww{α:Type}(m:M):List (Nat×V)->Nat->Nat->(List m.den->Cmd α)->Cmd α
 |[],_,0,K=>K []
 |(i,v)::r,n,k+1,K=>bif Nat.beq i n then GI v λcs=>exM Be m cs λx q=>match q with|[]=>ww m r (n+1) k λxs=>K (x::xs)|_=> .fail else .fail
 |_,_,_,_=> .fail
def a4x(E:Env):List (Nat×Nat)->Bool
 |[]=>true
 |(t,_)::r=>match dV E.tt t with|some _=>a4x E r|none=>false
def BR{α:Type}(E:Env)(t:Nat):List (Nat×V)->List V->(List V->Cmd α)->Cmd α
 |[],cs,K=>K cs
 |(f,v)::r,cs,K=>match Jh E t f with
  |some (off,n,_)=>GI v λvs=>bif Nat.beq vs.length n then Qw off vs cs (λcs' =>BR E t r cs' K) .fail else .fail|none=> .fail
def bY{α:Type} :List MG->List V->List V->Cmd α->Cmd α
 |(_,.box _)::ms,.ptr bx _::vs,.agg cs::os,K=> .get (aO+bx) λ
  | .dead=>Cmd.set (aO+bx) (.bcells cs) (bY ms vs os K)|_=> .fail
 |(_,.box _)::_,_,_,_=> .fail
 |(_,.ifc _ (.box _))::ms,.ifc _ (.ptr bx _)::vs,.agg cs::os,K=> .get (aO+bx) λ
  | .dead=>Cmd.set (aO+bx) (.bcells cs) (bY ms vs os K)|_=> .fail
 |(_,.ifc _ (.box _))::_,_,_,_=> .fail
 |(_,.ownb _)::ms,.own bx none::vs,.own nm none::os,K=> .get (aO+nm) λ
  | .barr u xs=>Cmd.set (aO+nm) .dead (.get (aO+bx) λ
   | .gone t=>Ty.castL u t xs (λxs=>Cmd.set (aO+bx) (.barr t xs) (bY ms vs os K)) .fail
   |_=> .fail)
  |_=> .fail
 |(_,.ownb _)::ms,.nl::vs,.own nm none::os,K=>Cmd.set (aO+nm) .dead (bY ms vs os K)|(_,.ownb _)::_,_,_,_=> .fail|_::ms,_::vs,os,K=>bY ms vs os K|[],[],[],K=>K|_,_,_,_=> .fail
def Ty.occ(t:Ty):Ty->Bool
 | .sl u=>decide (t=u) || Ty.occ t u| .prod a b=>Ty.occ t a || Ty.occ t b| .ent _ _ a b=>Ty.occ t a || Ty.occ t b|_=>false
def Rx(t:Ty):List Ty->Bool|[]=>false|u::r=>decide (t=u) || Ty.occ t u || Rx t r
def M.occ(t:Ty):M->Bool
 | .dat u=>Ty.occ t u| .own u=>Ty.occ t u| .pair a b=>a.occ t || b.occ t| .unit=>false| .box m=>m.occ t| .owns m=>m.occ t| .ownb u=>Ty.occ t u| .rp u=>decide (t=u) || Ty.occ t u| .fn _ ts=>Rx t ts| .ifc _ m=>m.occ t| .cell _=>false
def Jv(t:Ty):List MG->Bool|[]=>false|m::r=>m.2.occ t || Jv t r
def YP(s:FSpec):Ty->Bool:=λt=> !(Jv t s.rs || Jv t s.outs)
def Ig:Nat->List V->Option (List V×List V)
 |0,vs=>some ([],vs)
 |n+1,v::vs=>match Ig n vs with|some (a,b)=>some (v::a,b)|none=>none
 |_+1,[]=>none
def Fg:List V->Bool|[]=>false| .tup _::_=>true|_::r=>Fg r
def b2J:List V->V|[v]=>v|vs=> .tup vs
def Qa:List MG->List V->Bool
 |(_,.fn g _)::ms,.clos f _::vs=>Nat.beq f g&&Qa ms vs|(_,.fn g _)::ms,.fnv f::vs=>Nat.beq f g&&Qa ms vs|(_,.ifc t _)::ms,.ifc t' _::vs=>Nat.beq t t' &&Qa ms vs|_::ms,_::vs=>Qa ms vs|_,_=>true
def a1s:List (Nat×FSpec)->Nat->List V->Option FSpec
 |[],_,_=>none|(g,s)::r,f,vs=>bif Nat.beq g f&&Qa s.ps vs then some s else a1s r f vs
def Xi(E:Env)(q:Nat)(d:Option Tmp)(f:Nat)(vs:List V):Cmd Unit:=
 match a1s E.fs f vs with
 |none=> .fail|some s=>
  LG (YP s) s.ps vs λx=>Cmd.opt (s.fn x) λr=>
   LD (s.rs++s.outs) r (U1 q d) λws n' =>bif Nat.ble n' (U1 q d+64)then(match Ig s.rs.length ws with
    |some (a,o)=>bif Fg a then .fail else bY s.ps vs o (fH E d (b2J a))
    |none=> .fail)else .fail
def Az{α:Type} :List MG->List V->(List ((t:Ty)×t.den)->Cmd α)->Cmd α
 |(_,.rp t)::ms,v::vs,K=>rpC t v λx=>Az ms vs λcs=>K (⟨t,x⟩::cs)|[],[],K=>K []|_,_,_=> .fail
def b6V(c:(t:Ty)×t.den):V:=.dp c.1 c.2 0
def UY:List ((Nat×String)×Nat×Option Nat)->Nat->String->Option (Nat×Option Nat)
 |[],_,_=>none|((t,n),r)::l,u,m=>bif Nat.beq t u&&(n==m)then some r else UY l u m
def Ty.leaves:Ty->List Ty
 | .prod a b=>a.leaves++b.leaves| .unit=>[]|t=>[t]
def QH:List Ty->List Ty->Bool
 |[],[]=>true|a::r,b::q=>bif Ty.beq a b then QH r q else false|_,_=>false
def a0K(E:Env)(ke:Nat)(td:TD)(k:Ty):Bool:=
 match td,k with
 | .bool,.bool=>true| .int i,.int j=>decide (i=j)| .str,.str=>true| .struct _,k=>bif k.flat then(match dV E.eqs ke with|some sh=>QH sh k.leaves|none=>false)else false|_,_=>false
structure MT where
 ke:Nat
 el:Nat
 ka:Bool
 va:Bool
 k:Ty
 v:Ty
abbrev MT.ent(m:MT):Ty:=.ent m.ka m.va m.k m.v
def Og(E:Env)(t:Nat):Option MT:=
 match dV E.tt t with
 |some i=>match i.td with
  | .map ke el=>match dV E.tt ke,dV E.tt el with
   |some a,some b=>(match a.ty,b.ty with
    |some k,some v=>bif a0K E ke a.td k&&k.flat then some ⟨ke,el,bi a.td,bi b.td,k,v⟩else none
    |_,_=>none)
   |_,_=>none
  |_=>none
 |none=>none
def a7R{α:Type}(ag:Bool)(t:Ty)(v:V)(K:t.den->Cmd α):Cmd α:=
 TW ag v λcs=>oZ Be t cs λx q=>match q with|[]=>K x|_=> .fail
def a9r{α:Type}(u:Ty)(v:V)(K:List u.den->Cmd α):Cmd α:=
 match v with
 | .sl t xs=>Ty.castL t u xs K .fail
 | .own bx none=> .get (aO+bx) λ
  | .barr t xs=>Ty.castL t u xs K .fail| .bfrz t xs=>Ty.castL t u xs K .fail|_=> .fail
 |_=> .fail
def Jp(E:Env)(nm t:Nat)(K:V->Cmd Unit):Cmd Unit:=
 match Og E t with
 |some m=>zD nm (.barr m.ent []) (K (.own nm none))|none=> .fail
def a4Z(E:Env)(t:Nat)(ok:Bool)(x ix:V)(K:V->Cmd Unit):Cmd Unit:=
 match Og E t with
 |some m=>a7R m.ka m.k ix λkey=>a9r m.ent x λes=>
   bif ok then K (.tup [mkV m.va (flat m.v (IR (keq m.k) es key m.v.zero) []),.b (Jr (keq m.k) es key)])
   else K (mkV m.va (flat m.v (IR (keq m.k) es key m.v.zero) []))
 |none=> .fail
def ZL(E:Env)(t:Nat)(x ix y:V):Cmd Unit:=
 match Og E t with
 |some m=>a7R m.ka m.k ix λkey=>a7R m.va m.v y λz=>match x with
  | .own bx none=> .get (aO+bx) λ
   | .barr u xs=>Ty.castL u m.ent xs (λes=>Cmd.set (aO+bx) (.barr m.ent (Ll (keq m.k) es key z)) (.ret ())) .fail|_=> .fail
  |_=> .fail
 |none=> .fail
def Rw:M->List V->Bool
 | .dat _,_=>true| .unit,_=>true
 | .own t,cs=>match cs with| .nl::_=> !t.isEnt|_=>false
 | .owns _,cs=>match cs with| .nl::_=>true|_=>false
 | .pair a b,cs=>match Uk a.size cs with|some r=>bif Rw a cs then Rw b r else false|none=>false
 |_,_=>false
def a5L(E:Env)(t:Nat)(m:M):Bool:=
 match GN E t with
 |some (e,_)=>match dV E.tt e with|some j=>bif Nat.beq j.zero.length j.size then Rw m j.zero else false|none=>false
 |none=>false
def VO:Operand->Operand->Bool
 | .tmp a,.tmp b=>Nat.beq a b|_,_=>false
def bZ(E:Env)(q:Nat)(o:Oper):Cmd Unit:=
 match o.op with
 | .move x| .assign x=>qH x λv=>fH E o.dst v
 | .pick c a b=>qH c λ
  | .b t=>bif t then qH a λva=>fH E o.dst va else qH b λvb=>fH E o.dst vb|_=> .fail
 | .alloc t=>tiC E t λi=>bif Nat.beq i.zero.length i.size then zD (U1 q o.dst) (.bcells i.zero) (fH E o.dst (.ptr (U1 q o.dst) 0))else .fail
 | .box _ x=>qH x λv=>GI v λcs=>zD (U1 q o.dst) (.bcells cs) (fH E o.dst (.ptr (U1 q o.dst) 0))
 | .build t ps=>tiC E t λi=>match i.td with
  | .struct fs=>bif a4x E fs&&Nat.beq i.zero.length i.size then(Rz (ps.toList.map (·.2)) λvs=>
    BR E t ((ps.toList.map (·.1)).zip vs) i.zero (λcs=>fH E o.dst (.agg cs)))else .fail
  |_=> .fail
 | .buildSlice t n ps=>match GN E t with
  |some (_,u)=>bif Nat.ble (n*u.size) 16777216 then(Rz (ps.toList.map (·.2)) λvs=>match dV E.om t with
    |none=>yR u ((ps.toList.map (·.1)).zip vs) 0 n λxs=>zD (U1 q o.dst) (.barr u xs) (fH E o.dst (.own (U1 q o.dst) none))
    |some m=>bif Nat.beq m.size u.size&&m.el then ww m ((ps.toList.map (·.1)).zip vs) 0 n λxs=>zD (U1 q o.dst) (.barrs m xs none) (fH E o.dst (.own (U1 q o.dst) none))else .fail)else .fail
  |none=> .fail
 | .load t x=>qH x λp=>b3C E o.dst (U1 q o.dst) t p λv=>fH E o.dst v
 | .store t x y=>match o.dst with|none=>qH x λp=>qH y λv=>b1z E t p v|some _=> .fail
 | .binOp op t x y _=>qH x λa=>qH y λb=>Ja E t op y a b λv=>fH E o.dst v
 | .unOp op _ x=>qH x λa=>unC op a λv=>fH E o.dst v
 | .convert src t x=>qH x λa=>tiC E src λj=>tiC E t λi=>match a,i.td with
  | .i _ n,.int k=>fH E o.dst (.i k (wrap k n))| .s l,.str=>fH E o.dst (.s l)
  |_,.str=>(match j.td with
   | .sl e=>tiC E e λk=>(match k.td with
    | .int .u8=>a6O (.int .u8) a λxs=>fH E o.dst (.s (a7M xs))
    |_=> .fail)
   |_=> .fail)
  |_,_=> .fail
 | .makeSlice t l c=>match dV E.om t with
  |some m=>(match GN E t with
   |some (_,u)=>qH l λ
    | .i _ n=>bif VO l c&&Nat.beq m.size u.size&&a5L E t m then(if h:m.el=true/\m.ty=u then Cmd.opt (sU n (m.zero h.1)) λxs=>zD (U1 q o.dst) (.barrs m xs none) (.set (aO+(PG+U1 q o.dst)) (.blen (x8 xs) m.size) (fH E o.dst (.own (U1 q o.dst) none)))else .fail)else .fail|_=> .fail
   |none=> .fail)
  |none=>match GN E t with
  |some (_,u)=>qH l λ
   | .i _ n=>bif VO l c then
     Cmd.opt (sU n u.zero) λxs=>zD (U1 q o.dst) (.barr u xs) (fH E o.dst (.own (U1 q o.dst) none))
    else qH c λ
     | .i _ k=>Cmd.br (sS n k 1073741824) (Cmd.opt (sU n u.zero) λxs=>zD (U1 q o.dst) (.barr u xs) (fH E o.dst (.own (U1 q o.dst) none))) .fail|_=> .fail
   |_=> .fail
  |none=> .fail
 | .slice t x lo hi none=>qH x λv=>Rz (lo.toList++hi.toList) λbs=>
   match lo,hi,bs with
   |none,none,[]=>QK E t v none none λr=>fH E o.dst r
   |some _,none,[a]=>QK E t v (some a) none λr=>fH E o.dst r
   |none,some _,[b]=>QK E t v none (some b) λr=>fH E o.dst r
   |some _,some _,[a,b]=>QK E t v (some a) (some b) λr=>fH E o.dst r|_,_,_=> .fail
 | .fieldAddr t x f=>qH x λp=>match Jh E t f with
  |some (off,_,_)=>match p with
   | .ptr bx o' =>fH E o.dst (.ptr bx (o' +off))| .ep bx ix o' =>fH E o.dst (.ep bx ix (o' +off))| .dp u y o' =>fH E o.dst (.dp u y (o' +off))|_=> .fail
  |none=> .fail
 | .field t x f=>qH x λp=>match Jh E t f with
  |some (off,n,ag)=>TW true p λps=>WT off n ps (λcs=>fH E o.dst (mkV ag cs)) Cmd.fail|none=> .fail
 | .indexAddr t x ix=>qH x λv=>qH ix λn=>UE E t v n λr=>fH E o.dst r
 | .index t x ix=>qH x λv=>qH ix λn=>tiC E t λi=>match i.td,v,n with
  | .str,.s l,.i _ k=>Cmd.opt (sat l k) λc=>fH E o.dst (.i .u8 c)|_,_,_=> .fail
 | .extract x n=>qH x λ
  | .tup vs=>match vs[n]? with|some v=>fH E o.dst v|none=> .fail
  |_=> .fail
 | .nilCheck x=>qH x λv=>match v with
  | .ptr ..| .ep ..| .dp ..| .glob _=>fH E o.dst v|_=> .fail
 | .call c=>Rz c.args.toList λvs=>match c.callee with
  | .builtin .len=>(match c.argTypes.toList,vs with
   |t::_,[x]=>tiC E t λi=>b6Z i.td x λv=>fH E o.dst v
   |_,_=> .fail)
  | .builtin .append=>(match c.argTypes.toList,vs with
   |[t,t'],[x,y]=>bif Nat.beq t t' then a4C E (U1 q o.dst) t x y λv=>fH E o.dst v else .fail
   |_,_=> .fail)
  | .builtin .min=>(match vs with|[.i k a,.i k' b]=>bif decide (k=k')then fH E o.dst (.i k (qF a b))else .fail|_=> .fail)| .builtin .max=>(match vs with|[.i k a,.i k' b]=>bif decide (k=k')then fH E o.dst (.i k (nz a b))else .fail|_=> .fail)| .value (.func f)=>Xi E q o.dst f vs
  | .value x=>qH x λ
   | .clos f caps=>Xi E q o.dst f (vs++caps.map b6V)|_=> .fail
  | .invoke x n=>qH x λ
   | .ifc t v=>(match UY E.ms t n with
    |some (f,none)=>Xi E q o.dst f (v::vs)
    |some (f,some e)=>LJ E e v λr=>Xi E q o.dst f (r::vs)
    |none=> .fail)
   |_=> .fail
  |_=> .fail
 | .makeFunc (.func f) first caps=>bif Nat.beq first.size 0 then(match dV E.fs f with
   |some s=>Rz caps.toList λvs=>Az (s.ps.drop (s.ps.length -vs.length)) vs λcs=>fH E o.dst (.clos f cs)
   |none=> .fail)else .fail
 | .makeInterface t x=>tiC E t λi=>(match i.td with
  | .bool| .int _| .str| .ptr _=>qH x λv=>(match v with
   | .b ..| .i ..| .s ..| .ptr ..=>fH E o.dst (.ifc t v)
   |_=> .fail)
  |_=> .fail)
 | .typeAssert x _ t ok=>tiC E t λi=>(match i.td with
  | .other=> .fail
  |_=>qH x λ
   | .ifc t' v=>bif Nat.beq t' t then fH E o.dst (bif ok then .tup [v,.b true]else v)else .fail
   |_=> .fail)
 | .makeMap t r=>(match r with
  |none=>Jp E (U1 q o.dst) t λv=>fH E o.dst v
  |some h=>qH h λ
   | .i _ _=>Jp E (U1 q o.dst) t λv=>fH E o.dst v
   |_=> .fail)
 | .lookup t x ix ok=>qH x λm=>qH ix λk=>a4Z E t ok m k λv=>fH E o.dst v
 | .mapUpdate t x ix y| .insert t x ix y=>match o.dst with|none=>qH x λm=>qH ix λk=>qH y λv=>ZL E t m k v|some _=> .fail
 |_=> .fail
def nZ(E:Env)(q:Nat)(ops:List Oper)(o:Oper):Cmd Unit:=
 match o.guard with
 |none=>bZ E q o
 |some (j,want)=>match ops[j]? with
  |some p=>match p.dst with
   |some t=>bif Nat.blt t aO then(.get t λ
    | .b y=>bif (bif want then y else !y)then bZ E q o else fH E o.dst .un| .un=>fH E o.dst .un
    |_=> .fail)else .fail
   |none=> .fail
  |none=> .fail
def Td{R:Type}(t:Nat)(s:St)(K:St->Option R):Option R:=
 (dU s t).force λ
  | .b y=>l9 y (K (.kv t (.b true)::s)) (K (.kv t (.b false)::s))| .un=>K s|_=>none
def b3z(ops:List Oper)(o:Oper):Option Nat:=
 match o.guard with
 |some (j,_)=>match ops[j]? with|some p=>p.dst|none=>none
 |none=>match o.op with| .pick (.tmp t) _ _=>some t|_=>none
abbrev Trs:=List Tr
def Nj{R:Type}(E:Env)(q:Nat)(all:List Oper):List Oper->St->Trs->(St->Trs->Option R)->Option R
 |[],s,t,K=>K s t
 |o::r,s,t,K=>match b3z all o with
  |none=>(nZ E q all o).runK s ([],[]) λ_ s' tr=>Nj E q all r s' (tr::t) K
  |some p=>Td p s λs=>(nZ E q all o).runK s ([],[]) λ_ s' tr=>Nj E q all r s' (tr::t) K
def JL:List Nat->List Nat->Bool
 |[],[]=>true|a::r,b::q=>bif Nat.beq a b then JL r q else false|_,_=>false
def oH(o:Oper):Bool:=match o.op with| .call ..=>true|_=>false
def YG(E:Env)(o:Oper):Bool:=!oH o&&(match o.dst with|some d=>DU d E.rc|none=>false)
def a8h(E:Env)(all:List Oper)(i:Nat):Bool:=match all[i]? with|some o=>YG E o|none=>false
def Yy(all:List Oper)(i:Nat):Bool:=match all[i]? with|some o=>oH o|none=>false
def b1P{R:Type}(a b:V)(K:Option R):Option R:=
 a.force λa=>b.force λb=>match a with
  | .i k n=>(match b with| .i k' n' =>bif decide (k=k')then l9 (o8 n n') K none else none|_=>none)| .sl t xs=>(match b with| .sl u ys=>Ty.castL u t ys (λys=>l9 (deq (.sl t) xs ys) K none) none|_=>none)| .b x=>(match b with| .b y=>l9 (jd x y) K none|_=>none)| .s x=>(match b with| .s y=>l9 (seq x y) K none|_=>none)|_=>none
abbrev a5N:=List (Oper×Tr×V)
def Yd{R:Type}(E:Env)(q:Nat)(all:List Oper)(s:St):a5N->Option R->Option R
 |[],K=>K
 |(o,tr,v)::p,K=>(nZ E q all o).runK s ([],[]) λ_ s2 tr2=>match o.dst with
  |some d=>bif JL tr.1 tr2.1&&JL tr.2 tr2.2&&JL tr2.2 [d]then b1P v (dU s2 d) (Yd E q all s p K)else none|none=>none
def Vt(E:Env)(o:Oper)(s:St)(tr:Tr)(p:a5N):a5N:=
 bif YG E o then(match o.dst with|some d=>(o,tr,dU s d)::p|none=>p)else p
def Ah{R:Type}(E:Env)(q:Nat)(all:List Oper):List Oper->St->Trs->a5N->(St->Trs->Option R)->Option R
 |[],s,t,_,K=>K s t
 |o::r,s,t,p,K=>match b3z all o with
  |none=>(nZ E q all o).runK s ([],[]) λ_ s' tr=>bif oH o then Yd E q all s' p (Ah E q all r s' (tr::t) p K)else Ah E q all r s' (tr::t) (Vt E o s' tr p) K
  |some g=>Td g s λs=>(nZ E q all o).runK s ([],[]) λ_ s' tr=>bif oH o then Yd E q all s' p (Ah E q all r s' (tr::t) p K)else Ah E q all r s' (tr::t) (Vt E o s' tr p) K
def Sz(a b:List Nat):Bool:=match a with|[]=>true|k::r=>bif DU k b then false else Sz r b
def a3h(ordered:Bool)(x y:Tr):Bool:=bif ordered then true else(Sz x.2 y.1&&Sz x.2 y.2&&Sz x.1 y.2)
def SY(mask:Nat)(y:Tr):Trs->Nat->Bool
 |[],_=>true|x::r,i=>a3h (Nat.testBit mask (i -1)) x y&&SY mask y r (i -1)
def Vl:List Nat->Trs->Bool
 |m::ms,y::r=>SY m y r r.length&&Vl ms r|[],[]=>true|_,_=>false
def a5f(mask:Nat)(x:Tr):List (Nat×Tr)->Bool
 |[]=>true|(m,z)::r=>(Nat.testBit mask m || Sz x.1 z.2)&&a5f mask x r
def a5m(ordered ex:Bool)(mask:Nat)(x y:Tr)(mids:List (Nat×Tr)):Bool:=
 bif ordered then true else(Sz x.2 y.1&&Sz x.2 y.2&&(bif Sz x.1 y.2 then true else(ex&&Sz x.2 x.1&&a5f mask x mids)))
def Om(E:Env)(all:List Oper)(mask:Nat)(y:Tr)(cy:Bool):Trs->Nat->List (Nat×Tr)->Bool
 |[],_,_=>true|x::r,i,mids=>a5m (Nat.testBit mask (i -1)) (cy&&a8h E all (i -1)) mask x y mids&&Om E all mask y cy r (i -1) ((i -1,x)::mids)
def Oq(E:Env)(all:List Oper):List Nat->Trs->Bool
 |m::ms,y::r=>Om E all m y (Yy all r.length) r r.length []&&Oq E all ms r|[],[]=>true|_,_=>false
inductive Flow (ρ:Type) where
 |nm|ex (id:Nat)|rt (r:ρ)
def LC(acc:List Nat)(n:Nat):List Edge->Nat->Option Nat
 |[],m=>some m
 |e::r,m=>match e.ground with
  | .textOnly _=>LC acc n r m| .gcOnly _=>LC acc n r m|_=>bif Nat.blt e.on n then LC acc n r (m ||| 2^e.on ||| acc.getD (n -1 -e.on) 0)else none
def Zh:List Oper->Nat->List Nat->Option (List Nat)
 |[],_,acc=>some acc
 |o::r,n,acc=>match LC acc n o.after.toList 0 with
  |some m=>Zh r (n+1) (m::acc)|none=>none
def Na(md:Region.Mode)(done:List Nat):List Edge->Bool
 |[]=>true|e::r=>bif (!Region.binds md e || DU e.on done)then Na md done r else false
def wF(md:Region.Mode)(done:List Nat):List Oper->Nat->Option Nat
 |[],_=>none|o::r,n=>bif DU n done then wF md done r (n+1)else bif Na md done o.after.toList then some n else wF md done r (n+1)
def a4w:Nat->List Nat->Bool
 |0,_=>true|n+1,d=>DU n d&&a4w n d
def ZJ(md:Region.Mode)(ops:List Oper):Nat->List Nat->Bool
 |0,d=>a4w ops.length d
 |k+1,done=>match wF md done ops 0 with|some n=>ZJ md ops k (n::done)|none=>false
def Qv:List Edge->Bool
 |[]=>true
 |e::r=>match e.ground with| .textOnly _=>false| .gcOnly _=>false|_=>Qv r
def DX:List Oper->Bool|[]=>true|o::r=>bif Qv o.after.toList then DX r else false
def a8a(ops:List Oper)(t:Trs):Bool:=
 match Zh ops 0 []with
 |some ms=>bif Vl ms t then(bif DX ops then true else ZJ .text ops ops.length []&&ZJ .gc ops ops.length [])else false|none=>false
def a4L(E:Env)(ops:List Oper)(t:Trs):Bool:=
 match Zh ops 0 []with
 |some ms=>bif Oq E ops ms t then(bif DX ops then true else ZJ .text ops ops.length []&&ZJ .gc ops ops.length [])else false|none=>false
abbrev Rgs:=List (Nat×Nat)
inductive Ann where
 |leaf
 |seq (a b:Ann)|cond (a b:Ann)|blk (a:Ann)
 |loop (rs:Rgs) (hd:Sig) (xid:Nat) (xs:Sig) (body:Ann)
 |loopR (rs:Rgs) (hd:Sig) (xid:Nat) (xs:Sig) (body:Ann)
 |join (rs:Rgs) (nm:Sig) (inner:Ann)
 |joinR (rs:Rgs) (nm:Sig) (inner:Ann)
structure Ret where
 rs:List (ResultVar×MG)
 outs:List (Nat×MG)
@[reducible] def Ret.den (r:Ret):Type:=dX (r.rs.map (·.2)++r.outs.map (·.2))
def QE{α:Type}(E:Env):List ResultVar->(List V->Cmd α)->Cmd α
 |[],K=>K []| .tmp t::r,K=>bif Nat.blt t aO then(.get t λv=>QE E r λvs=>K (v::vs))else .fail| .cell a t::r,K=>bif Nat.blt a aO then(.get a λp=>LJ E t p λv=>QE E r λvs=>K (v::vs))else .fail
def Qu{α:Type} :List Nat->(List V->Cmd α)->Cmd α
 |[],K=>K []
 |n::r,K=>bif Nat.blt n aO then .get n λv=>(match v with
  | .ptr bx 0=> .get (aO+bx) λ
   | .bcells cs=>Cmd.set (aO+bx) .dead (Qu r λvs=>K (.agg cs::vs))|_=> .fail
  | .ifc _ u=>(match u with
   | .ptr bx 0=> .get (aO+bx) λ
    | .bcells cs=>Cmd.set (aO+bx) .dead (Qu r λvs=>K (.agg cs::vs))|_=> .fail
   |_=> .fail)
  | .own bx none=>Qu r λvs=>K (.own bx none::vs)
  |_=> .fail)else .fail
def b2N(E:Env)(r:Ret):Cmd r.den:=
 QE E (r.rs.map (·.1)) λvs=>Qu (r.outs.map (·.1)) λws=>LG Be (r.rs.map (·.2)++r.outs.map (·.2)) (vs++ws) .ret
def Ann.l:Ann->Ann| .seq a _=>a| .cond a _=>a| .blk a=>a|_=> .leaf
def Ann.r:Ann->Ann| .seq _ b=>b| .cond _ b=>b|_=> .leaf
def yY:Code->Nat
 | .region ..=>2| .seq x y=>1+yY x+yY y| .cond _ x y=>1+yY x+yY y| .block _ x=>1+yY x| .loop x=>3+yY x|_=>1
abbrev Den(ρ:Type):=Nat->Ann->St->Rgs->(R:Type)->(Flow ρ->St->Rgs->Option R)->Option R
def a6n(lo hi:Nat):Rgs->Bool|[]=>false|(a,b)::r=>bif Nat.ble a lo&&Nat.ble hi b then true else a6n lo hi r
def Ud(lim:Nat)(rs:Rgs):Rgs->Bool|[]=>true|(a,b)::w=>bif Nat.ble lim a || a6n a b rs then Ud lim rs w else false
def NZ(ks:List Nat)(w:Rgs):Rgs:=match ks with|[]=>w|k::r=>(k,k+1)::NZ r w
def DR(rs:Rgs)(s:St):St:=match rs with|[]=>s|(a,b)::r=> .mask a b::DR r s
def LH{R:Type}(q:Nat)(sg:Sig)(rs:Rgs)(s:St)(w:Rgs)(K:qo sg->Option R):Option R:=
 (a8j sg).runK s ([],[]) λx _ tr=>bif Ud (aO+CB*q) rs (NZ tr.2 w)then K x else none
def enter{R:Type}(q:Nat)(sg:Sig)(rs:Rgs)(s:St)(x:qo sg)(K:St->Rgs->Option R):Option R:=
 (a8b sg x (CB*q) (CB*q+CB)).runK (DR rs s) ([],[]) λ_ s' tr=>K s' (NZ tr.2 rs)
def TJ(a b:Rgs):Rgs:=match a with|[]=>b|x::r=>x::TJ r b
def IK{ρ:Type}(core:Den ρ):Den ρ:=λq a s w R K=>
 match a with
 | .join rs nm a=>o5 (core (q+1) a s [] (qo nm) λfl s' w' =>match fl with
   | .nm=>LH q nm rs s' w' some
   |_=>none) λx=>enter q nm rs s x λs' w' =>K .nm s' (TJ w' w)
 | .joinR rs nm a=>o5 (core (q+1) a s [] (qo nm⊕ρ) λfl s' w' =>match fl with
   | .nm=>LH q nm rs s' w' λx=>some (Sum.inl x)| .rt r=>some (Sum.inr r)
   |_=>none) λo=>aI o (λx=>enter q nm rs s x λs' w' =>K .nm s' (TJ w' w)) (λr=>K (.rt r) [] [])
 |a=>core (q+1) a s w R K
def b0j{ρ:Type}(core:Den ρ)(q:Nat)(rs:Rgs)(hd:Sig)(xid:Nat)(xs:Sig)(a:Ann)(s:St)(x:qo hd):Option (qo hd⊕qo xs):=
 enter q hd rs s x λs w=>core (q+2) a s w (qo hd⊕qo xs) λfl s' w' =>match fl with
  | .nm=>LH q hd rs s' w' λx=>some (Sum.inl x)
  | .ex id=>bif Nat.beq id xid then LH q xs rs s' w' λy=>some (Sum.inr y)else none| .rt _=>none
def b0k{ρ:Type}(core:Den ρ)(q:Nat)(rs:Rgs)(hd:Sig)(xid:Nat)(xs:Sig)(a:Ann)(s:St)(x:qo hd):Option (Out (qo hd) (qo xs) ρ):=
 enter q hd rs s x λs w=>core (q+2) a s w (Out (qo hd) (qo xs) ρ) λfl s' w' =>match fl with
  | .nm=>LH q hd rs s' w' λx=>some (.nx x)
  | .ex id=>bif Nat.beq id xid then LH q xs rs s' w' λy=>some (.ex y)else none| .rt r=>some (.rt r)
def a0T{ρ:Type}(core:Den ρ):Den ρ:=λq a s w R K=>
 match a with
 | .loop rs hd xid xs a=>LH q hd rs s [] λx0=>
  o5 (dC (λx=>b0j core q rs hd xid xs a s x) x0) λy=>enter (q+1) xs rs s y λs' w' =>K (.ex xid) s' (TJ w' w)
 | .loopR rs hd xid xs a=>LH q hd rs s [] λx0=>
  o5 (aY (λx=>b0k core q rs hd xid xs a s x) x0) λo=>aI o (λy=>enter (q+1) xs rs s y λs' w' =>K (.ex xid) s' (TJ w' w)) (λr=>K (.rt r) [] [])
 |_=>none
def Ci(t:Trs)(w:Rgs):Rgs:=match t with|[]=>w|x::r=>NZ x.2 (Ci r w)
def Zn{R:Type}(E:Env)(q:Nat)(ops:Array Oper)(draw:Bool)(s:St)(w:Rgs)(K:St->Rgs->Option R):Option R:=
 match E.rc with
 |[]=>Nj E q ops.toList ops.toList s [] λs' t=>
  bif draw then(bif a8a ops.toList t then K s' (Ci t w)else none)else K s' (Ci t w)
 |_::_=>Ah E q ops.toList ops.toList s [] [] λs' t=>
  bif draw then(bif a4L E ops.toList t then K s' (Ci t w)else none)else K s' (Ci t w)
def den(E:Env)(rt:Ret):Code->Den rt.den
 | .skip=>IK λ_ _ s w _ K=>K .nm s w
 | .label _=>IK λ_ _ s w _ K=>K .nm s w
 | .region _ ops draw=>IK λq _ s w _ K=>Zn E q ops draw s w λs' w' =>K .nm s' w'
 | .seq x y=>IK λq a s w R K=>den E rt x q a.l s w R λfl s' w' =>match fl with
   | .nm=>den E rt y (q+yY x) a.r s' w' R K| .ex id=>K (.ex id) s' w'| .rt r=>K (.rt r) s' w'
 | .cond c x y=>IK λq a s w R K=>(qH c λv=>Cmd.ret v:Cmd V).runK s ([],[]) λv s' _=>match v with
   | .b t=>l9 t (den E rt x q a.l s' w R K) (den E rt y (q+yY x) a.r s' w R K)|_=>none
 | .block id x=>IK λq a s w R K=>den E rt x q a.l s w R λfl s' w' =>match fl with
   | .nm=>K .nm s' w'| .ex j=>bif Nat.beq j id then K .nm s' w' else K (.ex j) s' w'| .rt r=>K (.rt r) s' w'
 | .loop x=>IK (a0T λq a s w R K=>den E rt x q a s w R K)
 | .exit id=>IK λ_ _ s w _ K=>K (.ex id) s w
 | .ret=>IK λ_ _ s _ _ K=>(b2N E rt).runK s ([],[]) λr _ _=>K (.rt r) [] []
 |_=>λ_ _ _ _ _ _=>none
def lu:List MG->Nat->List Nat
 |[],_=>[]|(_,.box _)::ms,n=>n::lu ms (n+1)|(_,.ifc _ (.box _))::ms,n=>n::lu ms (n+1)|(_,.ownb _)::ms,n=>n::lu ms (n+1)|_::ms,n=>lu ms (n+1)
def b1B:List Nat->List Nat->Bool
 |[],_=>true|a::r,b=>bif DU a b then b1B r b else false
def b2f(E:Env)(ps:List MG)(rt:Ret)(body:Code)(a:Ann)(x:dX ps):Option rt.den:=
 bif Nat.ble ps.length E.nt&&JL (rt.outs.map (·.1)) (lu ps 0)&&b1B (rt.outs.map (·.1)) E.kp then
 (LD ps x 0 λvs n=>bif Nat.ble n CB then VS (List.range vs.length) vs else .fail).runK [] ([],[]) λ_ s _=>
  den E rt body 1 a s [] rt.den λfl s' _=>match fl with
   | .rt r=>some r
   | .nm=>(b2N E rt).runK s' ([],[]) λr _ _=>some r| .ex _=>none
 else none
end Go.GP
namespace Go.GP
open RowKit
def dR(h:Array Obj)(blk off n:Nat):Option (List Value):=
 match h[blk]? with
 |some (.cells c _ _)=>if off+n<=c.size then some ((c.toList.drop off).take n)else none|_=>none
theorem rU{h h' :Array Obj}{blk:Nat}(e:h'[blk]? =h[blk]?)(off n:Nat):dR h' blk off n=dR h blk off n:=by simp[dR,e]
theorem pM{h:Array Obj}{blk off n:Nat}{es:List Value}(e:dR h blk off n=some es):es.length=n:=by
 unfold dR at e;split at e
 ·split at e
  ·cases e;simp;omega
  ·cases e
 ·cases e
theorem lV{h:Array Obj}{blk:Nat}{c:Array Value}{T:TypeId}{f:Nat×Nat}(hb:h[blk]? =some (.cells c T f))(off n:Nat)(hn:off+n<=c.size):
  dR h blk off n=some ((c.toList.drop off).take n):=by simp[dR,hb,hn]
theorem wz{h:Array Obj}{blk off n:Nat}{es:List Value}(e:dR h blk off n=some es):
  ∃c T f,h[blk]? =some (.cells c T f)/\off+n<=c.size/\es=(c.toList.drop off).take n:=by
 unfold dR at e;split at e
 ·rename_i c T f hb;split at e
  ·cases e;exact⟨c,T,f,hb,by assumption,rfl⟩
  ·cases e
 ·cases e
theorem BK{h:Array Obj}{blk off n:Nat}{es:List Value}(e:dR h blk off n=some es)(a k:Nat)(hk:a+k<=n):
  dR h blk (off+a) k=some ((es.drop a).take k):=by
 obtain⟨c,T,f,hb,hn,rfl⟩:=wz e;rw[lV hb _ _ l7];congr 1;rw[jr,ik,ae];congr 1;omega
def uf(ag:Bool)(v:Value):List Value:=match ag with
 |true=>v.cells.toList|false=>[v]
def gok(ag:Bool)(v:Value):Prop:=match ag with
 |true=>∃arr,v= .agg arr|false=>v.oneCell' =true
def zI(t:Ty)(e:MapEntry):List Value:=match t with
 | .ent ka va _ _=>uf ka e.key++uf va e.val|_=>[]
def NM(t:Ty)(e:MapEntry):Prop:=match t with
 | .ent ka va k v=>gok ka e.key/\gok va e.val/\(uf ka e.key).length=k.size|_=>False
def lC(h:Array Obj)(ok:Nat->Ty->Prop):(t:Ty)->t.den->List Value->Prop
 | .ent _ _ a b,x,cs=>∃c d,cs=c++d/\lC h ok a x.1 c/\lC h ok b x.2 d| .bool,x,cs=>cs=[.bool x]| .int k,n,cs=>cs=[.int k n]| .str,l,cs=>cs=[.string ⟨l.toArray⟩]| .prod a b,x,cs=>∃c d,cs=c++d/\lC h ok a x.1 c/\lC h ok b x.2 d| .unit,_,cs=>cs=[]
 | .sl t,xs,cs=>(t.isEnt=false/\∃a cap,cs=[.slice a xs.length cap]/\xs.length<=cap/\
   ∀i x,xs[i]? =some x->∃blk off es,a=some ⟨blk,off,none⟩/\ok blk t/\dR h blk (off+i*t.size) t.size=some es/\lC h ok t x es)\/
   (t.isEnt=true/\∃mv,cs=[.map mv]/\(mv=none->xs=[])/\∀blk,mv=some blk->ok blk t/\∃(es:Array MapEntry) (ck:Nat),h[blk]? =some (.map es ck)/\es.size=(xs:List t.den).length/\
    ∀(i:Nat) (x:t.den),(xs:List t.den)[i]? =some x->∃e:MapEntry,es[i]? =some e/\NM t e/\lC h ok t x (zI t e))
theorem Cf{h:Array Obj}{ok:Nat->Ty->Prop}{t:Ty}{xs:List t.den}{cs:List Value}(ht:t.isEnt=false):lC h ok (.sl t) xs cs↔∃a cap,cs=[.slice a xs.length cap]/\xs.length<=cap/\
   ∀i x,xs[i]? =some x->∃blk off es,a=some ⟨blk,off,none⟩/\ok blk t/\dR h blk (off+i*t.size) t.size=some es/\lC h ok t x es:=by
 constructor
 ·rintro(h|h)
  ·exact h.2
  ·rw[ht]at h;cases h.1
 ·exact λh=> .inl ⟨ht,h⟩
theorem a3x{h:Array Obj}{ok:Nat->Ty->Prop}{t:Ty}{xs:List t.den}{cs:List Value}(ht:t.isEnt=true):lC h ok (.sl t) xs cs↔∃mv,cs=[.map mv]/\(mv=none->xs=[])/\∀blk,mv=some blk->ok blk t/\∃(es:Array MapEntry) (ck:Nat),h[blk]? =some (.map es ck)/\es.size=(xs:List t.den).length/\
    ∀(i:Nat) (x:t.den),(xs:List t.den)[i]? =some x->∃e:MapEntry,es[i]? =some e/\NM t e/\lC h ok t x (zI t e):=by
 constructor
 ·rintro(h|h)
  ·rw[ht]at h;cases h.1
  ·exact h.2
 ·exact λh=> .inr ⟨ht,h⟩
theorem gB{h:Array Obj}{ok:Nat->Ty->Prop} :∀{t:Ty} {x:t.den} {cs:List Value},lC h ok t x cs->cs.length=t.size
 | .bool,_,_,e=>by simp[lC]at e;simp[e,Ty.size]| .int _,_,_,e=>by simp[lC]at e;simp[e,Ty.size]| .str,_,_,e=>by simp[lC]at e;simp[e,Ty.size]| .unit,_,_,e=>by simp[lC]at e;simp[e,Ty.size]| .prod a b,_,_,e=>by obtain⟨c,d,rfl,h1,h2⟩:=e;simp[gB h1,gB h2,Ty.size]
 | .ent _ _ a b,_,_,e=>by obtain⟨c,d,rfl,h1,h2⟩:=e;simp[gB h1,gB h2,Ty.size]
 | .sl t,_,_,e=>by rcases e with⟨_,a,cap,rfl,_⟩|⟨_,mv,rfl,_⟩<;>simp[Ty.size]
theorem dP{h h' :Array Obj}{ok ok' :Nat->Ty->Prop}(hok:∀b t,ok b t->ok' b t)(hh:∀b t,ok b t->h'[b]? =h[b]?):
  ∀{t:Ty} {x:t.den} {cs:List Value},lC h ok t x cs->lC h' ok' t x cs
 | .bool,_,_,e=>e| .int _,_,_,e=>e| .str,_,_,e=>e| .unit,_,_,e=>e| .prod a b,_,_,e=>by obtain⟨c,d,rfl,h1,h2⟩:=e;exact⟨c,d,rfl,dP hok hh h1,dP hok hh h2⟩
 | .ent _ _ a b,_,_,e=>by obtain⟨c,d,rfl,h1,h2⟩:=e;exact⟨c,d,rfl,dP hok hh h1,dP hok hh h2⟩
 | .sl t,xs,_,e=>by
  rcases e with⟨ht,a,cap,rfl,hc,hx⟩|⟨ht,mv,rfl,hn,hx⟩
  ·refine .inl ⟨ht,a,cap,rfl,hc,λi x hi=>?_⟩;obtain⟨blk,off,es,ha,hb,he,hr⟩:=hx i x hi;exact⟨blk,off,es,ha,hok _ _ hb,by rw[rU (hh _ _ hb)];exact he,dP hok hh hr⟩
  ·refine .inr ⟨ht,mv,rfl,hn,λblk hb=>?_⟩;obtain⟨ho,es,ck,he,hs,hi⟩:=hx blk hb;refine⟨hok _ _ ho,es,ck,by rw[hh _ _ ho];exact he,hs,λi x hx=>?_⟩;obtain⟨e,h1,h2,h3⟩:=hi i x hx;exact⟨e,h1,h2,dP hok hh h3⟩
theorem Af{h h' :Array Obj}{ok ok' :Nat->Ty->Prop} :∀{t:Ty} {x:t.den} {cs:List Value},t.flat=true->lC h ok t x cs->lC h' ok' t x cs
 | .bool,_,_,_,e=>e| .int _,_,_,_,e=>e| .str,_,_,_,e=>e| .unit,_,_,_,e=>e| .prod a b,_,_,f,e=>by simp[Ty.flat]at f;obtain⟨c,d,rfl,h1,h2⟩:=e;exact⟨c,d,rfl,Af f.1 h1,Af f.2 h2⟩
 | .sl t,xs,_,f,e=>by simp[Ty.flat]at f| .ent ..,xs,_,f,e=>by simp[Ty.flat]at f
theorem wX{h:Array Obj}{ok:Nat->Ty->Prop} :∀{t:Ty} {x:t.den} {cs:List Value},lC h ok t x cs->∀v∈cs,v.oneCell' =true
 | .bool,_,_,e=>by simp[lC]at e;subst e;simp[Value.oneCell']| .int _,_,_,e=>by simp[lC]at e;subst e;simp[Value.oneCell']| .str,_,_,e=>by simp[lC]at e;subst e;simp[Value.oneCell']| .unit,_,_,e=>by simp[lC]at e;subst e;simp| .prod a b,_,_,e=>by
  obtain⟨c,d,rfl,h1,h2⟩:=e;intro v hv;rcases A8.1 hv with hv|hv
  ·exact wX h1 v hv
  ·exact wX h2 v hv
 | .ent _ _ a b,_,_,e=>by
  obtain⟨c,d,rfl,h1,h2⟩:=e;intro v hv;rcases A8.1 hv with hv|hv
  ·exact wX h1 v hv
  ·exact wX h2 v hv
 | .sl t,xs,_,e=>by rcases e with⟨_,a,cap,rfl,_⟩|⟨_,mv,rfl,_⟩<;>simp[Value.oneCell']
theorem yL{h:Array Obj}{ok ok' :Nat->Ty->Prop} :∀{t:Ty} {x:t.den} {cs:List Value},(∀b u,ok b u->Ty.occ u t=true->ok' b u)->lC h ok t x cs->lC h ok' t x cs
 | .bool,_,_,_,e=>e| .int _,_,_,_,e=>e| .str,_,_,_,e=>e| .unit,_,_,_,e=>e| .prod a b,_,_,f,e=>by obtain⟨c,d,rfl,h1,h2⟩:=e;exact⟨c,d,rfl,yL (λb u h k=>f b u h (by simp[Ty.occ,k])) h1,yL (λb u h k=>f b u h (by simp[Ty.occ,k])) h2⟩
 | .ent _ _ a b,_,_,f,e=>by obtain⟨c,d,rfl,h1,h2⟩:=e;exact⟨c,d,rfl,yL (λb u h k=>f b u h (by simp[Ty.occ,k])) h1,yL (λb u h k=>f b u h (by simp[Ty.occ,k])) h2⟩
 | .sl t,xs,_,f,e=>by
  rcases e with⟨ht,a,cap,rfl,hc,hx⟩|⟨ht,mv,rfl,hn,hx⟩
  ·refine .inl ⟨ht,a,cap,rfl,hc,λi x hi=>?_⟩;obtain⟨blk,off,es,ha,hb,he,hr⟩:=hx i x hi;exact⟨blk,off,es,ha,f _ _ hb (by simp[Ty.occ]),he,yL (λb u h k=>f b u h (by simp[Ty.occ,k])) hr⟩
  ·refine .inr ⟨ht,mv,rfl,hn,λblk hb=>?_⟩;obtain⟨ho,es,ck,he,hs,hi⟩:=hx blk hb;refine⟨f _ _ ho (by simp[Ty.occ]),es,ck,he,hs,λi x hx=>?_⟩;obtain⟨e,h1,h2,h3⟩:=hi i x hx;exact⟨e,h1,h2,yL (λb u h k=>f b u h (by simp[Ty.occ,k])) h3⟩
inductive Loc where
 |nil|arr (blk off len cap sz:Nat)|st (blk:Nat)|mp (blk:Nat)
structure Mp where
 loc:Nat->Option Loc
 kid:Nat->List Nat
instance:CoeFun Mp (λ_=>Nat->Option Loc):=⟨Mp.loc⟩
def nom:Mp:=⟨λ_=>none,λ_=>[]⟩
structure Cx where
 h:Array Obj
 ok:Nat->Ty->Prop
 m:Mp
def Loc.view:Loc->Option (Nat×Nat)->Value->Prop
 | .nil,none,v=>v= .slice none 0 0| .nil,some (lo,hi),v=>lo=0/\hi=0/\v= .slice none 0 0| .arr blk off len cap _,none,v=>v= .slice (some ⟨blk,off,none⟩) len cap| .arr blk off len cap sz,some (lo,hi),v=>lo<=hi/\hi<=len/\v= .slice (some (if cap=lo then⟨blk,off,none⟩else⟨blk,off+lo*sz,none⟩)) (hi -lo) (cap -lo)| .st _,_,_=>False| .mp b,none,v=>v= .map (some b)| .mp _,some _,_=>False
def Loc.blks:Loc->List Nat
 | .nil=>[]| .arr b _ _ _ _=>[b]| .st b=>[b]| .mp b=>[b]
def a2E(h:Array Obj)(ok:Nat->Ty->Prop)(t:Ty)(x:t.den)(o:Nat)(v:Value):Prop:=
 ∃blk off es,v= .pointer (some ⟨blk,off+o,none⟩)/\ok blk t/\dR h blk off t.size=some es/\lC h ok t x es
def Dz(h:Array Obj)(ok:Nat->Ty->Prop):List ((t:Ty)×t.den)->List Value->Prop
 |[],vs=>vs=[]|c::cs,vs=>∃v r,vs=v::r/\a2E h ok c.1 c.2 0 v/\Dz h ok cs r
def yj(C:Cx):V->Value->Prop
 | .undef,_=>True| .un,v=>v=Go.undef| .b x,v=>v= .bool x| .i k n,v=>v= .int k n| .s l,v=>v= .string ⟨l.toArray⟩| .nl,v=>v= .slice none 0 0| .ne b,v=>∃a c,v= .slice a 0 c/\a.isNone=b| .sl t xs,v=>lC C.h C.ok (.sl t) xs [v]| .own bx vw,v=>∃loc,C.m bx=some loc/\loc.view vw v| .ptr bx o,v=>∃blk,C.m bx=some (.st blk)/\v= .pointer (some ⟨blk,o,none⟩)| .ep bx ix o,v=>∃blk off len cap sz,C.m bx=some (.arr blk off len cap sz)/\ix<len/\v= .pointer (some ⟨blk,off+ix*sz+o,none⟩)| .dp t x o,v=>a2E C.h C.ok t x o v| .glob g,v=>v= .pointer (some ⟨g,0,none⟩)| .fnv f,v=>v= .func (.func f) #[] #[]| .clos f caps,v=>∃vs,v= .func (.func f) #[] vs/\Dz C.h C.ok caps vs.toList| .ifc t c,v=>∃u,v= .iface t u/\u.oneCell' =true/\yj C c u|_,_=>False
def gX(C:Cx):List V->List Value->Prop
 |[],vs=>vs=[]|c::cs,vs=>∃v r,vs=v::r/\yj C c v/\v.oneCell' =true/\gX C cs r
def VE(C:Cx):V->Value->Prop
 | .agg cs,v=>∃arr,v= .agg arr/\gX C cs arr.toList|c,v=>yj C c v
def Zq(C:Cx):List V->List Value->Prop
 |[],vs=>vs=[]|c::cs,vs=>∃v r,vs=v::r/\VE C c v/\Zq C cs r
def nO(C:Cx):V->Value->Prop
 | .tup cs,v=>∃arr,v= .tuple arr/\Zq C cs arr.toList|c,v=>VE C c v
def arrOk(C:Cx)(t:Ty)(xs:List t.den):Loc->Prop
 | .nil=>xs=[]/\t.isEnt=false| .arr blk off len cap sz=>t.isEnt=false/\sz=t.size/\len=xs.length/\len<=cap/\∃c T,C.h[blk]? =some (.cells c T (0,0))/\off+cap*sz<=c.size/\
   ∀i x,xs[i]? =some x->∃es,dR C.h blk (off+i*sz) sz=some es/\lC C.h C.ok t x es
 | .st _=>False| .mp blk=>t.isEnt=true/\∃(es:Array MapEntry) (ck:Nat),C.h[blk]? =some (.map es ck)/\es.size=xs.length/\
   ∀(i:Nat) (x:t.den),(xs:List t.den)[i]? =some x->∃e:MapEntry,es[i]? =some e/\NM t e/\lC C.h C.ok t x (zI t e)
def BZ{α:Type}(h:Array Obj)(sz:Nat)(R:Nat->α->List Value->List Nat->Prop)(xs:List α)(Os:List (List Nat)):Loc->Prop
 | .nil=>xs=[]/\Os=[]| .arr blk off len cap sz' =>sz' =sz/\len=xs.length/\len<=cap/\Os.length=xs.length/\∃c T,h[blk]? =some (.cells c T (0,0))/\off+cap*sz<=c.size/\
   ∀i x,xs[i]? =some x->∃es O,Os[i]? =some O/\dR h blk (off+i*sz) sz=some es/\R i x es O
 | .st _=>False| .mp _=>False
def oU(h:Array Obj)(ok:Nat->Ty->Prop):(m:M)->Option Nat->m.den->List Value->List Nat->Prop
 | .dat t,_,x,cs,O=>lC h ok t x cs/\O=[]| .own t,ho,xs,cs,O=>∃v,cs=[v]/\v.oneCell' =true/\(match ho with|some 0=>O=[]|_=>∃l,l.view none v/\arrOk ⟨h,ok,nom⟩ t xs l/\O=l.blks)| .pair a b,ho,x,cs,O=>∃c d O1 O2,cs=c++d/\O=O1++O2/\oU h ok a (match ho with|some o=>if o<a.size then some o else none|none=>none) x.1 c O1/\
   oU h ok b (match ho with|some o=>if o<a.size then none else some (o -a.size)|none=>none) x.2 d O2
 | .unit,_,_,cs,O=>cs=[]/\O=[]| .box m,_,x,cs,O=>∃blk arr T O',cs=[.pointer (some ⟨blk,0,none⟩)]/\h[blk]? =some (.cells arr T (0,0))/\oU h ok m none x arr.toList O' /\O=blk::O'| .owns m,ho,xs,cs,O=>∃v,cs=[v]/\v.oneCell' =true/\(match ho with|some 0=>O=[]|_=>m.el=true/\∃l Os,l.view none v/\BZ h m.size (λ_ x es O=>oU h ok m none x es O) xs Os l/\O=l.blks++Os.flatten)| .ownb t,_,xs,cs,O=>∃l v,cs=[v]/\l.view none v/\arrOk ⟨h,ok,nom⟩ t xs l/\O=l.blks| .rp t,_,x,cs,O=>∃v,cs=[v]/\a2E h ok t x 0 v/\O=[]| .fn f ts,_,x,cs,O=>∃vs,cs=[.func (.func f) #[] vs]/\Dz h ok (QO ts x) vs.toList/\O=[]| .ifc t m,_,x,cs,O=>∃u,cs=[.iface t u]/\oU h ok m none x [u] O| .cell b,_,x,cs,O=>∃v,cs=[v]/\v.oneCell' =true/\(b=some none->v= .slice none 0 0)/\(∀b',b=some (some b')->∃a c,v= .slice a 0 c/\a.isNone=b')/\O=[]
def WF(hole:Option (Nat×Nat×Option Nat))(i:Nat):Option Nat:=match hole with|some (j,o,_)=>if i=j then some o else none|none=>none
def UC(C:Cx)(sz:Nat)(l:Loc):Option (Nat×Nat×Option Nat)->Prop
 |none=>True|some (_,_,none)=>True|some (i,o,some n)=>∃blk off len cap u l',l= .arr blk off len cap sz/\dR C.h blk (off+i*sz+o) 1=some [u]/\C.m n=some l' /\l'.view none u
def a4E(C:Cx)(m:M)(xs:List m.den)(hole:Option (Nat×Nat×Option Nat))(Os:List (List Nat))(l:Loc):Prop:=
 BZ C.h m.size (λi x es O=>oU C.h C.ok m (WF hole i) x es O) xs Os l/\UC C m.size l hole
def Ef(C:Cx)(n:Nat):V->Prop
 | .bcells cs=>∃blk arr T,C.m n=some (.st blk)/\C.h[blk]? =some (.cells arr T (0,0))/\gX C cs arr.toList| .barr t xs=>∃loc,C.m n=some loc/\arrOk C t xs loc| .bfrz t xs=>∃loc,C.m n=some loc/\arrOk C t xs loc/\(∀blk,blk∈loc.blks->C.ok blk t)| .barrs m xs hole=>m.el=true/\∃loc Os,C.m n=some loc/\a4E C m xs hole Os loc/\C.m.kid n=Os.flatten| .bfc t x=>∃blk es,C.m n=some (.st blk)/\C.ok blk t/\dR C.h blk 0 t.size=some es/\lC C.h C.ok t x es| .gone t=>∃l,C.m n=some l/\∀blk off len cap sz,l= .arr blk off len cap sz->sz=t.size| .blen ln sz=>∃k l,n=PG+k/\C.m k=some l/\(match l with| .arr _ _ len _ sz' =>ln=(len:Int)/\sz=sz'| .nil=>ln=0| .st _=>False| .mp _=>False)|_=>True
def Y6(m:Mp)(n:Nat):V->List Nat
 | .bcells _=>match m n with|some (.st blk)=>[blk]|_=>[]
 | .barr _ _=>match m n with|some (.arr blk _ _ _ _)=>[blk]|some (.mp blk)=>[blk]|_=>[]
 | .barrs _ _ _=>(match m n with|some (.arr blk _ _ _ _)=>[blk]|_=>[])++m.kid n|_=>[]
def a9m:V->List Ty
 | .barr t _=>[t]| .barrs m _ _=>m.ty::m.owned|_=>[]
structure Cx.le (C D:Cx):Prop where
 ok:∀b t,C.ok b t->D.ok b t
 h:∀b t,C.ok b t->D.h[b]? =C.h[b]?
 m:∀n l,C.m n=some l->D.m n=some l
theorem Cx.le.refl(C:Cx):C.le C:=⟨λ_ _ h=>h,λ_ _ _=>rfl,λ_ _ h=>h⟩
theorem Cx.le.trans{A B C:Cx}(h:A.le B)(k:B.le C):A.le C:=
 ⟨λb t x=>k.ok _ _ (h.ok _ _ x),λb t x=>(k.h _ _ (h.ok _ _ x)).trans (h.h _ _ x),λn l x=>k.m _ _ (h.m _ _ x)⟩
theorem Ky{h h' :Array Obj}{ok ok' :Nat->Ty->Prop}(hok:∀b t,ok b t->ok' b t)(hh:∀b t,ok b t->h'[b]? =h[b]?){t:Ty}{x:t.den}{o:Nat}{v:Value}(hr:a2E h ok t x o v):a2E h' ok' t x o v:=by obtain⟨b,o',es,hv,hb,hc,hp⟩:=hr;exact⟨b,o',es,hv,hok _ _ hb,by rw[rU (hh _ _ hb)];exact hc,dP hok hh hp⟩
theorem Jb{h h' :Array Obj}{ok ok' :Nat->Ty->Prop}(hok:∀b t,ok b t->ok' b t)(hh:∀b t,ok b t->h'[b]? =h[b]?):∀{cs:List ((t:Ty)×t.den)} {vs:List Value},Dz h ok cs vs->Dz h' ok' cs vs
 |[],_,hr=>hr|_::_,_,⟨v,r,e,h1,h2⟩=>⟨v,r,e,Ky hok hh h1,Jb hok hh h2⟩
theorem a5t{C D:Cx}(h:C.le D):∀{c:V} {v:Value},yj C c v->yj D c v:=by
 intro c;induction c using V.rec (motive_2:=λ_=>True)<;>try trivial
 all_goals
  intro v hr;simp only[yj]at hr ⊢
  try exact hr
 case sl t xs=>exact dP h.ok h.h hr
 case own bx vw=>obtain⟨l,hm,hv⟩:=hr;exact⟨l,h.m _ _ hm,hv⟩
 case ptr bx o=>obtain⟨b,hm,hv⟩:=hr;exact⟨b,h.m _ _ hm,hv⟩
 case ep bx ix o=>obtain⟨b,o',l,c,s,hm,hv⟩:=hr;exact⟨b,o',l,c,s,h.m _ _ hm,hv⟩
 case dp t x o=>exact Ky h.ok h.h hr
 case clos f caps=>obtain⟨vs,e,hc⟩:=hr;exact⟨vs,e,Jb h.ok h.h hc⟩
 case ifc t c ih=>obtain⟨u,e,h1,hc⟩:=hr;exact⟨u,e,h1,ih hc⟩
theorem ET{C D:Cx}(h:C.le D):∀{cs:List V} {vs:List Value},gX C cs vs->gX D cs vs
 |[],_,hr=>hr|_::_,_,⟨v,r,e,h1,h2,h3⟩=>⟨v,r,e,a5t h h1,h2,ET h h3⟩
theorem a5s{C D:Cx}(h:C.le D){c:V}{v:Value}(hr:VE C c v):VE D c v:=by
 cases c<;>simp only[VE]at hr ⊢<;>try exact a5t h hr
 case agg cs=>obtain⟨arr,e,hl⟩:=hr;exact⟨arr,e,ET h hl⟩
theorem a5u{C D:Cx}(h:C.le D):∀{cs:List V} {vs:List Value},Zq C cs vs->Zq D cs vs
 |[],_,hr=>hr|_::_,_,⟨v,r,e,h1,h3⟩=>⟨v,r,e,a5s h h1,a5u h h3⟩
theorem OL{C D:Cx}(h:C.le D){c:V}{v:Value}(hr:nO C c v):nO D c v:=by
 cases c<;>simp only[nO]at hr ⊢<;>try exact a5s h hr
 case tup cs=>obtain⟨arr,e,hl⟩:=hr;exact⟨arr,e,a5u h hl⟩
theorem wo{h h' :Array Obj}{ok ok' :Nat->Ty->Prop}{m m' :Mp}{t:Ty}{xs:List t.den}{l:Loc}(hok:∀b t,ok b t->ok' b t)(hh:∀b t,ok b t->h'[b]? =h[b]?)
  (hb:∀b∈l.blks,h'[b]? =h[b]?) (hr:arrOk ⟨h,ok,m⟩ t xs l):arrOk ⟨h',ok',m'⟩ t xs l:=by
 cases l with
 |nil=>exact hr|st b=>exact hr|mp blk=>have e:=hb blk (by simp[Loc.blks]);obtain⟨h1,es,ck,h2,h3,h4⟩:=hr;refine⟨h1,es,ck,by show h'[blk]? =_;rw[e];exact h2,h3,λi x hi=>?_⟩;obtain⟨en,a1,a2,a3⟩:=h4 i x hi;exact⟨en,a1,a2,dP hok hh a3⟩
 |arr blk off len cap sz=>have e:=hb blk (by simp[Loc.blks]);obtain⟨h0,h1,h2,h3,c,T,h4,h5,h6⟩:=hr;refine⟨h0,h1,h2,h3,c,T,by show h'[blk]? =_;rw[e];exact h4,h5,λi x hi=>?_⟩;obtain⟨es,he,hp⟩:=h6 i x hi;exact⟨es,by show dR h' _ _ _=_;rw[rU e];exact he,dP hok hh hp⟩
theorem ZZ{C D:Cx}(h:C.le D){t:Ty}{xs:List t.den}{l:Loc}(hb:∀b∈l.blks,D.h[b]? =C.h[b]?)(hr:arrOk C t xs l):arrOk D t xs l:=
 wo h.ok h.h hb hr
theorem Et{α:Type}{h h' :Array Obj}{sz:Nat}{R R' :Nat->α->List Value->List Nat->Prop}{xs:List α}{Os:List (List Nat)}{l:Loc}(hb:∀b∈l.blks,h'[b]? =h[b]?)
  (hR:∀i x es O,O∈Os->R i x es O->R' i x es O) (hr:BZ h sz R xs Os l):BZ h' sz R' xs Os l:=by
 cases l with
 |nil=>exact hr|st b=>exact hr|mp b=>exact hr|arr blk off len cap sz=>have e:=hb blk (by simp[Loc.blks]);obtain⟨h1,h2,h3,h7,c,T,h4,h5,h6⟩:=hr;refine⟨h1,h2,h3,h7,c,T,by rw[e];exact h4,h5,λi x hi=>?_⟩;obtain⟨es,O,hO,he,hp⟩:=h6 i x hi;exact⟨es,O,hO,by rw[rU e];exact he,hR _ _ _ _ (su hO) hp⟩
theorem jK{h h' :Array Obj}{ok ok' :Nat->Ty->Prop}(hok:∀b t,ok b t->ok' b t)(hh:∀b t,ok b t->h'[b]? =h[b]?):
  ∀{m:M} {ho:Option Nat} {x:m.den} {cs:List Value} {O:List Nat},(∀b∈O,h'[b]? =h[b]?)->oU h ok m ho x cs O->oU h' ok' m ho x cs O
 | .dat t,_,_,_,_,_,e=>⟨dP hok hh e.1,e.2⟩| .own t,ho,_,_,O,hb,⟨v,e,h1,ha⟩=>by
  refine⟨v,e,h1,?_⟩;split at ha
  ·exact ha
  ·obtain⟨l,hv,ha,ho⟩:=ha;exact⟨l,hv,wo hok hh (by subst ho;exact hb) ha,ho⟩
 | .pair a b,_,_,_,_,hb,⟨c,d,O1,O2,e,eo,h1,h2⟩=>by subst eo;exact⟨c,d,O1,O2,e,rfl,jK hok hh (λb h=>hb b (by simp[h])) h1,jK hok hh (λb h=>hb b (by simp[h])) h2⟩| .unit,_,_,_,_,_,e=>e| .box m,_,_,_,_,hb,⟨blk,arr,T,O',e,hh',hr,eo⟩=>by subst eo;exact⟨blk,arr,T,O',e,by rw[hb blk A7];exact hh',jK hok hh (λb h=>hb b (by simp[h])) hr,rfl⟩| .owns m,ho,_,_,O,hb,⟨v,e,h1,ha⟩=>by
  refine⟨v,e,h1,?_⟩;split at ha
  ·exact ha
  ·obtain⟨he,l,Os,hv,ha,ho⟩:=ha;subst ho;exact⟨he,l,Os,hv,Et (λb h=>hb b (by simp[h])) (λi x es O hO hr=>jK hok hh (λb h=>hb b (by simp only[A8,dA];exact .inr ⟨O,hO,h⟩)) hr) ha,rfl⟩
 | .ownb t,_,_,_,_,hb,⟨l,v,e,hv,ha,ho⟩=>⟨l,v,e,hv,wo hok hh (by subst ho;exact hb) ha,ho⟩| .rp t,_,_,_,_,_,⟨v,e,h1,h2⟩=>⟨v,e,Ky hok hh h1,h2⟩| .fn f ts,_,_,_,_,_,⟨vs,e,h1,h2⟩=>⟨vs,e,Jb hok hh h1,h2⟩| .ifc t m,_,_,_,_,hb,⟨u,e,h1⟩=>⟨u,e,jK hok hh hb h1⟩| .cell b,_,_,_,_,_,h=>h
theorem Tf{C D:Cx}(h:C.le D){n:Nat}{v:V}(hk:D.m.kid n=C.m.kid n)(hb:∀b∈Y6 C.m n v,D.h[b]? =C.h[b]?)(hr:Ef C n v):Ef D n v:=by
 cases v<;>simp only[Ef]at hr ⊢
 case bcells cs=>obtain⟨blk,arr,T,hm,hh,hl⟩:=hr;exact⟨blk,arr,T,h.m _ _ hm,by rw[hb blk (by simp[Y6,hm])];exact hh,ET h hl⟩
 case barr t xs=>
  obtain⟨l,hm,ha⟩:=hr;refine⟨l,h.m _ _ hm,ZZ h ?_ ha⟩;intro b hbl;refine hb b ?_;cases l<;>simp[Loc.blks]at hbl
  ·subst hbl;simp[Y6,hm]
  ·cases ha
  ·subst hbl;simp[Y6,hm]
 case bfrz t xs=>obtain⟨l,hm,ha,hok⟩:=hr;refine⟨l,h.m _ _ hm,ZZ h ?_ ha,λblk e=>h.ok _ _ (hok _ e)⟩;intro b hbl;exact h.h _ _ (hok _ hbl)
 case barrs m xs hole=>
  obtain⟨he,l,Os,hm,ha,ho⟩:=hr;obtain⟨ha,hh⟩:=ha;refine⟨he,l,Os,h.m _ _ hm,⟨Et ?_ ?_ ha,?_⟩,hk.trans ho⟩
  ·intro b hbl;refine hb b ?_;cases l<;>simp[Loc.blks]at hbl
   ·subst hbl;simp[Y6,hm]
   ·cases ha
   ·cases ha
  ·intro i x es O hO hr;refine jK h.ok h.h (λb hbO=>hb b ?_) hr;simp only[Y6,A8];right;rw[ho];exact dA.2 ⟨O,hO,hbO⟩
  ·rcases hole with _|⟨i,o,_|k⟩
   ·trivial
   ·trivial
   ·obtain⟨blk,off,len,cap,u,l',rfl,h1,h2,h3⟩:=hh;exact⟨blk,off,len,cap,u,l',rfl,by rw[rU (hb blk (by simp[Y6,hm]))];exact h1,h.m _ _ h2,h3⟩
 case bfc t x=>obtain⟨blk,es,hm,hok,he,hr⟩:=hr;exact⟨blk,es,h.m _ _ hm,h.ok _ _ hok,by rw[rU (h.h _ _ hok)];exact he,dP h.ok h.h hr⟩
 case gone t=>obtain⟨l,hm,hs⟩:=hr;exact⟨l,h.m _ _ hm,hs⟩
 case blen ln sz=>obtain⟨k,l,e,hm,hs⟩:=hr;exact⟨k,l,e,h.m _ _ hm,hs⟩
theorem nK{C:Cx} :∀{cs:List V} {vs:List Value},gX C cs vs->cs.length=vs.length
 |[],_,h=>by simp[gX]at h;simp[h]|_::_,_,⟨v,r,e,_,_,h3⟩=>by subst e;simp[nK h3]
theorem wU{C:Cx} :∀{a:List V} {va:List Value} {b:List V} {vb:List Value},gX C a va->gX C b vb->gX C (a++b) (va++vb)
 |[],_,_,_,h,k=>by simp[gX]at h;subst h;exact k|_::_,_,_,_,⟨v,r,e,h1,h2,h3⟩,k=>by subst e;exact⟨v,r++_,rfl,h1,h2,wU h3 k⟩
theorem OI{C:Cx} :∀{cs:List V} {vs:List Value},gX C cs vs->∀v∈vs,v.oneCell' =true
 |[],_,h=>by simp[gX]at h;simp[h]|_::_,_,⟨v,r,e,_,h2,h3⟩=>by
  subst e;intro u hu;rcases C9.1 hu with rfl|hu
  ·exact h2
  ·exact OI h3 u hu
theorem xB{C:Cx} :∀(n:Nat) {cs:List V} {vs:List Value},gX C cs vs->gX C (cs.drop n) (vs.drop n)
 |0,_,_,h=>by simpa using h|n+1,[],_,h=>by simp[gX]at h;subst h;simp[gX]|n+1,_::_,_,⟨v,r,e,_,_,h3⟩=>by subst e;simpa using xB n h3
theorem zy{C:Cx} :∀(n:Nat) {cs:List V} {vs:List Value},gX C cs vs->gX C (cs.take n) (vs.take n)
 |0,_,_,h=>by simp[gX]|n+1,[],_,h=>by simp[gX]at h;subst h;simp[gX]|n+1,_::_,_,⟨v,r,e,h1,h2,h3⟩=>by subst e;exact⟨v,r.take n,A7,h1,h2,zy n h3⟩
theorem lG:∀(t:Ty) (x:t.den) (r:List V),flat t x r=flat t x []++r
 | .bool,_,_=>rfl| .int _,_,_=>rfl| .str,_,_=>rfl| .sl _,_,_=>rfl| .unit,_,_=>rfl| .prod a b,x,r=>by simp only[flat];rw[lG a x.1 (flat b x.2 r),lG b x.2 r,lG a x.1 (flat b x.2 [])];simp| .ent _ _ a b,x,r=>by simp only[flat];rw[lG a x.1 (flat b x.2 r),lG b x.2 r,lG a x.1 (flat b x.2 [])];simp
theorem qP{C:Cx} :∀{t:Ty} {x:t.den} {cs:List Value},lC C.h C.ok t x cs->gX C (flat t x []) cs
 | .bool,x,_,h=>by simp[lC]at h;subst h;exact⟨_,_,rfl,rfl,rfl,rfl⟩| .int _,x,_,h=>by simp[lC]at h;subst h;exact⟨_,_,rfl,rfl,rfl,rfl⟩| .str,x,_,h=>by simp[lC]at h;subst h;exact⟨_,_,rfl,rfl,rfl,rfl⟩| .unit,_,_,h=>by simp[lC]at h;subst h;rfl
 | .sl t,xs,_,h=>by have h' :=h;rcases h with⟨_,a,cap,rfl,_⟩|⟨_,mv,rfl,_⟩<;>exact⟨_,_,rfl,h',rfl,rfl⟩
 | .ent _ _ a b,x,_,h=>by obtain⟨c,d,rfl,h1,h2⟩:=h;simp only[flat];rw[lG a];exact wU (qP h1) (qP h2)
 | .prod a b,x,_,h=>by obtain⟨c,d,rfl,h1,h2⟩:=h;simp only[flat];rw[lG a];exact wU (qP h1) (qP h2)
theorem pz:∀(t:Ty) (x:t.den),(flat t x []).length=t.size
 | .bool,_=>rfl| .int _,_=>rfl| .str,_=>rfl| .sl _,_=>rfl| .unit,_=>rfl| .prod a b,x=>by simp only[flat,Ty.size];rw[lG a,F5,pz a x.1,pz b x.2]| .ent _ _ a b,x=>by simp only[flat,Ty.size];rw[lG a,F5,pz a x.1,pz b x.2]
theorem qm{C:Cx}{ok' :Nat->Ty->Prop}{t:Ty}{xs:List t.den}{l:Loc}{vw:Option (Nat×Nat)}{v:Value}(ha:arrOk C t xs l)(hv:l.view vw v)
  (hok:∀b t,C.ok b t->ok' b t) (hb:∀blk,blk∈l.blks->ok' blk t):lC C.h ok' (.sl t) (iY vw xs) [v]:=by
 cases l with
 |st b=>cases ha|mp b=>
  obtain⟨h0,es,ck,h1,h2,h3⟩:=ha;cases vw with
  |some p=>cases hv|none=>simp only[Loc.view]at hv;subst hv;refine .inr ⟨h0,some b,rfl,(λh=>nomatch h),λblk e=>?_⟩;cases e;refine⟨hb b (by simp[Loc.blks]),es,ck,h1,h2,λi x hi=>?_⟩;obtain⟨en,a1,a2,a3⟩:=h3 i x hi;exact⟨en,a1,a2,dP hok (λ_ _ _=>rfl) a3⟩
 |nil=>
  obtain⟨ha,h0⟩:=ha;subst ha;cases vw with
  |none=>simp only[Loc.view]at hv;subst hv;exact .inl ⟨h0,none,0,rfl,E5 _,λi x hi=>by simp[iY]at hi⟩|some p=>obtain⟨lo,hi⟩:=p;obtain⟨rfl,rfl,rfl⟩:=hv;exact .inl ⟨h0,none,0,by simp[iY,pF],by simp[iY,pF],λi x hi=>by simp[iY,pF]at hi⟩
 |arr blk off len cap sz=>
  obtain⟨h0,rfl,rfl,hc,c,T,hh,hs,hx⟩:=ha;have hbk:=hb blk (by simp[Loc.blks]);cases vw with
  |none=>simp only[Loc.view]at hv;subst hv;refine .inl ⟨h0,_,cap,rfl,hc,λi x hi=>?_⟩;obtain⟨es,he,hr⟩:=hx i x hi;exact⟨blk,off,es,rfl,hbk,he,dP hok (λ_ _ _=>rfl) hr⟩
  |some p=>
   obtain⟨lo,hi⟩:=p;obtain⟨h1,h2,rfl⟩:=hv;have hl:(iY (some (lo,hi)) xs).length=hi -lo:=by simp[iY,pF];omega
   refine .inl ⟨h0,_,cap -lo,by rw[hl],by rw[hl];omega,λi x hix=>?_⟩;have hi' :i<hi -lo:=by rw[←hl];exact(Z4.1 hix).1
   have hx' :xs[lo+i]? =some x:=by
    simp only[iY,pF,U6,ak]at hix;split at hix
    ·exact hix
    ·cases hix
   obtain⟨es,he,hr⟩:=hx _ x hx';have hne:cap≠lo:=l7;refine⟨blk,off+lo*t.size,es,by simp[hne],hbk,?_,dP hok (λ_ _ _=>rfl) hr⟩;rw[←he];congr 1;rw[J3];omega
end Go.GP
namespace Go.GP
abbrev Sm:=Nat->V
def upd(S:Sm)(k:Nat)(v:V):Sm:=λn=>if n=k then v else S n
@[simp] theorem lD (S:Sm) (k:Nat) (v:V):upd S k v k=v:=by simp[upd]
theorem bz(S:Sm){k n:Nat}(v:V)(h:n≠k):upd S k v n=S n:=by simp[upd,h]
def Cmd.eval{α:Type} :Cmd α->Sm->Tr->Option (α×Sm×Tr)
 | .ret x,S,t=>some (x,S,t)| .fail,_,_=>none| .get k c,S,t=>(c (S k)).eval S (k::t.1,t.2)| .set k v c,S,t=>c.eval (upd S k v) (t.1,k::t.2)
 | .opt o c,S,t=>match o with|some x=>(c x).eval S t|none=>none
 | .br b c d,S,t=>if b=true then c.eval S t else d.eval S t
def Cmd.post{α:Type} :Cmd α->Sm->(α->Sm->Prop)->Prop
 | .ret x,S,Q=>Q x S| .fail,_,_=>True| .get k c,S,Q=>(c (S k)).post S Q| .set k v c,S,Q=>c.post (upd S k v) Q| .opt o c,S,Q=>∀x,o=some x->(c x).post S Q| .br b c d,S,Q=>(b=true->c.post S Q)/\(b=false->d.post S Q)
theorem um{α:Type}{Q:α->Sm->Prop} :∀{c:Cmd α} {S S' :Sm} {t t' :Tr} {x:α},c.post S Q->c.eval S t=some (x,S',t')->Q x S'
 | .ret x,_,_,_,_,_,h,e=>by simp[Cmd.eval]at e;obtain⟨rfl,rfl,rfl⟩:=e;exact h
 | .fail,_,_,_,_,_,h,e=>by simp[Cmd.eval]at e| .get k c,_,_,_,_,_,h,e=>um (c:=c _) h e| .set k v c,_,_,_,_,_,h,e=>um (c:=c) h e| .opt o c,_,_,_,_,_,h,e=>by
  cases o with
  |none=>simp[Cmd.eval]at e|some x=>exact um (c:=c x) (h x rfl) e
 | .br b c d,_,_,_,_,_,h,e=>by
  cases b
  ·exact um (c:=d) (h.2 rfl) (by simpa[Cmd.eval]using e)
  ·exact um (c:=c) (h.1 rfl) (by simpa[Cmd.eval]using e)
theorem Bi{α:Type}{Q Q' :α->Sm->Prop}(hq:∀x S,Q x S->Q' x S):∀{c:Cmd α} {S:Sm},c.post S Q->c.post S Q'
 | .ret x,_,h=>hq _ _ h| .fail,_,_=>trivial| .get k c,_,h=>Bi hq (c:=c _) h| .set k v c,_,h=>Bi hq (c:=c) h
 | .opt o c,_,h=>λx e=>Bi hq (c:=c x) (h x e)| .br b c d,_,h=>⟨λe=>Bi hq (c:=c) (h.1 e),λe=>Bi hq (c:=d) (h.2 e)⟩
theorem FY{R:Type} :∀(v:V) (K:V->R),v.force K=K v:=by
 intro v;induction v using V.rec (motive_2:=λ_=>True)<;>try trivial
 all_goals intro K
 all_goals try rfl
 case i k n=>cases k<;>rfl
 case own bx vw=>cases vw<;>rfl
 case barrs m xs h=>rcases h with _|⟨p,q,_|r⟩<;>rfl
 case ifc t v ih=>simp only[V.force];rw[ih]
theorem Xy{R:Type} :∀(l:List V) (K:List V->R),Qe l K=K l
 |[],_=>rfl|v::r,K=>by simp[Qe,FY,Xy r]
theorem a6f{R:Type}(v:V)(K:V->R):v.force2 K=K v:=by unfold V.force2;rw[FY];cases v<;>simp[Xy]
theorem a4Y(k:Nat)(v:V)(s:St):dU (.kv k v::s)=upd (dU s) k v:=by
 funext n;simp only[dU,upd];by_cases h:n=k
 ·subst h;simp
 ·have:Nat.beq k n=false:=by
   cases hb:Nat.beq k n with
   |false=>rfl|true=>exact absurd (iO hb).symm h
  simp[h,this]
theorem DW{α β:Type}{o:Option α}{f:α->Option β}{r:β}(h:o5 o f=some r):∃x,o=some x/\f x=some r:=by
 cases o with
 |none=>simp[o5]at h|some x=>exact⟨x,rfl,h⟩
theorem pK{α R:Type} :∀{c:Cmd α} {s:St} {t:Tr} {K:α->St->Tr->Option R} {r:R},c.runK s t K=some r->
  ∃x s' t',c.eval (dU s) t=some (x,dU s',t')/\K x s' t' =some r
 | .ret x,s,t,K,r,h=>⟨x,s,t,rfl,h⟩| .fail,_,_,_,_,h=>by simp[Cmd.runK]at h| .get k c,s,t,K,r,h=>by simp only[Cmd.runK,FY]at h;exact pK (c:=c _) h| .set k v c,s,t,K,r,h=>by simp only[Cmd.runK,a6f]at h;obtain⟨x,s',t',e,hk⟩:=pK (c:=c) h;exact⟨x,s',t',by simpa[Cmd.eval,a4Y]using e,hk⟩
 | .opt o c,s,t,K,r,h=>by simp only[Cmd.runK]at h;obtain⟨y,rfl,h⟩:=DW h;exact pK (c:=c y) h
 | .br b c d,s,t,K,r,h=>by
  simp only[Cmd.runK]at h;cases b
  ·obtain⟨x,s',t',e,hk⟩:=pK (c:=d) (show d.runK s t K=some r from h);exact⟨x,s',t',by simpa[Cmd.eval]using e,hk⟩
  ·obtain⟨x,s',t',e,hk⟩:=pK (c:=c) (show c.runK s t K=some r from h);exact⟨x,s',t',by simpa[Cmd.eval]using e,hk⟩
theorem AU{α:Type} :∀{c:Cmd α} {S S' :Sm} {t t' :Tr} {x:α},c.eval S t=some (x,S',t')->(∀k∈t.1,k∈t'.1)/\(∀k∈t.2,k∈t'.2)
 | .ret x,_,_,_,_,_,e=>by simp[Cmd.eval]at e;obtain⟨rfl,rfl,rfl⟩:=e;exact⟨λ_ h=>h,λ_ h=>h⟩
 | .fail,_,_,_,_,_,e=>by simp[Cmd.eval]at e| .get k c,_,_,_,_,_,e=>by have h:=AU (c:=c _) e;exact⟨λn hn=>h.1 n (by simp[hn]),h.2⟩| .set k v c,_,_,_,_,_,e=>by have h:=AU (c:=c) e;exact⟨h.1,λn hn=>h.2 n (by simp[hn])⟩| .opt o c,_,_,_,_,_,e=>by
  cases o with
  |none=>simp[Cmd.eval]at e|some x=>exact AU (c:=c x) e
 | .br b c d,_,_,_,_,_,e=>by
  cases b
  ·exact AU (c:=d) (by simpa[Cmd.eval]using e)
  ·exact AU (c:=c) (by simpa[Cmd.eval]using e)
theorem yT{α:Type} :∀{c:Cmd α} {S S' :Sm} {t t' :Tr} {x:α},c.eval S t=some (x,S',t')->∀T:Sm,(∀k∈t'.1,T k=S k)->
  ∃T',c.eval T t=some (x,T',t')/\(∀k,T k=S k->T' k=S' k)/\(∀k,k∉t'.2->T' k=T k)/\(∀k,k∈t'.2->k∉t.2->T' k=S' k)
 | .ret x,_,_,_,_,_,e,T,hT=>by simp[Cmd.eval]at e;obtain⟨rfl,rfl,rfl⟩:=e;exact⟨T,rfl,λk h=>h,λ_ _=>rfl,λk h1 h2=>absurd h1 h2⟩
 | .fail,_,_,_,_,_,e,_,_=>by simp[Cmd.eval]at e| .get k c,S,_,t,t',_,e,T,hT=>by have hk:T k=S k:=hT k ((AU (c:=c _) e).1 k A7);obtain⟨T',h1,h2,h3,h4⟩:=yT (c:=c _) e T hT;exact⟨T',by simpa[Cmd.eval,hk]using h1,h2,h3,h4⟩
 | .set k v c,S,_,t,t',_,e,T,hT=>by
  obtain⟨T',h1,h2,h3,h4⟩:=yT (c:=c) e (upd T k v) (λn hn=>by
   by_cases h:n=k
   ·subst h;simp
   ·rw[bz _ _ h,bz _ _ h];exact hT n hn)
  have hkin:k∈t'.2:=(AU (c:=c) e).2 k A7;refine⟨T',h1,λn hn=>h2 n ?_,λn hn=>?_,λn hn hn' =>?_⟩
  ·by_cases h:n=k
   ·subst h;simp
   ·rw[bz _ _ h,bz _ _ h];exact hn
  ·have:n≠k:=λh=>hn (h▸hkin);rw[h3 n hn,bz _ _ this]
  ·by_cases h:n=k
   ·subst h;exact h2 n A7
   ·exact h4 n hn (by simp[h,hn'])
 | .opt o c,_,_,_,_,_,e,T,hT=>by
  cases o with
  |none=>simp[Cmd.eval]at e|some x=>exact yT (c:=c x) e T hT
 | .br b c d,_,_,_,_,_,e,T,hT=>by
  cases b
  ·obtain⟨T',h1,h2⟩:=yT (c:=d) (by simpa[Cmd.eval]using e) T hT;exact⟨T',by simpa[Cmd.eval]using h1,h2⟩
  ·obtain⟨T',h1,h2⟩:=yT (c:=c) (by simpa[Cmd.eval]using e) T hT;exact⟨T',by simpa[Cmd.eval]using h1,h2⟩
theorem GX{α:Type}{c:Cmd α}{S S' :Sm}{t t' :Tr}{x:α}(e:c.eval S t=some (x,S',t'))(k:Nat)(h:k∉t'.2):S' k=S k:=by obtain⟨T',h1,_,h3,_⟩:=yT e S (λ_ _=>rfl);rw[e]at h1;simp at h1;rw[h1];exact h3 k h
section draws
variable {n:Nat} {c:Nat->Cmd Unit} {S:Nat->Sm} {T:Nat->Tr}
def SD(S:Nat->Sm)(T:Nat->Tr)(D:List Nat):Nat->Sm
 |0=>S 0
 |m+1=>λk=>if m∈D/\k∈(T m).2 then S (m+1) k else SD S T D m k
theorem Kq(hs:∀i,i<n->(c i).eval (S i) ([],[])=some ((),S (i+1),T i))(D:List Nat)(k:Nat):
  ∀m,m<=n->(∀j,j<m->k∈(T j).2->j∈D)->SD S T D m k=S m k
 |0,_,_=>rfl|m+1,hm,h=>by
  have ih:=Kq hs D k m l7 (λj hj=>h j l7);simp only[SD];by_cases hk:k∈(T m).2
  ·rw[if_pos ⟨h m l7 hk,hk⟩]
  ·rw[if_neg (λx=>hk x.2),ih,GX (hs m l7) k hk]
theorem TB(D:List Nat)(k i:Nat):∀m,i<=m->(∀j,i<=j->j<m->k∈(T j).2->j∉D)->SD S T D m k=SD S T D i k
 |m,hm,h=>by
  induction m with
  |zero=>have:i=0:=l7;subst this;rfl|succ m ih=>
   by_cases e:i=m+1
   ·subst e;rfl
   ·simp only[SD];rw[if_neg (λx=>h m l7 l7 x.2 x.1)];exact ih l7 (λj h1 h2=>h j h1 l7)
theorem a4s(D:List Nat)(i k:Nat)(hk:k∉(T i).2):∀m,SD S T (i::D) m k=SD S T D m k
 |0=>rfl|m+1=>by
  simp only[SD,a4s D i k hk m];by_cases e:m=i
  ·subst e;simp[hk]
  ·simp[C9,e]
theorem a7x(hs:∀i,i<n->(c i).eval (S i) ([],[])=some ((),S (i+1),T i)){D:List Nat}(hD:∀i,i<n->i∈D):SD S T D n=S n:=by funext k;exact Kq hs D k n l7 (λj hj _=>hD j hj)
theorem b4g(n:Nat):SD S T [] n=S 0:=by
 induction n with
 |zero=>rfl|succ m ih=>funext k;simp[SD,ih]
end draws
end Go.GP
namespace Go.GP
structure Fx where
 P:Program
 E:Env
 w0:World
 O:List Nat
 ok0:Nat->Ty->Prop
 tm0:Array Value
structure Frame' (w0 w:World) (O:List Nat):Prop where
 os:w.os=w0.os
 tape:w.tape=w0.tape
 output:w.output=w0.output
 size:w0.heap.size<=w.heap.size
 block:∀b,b<w0.heap.size->b∉O->w.heap[b]? =w0.heap[b]?
theorem Frame'.refl(w:World)(O:List Nat):Frame' w w O:=⟨rfl,rfl,rfl,E5 _,λ_ _ _=>rfl⟩
def b3w(h:Array Obj)(g n:Nat):Prop:=∃c T f,h[g]? =some (.cells c T f)/\c.size=n
def Nu(C:Cx)(g:Nat)(t:Ty)(xs:List t.den):Prop:=
 C.ok g t/\b3w C.h g (xs.length*t.size)/\∀i x,xs[i]? =some x->∃es,dR C.h g (i*t.size) t.size=some es/\lC C.h C.ok t x es
theorem Nu.le{C D:Cx}(h:C.le D){g:Nat}{t:Ty}{xs:List t.den}(k:Nu C g t xs):Nu D g t xs:=by obtain⟨h1,h3,h2⟩:=k;refine⟨h.ok _ _ h1,by unfold b3w at h3 ⊢;rw[h.h _ _ h1];exact h3,λi x hi=>?_⟩;obtain⟨es,he,hr⟩:=h2 i x hi;exact⟨es,by rw[rU (h.h _ _ h1)];exact he,dP h.ok h.h hr⟩
structure Rel (X:Fx) (cl ch:Nat) (S:Sm) (m:Mp) (ok:Nat->Ty->Prop) (a:Act) (w:World):Prop where
 size:a.tmps.size=X.E.nt
 nodef:a.defers=[]
 slot:∀n,n<aO->nO ⟨w.heap,ok,m⟩ (S n) (a.tmps.getD n Go.undef)
 box:∀n,Ef ⟨w.heap,ok,m⟩ n (S (aO+n))
 inj:∀n n' b,b∈Y6 m n (S (aO+n))->b∈Y6 m n' (S (aO+n'))->n=n'
 nd:∀n,(Y6 m n (S (aO+n))).Nodup
 sep:∀n b,b∈Y6 m n (S (aO+n))->(∀t,¬ok b t)/\b<w.heap.size/\(X.w0.heap.size<=b\/b∈X.O)
 okLt:∀b t,ok b t->b<w.heap.size
 okIn:∀b t,X.ok0 b t->ok b t
 okOut:∀b t,ok b t->X.ok0 b t\/X.w0.heap.size<=b\/b∈X.O
 frame:Frame' X.w0 w X.O
 fresh:∀n,cl<=n->S (aO+n)= .undef->m n=none
 strict:∀n,ch<=n->m n=none
 gl:∀g u,dV X.E.gl g=some u->Nu ⟨w.heap,ok,m⟩ g u.1 u.2
 kept:∀n∈X.E.kp,a.tmps.getD n Go.undef=X.tm0.getD n Go.undef
def nR(m:Mp)(n:Nat)(l:Loc)(ks:List Nat):Mp:=⟨λk=>if k=n then some l else m k,λk=>if k=n then ks else m.kid k⟩
@[simp] theorem eQ (m:Mp) (n:Nat) (l:Loc) (ks:List Nat):nR m n l ks n=some l:=by simp[nR]
theorem kz(m:Mp){n k:Nat}(l:Loc)(ks:List Nat)(h:k≠n):nR m n l ks k=m k:=by simp[nR,h]
@[simp] theorem c1z (m:Mp) (n:Nat) (l:Loc) (ks:List Nat):(nR m n l ks).kid n=ks:=by simp[nR]
theorem QQ(m:Mp){n k:Nat}(l:Loc)(ks:List Nat)(h:k≠n):(nR m n l ks).kid k=m.kid k:=by simp[nR,h]
def Ep(m:Mp)(n:Nat)(ks:List Nat):Mp:=⟨m.loc,λk=>if k=n then ks else m.kid k⟩
@[simp] theorem c0t (m:Mp) (n k:Nat) (ks:List Nat):Ep m n ks k=m k:=rfl
@[simp] theorem c0s (m:Mp) (n:Nat) (ks:List Nat):(Ep m n ks).kid n=ks:=by simp[Ep]
theorem Yi(m:Mp){n k:Nat}(ks:List Nat)(h:k≠n):(Ep m n ks).kid k=m.kid k:=by simp[Ep,h]
theorem xC(m:Mp)(n:Nat):Ep m n (m.kid n)=m:=by
 cases m with|mk l k=>
 simp only[Ep,Mp.mk.injEq,true_and];funext j;split
 ·rename_i e;rw[e]
 ·rfl
theorem Ht{m m' :Mp}{n:Nat}{v:V}(h:m' n=m n)(k:m'.kid n=m.kid n):Y6 m' n v=Y6 m n v:=by cases v<;>simp only[Y6,h,k]
theorem WE{tmps:Array Value}{d:Nat}(h:d<tmps.size)(x e:Value):(tmps.setIfInBounds d x).getD d e=x:=by simp[Array.getD,h]
theorem Jj{tmps:Array Value}{d n:Nat}(h:n≠d)(x e:Value):(tmps.setIfInBounds d x).getD n e=tmps.getD n e:=by simp only[Y7];rw[Array.getElem?_setIfInBounds];simp[Ne.symm h]
structure Tk (X:Fx) (S:Sm) (m:Mp) (ok:Nat->Ty->Prop) (w:World) (T:List Nat):Prop where
 nodup:T.Nodup
 free:∀b∈T,(∀t,¬ok b t)/\b<w.heap.size/\(X.w0.heap.size<=b\/b∈X.O)/\∀n,b∉Y6 m n (S (aO+n))
theorem Tk.nil{X:Fx}{S:Sm}{m:Mp}{ok:Nat->Ty->Prop}{w:World} :Tk X S m ok w []:=⟨dY,λb h=>by cases h⟩
def okW(ok:Nat->Ty->Prop)(bs:List Nat)(Ts:List Ty):Nat->Ty->Prop:=λb t=>ok b t\/(b∈bs/\t∈Ts)
section
variable {X:Fx} {cl ch:Nat} {S:Sm} {m:Mp} {ok:Nat->Ty->Prop} {a:Act} {w:World} {T:List Nat}
theorem Tk.perm{T T' :List Nat}(h:Tk X S m ok w T)(p:T.Perm T'):Tk X S m ok w T' :=
 ⟨p.nodup_iff.1 h.nodup,λb hb=>h.free b (p.mem_iff.2 hb)⟩
theorem Tk.left{T T' :List Nat}(h:Tk X S m ok w (T++T')):Tk X S m ok w T:=
 ⟨(I7.1 h.nodup).1,λb hb=>h.free b (G6 _ hb)⟩
theorem Tk.right{T T' :List Nat}(h:Tk X S m ok w (T++T')):Tk X S m ok w T' :=
 ⟨(I7.1 h.nodup).2.1,λb hb=>h.free b (aU _ hb)⟩
theorem UU{n:Nat} :∀{l:List Nat},DU n l=false->n∉l
 |[],_,h=>by cases h|k::r,hb,h=>by
  unfold DU at hb;cases hk:Nat.beq k n<;>rw[hk]at hb
  ·rcases C9.1 h with e|h
   ·subst e;rw[show Nat.beq n n=true from Nat.beq_refl n]at hk;cases hk
   ·exact UU hb h
  ·cases hb
theorem XN{n:Nat} :∀{l:List Nat},DU n l=true->n∈l
 |[],h=>by cases h|k::r,hb=>by
  unfold DU at hb;cases hk:Nat.beq k n<;>rw[hk]at hb
  ·exact P5 _ (XN hb)
  ·have:=iO hk;subst this;exact kL
theorem Bg{E:Env}{t:Nat}(h:XV E t=true):t<E.nt/\t∉E.kp:=by
 unfold XV at h;cases hb:Nat.blt t E.nt<;>rw[hb]at h
 ·cases h
 ·simp only[cond_true,bH]at h;exact⟨by rw[eP]at hb;exact hb,UU h⟩
theorem Rel.put(R:Rel X cl ch S m ok a w)(hnt:X.E.nt<=aO){d:Nat}{v:V}{x:Value}(hd:XV X.E d=true)(hv:nO ⟨w.heap,ok,m⟩ v x):
  Rel X cl ch (upd S d v) m ok (a.put (some d) x) w:=by
 obtain⟨hd,hkp⟩:=Bg hd;have hb:∀n,upd S d v (aO+n)=S (aO+n):=λn=>bz _ _ l7;have hkept:∀n∈X.E.kp,(a.put (some d) x).tmps.getD n Go.undef=X.tm0.getD n Go.undef:=λn hn=>by have e:n≠d:=λe=>hkp (e▸hn);simp only[Act.put];rw[Jj e];exact R.kept n hn
 refine { R with size:=(by simp[Act.put,R.size]),nodef:=(by simp[Act.put,R.nodef]),slot:=λn hn=>?_,box:=λn=>(by rw[hb];exact R.box n),inj:=λn n' b=>(by rw[hb,hb];exact R.inj n n' b),nd:=λn=>(by rw[hb];exact R.nd n),sep:=λn b=>(by rw[hb];exact R.sep n b),fresh:=λn h1 h2=>R.fresh n h1 (by rwa[hb]at h2),kept:=hkept };by_cases e:n=d
 ·subst e;simp only[lD,Act.put];rw[WE (by rw[R.size];exact hd)];exact hv
 ·rw[bz _ _ e];simp only[Act.put];rw[Jj e];exact R.slot n hn
theorem Rel.slotV(R:Rel X cl ch S m ok a w){d:Nat}{v:V}(hd:d<aO)(hv:nO ⟨w.heap,ok,m⟩ v (a.tmps.getD d Go.undef)):
  Rel X cl ch (upd S d v) m ok a w:=by
 have hb:∀n,upd S d v (aO+n)=S (aO+n):=λn=>bz _ _ l7;refine { R with slot:=λn hn=>?_,box:=λn=>(by rw[hb];exact R.box n),inj:=λn n' b=>(by rw[hb,hb];exact R.inj n n' b),nd:=λn=>(by rw[hb];exact R.nd n),sep:=λn b=>(by rw[hb];exact R.sep n b),fresh:=λn h1 h2=>R.fresh n h1 (by rwa[hb]at h2) };by_cases e:n=d
 ·subst e;simp only[lD];exact hv
 ·rw[bz _ _ e];exact R.slot n hn
theorem Rel.world(R:Rel X cl ch S m ok a w){ok' :Nat->Ty->Prop}{w' :World}(hos:w'.os=w.os)(htp:w'.tape=w.tape)(hout:w'.output=w.output)(hsz:w.heap.size<=w'.heap.size)
  (hkeep:∀b,b<w.heap.size->((∃t,ok b t)\/(∃n,b∈Y6 m n (S (aO+n)))\/¬(X.w0.heap.size<=b\/b∈X.O))->w'.heap[b]? =w.heap[b]?)
  (hok:∀b t,ok b t->ok' b t) (hok' :∀b t,ok' b t->b<w'.heap.size/\(ok b t\/((X.w0.heap.size<=b\/b∈X.O)/\∀n,b∉Y6 m n (S (aO+n))))):
  Rel X cl ch S m ok' a w' :=by
 have hle:Cx.le ⟨w.heap,ok,m⟩ ⟨w'.heap,ok',m⟩:=⟨hok,λb t hb=>hkeep b (R.okLt b t hb) (.inl ⟨t,hb⟩),λ_ _ h=>h⟩;refine { kept:=R.kept,size:=R.size,nodef:=R.nodef,inj:=R.inj,nd:=R.nd,fresh:=R.fresh,strict:=R.strict,slot:=λn hn=>OL hle (R.slot n hn),box:=λn=>Tf hle rfl (λb hb=>hkeep b (R.sep n b hb).2.1 (.inr (.inl ⟨n,hb⟩))) (R.box n),sep:=λn b hb=>?_,okLt:=λb t hb=>(hok' b t hb).1,okIn:=λb t hb=>hok b t (R.okIn b t hb),okOut:=λb t hb=>?_,frame:=?_,gl:=λg u hg=>Nu.le hle (R.gl g u hg) }
 ·obtain⟨h1,h2,h3⟩:=R.sep n b hb;refine⟨λt h=>?_,l7,h3⟩;rcases(hok' b t h).2 with h|⟨_,h⟩
  ·exact h1 t h
  ·exact h n hb
 ·rcases(hok' b t hb).2 with h|⟨h,_⟩
  ·exact R.okOut b t h
  ·exact .inr h
 ·obtain⟨f1,f2,f3,f4,f5⟩:=R.frame;refine⟨hos.trans f1,htp.trans f2,hout.trans f3,l7,λb hb hO=>?_⟩;rw[hkeep b l7 (.inr (.inr (by simp[hO];omega)))];exact f5 b hb hO
theorem Rel.same(R:Rel X cl ch S m ok a w){w' :World}(hos:w'.os=w.os)(htp:w'.tape=w.tape)(hout:w'.output=w.output)(hh:w'.heap=w.heap):Rel X cl ch S m ok a w' :=by refine R.world hos htp hout (by rw[hh];exact E5 _) (λb _ _=>by rw[hh]) (λ_ _ h=>h) (λb t h=>⟨by rw[hh];exact R.okLt b t h,.inl h⟩)
theorem Bh{n k b:Nat}{v:V}(hv:Y6 m n v=[])(h:b∈Y6 m k (upd S (aO+n) v (aO+k))):k≠n/\b∈Y6 m k (S (aO+k)):=by
 by_cases e:k=n
 ·subst e;rw[lD,hv]at h;cases h
 ·rw[bz _ _ l7]at h;exact⟨e,h⟩
theorem Rel.killV(R:Rel X cl ch S m ok a w)(n:Nat){v:V}(hv:v≠.undef)(hw:Y6 m n v=[])(hB:Ef ⟨w.heap,ok,m⟩ n v):Rel X cl ch (upd S (aO+n) v) m ok a w:=by
 have ho:∀k b,b∈Y6 m k (upd S (aO+n) v (aO+k))->k≠n/\b∈Y6 m k (S (aO+k)):=λk b h=>Bh hw h;refine { R with slot:=λk hk=>(by rw[bz _ _ l7];exact R.slot k hk),box:=λk=>?_,inj:=λk k' b h h' =>R.inj k k' b (ho _ _ h).2 (ho _ _ h').2,nd:=λk=>?_,sep:=λk b h=>R.sep k b (ho _ _ h).2,fresh:=λk h1 h2=>?_ }
 ·by_cases e:k=n
  ·subst e;rw[lD];exact hB
  ·rw[bz _ _ l7];exact R.box k
 ·by_cases e:k=n
  ·subst e;rw[lD,hw];exact dY
  ·rw[bz _ _ l7];exact R.nd k
 ·by_cases e:k=n
  ·subst e;rw[lD]at h2;exact absurd h2 hv
  ·rw[bz _ _ l7]at h2;exact R.fresh k h1 h2
theorem Rel.kill(R:Rel X cl ch S m ok a w)(n:Nat):Rel X cl ch (upd S (aO+n) .dead) m ok a w:=R.killV n A7 rfl trivial
theorem Tk.killV(R:Rel X cl ch S m ok a w)(h:Tk X S m ok w T)(n:Nat){v:V}(hw:Y6 m n v=[]){bs:List Nat}(hbs:∀b,b∈bs->b∈Y6 m n (S (aO+n)))(hnd:bs.Nodup):
  Tk X (upd S (aO+n) v) m ok w (T++bs):=by
 refine⟨I7.2 ⟨h.nodup,hnd,λx hx y hy e=>?_⟩,λb hb=>?_⟩
 ·subst e;exact(h.free x hx).2.2.2 n (hbs x hy)
 ·rcases A8.1 hb with hb|hb
  ·obtain⟨h1,h2,h3,h4⟩:=h.free b hb;exact⟨h1,h2,h3,λk e=>h4 k (Bh hw e).2⟩
  ·obtain⟨h1,h2,h3⟩:=R.sep n b (hbs b hb);exact⟨h1,h2,h3,λk e=>(Bh hw e).1 (R.inj k n b (Bh hw e).2 (hbs b hb))⟩
theorem Rel.mark(R:Rel X cl ch S m ok a w){n:Nat}{md:M}{xs:List md.den}(hS:S (aO+n)= .barrs md xs none):Rel X cl ch (upd S (aO+(PG+n)) (.blen (x8 xs) md.size)) m ok a w:=by
 refine R.killV (PG+n) A7 rfl ?_;have hb:=R.box n;rw[hS]at hb;obtain⟨_,l,Os,hm,⟨ha,hho⟩,_⟩:=hb;refine⟨n,l,rfl,hm,?_⟩;cases l with
 |nil=>obtain⟨rfl,_⟩:=ha;rfl
 |st b=>cases ha|mp b=>cases ha|arr blk off len cap sz=>exact⟨by rw[ha.2.1];rfl,ha.1.symm⟩
theorem Tk.kill(R:Rel X cl ch S m ok a w)(h:Tk X S m ok w T)(n:Nat){bs:List Nat}(hbs:∀b,b∈bs->b∈Y6 m n (S (aO+n)))(hnd:bs.Nodup):
  Tk X (upd S (aO+n) .dead) m ok w (T++bs):=h.killV R n rfl hbs hnd
theorem Rel.lay(R:Rel X cl ch S m ok a w){n:Nat}{l:Loc}{ks:List Nat}{v:V}{w' :World}(hn:S (aO+n)= .undef)(hcl:cl<=n)(hch:n<ch)(hv:v≠.undef)
  (hos:w'.os=w.os) (htp:w'.tape=w.tape) (hout:w'.output=w.output) (hsz:w.heap.size<=w'.heap.size)
  (hkeep:∀b,b<w.heap.size->b∉Y6 (nR m n l ks) n v->w'.heap[b]? =w.heap[b]?)
  (hnd:(Y6 (nR m n l ks) n v).Nodup)
  (hfree:∀b∈Y6 (nR m n l ks) n v,(∀t,¬ok b t)/\b<w'.heap.size/\(X.w0.heap.size<=b\/b∈X.O)/\∀k,b∉Y6 m k (S (aO+k)))
  (hB:Ef ⟨w'.heap,ok,nR m n l ks⟩ n v):Rel X cl ch (upd S (aO+n) v) (nR m n l ks) ok a w' :=by
 have hm:m n=none:=R.fresh n hcl hn;have hR:Rel X cl ch S m ok a w' :=by
  refine R.world hos htp hout hsz (λb hb h=>?_) (λ_ _ h=>h) (λb t h=>⟨by have:=R.okLt b t h;omega,.inl h⟩);refine hkeep b hb (λe=>?_);obtain⟨h1,h2,h3,h4⟩:=hfree b e;rcases h with⟨t,h⟩|⟨k,h⟩|h
  ·exact h1 t h
  ·exact h4 k h
  ·exact h h3
 have hle:Cx.le ⟨w'.heap,ok,m⟩ ⟨w'.heap,ok,nR m n l ks⟩:=⟨λ_ _ h=>h,λ_ _ _=>rfl,λk x h=>by
  by_cases e:k=n
  ·subst e;simp[hm]at h
  ·show nR m n l ks k=some x;rw[kz _ _ _ e];exact h⟩
 have hob:∀k,k≠n->Y6 (nR m n l ks) k (upd S (aO+n) v (aO+k))=Y6 m k (S (aO+k)):=λk e=>by rw[bz _ _ l7];exact Ht (kz _ _ _ e) (QQ _ _ _ e)
 have hobn:Y6 (nR m n l ks) n (upd S (aO+n) v (aO+n))=Y6 (nR m n l ks) n v:=by rw[lD]
 refine { kept:=hR.kept,size:=hR.size,nodef:=hR.nodef,okLt:=hR.okLt,okIn:=hR.okIn,okOut:=hR.okOut,frame:=hR.frame,slot:=λk hk=>(by rw[bz _ _ l7];exact OL hle (hR.slot k hk)),box:=λk=>?_,inj:=λk k' b h h' =>?_,nd:=λk=>?_,sep:=λk b h=>?_,fresh:=λk h1 h2=>?_,strict:=λk h=>?_,gl:=λg u hg=>Nu.le hle (hR.gl g u hg) }
 ·by_cases e:k=n
  ·subst e;rw[lD];exact hB
  ·rw[bz _ _ l7];refine Tf hle (QQ _ _ _ e) (λb hb=>rfl) (hR.box k)
 ·by_cases e:k=n
  ·by_cases e' :k' =n
   ·rw[e,e']
   ·subst e;rw[hobn]at h;rw[hob k' e']at h';exact absurd h' ((hfree b h).2.2.2 k')
  ·by_cases e' :k' =n
   ·subst e';rw[hobn]at h';rw[hob k e]at h;exact absurd h ((hfree b h').2.2.2 k)
   ·rw[hob k e]at h;rw[hob k' e']at h';exact R.inj k k' b h h'
 ·by_cases e:k=n
  ·subst e;rw[hobn];exact hnd
  ·rw[hob k e];exact R.nd k
 ·by_cases e:k=n
  ·subst e;rw[hobn]at h;obtain⟨h1,h2,h3,_⟩:=hfree b h;exact⟨h1,h2,h3⟩
  ·rw[hob k e]at h;exact hR.sep k b h
 ·by_cases e:k=n
  ·subst e;rw[lD]at h2;exact absurd h2 hv
  ·rw[bz _ _ l7]at h2;rw[kz _ _ _ e];exact R.fresh k h1 h2
 ·have e:k≠n:=l7;rw[kz _ _ _ e];exact R.strict k h
theorem Rel.modK(R:Rel X cl ch S m ok a w)(hT:Tk X S m ok w T){n:Nat}{v:V}{ks:List Nat}{w' :World}(hv:v≠.undef)
  (hnd:(Y6 (Ep m n ks) n v).Nodup) (hsub:∀b∈Y6 (Ep m n ks) n v,b∈Y6 m n (S (aO+n))\/b∈T)
  (hos:w'.os=w.os) (htp:w'.tape=w.tape) (hout:w'.output=w.output) (hsz:w'.heap.size=w.heap.size)
  (hkeep:∀b,b∉Y6 m n (S (aO+n))->w'.heap[b]? =w.heap[b]?) (hB:Ef ⟨w'.heap,ok,Ep m n ks⟩ n v)
  {T' :List Nat} (hnd' :T'.Nodup) (hT' :∀b∈T',(b∈Y6 m n (S (aO+n))\/b∈T)/\b∉Y6 (Ep m n ks) n v):
  Rel X cl ch (upd S (aO+n) v) (Ep m n ks) ok a w' /\Tk X (upd S (aO+n) v) (Ep m n ks) ok w' T' :=by
 have hsep:∀b,b∈Y6 m n (S (aO+n))\/b∈T->(∀t,¬ok b t)/\b<w.heap.size/\(X.w0.heap.size<=b\/b∈X.O)/\∀k,k≠n->b∉Y6 m k (S (aO+k)):=λb h=>by
  rcases h with h|h
  ·obtain⟨h1,h2,h3⟩:=R.sep n b h;exact⟨h1,h2,h3,λk e h' =>e (R.inj k n b h' h)⟩
  ·obtain⟨h1,h2,h3,h4⟩:=hT.free b h;exact⟨h1,h2,h3,λk _=>h4 k⟩
 have hle:Cx.le ⟨w.heap,ok,m⟩ ⟨w'.heap,ok,Ep m n ks⟩:=⟨λ_ _ h=>h,λb t hb=>hkeep b (λe=>(R.sep n b e).1 t hb),λ_ _ h=>h⟩;have hob:∀k,k≠n->Y6 (Ep m n ks) k (upd S (aO+n) v (aO+k))=Y6 m k (S (aO+k)):=λk e=>by rw[bz _ _ l7];exact Ht rfl (Yi _ _ e)
 have hobn:Y6 (Ep m n ks) n (upd S (aO+n) v (aO+n))=Y6 (Ep m n ks) n v:=by rw[lD]
 refine⟨?_,hnd',λb hb=>?_⟩
 ·refine { kept:=R.kept,size:=R.size,nodef:=R.nodef,okLt:=λb t hb=>(by rw[hsz];exact R.okLt b t hb),okIn:=R.okIn,okOut:=R.okOut,strict:=R.strict,slot:=λk hk=>(by rw[bz _ _ l7];exact OL hle (R.slot k hk)),box:=λk=>?_,inj:=λk k' b h h' =>?_,nd:=λk=>?_,sep:=λk b h=>?_,fresh:=λk h1 h2=>?_,frame:=?_,gl:=λg u hg=>Nu.le hle (R.gl g u hg) }
  ·by_cases e:k=n
   ·subst e;rw[lD];exact hB
   ·rw[bz _ _ l7];refine Tf hle (Yi _ _ e) (λb hb=>hkeep b (λe' =>e (R.inj k n b hb e'))) (R.box k)
  ·by_cases e:k=n
   ·by_cases e' :k' =n
    ·rw[e,e']
    ·subst e;rw[hobn]at h;rw[hob k' e']at h';exact absurd h' ((hsep b (hsub b h)).2.2.2 k' e')
   ·by_cases e' :k' =n
    ·subst e';rw[hobn]at h';rw[hob k e]at h;exact absurd h ((hsep b (hsub b h')).2.2.2 k e)
    ·rw[hob k e]at h;rw[hob k' e']at h';exact R.inj k k' b h h'
  ·by_cases e:k=n
   ·subst e;rw[hobn];exact hnd
   ·rw[hob k e];exact R.nd k
  ·by_cases e:k=n
   ·subst e;rw[hobn]at h;obtain⟨h1,h2,h3,_⟩:=hsep b (hsub b h);exact⟨h1,by rw[hsz];exact h2,h3⟩
   ·rw[hob k e]at h;obtain⟨h1,h2,h3⟩:=R.sep k b h;exact⟨h1,by rw[hsz];exact h2,h3⟩
  ·obtain⟨f1,f2,f3,f4,f5⟩:=R.frame;refine⟨hos.trans f1,htp.trans f2,hout.trans f3,by rw[hsz];exact f4,λb hb hO=>?_⟩;rw[hkeep b (λe=>?_)]
   ·exact f5 b hb hO
   ·rcases(R.sep n b e).2.2 with h|h
    ·omega
    ·exact hO h
  ·by_cases e:k=n
   ·subst e;rw[lD]at h2;exact absurd h2 hv
   ·rw[bz _ _ l7]at h2;exact R.fresh k h1 h2
 ·obtain⟨h0,h0'⟩:=hT' b hb;obtain⟨h1,h2,h3,h4⟩:=hsep b h0;refine⟨h1,by rw[hsz];exact h2,h3,λk h=>?_⟩;by_cases e:k=n
  ·subst e;rw[hobn]at h;exact h0' h
  ·rw[hob k e]at h;exact h4 k e h
theorem Rel.mod(R:Rel X cl ch S m ok a w){n:Nat}{v:V}{w' :World}(ho:Y6 m n v=Y6 m n (S (aO+n)))(hv:v≠.undef)
  (hos:w'.os=w.os) (htp:w'.tape=w.tape) (hout:w'.output=w.output) (hsz:w'.heap.size=w.heap.size)
  (hkeep:∀b,b∉Y6 m n (S (aO+n))->w'.heap[b]? =w.heap[b]?) (hB:Ef ⟨w'.heap,ok,m⟩ n v):Rel X cl ch (upd S (aO+n) v) m ok a w' :=by
 have h:=R.modK (T:=[]) Tk.nil (n:=n) (v:=v) (ks:=m.kid n) (w' :=w') (T' :=[]) hv (by rw[xC,ho];exact R.nd n) (by rw[xC,ho];exact λb h=> .inl h) hos htp hout hsz hkeep (by rw[xC];exact hB) dY (λb h=>by cases h);rw[xC]at h;exact h.1
theorem Rel.widen(R:Rel X cl ch S m ok a w){n:Nat}{v:V}(hv:v≠.undef)(ho:Y6 m n v=[]){Ts:List Ty}{bs:List Nat}(hbs:∀b∈bs,b∈Y6 m n (S (aO+n)))
  (hB:Ef ⟨w.heap,okW ok bs Ts,m⟩ n v):Rel X cl ch (upd S (aO+n) v) m (okW ok bs Ts) a w:=by
 have hmono:∀b t,ok b t->okW ok bs Ts b t:=λb t h=> .inl h;have hob:∀k b,b∈Y6 m k (upd S (aO+n) v (aO+k))->k≠n/\b∈Y6 m k (S (aO+k)):=λk b h=>Bh ho h;have hle:Cx.le ⟨w.heap,ok,m⟩ ⟨w.heap,okW ok bs Ts,m⟩:=⟨hmono,λ_ _ _=>rfl,λ_ _ h=>h⟩;refine { kept:=R.kept,size:=R.size,nodef:=R.nodef,strict:=R.strict,frame:=R.frame,okIn:=λb t h=>hmono b t (R.okIn b t h),slot:=λk hk=>(by rw[bz _ _ l7];exact OL hle (R.slot k hk)),box:=λk=>?_,inj:=λk k' b h h' =>R.inj k k' b (hob _ _ h).2 (hob _ _ h').2,nd:=λk=>?_,sep:=λk b h=>?_,okLt:=λb t h=>?_,okOut:=λb t h=>?_,fresh:=λk h1 h2=>?_,gl:=λg u hg=>Nu.le hle (R.gl g u hg) }
 ·by_cases e:k=n
  ·subst e;rw[lD];exact hB
  ·rw[bz _ _ l7];exact Tf hle rfl (λb hb=>rfl) (R.box k)
 ·by_cases e:k=n
  ·subst e;rw[lD,ho];exact dY
  ·rw[bz _ _ l7];exact R.nd k
 ·obtain⟨e,h⟩:=hob k b h;obtain⟨h1,h2,h3⟩:=R.sep k b h;refine⟨λt h' =>?_,h2,h3⟩;rcases h' with h'|⟨h',_⟩
  ·exact h1 t h'
  ·exact e (R.inj k n b h (hbs b h'))
 ·rcases h with h|⟨h,_⟩
  ·exact R.okLt b t h
  ·exact(R.sep n b (hbs b h)).2.1
 ·rcases h with h|⟨h,_⟩
  ·exact R.okOut b t h
  ·exact .inr (R.sep n b (hbs b h)).2.2
 ·by_cases e:k=n
  ·subst e;rw[lD]at h2;exact absurd h2 hv
  ·rw[bz _ _ l7]at h2;exact R.fresh k h1 h2
theorem Tk.widen(h:Tk X S m ok w T){n:Nat}{v:V}(ho:Y6 m n v=[]){Ts:List Ty}{bs:List Nat}(hbs:∀b∈bs,b∈Y6 m n (S (aO+n))):
  Tk X (upd S (aO+n) v) m (okW ok bs Ts) w T:=by
 refine⟨h.nodup,λb hb=>?_⟩;obtain⟨h1,h2,h3,h4⟩:=h.free b hb;refine⟨λt e=>?_,h2,h3,λk e=>h4 k (Bh ho e).2⟩;rcases e with e|⟨e,_⟩
 ·exact h1 t e
 ·exact h4 n (hbs b e)
theorem Rel.backV(R:Rel X cl ch S m ok a w){n:Nat}{v:V}{O1 B:List Nat}(hv:v≠.undef)(hT:Tk X S m ok w (O1++B))(ho:Y6 m n v=O1)(hB:Ef ⟨w.heap,ok,m⟩ n v):
  Rel X cl ch (upd S (aO+n) v) m ok a w/\Tk X (upd S (aO+n) v) m ok w B:=by
 have hnd:=I7.1 hT.nodup;have h:=R.modK hT (n:=n) (v:=v) (ks:=m.kid n) (w' :=w) (T' :=B) hv (by rw[xC,ho];exact hnd.1) (by rw[xC,ho];exact λb h=> .inr (by simp[h])) rfl rfl rfl rfl (λ_ _=>rfl) (by rw[xC];exact hB) hnd.2.1
  (λb hb=>⟨.inr (by simp[hb]),by rw[xC,ho];exact λh=>hnd.2.2 b h b hb rfl⟩)
 rw[xC]at h;exact h
end
end Go.GP
namespace Go.GP
def Ip:Loc->Option (Nat×Nat)->Loc
 | .arr blk off len cap sz,some (lo,hi)=>if cap=lo then .arr blk off 0 0 sz else .arr blk (off+lo*sz) (hi -lo) (cap -lo) sz|l,_=>l
theorem Gy{C:Cx}{t:Ty}{xs:List t.den}{l:Loc}{vw:Option (Nat×Nat)}{v:Value}(ha:arrOk C t xs l)(hv:l.view vw v):
  arrOk C t (iY vw xs) (Ip l vw)/\(Ip l vw).view none v/\(Ip l vw).blks=l.blks:=by
 cases l with
 |st b=>cases ha|mp b=>
  cases vw with
  |none=>exact⟨ha,hv,rfl⟩|some p=>cases hv
 |nil=>
  obtain⟨ha,h0⟩:=ha;subst ha;cases vw with
  |none=>exact⟨⟨rfl,h0⟩,hv,rfl⟩|some p=>obtain⟨lo,hi⟩:=p;obtain⟨rfl,rfl,rfl⟩:=hv;exact⟨⟨rfl,h0⟩,rfl,rfl⟩
 |arr blk off len cap sz=>
  cases vw with
  |none=>exact⟨ha,hv,rfl⟩|some p=>
   obtain⟨lo,hi⟩:=p;obtain⟨h0,rfl,rfl,hc,c,T,hh,hs,hx⟩:=ha;obtain⟨h1,h2,rfl⟩:=hv;have hl:(iY (some (lo,hi)) xs).length=hi -lo:=by simp[iY,pF];omega
   by_cases e:cap=lo
   ·subst e;have e2:hi=cap:=l7;subst e2;simp only[Ip,if_true,Loc.view,bn];refine⟨⟨h0,rfl,by rw[hl];omega,E5 _,c,T,hh,?_,λi x hi=>?_⟩,trivial,rfl⟩
    ·have:=pI (hi*t.size);omega
    ·have:i<0:=by
      have:=(Z4.1 hi).1;rw[hl]at this;omega
     omega
   ·simp only[Ip,e,if_false,Loc.view];refine⟨⟨h0,rfl,by rw[hl],l7,c,T,hh,?_,λi x hix=>?_⟩,trivial,rfl⟩
    ·have:off+lo*t.size+(cap -lo)*t.size=off+cap*t.size:=by
      rw[qg,←J3];congr 2;omega
     rw[this];exact hs
    ·have hi' :i<hi -lo:=by rw[←hl];exact(Z4.1 hix).1
     have hx' :xs[lo+i]? =some x:=by
      simp only[iY,pF,U6,ak]at hix;split at hix
      ·exact hix
      ·cases hix
     obtain⟨es,he,hr⟩:=hx _ x hx';refine⟨es,?_,hr⟩;rw[←he];congr 1;rw[J3];omega
def Qz(ag:Bool)(v:Value)(cs:List Value):Prop:=match ag with
 |true=>∃arr,v= .agg arr/\arr.toList=cs|false=>cs=[v]
def uM(h:Array Obj)(ok:Nat->Ty->Prop):(ms:List MG)->dX ms->List Value->List Nat->Prop
 |[],_,vs,O=>vs=[]/\O=[]|[m],x,vs,O=>∃v cs,vs=[v]/\Qz m.1 v cs/\oU h ok m.2 none x cs O|m::m' ::r,x,vs,O=>∃v cs vs' O1 O2,vs=v::vs' /\O=O1++O2/\Qz m.1 v cs/\oU h ok m.2 none x.1 cs O1/\uM h ok (m' ::r) x.2 vs' O2
theorem rO{l:Loc}{vw:Option (Nat×Nat)}{v:Value}(h:l.view vw v):v.oneCell' =true:=by
 cases l<;>rcases vw with _|⟨lo,hi⟩<;>simp only[Loc.view]at h
 ·subst h;rfl
 ·obtain⟨_,_,rfl⟩:=h;rfl
 ·subst h;rfl
 ·obtain⟨_,_,rfl⟩:=h;rfl
 ·subst h;rfl
theorem Uj{h:Array Obj}{ok:Nat->Ty->Prop}{t:Ty}{x:t.den}{o:Nat}{v:Value}(k:a2E h ok t x o v):v.oneCell' =true:=by obtain⟨_,_,_,rfl,_⟩:=k;rfl
section
variable {h:Array Obj} {ok:Nat->Ty->Prop}
theorem yl{t:Ty}{xs:List t.den}{cs:List Value}{O:List Nat} :oU h ok (.own t) none xs cs O↔∃l v,cs=[v]/\l.view none v/\arrOk ⟨h,ok,nom⟩ t xs l/\O=l.blks:=by
 constructor
 ·rintro⟨v,e,_,l,hv,ha,ho⟩;exact⟨l,v,e,hv,ha,ho⟩
 ·rintro⟨l,v,e,hv,ha,ho⟩;exact⟨v,e,rO hv,l,hv,ha,ho⟩
theorem zA{m:M}{xs:List m.den}{cs:List Value}{O:List Nat} :oU h ok (.owns m) none xs cs O↔m.el=true/\∃l v Os,cs=[v]/\l.view none v/\
  BZ h m.size (λ_ x es O=>oU h ok m none x es O) xs Os l/\O=l.blks++Os.flatten:=by
 constructor
 ·rintro⟨v,e,_,he,l,Os,hv,ha,ho⟩;exact⟨he,l,v,Os,e,hv,ha,ho⟩
 ·rintro⟨he,l,v,Os,e,hv,ha,ho⟩;exact⟨v,e,rO hv,he,l,Os,hv,ha,ho⟩
theorem a6W{a b:M}{x:a.den×b.den}{cs:List Value}{O:List Nat} :oU h ok (.pair a b) none x cs O↔∃c d O1 O2,cs=c++d/\O=O1++O2/\oU h ok a none x.1 c O1/\oU h ok b none x.2 d O2:=Iff.rfl
theorem wW:∀{m:M} {ho:Option Nat} {x:m.den} {cs:List Value} {O:List Nat},oU h ok m ho x cs O->∀v∈cs,v.oneCell' =true
 | .dat t,_,_,_,_,e=>wX e.1| .own t,_,_,_,_,⟨v,e,hv,_⟩=>by subst e;simp[hv]| .owns t,_,_,_,_,⟨v,e,hv,_⟩=>by subst e;simp[hv]| .ownb t,_,_,_,_,⟨l,v,e,hv,_⟩=>by subst e;simp[rO hv]| .pair a b,_,_,_,_,⟨c,d,_,_,e,_,h1,h2⟩=>by
  subst e;intro v hv;rcases A8.1 hv with hv|hv
  ·exact wW h1 v hv
  ·exact wW h2 v hv
 | .unit,_,_,_,_,⟨e,_⟩=>by subst e;simp| .box m,_,_,_,_,⟨_,_,_,_,e,_⟩=>by subst e;simp[Value.oneCell']| .rp t,_,_,_,_,⟨v,e,hv,_⟩=>by subst e;simp[Uj hv]| .fn f ts,_,_,_,_,⟨vs,e,_⟩=>by subst e;simp[Value.oneCell']| .ifc t m,_,_,_,_,⟨u,e,_⟩=>by subst e;simp[Value.oneCell']| .cell _,_,_,_,_,⟨v,e,h,_⟩=>by subst e;simp[h]
theorem PO{α β α' β' :Type}(ea:α=α')(eb:β=β')(e:(α×β)=(α' ×β'))(x:α×β):cast e x=(cast ea x.1,cast eb x.2):=by subst ea;subst eb;rfl
theorem M.ty_size:∀{m:M},m.el=true->m.ty.size=m.size
 | .dat _,_=>rfl| .own _,_=>rfl| .owns _,_=>rfl| .unit,_=>rfl| .pair a b,h=>by
  have h' :a.el=true/\b.el=true:=by simpa[M.el]using h
  simp[M.ty,Ty.size,M.size,M.ty_size h'.1,M.ty_size h'.2]
 | .box _,h=>by simp[M.el]at h| .ownb _,h=>by simp[M.el]at h| .rp _,h=>by simp[M.el]at h| .fn _ _,h=>by simp[M.el]at h| .ifc _ _,h=>by simp[M.el]at h| .cell _,h=>by simp[M.el]at h
theorem fC:∀{m:M} {ho:Option Nat} {x:m.den} {cs:List Value} {O:List Nat},oU h ok m ho x cs O->cs.length=m.size
 | .dat t,_,_,_,_,e=>gB e.1| .own t,_,_,_,_,⟨v,e,hv,_⟩=>by subst e;rfl| .owns t,_,_,_,_,⟨v,e,hv,_⟩=>by subst e;rfl| .ownb t,_,_,_,_,⟨l,v,e,hv,_⟩=>by subst e;rfl| .pair a b,_,_,_,_,⟨c,d,_,_,e,_,h1,h2⟩=>by subst e;simp[fC h1,fC h2,M.size]| .unit,_,_,_,_,⟨e,_⟩=>by subst e;rfl| .box m,_,_,_,_,⟨_,_,_,_,e,_⟩=>by subst e;rfl| .rp t,_,_,_,_,⟨v,e,hv,_⟩=>by subst e;rfl| .fn f ts,_,_,_,_,⟨vs,e,_⟩=>by subst e;rfl| .ifc t m,_,_,_,_,⟨u,e,_⟩=>by subst e;rfl| .cell _,_,_,_,_,⟨v,e,_⟩=>by subst e;rfl
theorem a0a{ok' :Nat->Ty->Prop}{α:Type}{t:Ty}{sz:Nat}{mp:Mp}(h0:t.isEnt=false)(e:α=t.den)(e' :List α=List t.den)(hs:t.size=sz){R:Nat->α->List Value->List Nat->Prop}{xs:List α}{Os:List (List Nat)}{l:Loc}
  (hR:∀i x es O,O∈Os->R i x es O->lC h ok' t (cast e x) es) (ha:BZ h sz R xs Os l):arrOk ⟨h,ok',mp⟩ t (cast e' xs) l:=by
 subst e;simp only[cast_eq]at hR ⊢;cases l with
 |nil=>exact⟨ha.1,h0⟩|st b=>exact ha|mp b=>exact ha.elim|arr blk off len cap sz' =>obtain⟨h1,h2,h3,h7,c,T,h4,h5,h6⟩:=ha;refine⟨h0,by rw[hs];exact h1,h2,h3,c,T,h4,by rw[h1];exact h5,λi x hi=>?_⟩;obtain⟨es,O,hO,hc,hr⟩:=h6 i x hi;exact⟨es,by rw[h1];exact hc,hR i x es O (su hO) hr⟩
theorem M.ty_ent:∀{m:M},m.el=true->m.ty.isEnt=false
 | .dat t,h=>by simpa[M.el,M.ty]using h| .own _,_=>rfl| .owns _,_=>rfl| .unit,_=>rfl| .pair _ _,_=>rfl| .box _,h=>by simp[M.el]at h| .ownb _,h=>by simp[M.el]at h| .rp _,h=>by simp[M.el]at h| .fn _ _,h=>by simp[M.el]at h| .ifc _ _,h=>by simp[M.el]at h| .cell _,h=>by simp[M.el]at h
theorem OJ{ok' :Nat->Ty->Prop}(hok:∀b t,ok b t->ok' b t):∀{m:M} (he:m.el=true) {x:m.den} {cs:List Value} {O:List Nat},(∀b∈O,∀t∈m.owned,ok' b t)->oU h ok m none x cs O->lC h ok' m.ty (cast (M.denEq m he) x) cs
 | .dat t,_,_,_,_,_,e=>dP hok (λ_ _ _=>rfl) e.1| .unit,_,_,_,_,_,e=>e.1| .own t,he,xs,_,_,hO,e=>by obtain⟨l,v,rfl,hv,ha,rfl⟩:=yl.1 e;exact qm (C:=⟨h,ok,nom⟩) (vw:=none) ha hv hok (λblk hb=>hO blk hb t (by simp[M.owned]))
 | .pair a b,he,x,_,_,hO,e=>by
  obtain⟨c,d,O1,O2,rfl,rfl,h1,h2⟩:=e;have h' :a.el=true/\b.el=true:=by simpa[M.el]using he
  have e:cast (M.denEq (.pair a b) he) x=(cast (M.denEq a h'.1) x.1,cast (M.denEq b h'.2) x.2):=PO _ _ _ _;refine⟨c,d,rfl,?_,?_⟩
  ·rw[e];exact OJ hok h'.1 (λb hb t ht=>hO b (by simp[hb]) t (by simp[M.owned,ht])) h1
  ·rw[e];exact OJ hok h'.2 (λb hb t ht=>hO b (by simp[hb]) t (by simp[M.owned,ht])) h2
 | .owns m,he,xs,_,_,hO,e=>by
  obtain⟨_,l,v,Os,rfl,hv,ha,rfl⟩:=zA.1 e;have he' :m.el=true:=he;have hA:arrOk ⟨h,ok',nom⟩ m.ty (cast (congrArg List (M.denEq m he')) xs) l:=a0a (M.ty_ent he') (M.denEq m he') _ (M.ty_size he') (λi x es O hOi hr=>OJ hok he' (λb hb t ht=>hO b (by simp only[A8,dA];exact .inr ⟨O,hOi,hb⟩) t (by simp[M.owned,ht])) hr) ha
  exact qm (C:=⟨h,ok',nom⟩) (t:=m.ty) (vw:=none) hA hv (λ_ _ h=>h) (λblk hb=>hO blk (by simp[hb]) m.ty (by simp[M.owned]))
 | .box _,h,_,_,_,_,_=>by simp[M.el]at h| .ownb _,h,_,_,_,_,_=>by simp[M.el]at h| .rp _,h,_,_,_,_,_=>by simp[M.el]at h| .fn _ _,h,_,_,_,_,_=>by simp[M.el]at h| .ifc _ _,h,_,_,_,_,_=>by simp[M.el]at h| .cell _,h,_,_,_,_,_=>by simp[M.el]at h
theorem Ls{ok' :Nat->Ty->Prop}{m:M}{mp:Mp}(he:m.el=true)(hok:∀b t,ok b t->ok' b t){xs:List m.den}{Os:List (List Nat)}{l:Loc}(hO:∀b∈Os.flatten,∀t∈m.owned,ok' b t)
  (ha:BZ h m.size (λ_ x es O=>oU h ok m none x es O) xs Os l):arrOk ⟨h,ok',mp⟩ m.ty (cast (congrArg List (M.denEq m he)) xs) l:=
 a0a (M.ty_ent he) (M.denEq m he) _ (M.ty_size he) (λi x es O hOi hr=>OJ hok he (λb hb t ht=>hO b (dA.2 ⟨O,hOi,hb⟩) t ht) hr) ha
end
theorem RN{h h' :Array Obj}{ok ok' :Nat->Ty->Prop}(hok:∀b t,ok b t->ok' b t)(hh:∀b t,ok b t->h'[b]? =h[b]?):
  ∀{ms:List MG} {x:dX ms} {vs:List Value} {O:List Nat},(∀b∈O,h'[b]? =h[b]?)->uM h ok ms x vs O->uM h' ok' ms x vs O
 |[],_,_,_,_,e=>e|[m],_,_,_,hb,⟨v,cs,e,hg,hr⟩=>⟨v,cs,e,hg,jK hok hh hb hr⟩|m::m' ::r,_,_,_,hb,⟨v,cs,vs',O1,O2,e,eo,hg,h1,h2⟩=>by subst eo;exact⟨v,cs,vs',O1,O2,e,rfl,hg,jK hok hh (λb h=>hb b (by simp[h])) h1,RN hok hh (λb h=>hb b (by simp[h])) h2⟩
section
variable {X:Fx} {cl ch:Nat} {S:Sm} {m:Mp} {ok:Nat->Ty->Prop} {a:Act} {w:World} {T:List Nat}
theorem gU{α:Type}{Q:α->Sm->Prop}{p q:Ty}{xs:List p.den}{k:List q.den->Cmd α}{S:Sm}
  (h:∀e:p=q,(k (e▸xs)).post S Q):(Ty.castL p q xs k .fail).post S Q:=by
 unfold Ty.castL;split
 ·rename_i e;exact h e
 ·trivial
theorem gQ{α:Type}{Q:α->Sm->Prop}{b:Bool}{c:Cmd α}{S:Sm}(h:b=true->c.post S Q):(bif b then c else Cmd.fail).post S Q:=by
 cases b
 ·trivial
 ·exact h rfl
theorem GH{α:Type}{Q:α->Sm->Prop}{p q:Ty}{x:p.den}{k:q.den->Cmd α}{S:Sm}
  (h:∀e:p=q,(k (e▸x)).post S Q):(Xk p q x k .fail).post S Q:=by
 unfold Xk;split
 ·rename_i e;exact h e
 ·trivial
theorem TV{α:Type}{Q:α->Sm->Prop}{p q:M}{xs:List p.den}{k:List q.den->Cmd α}{S:Sm}
  (h:∀e:p=q,(k (e▸xs)).post S Q):(a4G p q xs k .fail).post S Q:=by
 unfold a4G;split
 ·rename_i e;exact h (M.beq_eq e)
 ·trivial
theorem a0r{α:Type}{Q:α->Sm->Prop}{p:M}{t:Ty}{xs:List p.den}{k:List t.den->Cmd α}{S:Sm}
  (h:∀(e:p.el=true) (e' :p.ty=t),(k (e' ▸cast (congrArg List (M.denEq p e)) xs)).post S Q):(a2J p t xs k .fail).post S Q:=by
 unfold a2J;split
 ·rename_i e;obtain⟨e,rfl⟩:=e;exact h e rfl
 ·trivial
theorem OH{h:Array Obj}{ok ok' :Nat->Ty->Prop}{m:Mp}(k:∀b t,ok b t->ok' b t){cs:List V}{vs:List Value}(hr:gX ⟨h,ok,m⟩ cs vs):gX ⟨h,ok',m⟩ cs vs:=
 ET (C:=⟨h,ok,m⟩) (D:=⟨h,ok',m⟩) ⟨k,λ_ _ _=>rfl,λ_ _ h=>h⟩ hr
theorem KY{h:Array Obj}{ok ok' :Nat->Ty->Prop}{m:Mp}(k:∀b t,ok b t->ok' b t){c:V}{v:Value}(hr:nO ⟨h,ok,m⟩ c v):nO ⟨h,ok',m⟩ c v:=
 OL (C:=⟨h,ok,m⟩) (D:=⟨h,ok',m⟩) ⟨k,λ_ _ _=>rfl,λ_ _ h=>h⟩ hr
theorem MW{bs:List Nat}{Ts:List Ty} :∀b t,ok b t->okW ok bs Ts b t:=λ_ _ h=> .inl h
def okL(ln:Ty->Bool)(S:Sm)(m:Mp)(ok:Nat->Ty->Prop):Nat->Ty->Prop:=λb t=>ok b t\/(ln t=true/\∃n,b∈Y6 m n (S (aO+n))/\t∈a9m (S (aO+n)))
theorem a8Z:okL Be S m ok=ok:=by funext b t;simp[okL,Be]
theorem XW{ln:Ty->Bool}{n:Nat}{v:V}(hv:Y6 m n v=[]){Ts:List Ty}{bs:List Nat}(hbs:Y6 m n (S (aO+n)) ⊆ bs)(hTs:a9m (S (aO+n)) ⊆ Ts):
  ∀b t,okL ln S m ok b t->okL ln (upd S (aO+n) v) m (okW ok bs Ts) b t:=by
 intro b t h;rcases h with h|⟨hl,k,hk,ht⟩
 ·exact .inl (.inl h)
 ·by_cases e:k=n
  ·subst e;exact .inl (.inr ⟨hbs hk,hTs ht⟩)
  ·exact .inr ⟨hl,k,by rw[bz _ _ l7];exact⟨hk,ht⟩⟩
def dL(S S' :Sm):Prop:=∀n,n<aO->S' n=S n
theorem dL.refl(S:Sm):dL S S:=λ_ _=>rfl
theorem dL.trans{A B C:Sm}(h:dL A B)(k:dL B C):dL A C:=λn hn=>(k n hn).trans (h n hn)
theorem dL.box(S:Sm)(n:Nat)(v:V):dL S (upd S (aO+n) v):=λk hk=>bz _ _ l7
theorem Xa{ln:Ty->Bool} :∀{ts:List Ty},ZV ln ts=true->∀t∈ts,ln t=true
 |[],_,_,h=>by cases h|u::r,e,t,h=>by
  unfold ZV at e;cases hl:ln u with
  |false=>rw[hl]at e;cases e|true=>
   rw[hl]at e;rcases C9.1 h with rfl|h
   ·exact hl
   ·exact Xa e t h
theorem Fb{α:Type}{Q:α->Sm->Prop}(ln:Ty->Bool):∀(t:Ty) {cs:List V} {K:t.den->List V->Cmd α} {S:Sm} {ok:Nat->Ty->Prop} {vs:List Value} (R:Rel X cl ch S m ok a w) (hT:Tk X S m ok w T)
  (hL:gX ⟨w.heap,ok,m⟩ cs vs)
  (hK:∀S' ok' x r us us',Rel X cl ch S' m ok' a w->Tk X S' m ok' w T->(∀b t,ok b t->ok' b t)->(∀b t,okL ln S m ok b t->okL ln S' m ok' b t)->dL S S' ->vs=us++us' ->lC w.heap (okL ln S' m ok') t x us->gX ⟨w.heap,ok',m⟩ r us' ->(K x r).post S' Q),
  (oZ ln t cs K).post S Q
 | .bool,cs,K,S,ok,vs,R,hT,hL,hK=>by
  unfold oZ;split
  ·obtain⟨v,r,rfl,h1,_,h3⟩:=hL;exact hK _ _ _ _ [v] r R hT (λ_ _ h=>h) (λ_ _ h=>h) (dL.refl _) rfl (by simp only[yj]at h1;simp[lC,h1]) h3
  ·trivial
 | .int k,cs,K,S,ok,vs,R,hT,hL,hK=>by
  unfold oZ;split
  ·rename_i k' n r0;obtain⟨v,r,rfl,h1,_,h3⟩:=hL;by_cases e:k=k'
   ·subst e;simp only[decide_true,cond_true];exact hK _ _ _ _ [v] r R hT (λ_ _ h=>h) (λ_ _ h=>h) (dL.refl _) rfl (by simp only[yj]at h1;simp[lC,h1]) h3
   ·simp only[e,decide_false,cond_false];trivial
  ·trivial
 | .str,cs,K,S,ok,vs,R,hT,hL,hK=>by
  unfold oZ;split
  ·obtain⟨v,r,rfl,h1,_,h3⟩:=hL;exact hK _ _ _ _ [v] r R hT (λ_ _ h=>h) (λ_ _ h=>h) (dL.refl _) rfl (by simp only[yj]at h1;simp[lC,h1]) h3
  ·trivial
 | .unit,cs,K,S,ok,vs,R,hT,hL,hK=>by unfold oZ;exact hK _ _ _ _ [] vs R hT (λ_ _ h=>h) (λ_ _ h=>h) (dL.refl _) rfl rfl hL
 | .prod p q,cs,K,S,ok,vs,R,hT,hL,hK=>by unfold oZ;refine Fb ln p R hT hL λS1 ok1 x r us us' R1 T1 k1 g1 s1 e1 h1 l1=>?_;refine Fb ln q R1 T1 l1 λS2 ok2 y r' vs2 vs2' R2 T2 k2 g2 s2 e2 h2 l2=>?_;subst e1;subst e2;exact hK _ _ _ _ (us++vs2) vs2' R2 T2 (λb t h=>k2 b t (k1 b t h)) (λb t h=>g2 b t (g1 b t h)) (s1.trans s2) A7 ⟨us,vs2,rfl,dP g2 (λ_ _ _=>rfl) h1,h2⟩ l2| .ent ..,cs,K,S,ok,vs,R,hT,hL,hK=>by unfold oZ;trivial| .sl t,cs,K,S,ok,vs,R,hT,hL,hK=>by
  unfold oZ;split
  ·obtain⟨v,r,rfl,h1,_,h3⟩:=hL;simp only[yj]at h1;subst h1;cases ht:t.isEnt
   ·exact hK _ _ _ _ [_] r R hT (λ_ _ h=>h) (λ_ _ h=>h) (dL.refl _) rfl (.inl ⟨ht,none,0,rfl,E5 _,λi x hi=>by simp at hi⟩) h3
   ·trivial
  ·rename_i t' xs r0;obtain⟨v,r,rfl,h1,_,h3⟩:=hL;refine gU λe=>?_;subst e;exact hK _ _ _ _ [v] r R hT (λ_ _ h=>h) (λ_ _ h=>h) (dL.refl _) rfl (dP (λ_ _ h=> .inl h) (λ_ _ _=>rfl) h1) h3
  ·rename_i bx vw r0;obtain⟨v,r,rfl,h1,_,h3⟩:=hL;obtain⟨l,hm,hv⟩:=h1;show Cmd.post (match S (aO+bx)with| .barr t' xs=>_| .bfrz t' xs=>_| .barrs el xs none=>_|_=>_) S Q;have hb:=R.box bx;split
   ·rename_i t' xs hS;rw[hS]at hb;obtain⟨l',hm',ha⟩:=hb;simp only at hm hm';rw[hm]at hm';cases hm';refine gU λe=>?_;subst e;have hob:Y6 m bx (S (aO+bx))=l.blks:=by
     rw[hS];cases l<;>first|(simp[Y6,hm,Loc.blks];done)|cases ha
    cases hl:ln t'
    ·simp only[cond_false];show Cmd.post _ (upd S (aO+bx) (.bfrz t' xs)) Q;have hbs:∀b∈l.blks,b∈Y6 m bx (S (aO+bx)):=λb h=>by rw[hob];exact h
     refine hK _ (okW ok l.blks [t']) _ _ [v] r (R.widen A7 rfl hbs ?_) (hT.widen rfl hbs) MW (XW rfl (by rw[hob];exact λ_ h=>h) (by rw[hS];exact λ_ h=>h)) (dL.box _ _ _) rfl ?_ (OH MW h3)
     ·exact⟨l,hm,wo MW (λ_ _ _=>rfl) (λ_ _=>rfl) ha,λblk hb=> .inr ⟨hb,A7⟩⟩
     ·exact qm (C:=⟨w.heap,ok,m⟩) ha hv (λb t h=> .inl (.inl h)) (λblk hb=> .inl (.inr ⟨hb,A7⟩))
    ·simp only[cond_true];refine hK _ _ _ _ [v] r R hT (λ_ _ h=>h) (λ_ _ h=>h) (dL.refl _) rfl ?_ h3;refine qm (C:=⟨w.heap,ok,m⟩) ha hv (λb t h=> .inl h) (λblk hb=> .inr ⟨hl,bx,?_,by rw[hS];simp[a9m]⟩);rw[hob];exact hb
   ·rename_i t' xs hS;rw[hS]at hb;obtain⟨l',hm',ha,hok⟩:=hb;simp only at hm hm';rw[hm]at hm';cases hm';refine gU λe=>?_;subst e;exact hK _ _ _ _ [v] r R hT (λ_ _ h=>h) (λ_ _ h=>h) (dL.refl _) rfl (qm (C:=⟨w.heap,ok,m⟩) ha hv (λ_ _ h=> .inl h) (λblk e=> .inl (hok _ e))) h3
   ·rename_i md xs hS;rw[hS]at hb;obtain⟨hel,l',Os,hm',⟨ha,hho⟩,hk⟩:=hb;simp only at hm hm' hk;rw[hm]at hm';cases hm';refine a0r λe e' =>?_;subst e';have hob:Y6 m bx (S (aO+bx))=l.blks++Os.flatten:=by
     rw[hS];simp only[Y6];rw[hk];cases l<;>first|(simp[hm,Loc.blks];done)|cases ha
    simp only;cases hl:(ln md.ty&&ZV ln md.owned)
    ·simp only[cond_false];show Cmd.post _ (upd S (aO+bx) (.bfrz md.ty _)) Q;have hbs:∀b∈l.blks++Os.flatten,b∈Y6 m bx (S (aO+bx)):=λb h=>by rw[hob];exact h
     have ha' :arrOk ⟨w.heap,okW ok (l.blks++Os.flatten) (md.ty::md.owned),m⟩ md.ty (cast (congrArg List (M.denEq md e)) xs) l:=
      Ls e MW (λb hb t ht=> .inr ⟨by simp[hb],by simp[ht]⟩) ha
     refine hK _ (okW ok (l.blks++Os.flatten) (md.ty::md.owned)) _ _ [v] r (R.widen A7 rfl hbs ?_) (hT.widen rfl hbs) MW (XW rfl (by rw[hob];exact λ_ h=>h) (by rw[hS];exact λ_ h=>h)) (dL.box _ _ _) rfl ?_ (OH MW h3)
     ·exact⟨l,hm,ha',λblk hb=> .inr ⟨by simp[hb],A7⟩⟩
     ·exact qm (C:=⟨w.heap,okW ok (l.blks++Os.flatten) (md.ty::md.owned),m⟩) ha' hv (λb t h=> .inl h) (λblk hb=> .inl (.inr ⟨by simp[hb],A7⟩))
    ·simp only[cond_true];simp only[x9]at hl;have ha' :arrOk ⟨w.heap,okL ln S m ok,m⟩ md.ty (cast (congrArg List (M.denEq md e)) xs) l:=
      Ls e (λb t h=> .inl h) (λb hb t ht=> .inr ⟨Xa hl.2 t ht,bx,by rw[hob];simp[hb],by rw[hS];simp[a9m,ht]⟩) ha
     refine hK _ _ _ _ [v] r R hT (λ_ _ h=>h) (λ_ _ h=>h) (dL.refl _) rfl ?_ h3;refine qm (C:=⟨w.heap,okL ln S m ok,m⟩) ha' hv (λb t h=>h) (λblk hb=> .inr ⟨hl.1,bx,?_,by rw[hS];simp[a9m]⟩);rw[hob];simp[hb]
   ·trivial
  ·trivial
theorem Du{α:Type}{Q:α->Sm->Prop}(t:Ty){cs:List V}{K:t.den->List V->Cmd α}{S:Sm}{ok:Nat->Ty->Prop}{vs:List Value}(R:Rel X cl ch S m ok a w)(hT:Tk X S m ok w T)
  (hL:gX ⟨w.heap,ok,m⟩ cs vs)
  (hK:∀S' ok' x r us us',Rel X cl ch S' m ok' a w->Tk X S' m ok' w T->(∀b t,ok b t->ok' b t)->dL S S' ->vs=us++us' ->lC w.heap ok' t x us->gX ⟨w.heap,ok',m⟩ r us' ->(K x r).post S' Q):
  (oZ Be t cs K).post S Q:=
 Fb Be t R hT hL λS' ok' x r us us' R' T' k g s e h l=>hK S' ok' x r us us' R' T' k s e (by rw[a8Z]at h;exact h) l
theorem Loc.blks_nodup(l:Loc):l.blks.Nodup:=by cases l<;>simp[Loc.blks]
theorem a1I{α:Type}{Q:α->Sm->Prop}(t:Ty){c:V}{K:t.den->Cmd α}{S:Sm}{ok:Nat->Ty->Prop}{v:Value}(R:Rel X cl ch S m ok a w)(hT:Tk X S m ok w T)
  (hv:yj ⟨w.heap,ok,m⟩ c v)
  (hK:∀S' ok' x,Rel X cl ch S' m ok' a w->Tk X S' m ok' w T->(∀b t,ok b t->ok' b t)->dL S S' ->a2E w.heap ok' t x 0 v->(K x).post S' Q):(rpC t c K).post S Q:=by
 unfold rpC;split
 ·refine GH λe=>?_;subst e;exact hK _ _ _ R hT (λ_ _ h=>h) (dL.refl _) hv
 ·rename_i bx;obtain⟨blk,hm,rfl⟩:=hv;show Cmd.post (match S (aO+bx)with| .bfc t' x=>_| .bcells bs=>_|_=>_) S Q;have hb:=R.box bx;split
  ·rename_i t' x hS;rw[hS]at hb;obtain⟨blk',es,hm',hok,hc,hr⟩:=hb;simp only at hm hm';rw[hm]at hm';cases hm';refine GH λe=>?_;subst e;exact hK _ _ _ R hT (λ_ _ h=>h) (dL.refl _) ⟨blk,0,es,rfl,hok,hc,hr⟩
  ·rename_i bs hS;rw[hS]at hb;obtain⟨blk',arr,Ty',hm',hh,hl⟩:=hb;simp only at hm hm';rw[hm]at hm';cases hm';refine Du t R hT hl λS1 ok1 x q us us' R1 T1 k1 s1 e1 h1 l1=>?_;cases q with
   |cons c q=>trivial|nil=>
    simp only[gX]at l1;subst l1;simp only[F7]at e1;show Cmd.post (match S1 (aO+bx)with| .bcells _=>_|_=>_) S1 Q;split
    ·rename_i bs' hS';show Cmd.post _ (upd S1 (aO+bx) (.bfc t x)) Q;have hbs:∀b∈[blk],b∈Y6 m bx (S1 (aO+bx)):=λb h=>by rw[hS'];simp at h;subst h;simp[Y6,hm]
     have hce:dR w.heap blk 0 t.size=some us:=by rw[lV hh 0 t.size (by have:=gB h1;rw[←e1]at this;simp at this;omega)];rw[e1,←gB h1];simp
     have hr:=dP (MW (bs:=[blk]) (Ts:=[t])) (λ_ _ _=>rfl) h1;refine hK _ (okW ok1 [blk] [t]) _ (R1.widen A7 rfl hbs ?_) (T1.widen rfl hbs) (λb t h=> .inl (k1 b t h)) (s1.trans (dL.box _ _ _)) ?_
     ·exact⟨blk,us,hm,.inr ⟨A7,A7⟩,hce,hr⟩
     ·exact⟨blk,0,us,rfl,.inr ⟨A7,A7⟩,hce,hr⟩
    ·trivial
  ·trivial
 ·trivial
theorem Jc{α:Type}{Q:α->Sm->Prop}{h:Array Obj}{ok:Nat->Ty->Prop} :∀(ts:List Ty) {cs:List ((t:Ty)×t.den)} {vs:List Value} {K:QP ts->Cmd α} {S:Sm}
  (hc:Dz h ok cs vs) (hK:∀x,Dz h ok (QO ts x) vs->(K x).post S Q),(MC ts cs K).post S Q
 |[],cs,vs,K,S,hc,hK=>by
  unfold MC;split
  ·exact hK _ hc
  ·trivial
 |[t],cs,vs,K,S,hc,hK=>by
  unfold MC;split
  ·refine GH λe=>?_;subst e;exact hK _ hc
  ·trivial
 |t::t' ::r,cs,vs,K,S,hc,hK=>by
  unfold MC;split
  ·obtain⟨v,vs',rfl,h1,h2⟩:=hc;refine GH λe=>?_;subst e;exact Jc (t' ::r) h2 λy hy=>hK _ ⟨v,vs',rfl,h1,hy⟩
  ·trivial
theorem DF{α:Type}{Q:α->Sm->Prop} :∀(md:M) {cs:List V} {K:md.den->List V->Cmd α} {S:Sm} {ok:Nat->Ty->Prop} {vs:List Value} {T:List Nat} (R:Rel X cl ch S m ok a w) (hT:Tk X S m ok w T)
  (hL:gX ⟨w.heap,ok,m⟩ cs vs)
  (hK:∀S' ok' x r us us' O,Rel X cl ch S' m ok' a w->Tk X S' m ok' w (T++O)->(∀b t,ok b t->ok' b t)->dL S S' ->vs=us++us' ->oU w.heap ok' md none x us O->gX ⟨w.heap,ok',m⟩ r us' ->(K x r).post S' Q),
  (exM Be md cs K).post S Q
 | .dat t,cs,K,S,ok,vs,T,R,hT,hL,hK=>by unfold exM;exact Du t R hT hL λS' ok' x r us us' R' T' k s e h l=>hK S' ok' x r us us' [] R' (by simpa using T') k s e ⟨h,rfl⟩ l| .own t,cs,K,S,ok,vs,T,R,hT,hL,hK=>by
  unfold exM;split
  ·obtain⟨v,r,rfl,h1,_,h3⟩:=hL;simp only[yj]at h1;subst h1;cases ht:t.isEnt
   ·exact hK _ _ _ _ [_] r [] R (by simpa using hT) (λ_ _ h=>h) (dL.refl _) rfl (yl.2 ⟨.nil,_,rfl,rfl,⟨rfl,ht⟩,rfl⟩) h3
   ·trivial
  ·rename_i bx vw r0;obtain⟨v,r,rfl,h1,_,h3⟩:=hL;obtain⟨l,hm,hv⟩:=h1;show Cmd.post (match S (aO+bx)with| .barr t' xs=>_|_=>_) S Q;have hb:=R.box bx;split
   ·rename_i t' xs hS;rw[hS]at hb;obtain⟨l',hm',ha⟩:=hb;simp only at hm hm';rw[hm]at hm';cases hm';refine gU λe=>?_;subst e;obtain⟨a1,a2,a3⟩:=Gy (C:=⟨w.heap,ok,m⟩) ha hv;show Cmd.post _ (upd S (aO+bx) .dead) Q;refine hK _ ok _ _ [v] r (Ip l vw).blks (R.kill bx) ?_ (λ_ _ h=>h) (dL.box _ _ _) rfl (yl.2 ⟨_,v,rfl,a2,wo (λ_ _ h=>h) (λ_ _ _=>rfl) (λ_ _=>rfl) a1,rfl⟩) h3;rw[a3];refine hT.kill R bx (λb hb=>?_) (Loc.blks_nodup l);cases l with
    |nil=>simp[Loc.blks]at hb|st _=>cases ha|arr blk off len cap sz=>simp[Loc.blks]at hb;subst hb;simp[Y6,hS,hm]|mp blk=>simp[Loc.blks]at hb;subst hb;simp[Y6,hS,hm]
   ·trivial
  ·trivial
 | .ownb t,cs,K,S,ok,vs,T,R,hT,hL,hK=>by
  unfold exM;split
  ·obtain⟨v,r,rfl,h1,_,h3⟩:=hL;simp only[yj]at h1;subst h1;cases ht:t.isEnt
   ·exact hK _ _ _ _ [_] r [] R (by simpa using hT) (λ_ _ h=>h) (dL.refl _) rfl ⟨.nil,_,rfl,rfl,⟨rfl,ht⟩,rfl⟩ h3
   ·trivial
  ·rename_i bx r0;obtain⟨v,r,rfl,h1,_,h3⟩:=hL;obtain⟨l,hm,hv⟩:=h1;show Cmd.post (match S (aO+bx)with| .barr t' xs=>_|_=>_) S Q;have hb:=R.box bx;split
   ·rename_i t' xs hS;rw[hS]at hb;obtain⟨l',hm',ha⟩:=hb;simp only at hm hm';rw[hm]at hm';cases hm';refine gU λe=>?_;subst e;show Cmd.post _ (upd S (aO+bx) (.gone t')) Q;refine hK _ ok _ _ [v] r l.blks (R.killV bx A7 rfl ⟨l,hm,λblk off len cap sz e=>by subst e;exact ha.2.1⟩) ?_ (λ_ _ h=>h) (dL.box _ _ _) rfl ⟨l,v,rfl,hv,wo (λ_ _ h=>h) (λ_ _ _=>rfl) (λ_ _=>rfl) ha,rfl⟩ h3;refine hT.killV R bx rfl (λb hb=>?_) (Loc.blks_nodup l);cases l with
    |nil=>simp[Loc.blks]at hb|st _=>cases ha|arr blk off len cap sz=>simp[Loc.blks]at hb;subst hb;simp[Y6,hS,hm]|mp blk=>simp[Loc.blks]at hb;subst hb;simp[Y6,hS,hm]
   ·trivial
  ·trivial
 | .owns md,cs,K,S,ok,vs,T,R,hT,hL,hK=>by
  unfold exM;split
  ·obtain⟨v,r,rfl,h1,_,h3⟩:=hL;simp only[yj]at h1;subst h1;refine gQ λhe=>?_;exact hK _ _ _ _ [_] r [] R (by simpa using hT) (λ_ _ h=>h) (dL.refl _) rfl (zA.2 ⟨he,.nil,_,[],rfl,rfl,⟨rfl,rfl⟩,rfl⟩) h3
  ·rename_i bx r0;obtain⟨v,r,rfl,h1,_,h3⟩:=hL;obtain⟨l,hm,hv⟩:=h1;show Cmd.post (match S (aO+bx)with| .barrs m' xs none=>_|_=>_) S Q;have hb:=R.box bx;split
   ·rename_i md' xs hS;rw[hS]at hb;obtain⟨hel,l',Os,hm',⟨ha,hho⟩,hk⟩:=hb;simp only at hm hm' hk;rw[hm]at hm';cases hm';refine TV λe=>?_;subst e;have hob:Y6 m bx (S (aO+bx))=l.blks++Os.flatten:=by
     rw[hS];simp only[Y6];rw[hk];cases l<;>first|(simp[hm,Loc.blks];done)|cases ha
    show Cmd.post _ (upd S (aO+bx) .dead) Q;refine hK _ ok _ _ [v] r (l.blks++Os.flatten) (R.kill bx) ?_ (λ_ _ h=>h) (dL.box _ _ _) rfl (zA.2 ⟨hel,l,v,Os,rfl,hv,ha,rfl⟩) h3;refine hT.kill R bx (λb hb=>by rw[hob];exact hb) (by rw[←hob];exact R.nd bx)
   ·trivial
  ·trivial
 | .unit,cs,K,S,ok,vs,T,R,hT,hL,hK=>by unfold exM;exact hK _ _ _ _ [] vs [] R (by simpa using hT) (λ_ _ h=>h) (dL.refl _) rfl ⟨rfl,rfl⟩ hL
 | .pair p q,cs,K,S,ok,vs,T,R,hT,hL,hK=>by unfold exM;refine DF p R hT hL λS1 ok1 x r us us' O1 R1 T1 k1 s1 e1 h1 l1=>?_;refine DF q R1 T1 l1 λS2 ok2 y r' vs2 vs2' O2 R2 T2 k2 s2 e2 h2 l2=>?_;subst e1;subst e2;exact hK _ _ _ _ (us++vs2) vs2' (O1++O2) R2 (by simpa using T2) (λb t h=>k2 b t (k1 b t h)) (s1.trans s2) A7 ⟨us,vs2,O1,O2,rfl,rfl,jK k2 (λ_ _ _=>rfl) (λ_ _=>rfl) h1,h2⟩ l2| .box md,cs,K,S,ok,vs,T,R,hT,hL,hK=>by
  unfold exM;split
  ·rename_i bx r0;obtain⟨v,r,rfl,h1,_,h3⟩:=hL;obtain⟨blk,hm,hv⟩:=h1;show Cmd.post (match S (aO+bx)with| .bcells bs=>_|_=>_) S Q;have hb:=R.box bx;split
   ·rename_i bs hS;rw[hS]at hb;obtain⟨blk',arr,Ty',hm',hh,hl⟩:=hb;simp only at hm hm' hv;rw[hm]at hm';cases hm';subst hv;show Cmd.post _ (upd S (aO+bx) .dead) Q;have hT1:Tk X (upd S (aO+bx) .dead) m ok w (T++[blk]):=hT.kill R bx (λb hb=>by simp at hb;subst hb;simp[Y6,hS,hm]) A7;refine DF md (R.kill bx) hT1 hl λS1 ok1 x q us us' O R1 T1 k1 s1 e1 h1 l1=>?_;cases q with
    |nil=>simp only[gX]at l1;subst l1;simp only[F7]at e1;refine hK _ _ _ _ [_] r (blk::O) R1 (by simpa using T1) k1 ((dL.box _ _ _).trans s1) rfl ⟨blk,arr,Ty',O,rfl,hh,by rw[e1];exact h1,rfl⟩ (OH k1 h3)|cons c q=>trivial
   ·trivial
  ·trivial
 | .rp t,cs,K,S,ok,vs,T,R,hT,hL,hK=>by
  unfold exM;split
  ·obtain⟨v,r,rfl,h1,_,h3⟩:=hL;refine a1I t R hT h1 λS1 ok1 x R1 T1 k1 s1 h1=>?_;exact hK _ _ _ _ [v] r [] R1 (by simpa using T1) k1 s1 rfl ⟨v,rfl,h1,rfl⟩ (OH k1 h3)
  ·trivial
 | .fn f ts,cs,K,S,ok,vs,T,R,hT,hL,hK=>by
  unfold exM;split
  ·rename_i g caps r0;obtain⟨v,r,rfl,⟨us,rfl,hc⟩,_,h3⟩:=hL;cases hb:Nat.beq g f
   ·trivial
   ·simp only[cond_true];have e:=iO hb;subst e;exact Jc ts hc λx hx=>hK _ _ _ _ [_] r [] R (by simpa using hT) (λ_ _ h=>h) (dL.refl _) rfl ⟨us,rfl,hx,rfl⟩ h3
  ·rename_i g r0;obtain⟨v,r,rfl,h1,_,h3⟩:=hL;have h1:v= .func (.func g) #[] #[]:=h1;subst h1;cases hb:Nat.beq g f
   ·trivial
   ·simp only[cond_true];have e:=iO hb;subst e;exact Jc (cs:=[]) (vs:=[]) ts rfl λx hx=>hK _ _ _ _ [_] r [] R (by simpa using hT) (λ_ _ h=>h) (dL.refl _) rfl ⟨#[],rfl,hx,rfl⟩ h3
  ·trivial
 | .ifc t md,cs,K,S,ok,vs,T,R,hT,hL,hK=>by
  unfold exM;split
  ·rename_i t' c r0;obtain⟨v,r,rfl,⟨u,rfl,hu,hc⟩,_,h3⟩:=hL;cases hb:Nat.beq t' t
   ·trivial
   ·simp only[cond_true];have e:=iO hb;subst e;refine DF md (vs:=[u]) R hT ⟨u,[],rfl,hc,hu,rfl⟩ λS1 ok1 x q us us' O R1 T1 k1 s1 e1 h1 l1=>?_;cases q with
    |cons c q=>trivial|nil=>simp only[gX]at l1;subst l1;simp only[F7]at e1;subst e1;exact hK _ _ _ _ [_] r O R1 T1 k1 s1 rfl ⟨u,rfl,h1⟩ (OH k1 h3)
  ·trivial
 | .cell (some none),cs,K,S,ok,vs,T,R,hT,hL,hK=>by
  unfold exM;split
  ·obtain⟨v,r,rfl,h1,h2,h3⟩:=hL;exact hK _ _ _ _ [v] r [] R (by simpa using hT) (λ_ _ h=>h) (dL.refl _) rfl ⟨v,rfl,h2,λ_=>h1,(λ_ h=>nomatch h),rfl⟩ h3
  ·trivial
 | .cell (some (some b)),cs,K,S,ok,vs,T,R,hT,hL,hK=>by
  unfold exM;split
  ·obtain⟨v,r,rfl,h1,h2,h3⟩:=hL;cases b
   ·trivial
   ·exact hK _ _ _ _ [v] r [] R (by simpa using hT) (λ_ _ h=>h) (dL.refl _) rfl ⟨v,rfl,h2,(λh=>nomatch h),(λb' h=>by cases h;exact h1),rfl⟩ h3
  ·obtain⟨v,r,rfl,h1,h2,h3⟩:=hL;cases b
   ·exact hK _ _ _ _ [v] r [] R (by simpa using hT) (λ_ _ h=>h) (dL.refl _) rfl ⟨v,rfl,h2,(λh=>nomatch h),(λb' h=>by cases h;exact h1),rfl⟩ h3
   ·trivial
  ·trivial
 | .cell none,cs,K,S,ok,vs,T,R,hT,hL,hK=>by
  unfold exM;split
  ·obtain⟨v,r,rfl,h1,h2,h3⟩:=hL;exact hK _ _ _ _ [v] r [] R (by simpa using hT) (λ_ _ h=>h) (dL.refl _) rfl ⟨v,rfl,h2,(λh=>nomatch h),(λ_ h=>nomatch h),rfl⟩ h3
  ·trivial
end
end Go.GP
namespace Go.GP
def jb(C:Cx):List V->List Value->Prop
 |[],vs=>vs=[]|c::cs,vs=>∃v r,vs=v::r/\nO C c v/\jb C cs r
theorem JD{h:Array Obj}{ok ok' :Nat->Ty->Prop}{m:Mp}(k:∀b t,ok b t->ok' b t):∀{cs:List V} {vs:List Value},jb ⟨h,ok,m⟩ cs vs->jb ⟨h,ok',m⟩ cs vs
 |[],_,e=>e|_::_,_,⟨v,r,e,h1,h2⟩=>⟨v,r,e,KY k h1,JD k h2⟩
theorem JC{h:Array Obj}{ok:Nat->Ty->Prop}{m m' :Mp}(k:∀n l,m n=some l->m' n=some l){cs:List V}{vs:List Value}(hr:gX ⟨h,ok,m⟩ cs vs):gX ⟨h,ok,m'⟩ cs vs:=
 ET (C:=⟨h,ok,m⟩) (D:=⟨h,ok,m'⟩) ⟨λ_ _ h=>h,λ_ _ _=>rfl,k⟩ hr
theorem a1A{C:Cx}{c:V}{v:Value}(h1:c≠.undef)(h2:c≠.un)(h:yj C c v):v.oneCell' =true:=by
 cases c<;>simp only[yj]at h<;>try (subst h;rfl)
 case ne=>obtain⟨_,_,rfl,_⟩:=h;rfl
 ·exact absurd rfl h1
 ·exact absurd rfl h2
 ·rcases h with⟨_,a,cap,e,_⟩|⟨_,mv,e,_⟩<;>(simp at e;subst e;rfl)
 ·obtain⟨l,_,hv⟩:=h;exact rO hv
 ·obtain⟨b,_,rfl⟩:=h;rfl
 ·obtain⟨_,_,_,_,_,_,_,rfl⟩:=h;rfl
 ·exact Uj h
 all_goals first|exact h.elim|(obtain⟨_,rfl,_⟩:=h;rfl)|(obtain⟨_,_,rfl⟩:=h;rfl)
theorem Df{C:Cx}{c:V}{v:Value}(h:yj C c v):nO C c v:=by
 cases c<;>simp only[yj]at h<;>try exact h
 all_goals exact h.elim
section
variable {X:Fx} {cl ch:Nat} {S:Sm} {m:Mp} {ok:Nat->Ty->Prop} {a:Act} {w:World} {T:List Nat}
theorem Ew{α:Type}{Q:α->Sm->Prop}{ag:Bool}{v:V}{x:Value}{K:List V->Cmd α}{S:Sm}{C:Cx}(hv:nO C v x)
  (hK:∀cs us,Qz ag x us->gX C cs us->(K cs).post S Q):(TW ag v K).post S Q:=by
 unfold TW;split<;>try trivial
 ·obtain⟨arr,rfl,hl⟩:=hv;exact hK _ _ ⟨arr,rfl,rfl⟩ hl
 ·rename_i h1 h2 h3 h4;have hc:yj C v x:=by cases v<;>first|exact hv|exact absurd rfl (h1 _)|exact absurd rfl (h2 _)
  exact hK [v] [x] rfl ⟨x,[],rfl,hc,a1A (λe=>h3 e) (λe=>h4 e) hc,rfl⟩
theorem wB{α:Type}{Q:α->Sm->Prop}{v:V}{x:Value}{K:List V->Cmd α}{S:Sm}{C:Cx}(hv:nO C v x)
  (hK:∀cs,gX C cs x.cells.toList->(K cs).post S Q):(GI v K).post S Q:=by
 unfold GI;split<;>try trivial
 ·obtain⟨arr,rfl,hl⟩:=hv;exact hK _ hl
 ·rename_i h1 h2 h3 h4;have hc:yj C v x:=by cases v<;>first|exact hv|exact absurd rfl (h1 _)|exact absurd rfl (h2 _)
  have h1' :=a1A (λe=>h3 e) (λe=>h4 e) hc;have e:x.cells.toList=[x]:=by cases x<;>simp[Value.cells]<;>simp[Value.oneCell']at h1'
  refine hK [v] ?_;rw[e];exact⟨x,[],rfl,hc,h1',rfl⟩
theorem a0w{α:Type}{Q:α->Sm->Prop}{md:MG}{v:V}{x:Value}{K:md.2.den->Cmd α}(R:Rel X cl ch S m ok a w)(hT:Tk X S m ok w T)(hv:nO ⟨w.heap,ok,m⟩ v x)
  (hK:∀S' ok' y cs O,Rel X cl ch S' m ok' a w->Tk X S' m ok' w (T++O)->(∀b t,ok b t->ok' b t)->dL S S' ->Qz md.1 x cs->oU w.heap ok' md.2 none y cs O->(K y).post S' Q):
  (Um Be md v K).post S Q:=by
 refine Ew hv λcs us hg hl=>?_;refine DF md.2 R hT hl λS1 ok1 y r us1 us' O R1 T1 k1 s1 e1 h1 l1=>?_;cases r with
 |cons c q=>trivial|nil=>simp only[gX]at l1;subst l1;simp only[F7]at e1;subst e1;exact hK _ _ _ _ _ R1 T1 k1 s1 hg h1
theorem a8i{α:Type}{ln:Ty->Bool}{md:M}(hd:md.isDat=false)(cs:List V)(K:md.den->List V->Cmd α):exM ln md cs K=exM Be md cs K:=by cases md<;>first|rfl|(simp[M.isDat]at hd;done)|(rename_i b;cases b<;>first|rfl|(rename_i b;cases b<;>rfl))
theorem Xr{α:Type}{Q:α->Sm->Prop}{ln:Ty->Bool}{md:MG}(hd:md.2.isDat=true){v:V}{x:Value}{K:md.2.den->Cmd α}(R:Rel X cl ch S m ok a w)(hT:Tk X S m ok w T)(hv:nO ⟨w.heap,ok,m⟩ v x)
  (hK:∀S' ok' y cs,Rel X cl ch S' m ok' a w->Tk X S' m ok' w T->(∀b t,ok b t->ok' b t)->(∀b t,okL ln S m ok b t->okL ln S' m ok' b t)->dL S S' ->Qz md.1 x cs->oU w.heap (okL ln S' m ok') md.2 none y cs []->(K y).post S' Q):
  (Um ln md v K).post S Q:=by
 obtain⟨ag,mm⟩:=md;cases mm<;>simp[M.isDat]at hd;refine Ew hv λcs us hg hl=>?_;dsimp only;unfold exM;refine Fb ln _ R hT hl λS1 ok1 y r us1 us' R1 T1 k1 g1 s1 e1 h1 l1=>?_;cases r with
 |cons c q=>trivial|nil=>simp only[gX]at l1;subst l1;simp only[F7]at e1;subst e1;exact hK _ _ _ _ R1 T1 k1 g1 s1 hg ⟨h1,rfl⟩
theorem b4Q{ln:Ty->Bool} :∀b t,ok b t->okL ln S m ok b t:=λ_ _ h=> .inl h
theorem GY{α:Type}{Q:α->Sm->Prop}{ln:Ty->Bool} :∀(ms:List MG) {vs:List V} {xs:List Value} {K:dX ms->Cmd α} {S:Sm} {ok:Nat->Ty->Prop} {T:List Nat} (R:Rel X cl ch S m ok a w) (hT:Tk X S m ok w T)
  (hv:jb ⟨w.heap,ok,m⟩ vs xs)
  (hK:∀S' ok' y O,Rel X cl ch S' m ok' a w->Tk X S' m ok' w (T++O)->(∀b t,ok b t->ok' b t)->dL S S' ->uM w.heap (okL ln S' m ok') ms y xs O->(K y).post S' Q),
  (LG ln ms vs K).post S Q
 |[],vs,xs,K,S,ok,T,R,hT,hv,hK=>by
  unfold LG;split
  ·simp only[jb]at hv;subst hv;exact hK _ _ _ [] R (by simpa using hT) (λ_ _ h=>h) (dL.refl _) ⟨rfl,rfl⟩
  ·trivial
 |[md],vs,xs,K,S,ok,T,R,hT,hv,hK=>by
  unfold LG;split
  ·obtain⟨x,r,rfl,h1,h2⟩:=hv;simp only[jb]at h2;subst h2;cases hd:md.2.isDat
   ·unfold Um;simp only[a8i hd];exact a0w R hT h1 λS' ok' y cs O R' T' k s g h=>hK _ _ _ O R' T' k s ⟨x,cs,rfl,g,jK b4Q (λ_ _ _=>rfl) (λ_ _=>rfl) h⟩
   ·exact Xr hd R hT h1 λS' ok' y cs R' T' k g s hg h=>hK _ _ _ [] R' (by simpa using T') k s ⟨x,cs,rfl,hg,h⟩
  ·trivial
 |md::md' ::r,vs,xs,K,S,ok,T,R,hT,hv,hK=>by
  unfold LG;split
  ·obtain⟨x,xr,rfl,h1,h2⟩:=hv;cases hd:md.2.isDat
   ·simp only[cond_false];unfold Um;simp only[a8i hd];refine a0w R hT h1 λS1 ok1 y cs O R1 T1 k1 s1 g1 h1' =>?_;refine GY (md' ::r) R1 T1 (JD k1 h2) λS2 ok2 z O2 R2 T2 k2 s2 h2' =>?_;exact hK _ _ _ (O++O2) R2 (by simpa using T2) (λb t h=>k2 b t (k1 b t h)) (s1.trans s2) ⟨x,cs,xr,O,O2,rfl,rfl,g1,jK (λb t h=> .inl (k2 b t h)) (λ_ _ _=>rfl) (λ_ _=>rfl) h1',h2'⟩
   ·simp only[cond_true];refine GY (md' ::r) R hT h2 λS2 ok2 z O2 R2 T2 k2 s2 h2' =>?_;refine Xr hd R2 T2 (KY k2 h1) λS1 ok1 y cs R1 T1 k1 g1 s1 hg h1' =>?_;exact hK _ _ _ ([]++O2) R1 (by simpa using T1) (λb t h=>k1 b t (k2 b t h)) (s2.trans s1) ⟨x,cs,xr,[],O2,rfl,rfl,hg,h1',RN g1 (λ_ _ _=>rfl) (λ_ _=>rfl) h2'⟩
  ·trivial
theorem a0v{α:Type}{Q:α->Sm->Prop}(ms:List MG){vs:List V}{xs:List Value}{K:dX ms->Cmd α}{S:Sm}{ok:Nat->Ty->Prop}{T:List Nat}(R:Rel X cl ch S m ok a w)(hT:Tk X S m ok w T)
  (hv:jb ⟨w.heap,ok,m⟩ vs xs)
  (hK:∀S' ok' y O,Rel X cl ch S' m ok' a w->Tk X S' m ok' w (T++O)->(∀b t,ok b t->ok' b t)->dL S S' ->uM w.heap ok' ms y xs O->(K y).post S' Q):
  (LG Be ms vs K).post S Q:=
 GY ms R hT hv λS' ok' y O R' T' k s h=>hK S' ok' y O R' T' k s (by rw[a8Z]at h;exact h)
theorem QZ{α:Type}{Q:α->Sm->Prop}{tmps:Array Value}{C:Cx} :∀(ns:List Nat) {K:List V->Cmd α} {S:Sm} (hs:∀n,n<aO->nO C (S n) (tmps.getD n Go.undef))
  (hK:∀vs,jb C vs (ns.map λn=>tmps.getD n Go.undef)->(K vs).post S Q),(YI ns K).post S Q
 |[],K,S,hs,hK=>hK [] rfl|n::ns,K,S,hs,hK=>by
  unfold YI;cases hb:Nat.blt n aO
  ·trivial
  ·simp only[cond_true];show Cmd.post _ S Q;refine QZ ns hs λvs hvs=>?_;exact hK _ ⟨_,_,rfl,hs n (by rw[eP]at hb;exact hb),hvs⟩
def a2o(h:Array Obj)(ok:Nat->Ty->Prop)(sg:Sig)(x:qo sg)(tmps:Array Value)(O:List Nat):Prop:=
 uM h ok (sg.ms.map (·.2)) x ((sg.ms.map (·.1)).map λn=>tmps.getD n Go.undef) O/\∀p∈sg.als,tmps.getD p.1 Go.undef=tmps.getD p.2 Go.undef
theorem b0G{C:Cx}{v u:V}{x y:Value}(h:b3V v u=true)(hv:nO C v x)(hu:nO C u y):x=y:=by
 cases v<;>try (cases h;done)
 case own a vw=>
 cases u<;>try (cases vw<;>cases h;done)
 case own b vu=>
 cases vw<;>cases vu<;>try (cases h;done)
 have:=iO (show Nat.beq a b=true from h);subst this;obtain⟨l,hm,h1⟩:=hv;obtain⟨l',hm',h2⟩:=hu;rw[hm]at hm';cases hm';cases l with
 |nil=>exact(show x=_ from h1).trans (show y=_ from h2).symm|st b=>cases h1|mp b=>exact(show x=_ from h1).trans (show y=_ from h2).symm|arr blk off len cap sz=>exact(show x=_ from h1).trans (show y=_ from h2).symm
theorem Xb{α:Type}{Q:α->Sm->Prop}{tmps:Array Value}{C:Cx} :∀(als:List (Nat×Nat)) {K:Cmd α} {S:Sm} (hs:∀n,n<aO->nO C (S n) (tmps.getD n Go.undef))
  (hK:(∀p∈als,tmps.getD p.1 Go.undef=tmps.getD p.2 Go.undef)->K.post S Q),(b1X als K).post S Q
 |[],K,S,hs,hK=>hK (λp hp=>by cases hp)|(n,k)::r,K,S,hs,hK=>by
  unfold b1X;refine gQ λhb=>?_;simp only[x9]at hb;show Cmd.post _ S Q;refine gQ λhv=>Xb r hs λh=>hK λp hp=>?_;rcases C9.1 hp with rfl|hp
  ·have h1:=hb.1;have h2:=hb.2;rw[eP]at h1 h2;exact b0G hv (hs n h1) (hs k h2)
  ·exact h p hp
theorem a2M{sg:Sig}{Q:qo sg->Sm->Prop}(R:Rel X cl ch S m ok a w)
  (hK:∀S' ok' y O,Rel X cl ch S' m ok' a w->Tk X S' m ok' w O->(∀b t,ok b t->ok' b t)->dL S S' ->
   a2o w.heap ok' sg y a.tmps O->Q y S'):(a8j sg).post S Q:=by
 unfold a8j;refine Xb _ R.slot λhals=>QZ _ R.slot λvs hvs=>?_;refine a0v (T:=[]) _ R Tk.nil hvs λS' ok' y O R' T' k s h=>?_;exact hK S' ok' y O R' T' k s ⟨h,hals⟩
theorem Rel.chmono(R:Rel X cl ch S m ok a w){ch' :Nat}(h:ch<=ch'):Rel X cl ch' S m ok a w:={ R with strict:=λn hn=>R.strict n l7 }
theorem zq{α:Type}{Q:α->Sm->Prop}{n:Nat}{v:V}{K:Cmd α}(hK:S (aO+n)= .undef->K.post (upd S (aO+n) v) Q):(zD n v K).post S Q:=by
 unfold zD;show Cmd.post (match S (aO+n)with| .undef=>_|_=>_) S Q;split
 ·rename_i h;exact hK h
 ·trivial
theorem Rel.adopt(R:Rel X cl ch S m ok a w){n:Nat}{l:Loc}{ks:List Nat}{v:V}{O:List Nat}(hn:S (aO+n)= .undef)(hcl:cl<=n)(hv:v≠.undef)
  (hT:Tk X S m ok w (O++T)) (ho:∀b∈Y6 (nR m n l ks) n v,b∈O) (hnd:(Y6 (nR m n l ks) n v).Nodup) (hB:Ef ⟨w.heap,ok,nR m n l ks⟩ n v):
  Rel X cl (max ch (n+1)) (upd S (aO+n) v) (nR m n l ks) ok a w/\Tk X (upd S (aO+n) v) (nR m n l ks) ok w T/\(∀k l',m k=some l' ->nR m n l ks k=some l'):=by
 have hm:m n=none:=R.fresh n hcl hn;refine⟨(R.chmono (fB ch (n+1))).lay hn hcl l7 hv rfl rfl rfl (E5 _) (λ_ _ _=>rfl) hnd (λb hb=>hT.free b (by simp[ho b hb])) hB,⟨?_,λb hb=>?_⟩,λk l' h=>?_⟩
 ·exact(I7.1 hT.nodup).2.1
 ·obtain⟨h1,h2,h3,h4⟩:=hT.free b (by simp[hb]);refine⟨h1,h2,h3,λk e=>?_⟩;by_cases ek:k=n
  ·subst ek;rw[lD]at e;exact(I7.1 hT.nodup).2.2 b (ho b e) b hb rfl
  ·rw[bz _ _ l7]at e;refine h4 k ?_;rw[←Ht (m:=m) (kz m l ks ek) (QQ m l ks ek)];exact e
 ·by_cases ek:k=n
  ·subst ek;simp[hm]at h
  ·rw[kz _ _ _ ek];exact h
theorem NE{h:Array Obj}{ok:Nat->Ty->Prop}{m m' :Mp}{t:Ty}{xs:List t.den}{l:Loc}(hr:arrOk ⟨h,ok,m⟩ t xs l):arrOk ⟨h,ok,m'⟩ t xs l:=by cases l<;>exact hr
theorem a7d{α:Type}{Q:α->Sm->Prop}{S:Sm}{k:Nat}{v:V}{c:Cmd α}(h:c.post (upd S k v) Q):(Cmd.set k v c).post S Q:=h
theorem FP{α:Type}{Q:α->Sm->Prop} :∀(md:M) {x:md.den} {n:Nat} {r:List V} {K:List V->Nat->Cmd α} {S:Sm} {m:Mp} {ch:Nat} {us us' :List Value} {O T:List Nat}
  (R:Rel X cl ch S m ok a w) (hcl:cl<=n) (hT:Tk X S m ok w (O++T)) (h:oU w.heap ok md none x us O) (hL:gX ⟨w.heap,ok,m⟩ r us')
  (hK:∀S' m' cs n' ch',Rel X cl ch' S' m' ok a w->ch' <=max ch n' ->Tk X S' m' ok w T->(∀k l,m k=some l->m' k=some l)->dL S S' ->gX ⟨w.heap,ok,m'⟩ cs (us++us')->n<=n' ->(K cs n').post S' Q),
  (emM md x n r K).post S Q
 | .dat t,x,n,r,K,S,m,ch,us,us',O,T,R,hcl,hT,h,hL,hK=>by unfold emM;obtain⟨hr,rfl⟩:=h;refine hK S m _ n ch R (fB _ _) (by simpa using hT) (λ_ _ h=>h) (dL.refl _) ?_ (E5 _);rw[lG];exact wU (qP (C:=⟨w.heap,ok,m⟩) hr) hL
 | .own t,x,n,r,K,S,m,ch,us,us',O,T,R,hcl,hT,h,hL,hK=>by
  unfold emM;obtain⟨l,v,rfl,hv,ha,rfl⟩:=yl.1 h;refine zq λhn=>?_;have hob:Y6 (nR m n l []) n (.barr t x)=l.blks:=by cases l<;>first|(simp[Y6,Loc.blks];done)|cases ha
  obtain⟨R',T',k'⟩:=R.adopt (l:=l) (ks:=[]) (v:=.barr t x) hn hcl A7 hT (λb hb=>by rw[hob]at hb;exact hb) (by rw[hob];exact Loc.blks_nodup l) ⟨l,eQ _ _ _ _,NE ha⟩;exact hK _ _ _ _ _ R' l7 T' k' (dL.box _ _ _) ⟨v,us',rfl,⟨l,eQ _ _ _ _,hv⟩,rO hv,JC k' hL⟩ l7
 | .ownb t,x,n,r,K,S,m,ch,us,us',O,T,R,hcl,hT,h,hL,hK=>by
  unfold emM;obtain⟨l,v,rfl,hv,ha,rfl⟩:=h;refine zq λhn=>?_;have hob:Y6 (nR m n l []) n (.barr t x)=l.blks:=by cases l<;>first|(simp[Y6,Loc.blks];done)|cases ha
  obtain⟨R',T',k'⟩:=R.adopt (l:=l) (ks:=[]) (v:=.barr t x) hn hcl A7 hT (λb hb=>by rw[hob]at hb;exact hb) (by rw[hob];exact Loc.blks_nodup l) ⟨l,eQ _ _ _ _,NE ha⟩;exact hK _ _ _ _ _ R' l7 T' k' (dL.box _ _ _) ⟨v,us',rfl,⟨l,eQ _ _ _ _,hv⟩,rO hv,JC k' hL⟩ l7
 | .owns md,x,n,r,K,S,m,ch,us,us',O,T,R,hcl,hT,h,hL,hK=>by
  unfold emM;obtain⟨hw,l,v,Os,rfl,hv,ha,rfl⟩:=zA.1 h;refine zq λhn=>?_;have hob:Y6 (nR m n l Os.flatten) n (.barrs md x none)=l.blks++Os.flatten:=by cases l<;>first|(simp[Y6,Loc.blks];done)|cases ha
  obtain⟨R',T',k'⟩:=R.adopt (l:=l) (ks:=Os.flatten) (v:=.barrs md x none) hn hcl A7 hT (λb hb=>by rw[hob]at hb;exact hb) (by rw[hob];exact(I7.1 hT.nodup).1)
   ⟨hw,l,Os,eQ _ _ _ _,⟨ha,trivial⟩,A7⟩
  refine a7d ?_;have T2:=T'.killV R' (PG+n) (v:=.blen (x8 x) md.size) rfl (bs:=[]) (λb h=>by cases h) dY;rw[F7]at T2;exact hK _ _ _ _ _ (R'.mark (lD _ _ _)) l7 T2 k' ((dL.box _ _ _).trans (dL.box _ _ _)) ⟨v,us',rfl,⟨l,eQ _ _ _ _,hv⟩,rO hv,JC k' hL⟩ l7
 | .pair p q,x,n,r,K,S,m,ch,us,us',O,T,R,hcl,hT,h,hL,hK=>by
  unfold emM;obtain⟨c,d,O1,O2,rfl,rfl,h1,h2⟩:=a6W.1 h;have hT1:Tk X S m ok w (O2++(O1++T)):=hT.perm (by rw[F6];exact(List.perm_append_comm_assoc _ _ _))
  refine FP q R hcl hT1 h2 hL λS1 m1 cs1 n1 ch1 R1 c1 T1 k1 s1 l1 e1=>?_;refine FP p R1 l7 T1 h1 l1 λS2 m2 cs2 n2 ch2 R2 c2 T2 k2 s2 l2 e2=>?_;exact hK _ _ _ _ _ R2 l7 T2 (λk l h=>k2 k l (k1 k l h)) (s1.trans s2) (by simpa using l2) l7
 | .unit,x,n,r,K,S,m,ch,us,us',O,T,R,hcl,hT,h,hL,hK=>by unfold emM;obtain⟨rfl,rfl⟩:=h;exact hK S m _ n ch R (fB _ _) (by simpa using hT) (λ_ _ h=>h) (dL.refl _) (by simpa using hL) (E5 _)
 | .box md,x,n,r,K,S,m,ch,us,us',O,T,R,hcl,hT,h,hL,hK=>by
  unfold emM;obtain⟨blk,arr,Tt,O',rfl,hh,hr,rfl⟩:=h;have hT1:Tk X S m ok w (O' ++([blk]++T)):=hT.perm (by simpa using List.perm_middle.symm);refine FP md (r:=[]) (us' :=[]) R l7 hT1 hr rfl λS1 m1 cs1 n1 ch1 R1 c1 T1 k1 s1 l1 e1=>?_;refine zq λhn=>?_;obtain⟨R',T',k'⟩:=R1.adopt (l:=.st blk) (ks:=[]) (v:=.bcells cs1) hn hcl A7 T1 (λb hb=>by
   simp only[Y6,eQ]at hb;simp at hb;simp[hb]) (by simp[Y6]) ⟨blk,arr,Tt,eQ _ _ _ _,hh,JC (λk l (h:m1 k=some l)=>by
    by_cases ek:k=n
    ·subst ek;have:=R1.fresh k hcl hn;rw[this]at h;cases h
    ·rw[kz _ _ _ ek];exact h) (by simpa using l1)⟩
  refine hK _ _ _ _ _ R' l7 T' (λk l h=>k' k l (k1 k l h)) (s1.trans (dL.box _ _ _)) ⟨_,us',rfl,⟨blk,eQ _ _ _ _,rfl⟩,rfl,JC k' (JC k1 hL)⟩ l7
 | .rp t,x,n,r,K,S,m,ch,us,us',O,T,R,hcl,hT,h,hL,hK=>by unfold emM;obtain⟨v,rfl,hv,rfl⟩:=h;exact hK S m _ n ch R (fB _ _) (by simpa using hT) (λ_ _ h=>h) (dL.refl _) ⟨v,us',rfl,hv,Uj hv,hL⟩ (E5 _)
 | .fn f ts,x,n,r,K,S,m,ch,us,us',O,T,R,hcl,hT,h,hL,hK=>by unfold emM;obtain⟨vs,rfl,hv,rfl⟩:=h;exact hK S m _ n ch R (fB _ _) (by simpa using hT) (λ_ _ h=>h) (dL.refl _) ⟨_,us',rfl,⟨vs,rfl,hv⟩,rfl,hL⟩ (E5 _)
 | .ifc t md,x,n,r,K,S,m,ch,us,us',O,T,R,hcl,hT,h,hL,hK=>by
  unfold emM;obtain⟨u,rfl,h1⟩:=h;refine FP md (r:=[]) (us' :=[]) R hcl hT h1 rfl λS1 m1 cs1 n1 ch1 R1 c1 T1 k1 s1 l1 e1=>?_;split
  ·rename_i c;obtain⟨v',r',e,h1',h2',h3'⟩:=l1;simp only[F7,au,J4,I5]at e;obtain⟨rfl,rfl⟩:=e;exact hK _ _ _ _ _ R1 c1 T1 k1 s1 ⟨_,us',rfl,⟨u,rfl,h2',h1'⟩,rfl,JC k1 hL⟩ e1
  ·trivial
 | .cell (some none),x,n,r,K,S,m,ch,us,us',O,T,R,hcl,hT,h,hL,hK=>by unfold emM;obtain⟨v,rfl,hv,h2,h4,rfl⟩:=h;exact hK S m _ n ch R (fB _ _) (by simpa using hT) (λ_ _ h=>h) (dL.refl _) ⟨v,us',rfl,h2 rfl,hv,hL⟩ (E5 _)
 | .cell (some (some b)),x,n,r,K,S,m,ch,us,us',O,T,R,hcl,hT,h,hL,hK=>by unfold emM;obtain⟨v,rfl,hv,h2,h4,rfl⟩:=h;exact hK S m _ n ch R (fB _ _) (by simpa using hT) (λ_ _ h=>h) (dL.refl _) ⟨v,us',rfl,h4 _ rfl,hv,hL⟩ (E5 _)
 | .cell none,x,n,r,K,S,m,ch,us,us',O,T,R,hcl,hT,h,hL,hK=>by unfold emM;obtain⟨v,rfl,hv,h2,h4,rfl⟩:=h;exact hK S m _ n ch R (fB _ _) (by simpa using hT) (λ_ _ h=>h) (dL.refl _) ⟨v,us',rfl,trivial,hv,hL⟩ (E5 _)
theorem OM{C:Cx}{ag:Bool}{cs:List V}{us:List Value}{x:Value}(hg:Qz ag x us)(hl:gX C cs us):nO C (mkV ag cs) x:=by
 cases ag
 ·simp only[Qz]at hg;subst hg;cases cs with
  |nil=>simp[gX]at hl|cons c r=>
   obtain⟨v,r',e,h1,h2,h3⟩:=hl;simp at e;obtain⟨rfl,rfl⟩:=e;cases r with
   |nil=>exact Df h1|cons d r=>obtain⟨_,_,e,_⟩:=h3;cases e
 ·obtain⟨arr,rfl,rfl⟩:=hg;exact⟨arr,rfl,hl⟩
theorem GR{α:Type}{Q:α->Sm->Prop} :∀(ms:List MG) {x:dX ms} {n:Nat} {K:List V->Nat->Cmd α} {S:Sm} {m:Mp} {ch:Nat} {xs:List Value} {O T:List Nat}
  (R:Rel X cl ch S m ok a w) (hcl:cl<=n) (hT:Tk X S m ok w (O++T)) (h:uM w.heap ok ms x xs O)
  (hK:∀S' m' vs n' ch',Rel X cl ch' S' m' ok a w->ch' <=max ch n' ->Tk X S' m' ok w T->(∀k l,m k=some l->m' k=some l)->dL S S' ->jb ⟨w.heap,ok,m'⟩ vs xs->n<=n' ->(K vs n').post S' Q),
  (LD ms x n K).post S Q
 |[],x,n,K,S,m,ch,xs,O,T,R,hcl,hT,h,hK=>by unfold LD;obtain⟨rfl,rfl⟩:=h;exact hK S m [] n ch R (fB _ _) (by simpa using hT) (λ_ _ h=>h) (dL.refl _) rfl (E5 _)
 |[md],x,n,K,S,m,ch,xs,O,T,R,hcl,hT,h,hK=>by unfold LD;obtain⟨v,cs,rfl,hg,hr⟩:=h;refine FP md.2 (us' :=[]) R hcl hT hr rfl λS1 m1 cs1 n1 ch1 R1 c1 T1 k1 s1 l1 e1=>?_;exact hK _ _ _ _ _ R1 c1 T1 k1 s1 ⟨v,[],rfl,OM hg (by simpa using l1),rfl⟩ e1
 |md::md' ::r,x,n,K,S,m,ch,xs,O,T,R,hcl,hT,h,hK=>by unfold LD;obtain⟨v,cs,vs',O1,O2,rfl,rfl,hg,h1,h2⟩:=h;refine FP md.2 (us' :=[]) R hcl (by simpa using hT) h1 rfl λS1 m1 cs1 n1 ch1 R1 c1 T1 k1 s1 l1 e1=>?_;refine GR (md' ::r) R1 l7 T1 h2 λS2 m2 vs2 n2 ch2 R2 c2 T2 k2 s2 l2 e2=>?_;exact hK _ _ _ _ _ R2 l7 T2 (λk l h=>k2 k l (k1 k l h)) (s1.trans s2) ⟨v,vs',rfl,OM hg (JC k2 (by simpa using l1)),l2⟩ l7
theorem RY{Q:Unit->Sm->Prop} :∀(ns:List Nat) {vs:List V} {S:Sm} (R:Rel X cl ch S m ok a w) (hv:jb ⟨w.heap,ok,m⟩ vs (ns.map λn=>a.tmps.getD n Go.undef))
  (hK:∀S',Rel X cl ch S' m ok a w->Q () S'),(VS ns vs).post S Q
 |[],vs,S,R,hv,hK=>by
  cases vs with
  |nil=>exact hK S R|cons v vs=>trivial
 |n::ns,vs,S,R,hv,hK=>by
  cases vs with
  |nil=>trivial|cons v vs=>
   unfold VS;obtain⟨x,r,e,h1,h2⟩:=hv;simp only[iP,I5]at e;obtain⟨rfl,rfl⟩:=e;cases hb:Nat.blt n aO
   ·trivial
   ·simp only[cond_true];show Cmd.post _ (upd S n v) Q;exact RY ns (R.slotV (by rw[eP]at hb;exact hb) h1) h2 hK
theorem OZ{Q:Unit->Sm->Prop} :∀(ns:List Nat) {vs:List V} {S:Sm} {K:Cmd Unit} (R:Rel X cl ch S m ok a w) (hv:jb ⟨w.heap,ok,m⟩ vs (ns.map λn=>a.tmps.getD n Go.undef))
  (hK:∀S',Rel X cl ch S' m ok a w->K.post S' Q),(Tq ns vs K).post S Q
 |[],vs,S,K,R,hv,hK=>by
  simp only[zN]at hv;cases vs with
  |nil=>exact hK S R|cons _ _=>obtain⟨_,_,e,_⟩:=hv;cases e
 |n::ns,vs,S,K,R,hv,hK=>by
  cases vs with
  |nil=>trivial
  |cons v vs=>obtain⟨x,r,e,h1,h2⟩:=hv;simp only[iP,I5]at e;obtain⟨rfl,rfl⟩:=e;unfold Tq;refine gQ λhb=>?_;show Cmd.post _ (upd S n v) Q;exact OZ ns (R.slotV (by rw[eP]at hb;exact hb) h1) h2 hK
theorem RZ{Q:Unit->Sm->Prop} :∀(als:List (Nat×Nat)) {S:Sm} (R:Rel X cl ch S m ok a w) (h:∀p∈als,a.tmps.getD p.1 Go.undef=a.tmps.getD p.2 Go.undef)
  (hK:∀S',Rel X cl ch S' m ok a w->Q () S'),(Zx als).post S Q
 |[],S,R,h,hK=>hK S R
 |(n,k)::r,S,R,h,hK=>by unfold Zx;refine gQ λhb=>?_;simp only[x9]at hb;have h1:=hb.1;have h2:=hb.2;rw[eP]at h1 h2;show Cmd.post _ (upd S n (S k)) Q;refine RZ r (R.slotV h1 ?_) (λp hp=>h p (P5 _ hp)) hK;rw[h (n,k) kL];exact R.slot k h2
theorem a2G{sg:Sig}{x:qo sg}{nb lim:Nat}{Q:Unit->Sm->Prop}{O:List Nat}(R:Rel X cl ch S m ok a w)(hcl:cl<=nb)(hT:Tk X S m ok w O)
  (h:a2o w.heap ok sg x a.tmps O)
  (hK:∀S' m',Rel X cl (max ch lim) S' m' ok a w->(∀k l,m k=some l->m' k=some l)->Q () S'):(a8b sg x nb lim).post S Q:=by
 unfold a8b;refine GR (T:=[]) _ R hcl (by simpa using hT) h.1 λS1 m1 vs n1 ch1 R1 c1 T1 k1 s1 l1 e1=>?_;cases hb:Nat.ble n1 lim
 ·trivial
 ·simp only[cond_true];have:n1<=lim:=V8 hb;exact OZ _ (R1.chmono (ch' :=max ch lim) l7) l1 λS' R' =>RZ _ R' h.2 λS'' R'' =>hK S'' m1 R'' k1
end
end Go.GP
namespace Go.GP
def b1I(P:Program)(t:TypeId):TD->Prop
 | .bool=>P.underlying t=some .bool| .int k=>P.underlying t=some (.int k)| .str=>P.underlying t=some .string| .sl e=>P.underlying t=some (.slice e)| .ptr e=>P.underlying t=some (.pointer e)| .struct fs=>∃fields,P.underlying t=some (.struct fields)/\fields.toList.map (λf=>(f.type,f.offset))=fs| .arr n e=>P.underlying t=some (.array n e)| .map k e=>P.underlying t=some (.map k e)| .other=>∃d,P.underlying t=some d/\(match d with| .struct _| .array _ _=>False|_=>True)
structure TiOk (P:Program) (t:TypeId) (i:TI):Prop where
 info:∃inf,P.info? t=some inf/\inf.size=i.size/\inf.bytes=i.bytes/\
  (i.zero.length=i.size->∃z,inf.zero=some z/\gX ⟨#[],λ_ _=>False,nom⟩ i.zero z.cells.toList)/\
  (∀u,i.ty=some u->u.size=i.size/\∃z,inf.zero=some z/\lC #[] (λ_ _=>False) u u.zero z.cells.toList)
 td:b1I P t i.td
 one:bi i.td=false->i.size=1
 agg:∀inf z,P.info? t=some inf->inf.zero=some z->(bi i.td=true->∃arr,z= .agg arr)/\(bi i.td=false->z.oneCell' =true)
def a2n(n:Nat)(v:Value)(rs:List Value):Prop:=rs.length=n/\v=(match rs with|[x]=>x|l=> .tuple l.toArray)
def yP(h:Array Obj):List MG->List Value->List Value->List Nat->Prop
 |[],[],os,B=>os=[]/\B=[]|(_,.box _)::ms,v::vs,os,B=>∃b arr T os' B',v= .pointer (some ⟨b,0,none⟩)/\h[b]? =some (.cells arr T (0,0))/\os= .agg arr::os' /\B=b::B' /\yP h ms vs os' B'|(_,.ifc _ (.box _))::ms,v::vs,os,B=>∃t b arr T os' B',v= .iface t (.pointer (some ⟨b,0,none⟩))/\h[b]? =some (.cells arr T (0,0))/\os= .agg arr::os' /\B=b::B' /\yP h ms vs os' B'|(_,.ownb _)::ms,v::vs,os,B=>∃os',os=v::os' /\yP h ms vs os' B|_::ms,_::vs,os,B=>yP h ms vs os B|_,_,_,_=>False
def lK(P:Program)(gl:List (Nat×(t:Ty)×List t.den))(f:FuncId)(s:FSpec):Prop:=
 ∀(w:World) (ok:Nat->Ty->Prop) (O:List Nat) (vals:List Value) (x:dX s.ps) (r:dX (s.rs++s.outs)),
  (∀b t,ok b t->b<w.heap.size)->O.Nodup->(∀b∈O,(∀t,¬ok b t)/\b<w.heap.size)->(∀g u,dV gl g=some u->Nu ⟨w.heap,ok,nom⟩ g u.1 u.2)->
  uM w.heap ok s.ps x vals O->s.fn x=some r->
  Calls P f vals.toArray w λe w' =>∃v ok' O' rs os B,e= .returned v/\Frame' w w' O/\(∀b t,ok b t->ok' b t)/\(∀b t,ok' b t->b<w'.heap.size/\(ok b t\/w.heap.size<=b\/b∈O))/\
   (O' ++B).Nodup/\(∀b∈O' ++B,(∀t,¬ok' b t)/\b<w'.heap.size/\(w.heap.size<=b\/b∈O))/\
   a2n s.rs.length v rs/\yP w'.heap s.ps vals os B/\uM w'.heap ok' (s.rs++s.outs) r (rs++os) O'
def jo:List Ty->List Value->Prop
 |[],vs=>vs=[]| .bool::ts,vs=>∃b r,vs= .bool b::r/\jo ts r| .int k::ts,vs=>∃b r,vs= .int k b::r/\jo ts r| .str::ts,vs=>∃b r,vs= .string b::r/\jo ts r|_::_,_=>False
def a7q(P:Program)(t:TypeId)(sh:List Ty):Prop:=
 ∀(w:World) (C:Cx) (cs ds:List V) (xs ys:Array Value) (e:Bool) (op:BinOp) (x y:Operand),Aj sh cs=true->Aj sh ds=true->gX C cs xs.toList->gX C ds ys.toList->zJ cs ds=some e->
  (op= .eql\/op= .neq)->(do eqGuard op t x y (.agg xs) (.agg ys);binOp op t (.agg xs) (.agg ys):Sem Value).run P w= .ok (.bool (if op= .eql then e else !e)) w
def ZP(P:Program)(t:TypeId)(sh:List Ty):Prop:=
 (∃fs,P.underlying t=some (.struct fs))/\∀(w:World) (xs:Array Value),jo sh xs.toList->(∀em,(Instr.checkKey em 10000 t (.agg xs)).run P w= .ok () w)/\
  ∀ys:Array Value,jo sh ys.toList->∃r,(Op.equal t (.agg xs) (.agg ys)).run P w= .ok r w/\(r=true↔xs.toList=ys.toList)
def Ko(P:Program)(t:TypeId)(sh:List Ty):Prop:=a7q P t sh/\ZP P t sh
def Dw(P:Program)(t:Nat)(n:String)(f:Nat)(d:Option Nat):Prop:=
 ∀(v:Value) (w:World),match d with
  |none=>(method (P.types.size+Made.depth) t v n).run P w= .ok (f,v) w
  |some e=>∀ad,v= .pointer (some ad)->(method (P.types.size+Made.depth) t v n).run P w=((loadVar e ad).run P w).andThen λu w' => .ok (f,u) w'
structure FxOk (X:Fx):Prop where
 nt:64*X.E.nt<=999936
 tt:∀t i,dV X.E.tt t=some i->TiOk X.P t i
 fs:∀p∈X.E.fs,lK X.P X.E.gl p.1 p.2
 eqs:∀t sh,dV X.E.eqs t=some sh->Ko X.P t sh
 ms:∀p∈X.E.ms,Dw X.P p.1.1 p.1.2 p.2.1 p.2.2
 fn:∀p∈X.E.fs,∃fn,X.P.funcs[p.1]? =some fn/\fn.body.isSome=true/\(fn.name== "runtime.NumGoroutine")=false
theorem FxOk.ntB{X:Fx}(H:FxOk X):X.E.nt<=aO:=by have:=H.nt;show X.E.nt<=1000000;omega
def jL(X:Fx)(cl ch:Nat)(o:Oper)(a:Act)(w:World)(m:Mp)(ok:Nat->Ty->Prop)(S' :Sm):Prop:=
 ∀(next:Act->World->Prop) (Q:Exit->Act->World->Prop),
  (∀m' ok' a' w',Rel X cl ch S' m' ok' a' w' ->(∀k l,m k=some l->m' k=some l)->(∀b t,ok b t->ok' b t)->next a' w')->o.wp X.P a w next Q
theorem Gl{α:Type}{ι:Sort _}{Q:ι->α->Sm->Prop} :∀{c:Cmd α} {S:Sm},(∀i,c.post S (Q i))->c.post S (λx S' =>∀i,Q i x S')
 | .ret x,S,h=>λi=>h i| .fail,S,h=>trivial| .get k c,S,h=>Gl (c:=c (S k)) h| .set k v c,S,h=>Gl (c:=c) h
 | .opt o c,S,h=>λx e=>Gl (c:=c x) λi=>h i x e| .br b c d,S,h=>⟨λe=>Gl (c:=c) λi=>(h i).1 e,λe=>Gl (c:=d) λi=>(h i).2 e⟩
section
variable {X:Fx} {cl ch:Nat} {S:Sm} {m:Mp} {ok:Nat->Ty->Prop} {a:Act} {w:World} {o:Oper}
theorem ed{α:Type}{Q:α->Sm->Prop}{b:Bool}{c:Cmd α}{S:Sm}(h:b=true->c.post S Q):(bif b then c else Cmd.fail).post S Q:=by
 cases b
 ·trivial
 ·exact h rfl
theorem Me{a b:Nat}(h:Nat.blt a b=true):a<b:=by rw[eP]at h;exact h
theorem xJ(H:FxOk X){S:Sm}{m0 m:Mp}{ok0 ok:Nat->Ty->Prop}{w0 w:World}{a:Act}(R:Rel X cl ch S m ok a w)(hm:∀k l,m0 k=some l->m k=some l)(hok:∀b t,ok0 b t->ok b t)
  {v:V} {x:Value} (hv:nO ⟨w.heap,ok,m⟩ v x) (run:(execOp a.eval o).run X.P w0= .ok (.value x) w):
  (fH X.E o.dst v).post S (λ_ S' =>jL X cl ch o a w0 m0 ok0 S'):=by
 unfold fH;cases hd:o.dst with
 |none=>
  intro next Q hn
  unfold Oper.wp;rw[run,Oper.upon_value,hd];exact hn m ok a w R hm hok
 |some d=>
  refine ed λhb=>?_;intro next Q hn
  unfold Oper.wp;rw[run,Oper.upon_value,hd];exact hn m ok _ w (R.put H.ntB hb hv) hm hok
theorem a2z(C:Cx)(v:Value):nO C (a2y v) v:=by unfold a2y;split<;>first|exact rfl|trivial
theorem aB{α:Type}{Q:α->Sm->Prop}(R:Rel X cl ch S m ok a w){x:Operand}{K:V->Cmd α}(hK:∀v,nO ⟨w.heap,ok,m⟩ v (a.eval x)->(K v).post S Q):(qH x K).post S Q:=by
 unfold qH;cases x with
 |tmp t=>exact ed λhb=>hK (S t) (R.slot t (Me hb))|const v=>exact hK _ (a2z _ v)|global g=>exact hK _ rfl|func f=>exact hK _ rfl
theorem oz{α:Type}{Q:α->Sm->Prop}(R:Rel X cl ch S m ok a w):∀(xs:List Operand) {K:List V->Cmd α} (hK:∀vs,jb ⟨w.heap,ok,m⟩ vs (xs.map a.eval)->(K vs).post S Q),(Rz xs K).post S Q
 |[],K,hK=>hK [] rfl
 |x::r,K,hK=>by unfold Rz;refine aB R λv hv=>?_;exact oz R r λvs hvs=>hK _ ⟨_,_,rfl,hv,hvs⟩
theorem aN(H:FxOk X)(R:Rel X cl ch S m ok a w){v:V}{x:Value}(hv:nO ⟨w.heap,ok,m⟩ v x)(run:(execOp a.eval o).run X.P w= .ok (.value x) w):
  (fH X.E o.dst v).post S (λ_ S' =>jL X cl ch o a w m ok S'):=xJ H R (λ_ _ h=>h) (λ_ _ h=>h) hv run
theorem QA{C:Cx}{x:Bool}{v:Value}(h:nO C (.b x) v):v= .bool x:=h
theorem uq{C:Cx}{k:IntKind}{n:Int}{v:Value}(h:nO C (.i k n) v):v= .int k n:=h
theorem Nh{C:Cx}{l:List UInt8}{v:Value}(h:nO C (.s l) v):v= .string ⟨l.toArray⟩:=h
theorem a5n(H:FxOk X)(R:Rel X cl ch S m ok a w){x:Operand}(ho:o.op= .move x\/o.op= .assign x):(qH x λv=>fH X.E o.dst v).post S (λ_ S' =>jL X cl ch o a w m ok S'):=by refine aB R λv hv=>aN H R hv ?_;rcases ho with ho|ho<;>simp[execOp,ho]
theorem b2A(H:FxOk X)(R:Rel X cl ch S m ok a w){c x y:Operand}{q:Nat}(ho:o.op= .pick c x y):(bZ X.E q o).post S (λ_ S' =>jL X cl ch o a w m ok S'):=by
 unfold bZ;simp only[ho];refine aB R λv hv=>?_;split<;>try trivial
 rename_i t;have hc:=QA hv;cases t
 ·simp only[cond_false];refine aB R λv hv=>aN H R hv ?_;simp[execOp,ho,hc,asBool]
 ·simp only[cond_true];refine aB R λv hv=>aN H R hv ?_;simp[execOp,ho,hc,asBool]
theorem gJ{α β:Type}{Q:α->Sm->Prop}{x:Option β}{c:β->Cmd α}{S:Sm}(h:∀y,x=some y->(c y).post S Q):(Cmd.opt x c).post S Q:=h
theorem a5K{yc:Operand}{a:Act}{k:IntKind}{b:Int}(h:Dn yc=false)(he:a.eval yc= .int k b):b≠0:=by
 unfold Dn at h;split at h
 ·simp[Act.eval]at he;obtain⟨_,rfl⟩:=he;simpa using h
 ·simp at h
theorem a8P{yc:Operand}{a:Act}{k:IntKind}{b:Int}(h:FZ yc=false)(he:a.eval yc= .int k b):¬b<0:=by
 unfold FZ at h;split at h
 ·simp[Act.eval]at he;obtain⟨_,rfl⟩:=he;simpa using h
 ·simp at h
theorem a6F(H:FxOk X)(R:Rel X cl ch S m ok a w){op:BinOp}{t:TypeId}{x y:Operand}{yt:TypeId}(ho:o.op= .binOp op t x y yt){k k' :IntKind}{p q:Int}
  (hx:a.eval x= .int k p) (hy:a.eval y= .int k' q):(Ja X.E t op y (.i k p) (.i k' q) λv=>fH X.E o.dst v).post S (λ_ S' =>jL X cl ch o a w m ok S'):=by
 have run:∀v,(binOp op t (.int k p) (.int k' q)).run X.P w= .ok v w->(execOp a.eval o).run X.P w= .ok (.value v) w:=λv h=>by simp[execOp,ho,hx,hy,eqGuard_at_int,h]
 have fin:∀(v:V) (u:Value),nO ⟨w.heap,ok,m⟩ v u->(binOp op t (.int k p) (.int k' q)).run X.P w= .ok u w->(fH X.E o.dst v).post S (λ_ S' =>jL X cl ch o a w m ok S'):=
  λv u hv h=>aN H R hv (run u h)
 unfold Ja;cases op<;>simp only[]
 case shl=>
  cases hn:FZ y
  ·simp only[cond_false];have h0:=a8P hn hy;exact fin _ _ rfl (by simp[binOp,Op.shift,h0,a8s])
  ·simp only[cond_true];refine gJ λr hr=>?_;unfold UG at hr;split at hr
   ·cases hr
   ·rename_i h0;cases hr;exact fin _ _ rfl (by simp[binOp,Op.shift,h0,a8s])
 case shr=>
  cases hn:FZ y
  ·simp only[cond_false];have h0:=a8P hn hy;exact fin _ _ rfl (by simp[binOp,Op.shift,h0,rY])
  ·simp only[cond_true];refine gJ λr hr=>?_;unfold UH at hr;split at hr
   ·cases hr
   ·rename_i h0;cases hr;exact fin _ _ rfl (by simp[binOp,Op.shift,h0,rY])
 all_goals
  refine ed λhk=>?_;have hk' :k=k' :=of_decide_eq_true hk;subst hk'
 case quo=>
  cases hz:Dn y
  ·simp only[cond_false];have h0:=a5K hz hy;exact fin _ _ rfl (by simp[binOp,Op.intDiv,h0,bQ])
  ·simp only[cond_true];refine gJ λr hr=>?_;unfold oG at hr;split at hr
   ·cases hr
   ·rename_i h0;cases hr;exact fin _ _ rfl (by simp[binOp,Op.intDiv,h0])
 case rem=>
  cases hz:Dn y
  ·simp only[cond_false];have h0:=a5K hz hy;exact fin _ _ rfl (by simp[binOp,Op.intDiv,h0,cZ])
  ·simp only[cond_true];refine gJ λr hr=>?_;unfold xG at hr;split at hr
   ·cases hr
   ·rename_i h0;cases hr;exact fin _ _ rfl (by simp[binOp,Op.intDiv,h0])
 case add=>exact fin _ _ rfl (by simp[binOp,Op.intArith,D7])
 case sub=>exact fin _ _ rfl (by simp[binOp,Op.intArith,H9])
 case mul=>exact fin _ _ rfl (by simp[binOp,Op.intArith,X9])
 case and=>exact fin _ _ rfl (by simp[binOp,Op.intBits,a0I])
 case or=>exact fin _ _ rfl (by simp[binOp,Op.intBits,ior])
 case xor=>exact fin _ _ rfl (by simp[binOp,Op.intBits,a8u])
 case andNot=>exact fin _ _ rfl (by simp[binOp,Op.intBits,a4R])
 case eql=>exact fin _ _ rfl (by simp[binOp,Op.intCmp,o8];rfl)
 case neq=>exact fin _ _ rfl (by simp[binOp,Op.intCmp,o8,E9];rfl)
 case lss=>exact fin _ _ rfl (by simp[binOp,Op.intCmp,D9])
 case leq=>exact fin _ _ rfl (by simp[binOp,Op.intCmp,J6])
 case gtr=>exact fin _ _ rfl (by simp[binOp,Op.intCmp,D9])
 case geq=>exact fin _ _ rfl (by simp[binOp,Op.intCmp,J6])
theorem a6G(H:FxOk X)(R:Rel X cl ch S m ok a w){op:BinOp}{t:TypeId}{x y:Operand}{yt:TypeId}(ho:o.op= .binOp op t x y yt){p q:List UInt8}
  (hx:a.eval x= .string ⟨p.toArray⟩) (hy:a.eval y= .string ⟨q.toArray⟩):(Ja X.E t op y (.s p) (.s q) λv=>fH X.E o.dst v).post S (λ_ S' =>jL X cl ch o a w m ok S'):=by
 have run:∀v,(Op.stringOp op ⟨p.toArray⟩ ⟨q.toArray⟩).run X.P w= .ok v w->(execOp a.eval o).run X.P w= .ok (.value v) w:=λv h=>by simp[execOp,ho,hx,hy,eqGuard_at_string,binOp,h]
 have fin:∀(v:V) (u:Value),nO ⟨w.heap,ok,m⟩ v u->(Op.stringOp op ⟨p.toArray⟩ ⟨q.toArray⟩).run X.P w= .ok u w->(fH X.E o.dst v).post S (λ_ S' =>jL X cl ch o a w m ok S'):=
  λv u hv h=>aN H R hv (run u h)
 unfold Ja;cases op<;>simp only[]<;>try trivial
 case add=>
  refine gJ λr hr=>?_;unfold uw at hr;split at hr
  ·rename_i hle;cases hr;have e:(⟨p.toArray⟩:ByteArray)++⟨q.toArray⟩=⟨(p++q).toArray⟩:=by
    apply ByteArray.ext;apply jT;simp[ByteArray.data_append]
   refine fin _ (.string ⟨(p++q).toArray⟩) rfl ?_;have hs:¬((9223372036854775807:Int)<(p.length:Int)+(q.length:Int)):=l7;simp[Op.stringOp,e,ByteArray.size,hs]
  ·cases hr
 case eql=>exact fin _ _ rfl (by simp only[Op.stringOp,ByteArray.toList_mk,seq,Y9];rw[show(p==q)=decide (p=q) by rw[eU];simp])
 case neq=>exact fin _ _ rfl (by simp only[Op.stringOp,ByteArray.toList_mk,seq,E9,Y9];rw[show(p==q)=decide (p=q) by rw[eU];simp])
 case lss=>exact fin _ _ rfl (by simp[Op.stringOp,ByteArray.toList_mk,slt])
theorem a3l(H:FxOk X)(R:Rel X cl ch S m ok a w){op:BinOp}{t:TypeId}{x y:Operand}{yt:TypeId}(ho:o.op= .binOp op t x y yt){p q:Bool}
  (hx:a.eval x= .bool p) (hy:a.eval y= .bool q):(Ja X.E t op y (.b p) (.b q) λv=>fH X.E o.dst v).post S (λ_ S' =>jL X cl ch o a w m ok S'):=by
 unfold Ja;cases hi:dV X.E.tt t with
 |none=>trivial|some i=>
 have ht' :=(H.tt t i hi).td;simp only[];cases hd:i.td<;>try trivial
 rw[hd]at ht';have ht:X.P.underlying t=some .bool:=ht';have he' :∀d,(Op.equalIn (d+1) t (.bool p) (.bool q)).run X.P w= .ok (p==q) w:=λd=>by simp[Op.equalIn,run_underlying ht]
 have he:(Op.equal t (.bool p) (.bool q)).run X.P w= .ok (p==q) w:=he' 9999;have run:∀v,(binOp op t (.bool p) (.bool q)).run X.P w= .ok v w->(execOp a.eval o).run X.P w= .ok (.value v) w:=λv h=>by simp[execOp,ho,hx,hy,eqGuard_at_bool,h]
 have fin:∀(v:V) (u:Value),nO ⟨w.heap,ok,m⟩ v u->(binOp op t (.bool p) (.bool q)).run X.P w= .ok u w->(fH X.E o.dst v).post S (λ_ S' =>jL X cl ch o a w m ok S'):=
  λv u hv h=>aN H R hv (run u h)
 cases op<;>try trivial
 case eql=>exact fin _ _ rfl (by simp[binOp,he,jd])
 case neq=>exact fin _ _ rfl (by simp[binOp,he,jd,E9])
end
end Go.GP
namespace Go.GP
section
variable {X:Fx} {cl ch:Nat} {S:Sm} {m:Mp} {ok:Nat->Ty->Prop} {a:Act} {w:World} {o:Oper}
theorem rM{α:Type}{Q:α->Sm->Prop}(H:FxOk X){t:Nat}{K:TI->Cmd α}(hK:∀i,TiOk X.P t i->(K i).post S Q):(tiC X.E t K).post S Q:=by
 unfold tiC;cases hi:dV X.E.tt t with
 |none=>trivial|some i=>exact hK i (H.tt t i hi)
theorem a7f{P:Program}{t:TypeId} :∀{d:TD},b1I P t d->∃e,P.underlying t=some e
 | .bool,h=>⟨_,h⟩| .int _,h=>⟨_,h⟩| .str,h=>⟨_,h⟩| .sl _,h=>⟨_,h⟩| .ptr _,h=>⟨_,h⟩| .struct _,⟨_,h,_⟩=>⟨_,h⟩| .arr _ _,h=>⟨_,h⟩| .map _ _,h=>⟨_,h⟩| .other,⟨_,h,_⟩=>⟨_,h⟩
theorem Zd(H:FxOk X)(R:Rel X cl ch S m ok a w){op:BinOp}{t:TypeId}{x y:Operand}{yt:TypeId}(ho:o.op= .binOp op t x y yt){ad:Option Addr}{n c:Nat}
  (hx:a.eval x= .slice ad n c) (hy:a.eval y= .slice none 0 0):(a8R X.E t op ad.isNone λv=>fH X.E o.dst v).post S (λ_ S' =>jL X cl ch o a w m ok S'):=by
 unfold a8R;cases hi:dV X.E.tt t with
 |none=>trivial|some i=>
 have ht' :=(H.tt t i hi).td;simp only[];cases hd:i.td<;>try trivial
 rename_i e;rw[hd]at ht';have ht:X.P.underlying t=some (.slice e):=ht';have he' :∀d,(Op.equalIn (d+1) t (.slice ad n c) (.slice none 0 0)).run X.P w= .ok ad.isNone w:=λd=>by cases ad<;>simp[Op.equalIn,run_underlying ht]
 have he:(Op.equal t (.slice ad n c) (.slice none 0 0)).run X.P w= .ok ad.isNone w:=he' 9999;have run:∀v,(binOp op t (.slice ad n c) (.slice none 0 0)).run X.P w= .ok v w->(execOp a.eval o).run X.P w= .ok (.value v) w:=λv h=>by simp[execOp,ho,hx,hy,eqGuard_at_slice,h]
 cases op<;>try trivial
 case eql=>exact aN H R (v:=.b ad.isNone) (x:=.bool ad.isNone) rfl (run _ (by simp[binOp,he]))
 case neq=>exact aN H R (v:=.b (E9 ad.isNone)) (x:=.bool (!ad.isNone)) rfl (run _ (by simp[binOp,he]))
theorem a9d(H:FxOk X)(R:Rel X cl ch S m ok a w){op:BinOp}{t:TypeId}{x y:Operand}{yt:TypeId}{q:Nat}(ho:o.op= .binOp op t x y yt):
  (bZ X.E q o).post S (λ_ S' =>jL X cl ch o a w m ok S'):=by
 unfold bZ;simp only[ho];refine aB R λu hu=>aB R λv hv=>?_;cases u<;>try (unfold Ja;trivial)
 case b p=>
  cases v<;>try (unfold Ja;trivial)
  exact a3l H R ho (QA hu) (QA hv)
 case i k p=>
  cases v<;>try (unfold Ja;trivial)
  exact a6F H R ho (uq hu) (uq hv)
 case s p=>
  cases v<;>try (unfold Ja;trivial)
  exact a6G H R ho (Nh hu) (Nh hv)
 case nl=>
  cases v<;>try (unfold Ja;trivial)
  exact Zd H R ho (ad:=none) (show a.eval x= .slice none 0 0 from hu) hv
 case ne=>
  cases v<;>try (unfold Ja;trivial)
  obtain⟨ad,c,hx,hb⟩:=hu;subst hb;exact Zd H R ho (ad:=ad) hx hv
 case sl t' xs=>
  cases v<;>try (unfold Ja;trivial)
  unfold Ja;simp only[];cases ht:t'.isEnt
  ·simp only[cond_false];obtain⟨ad,c,hx,hle,hx'⟩:=(Cf ht).1 (show lC w.heap ok (.sl t') xs [a.eval x]from hu);cases xs with
   |nil=>exact⟨λ_=>trivial,λh=>by simp[o8,x8]at h⟩|cons z zs=>obtain⟨blk,off,es,rfl,_⟩:=hx' 0 z rfl;exact⟨λ_=>trivial,λ_=>Zd H R ho (ad:=some _) (by simpa using hx) hv⟩
  ·trivial
 case agg cs=>
  cases v<;>try (unfold Ja;trivial)
  case agg ds=>
  obtain⟨xs,hx,hl⟩:=hu;obtain⟨ys,hy,hl'⟩:=hv;unfold Ja;simp only[];cases hq:dV X.E.eqs t with
  |none=>trivial|some sh=>
  simp only[];refine ed λhm=>?_;simp only[x9]at hm;have hE:=(H.eqs t sh hq).1;cases he:zJ cs ds with
  |none=>cases op<;>trivial|some e=>
   cases op<;>try trivial
   case eql=>refine aN H R (v:=.b e) (x:=.bool e) rfl ?_;have h:=hE w _ cs ds xs ys e .eql x y hm.1 hm.2 hl hl' he (.inl rfl);simp only[execOp,ho,hx,hy];rw[F8,h];rfl
   case neq=>refine aN H R (v:=.b (E9 e)) (x:=.bool (!e)) rfl ?_;have h:=hE w _ cs ds xs ys e .neq x y hm.1 hm.2 hl hl' he (.inr rfl);simp only[execOp,ho,hx,hy];rw[F8,h];rfl
theorem b2B(H:FxOk X)(R:Rel X cl ch S m ok a w){op:UnOp}{t:TypeId}{x:Operand}{q:Nat}(ho:o.op= .unOp op t x):
  (bZ X.E q o).post S (λ_ S' =>jL X cl ch o a w m ok S'):=by
 unfold bZ;simp only[ho];refine aB R λu hu=>?_;cases u<;>cases op<;>try (unfold unC;trivial)
 case b.not p=>exact aN H R (v:=.b (E9 p)) (x:=.bool (!p)) rfl (by simp[execOp,ho,QA hu,Op.unary])
 case i.neg k p=>exact aN H R (v:=.i k (H9 k 0 p)) (x:=.int k (k.wrap (0 -p))) rfl (by simp[execOp,ho,uq hu,Op.unary,Op.intArith])
 case i.xor k p=>exact aN H R (v:=.i k (a8u k (bif k.signed then -1 else k.max) p)) rfl (by simp only[execOp,ho,uq hu,Op.unary,Op.intBits,a8u];cases k.signed<;>simp)
theorem a9s{α:Type}{Q:α->Sm->Prop}(R:Rel X cl ch S m ok a w){u:Ty}{y:V}{vy:Value}{K:List u.den->Cmd α}(hy:nO ⟨w.heap,ok,m⟩ y vy)
  (hK:∀xs,lC w.heap (λ_ _=>True) (.sl u) xs [vy]->(K xs).post S Q):(a6O u y K).post S Q:=by
 unfold a6O;split<;>try trivial
 ·have hv:vy= .slice none 0 0:=hy;subst hv;cases ht:u.isEnt
  ·exact hK [] (.inl ⟨ht,none,0,rfl,E5 _,λi x hi=>by simp at hi⟩)
  ·trivial
 ·obtain⟨ad,c,rfl,_⟩:=(show ∃a c,vy=Value.slice a 0 c/\a.isNone=_ from hy);cases ht:u.isEnt
  ·exact hK [] (.inl ⟨ht,ad,c,rfl,pI _,λi x hi=>by simp at hi⟩)
  ·trivial
 ·refine gU λe=>?_;subst e;exact hK _ (dP (λ_ _ _=>trivial) (λ_ _ _=>rfl) (show lC w.heap ok (.sl _) _ [vy]from hy))
 ·rename_i bx vw;obtain⟨l,hm,hv⟩:=hy;show Cmd.post (match S (aO+bx)with| .barr t' xs=>_| .bfrz t' xs=>_|_=>_) S Q;have hb:=R.box bx;split<;>try trivial
  ·rename_i t' xs hS;rw[hS]at hb;obtain⟨l',hm',ha⟩:=hb;simp only at hm hm';rw[hm]at hm';cases hm';refine gU λe=>?_;subst e;exact hK _ (qm (C:=⟨w.heap,ok,m⟩) ha hv (λ_ _ _=>trivial) (λ_ _=>trivial))
  ·rename_i t' xs hS;rw[hS]at hb;obtain⟨l',hm',ha,hok⟩:=hb;simp only at hm hm';rw[hm]at hm';cases hm';refine gU λe=>?_;subst e;exact hK _ (qm (C:=⟨w.heap,ok,m⟩) ha hv (λ_ _ _=>trivial) (λ_ _=>trivial))
theorem a3m(H:FxOk X)(R:Rel X cl ch S m ok a w){src t:TypeId}{x:Operand}{q:Nat}(ho:o.op= .convert src t x):
  (bZ X.E q o).post S (λ_ S' =>jL X cl ch o a w m ok S'):=by
 unfold bZ;simp only[ho];refine aB R λu hu=>rM H λj hj=>rM H λi hi=>?_;obtain⟨e,he⟩:=a7f hj.td;have hd:=hi.td;split<;>try trivial
 ·rename_i k' n k htd;rw[htd]at hd;exact aN H R (v:=.i k (wrap k n)) (x:=.int k (k.wrap n)) rfl (by simp[execOp,ho,uq hu,convert,run_underlying he,run_underlying (show X.P.underlying t=some (.int k)from hd),Conv.intToInt])
 ·rename_i l htd;rw[htd]at hd;refine aN H R (v:=.s l) (x:=.string ⟨l.toArray⟩) rfl ?_;simp only[execOp,ho,Nh hu,convert,F8,run_underlying he,run_underlying (show X.P.underlying t=some .string from hd),I4];cases e<;>simp
 ·rename_i hns htd;rw[htd]at hd;split<;>try trivial
  rename_i el hjd;have hjs:=hj.td;rw[hjd]at hjs;refine rM H λk hk=>?_;have hkd:=hk.td;split<;>try trivial
  rename_i hke;rw[hke]at hkd;refine a9s R hu λxs hr=>?_;obtain⟨ad,cap,hv,hcap,hcells⟩:=(Cf rfl).1 hr;have hv:=(Y5 hv).1;refine aN H R (v:=.s (a7M xs)) (x:=.string ⟨(a7M xs).toArray⟩) rfl ?_;have hh:(convert src t (a.eval x)).run X.P w= .ok (.string ⟨(a7M xs).toArray⟩) w:=by
   rw[hv];cases xs with
   |nil=>
    have:=run_convert_bytes_nil (P:=X.P) w src el hjs hkd 0 cap t hd;cases ad with
    |none=>exact this|some ad=>obtain⟨b,o,s⟩:=ad;rw[run_convert_bytes_string w src t el _ _ cap hjs hkd hd];simp[Conv.bytesToString,a7M];rfl
   |cons y ys=>
    obtain⟨blk,off,es,rfl,_,_,_⟩:=hcells 0 y rfl;have:=run_convert_bytes_arg (P:=X.P) w src el hjs hkd blk off (y::ys).length cap (y::ys) rfl (λi hi=>?_) t hd
    ·exact this
    ·obtain⟨blk2,off2,es2,e2,_,hc,hr2⟩:=hcells i _ (gY hi);simp only[H7,pW]at e2;obtain⟨rfl,rfl,_⟩:=e2;obtain⟨c,T,f,hb,hn,rfl⟩:=wz hc;have hr3:((c.toList.drop (off+i*1)).take 1)=[.int .u8 (y::ys)[i]]:=hr2;have h5:=congrArg (λl=>l[0]?) hr3;simp only[jE (show 0<1 by omega),U6,fA,kP,jV,ay]at h5;simp only[World.cell?,hb,h5,Option.isSome_none];simp[List.getD,gY hi]
  simp only[execOp,ho];rw[F8,hh];rfl
theorem a3n(H:FxOk X)(R:Rel X cl ch S m ok a w){x:Operand}{n:Nat}{q:Nat}(ho:o.op= .extract x n):
  (bZ X.E q o).post S (λ_ S' =>jL X cl ch o a w m ok S'):=by
 unfold bZ;simp only[ho];refine aB R λu hu=>?_;cases u<;>try trivial
 case tup vs=>
 obtain⟨arr,hx,hl⟩:=hu;have key:∀(vs:List V) (us:List Value) (n:Nat) (v:V),Zq ⟨w.heap,ok,m⟩ vs us->vs[n]? =some v->∃u,us[n]? =some u/\nO ⟨w.heap,ok,m⟩ v u:=by
  intro vs;induction vs with
  |nil=>intro us n v _ h;simp at h|cons c cs ih=>
   rintro us n v ⟨u,r,rfl,h1,h2⟩ h;cases n with
   |zero=>simp at h;subst h;refine⟨u,rfl,?_⟩;cases c<;>first|exact h1|exact h1.elim
   |succ n=>simpa using ih r n v h2 (by simpa using h)
 simp only[];split
 ·rename_i v hv;obtain⟨u,hu,hr⟩:=key vs arr.toList n v hl hv;refine aN H R hr ?_;have:arr[n]? =some u:=by simpa using hu
  simp[execOp,ho,hx,Instr.extract,this]
 ·trivial
theorem a9h(H:FxOk X)(R:Rel X cl ch S m ok a w){t:TypeId}{x ix:Operand}{q:Nat}(ho:o.op= .index t x ix):
  (bZ X.E q o).post S (λ_ S' =>jL X cl ch o a w m ok S'):=by
 unfold bZ;simp only[ho];refine aB R λu hu=>aB R λv hv=>rM H λi hi=>?_;have hd:=hi.td;split<;>try trivial
 rename_i l k n htd;rw[htd]at hd;refine gJ λc hc=>?_;unfold sat at hc;split at hc
 ·rename_i h0;cases hl:l[n.toNat]? with
  |none=>simp[hl]at hc|some b=>
   simp[hl]at hc;subst hc;refine aN H R (v:=.i .u8 b.toNat) (x:=.int .u8 b.toNat) rfl ?_;have e:(⟨l.toArray⟩:ByteArray)[n.toNat]? =some b:=by
    obtain⟨h1,h2⟩:=Z4.1 hl;have hs:n.toNat<(⟨l.toArray⟩:ByteArray).size:=by simpa[ByteArray.size]using h1
    show decidableGetElem? _ _=_;unfold decidableGetElem?;rw[dif_pos hs,←h2];rfl
   simp[execOp,ho,Nh hu,uq hv,Instr.index,asIntOf,run_underlying (show X.P.underlying t=some .string from hd),h0,e]
 ·cases hc
theorem a1o(H:FxOk X)(R:Rel X cl ch S m ok a w){x:Operand}{q:Nat}(ho:o.op= .nilCheck x):
  (bZ X.E q o).post S (λ_ S' =>jL X cl ch o a w m ok S'):=by
 unfold bZ;simp only[ho];refine aB R λu hu=>?_;cases u<;>try trivial
 case ptr bx f=>obtain⟨b,h1,h2⟩:=hu;exact aN H R (v:=.ptr bx f) ⟨b,h1,h2⟩ (by simp[execOp,ho,h2])
 case ep bx ix f=>obtain⟨_,_,_,_,_,h1,h2,h3⟩:=hu;exact aN H R (v:=.ep bx ix f) ⟨_,_,_,_,_,h1,h2,h3⟩ (by simp[execOp,ho,h3])
 case dp u y f=>obtain⟨_,_,_,h1,h2⟩:=hu;exact aN H R (v:=.dp u y f) ⟨_,_,_,h1,h2⟩ (by simp[execOp,ho,h1])
 case glob g=>exact aN H R (v:=.glob g) hu (by have hu:a.eval x=_:=hu;simp[execOp,ho,hu])
end
end Go.GP
namespace Go.GP
theorem yA{w:World}{blk off n:Nat}{es:List Value}(e:dR w.heap blk off n=some es){j:Nat}{v:Value}(h:es[j]? =some v):w.cell? ⟨blk,off+j,none⟩=some v:=by
 obtain⟨c,T,f,hb,hn,rfl⟩:=wz e;rw[cell_of_row w blk (off+j) c T f hb];have hj:j<n:=by have:=(Z4.1 h).1;simp at this;omega
 rw[ak,if_pos hj,U6]at h;simpa using h
theorem Dq{P:Program}{t:TypeId}{d:TD}(h:b1I P t d)(w:World):(isAgg t).run P w= .ok (bi d) w:=by
 unfold isAgg;cases d<;>simp only[b1I]at h
 case struct fs=>obtain⟨fields,hu,_⟩:=h;rw[F8,run_underlying hu];rfl
 case other=>obtain⟨e,hu,hn⟩:=h;rw[F8,run_underlying hu];cases e<;>first|rfl|exact hn.elim
 all_goals (rw[F8,run_underlying h];rfl)
theorem uP{P:Program}{t:TypeId}{i:TI}(h:TiOk P t i)(w:World):(sizeOf t).run P w= .ok i.size w:=by obtain⟨inf,h1,h2,_⟩:=h.info;simp[sizeOf,typeInfo,h1,h2]
def Po(ag:Bool)(es:List Value):Value:=match ag with|true=> .agg es.toArray|false=>es.headD Go.undef
theorem wZ{P:Program}{t:TypeId}{i:TI}(hi:TiOk P t i)(w:World){blk off:Nat}{es:List Value}(e:dR w.heap blk off i.size=some es):
  (loadVar t ⟨blk,off,none⟩).run P w= .ok (Po (bi i.td) es) w:=by
 have hl:=pM e;unfold loadVar;rw[F8,Dq hi.td];simp only[I4];cases ha:bi i.td
 ·have h1:=hi.one ha;rw[h1]at hl;obtain⟨v,rfl⟩:∃v,es=[v]:=by
   cases es with
   |nil=>simp at hl
   |cons v r=>cases r with
    |nil=>exact⟨v,rfl⟩|cons _ _=>simp at hl
  have hc:=yA e (j:=0) (v:=v) rfl;simp only[fA]at hc;simp[hc,Po]
 ·have hc:=run_loadCells_list (P:=P) w ⟨blk,off,none⟩ es (λj v h=>by rw[jD];exact yA e h);rw[hl]at hc;simp[uP hi,hc,Po]
theorem Bj{C:Cx}{ag:Bool}{cs:List V}{es:List Value}(h:gX C cs es)(h1:ag=false->es.length=1):nO C (mkV ag cs) (Po ag es):=by
 refine OM (us:=es) ?_ h;cases ag
 ·have:=h1 rfl;obtain⟨v,rfl⟩:∃v,es=[v]:=by
   cases es with
   |nil=>simp at this
   |cons v r=>cases r with
    |nil=>exact⟨v,rfl⟩|cons _ _=>simp at this
  rfl
 ·exact⟨es.toArray,rfl,A7⟩
theorem Ul:∀(n:Nat) (cs r:List V),Uk n cs=some r->n<=cs.length/\r=cs.drop n
 |0,cs,r,h=>by simp[Uk]at h;simp[h]|n+1,[],r,h=>by simp[Uk]at h|n+1,c::cs,r,h=>by obtain⟨h1,h2⟩:=Ul n cs r (by simpa[Uk]using h);exact⟨by simp;omega,by simpa using h2⟩
theorem VZ{α:Type}{Q:α->Sm->Prop}{S:Sm} :∀(n:Nat) (cs:List V) {K:List V->Cmd α} (hK:n<=cs.length->(K (cs.take n)).post S Q),(a2a n cs K .fail).post S Q
 |0,cs,K,hK=>by simpa[a2a]using hK (pI _)|n+1,[],K,hK=>trivial
 |n+1,c::cs,K,hK=>by unfold a2a;exact VZ n cs λh=>by simpa using hK az
theorem Dt{α:Type}{Q:α->Sm->Prop}{S:Sm}{off n:Nat}{cs:List V}{K:List V->Cmd α}(hK:off+n<=cs.length->(K ((cs.drop off).take n)).post S Q):(WT off n cs K .fail).post S Q:=by
 unfold WT;split
 ·rename_i r hr;obtain⟨h1,rfl⟩:=Ul _ _ _ hr;refine VZ n _ λh=>hK ?_;simp at h;omega
 ·trivial
def bM{α:Type}(off:Nat)(vs cs:List α):List α:=cs.take off++vs++cs.drop (off+vs.length)
theorem Dp{α:Type}{Q:α->Sm->Prop}{S:Sm} :∀(off:Nat) (vs cs:List V) {K:List V->Cmd α} (hK:off+vs.length<=cs.length->(K (bM off vs cs)).post S Q),(Qw off vs cs K .fail).post S Q
 |0,[],cs,K,hK=>by have:=hK A7;cases cs<;>simpa[Qw,bM]using this|0,v::vs,[],K,hK=>by simp[Qw];trivial
 |0,v::vs,c::cs,K,hK=>by unfold Qw;exact Dp 0 vs cs λh=>by simpa[bM]using hK (by simp at h ⊢;omega)|n+1,vs,[],K,hK=>by cases vs<;>simp[Qw]<;>trivial|n+1,vs,c::cs,K,hK=>by
  have e:Qw (n+1) vs (c::cs) K Cmd.fail=Qw n vs cs (λr=>K (c::r)) Cmd.fail:=by cases vs<;>rfl
  rw[e];refine Dp n vs cs λh=>?_;have:=hK az;have e2:n+1+vs.length=(n+vs.length)+1:=l7;simpa[bM,e2]using this
theorem EU{C:Cx}{off:Nat}{vs cs:List V}{us xs:List Value}(hv:gX C vs us)(hc:gX C cs xs):gX C (bM off vs cs) (bM off us xs):=by unfold bM;rw[←nK hv];exact wU (wU (zy off hc) hv) (xB _ hc)
theorem Dh{P:Program}{t:TypeId}{i:TI}(hi:TiOk P t i)(w:World){blk off:Nat}{c:Array Value}{T:TypeId}(hb:w.heap[blk]? =some (.cells c T (0,0))){v:Value}
  (hs:v.cells.size=i.size) (ho:off+i.size<=c.size) (h1:∀u∈v.cells.toList,u.oneCell' =true):
  (storeVar t ⟨blk,off,none⟩ v).run P w= .ok () (w.setRow blk (bM off v.cells.toList c.toList).toArray):=by
 have h:=run_storeCells_at P blk off T v.cells.toList 0 c w hb az h1;simp only[fA]at h;unfold storeVar;simp[uP hi,hs,h,bM]
section
variable {X:Fx} {cl ch:Nat} {S:Sm} {m:Mp} {ok:Nat->Ty->Prop} {a:Act} {w:World} {o:Oper}
theorem Rel.own_cells(R:Rel X cl ch S m ok a w){n:Nat}{cs:List V}(h:S (aO+n)= .bcells cs):∃blk arr T,m n=some (.st blk)/\w.heap[blk]? =some (.cells arr T (0,0))/\gX ⟨w.heap,ok,m⟩ cs arr.toList:=by have:=R.box n;rw[h]at this;exact this
theorem Rel.own_arr(R:Rel X cl ch S m ok a w){n:Nat}{t:Ty}{xs:List t.den}(h:S (aO+n)= .barr t xs):∃l,m n=some l/\arrOk ⟨w.heap,ok,m⟩ t xs l:=by have:=R.box n;rw[h]at this;exact this
theorem Rel.own_frz(R:Rel X cl ch S m ok a w){n:Nat}{t:Ty}{xs:List t.den}(h:S (aO+n)= .bfrz t xs):∃l,m n=some l/\arrOk ⟨w.heap,ok,m⟩ t xs l/\(∀blk,blk∈l.blks->ok blk t):=by have:=R.box n;rw[h]at this;exact this
theorem Rel.own_barrs(R:Rel X cl ch S m ok a w){n:Nat}{md:M}{xs:List md.den}{hole:Option (Nat×Nat×Option Nat)}(h:S (aO+n)= .barrs md xs hole):md.el=true/\∃l Os,m n=some l/\a4E ⟨w.heap,ok,m⟩ md xs hole Os l/\m.kid n=Os.flatten:=by have:=R.box n;rw[h]at this;exact this
theorem Rel.own_fc(R:Rel X cl ch S m ok a w){n:Nat}{t:Ty}{x:t.den}(h:S (aO+n)= .bfc t x):∃blk es,m n=some (.st blk)/\ok blk t/\dR w.heap blk 0 t.size=some es/\lC w.heap ok t x es:=by have:=R.box n;rw[h]at this;exact this
theorem zM:∀(m:M) (x:m.den) (r:List V),Iy m x r=Iy m x []++r
 | .dat t,x,r=>lG t x r| .pair a b,x,r=>by simp only[Iy];rw[zM a x.1 (Iy b x.2 r),zM b x.2 r,zM a x.1 (Iy b x.2 [])];simp| .unit,_,_=>rfl| .own _,_,_=>rfl| .owns _,_,_=>rfl| .box _,_,_=>rfl| .ownb _,_,_=>rfl| .rp _,_,_=>rfl| .fn _ _,_,_=>rfl| .ifc _ _,_,_=>rfl| .cell _,_,_=>rfl
theorem GZ:∀(m:M) (x:m.den),(Iy m x []).length=m.size
 | .dat t,x=>pz t x| .pair a b,x=>by simp only[Iy,M.size];rw[zM a,F5,GZ a x.1,GZ b x.2]| .unit,_=>rfl| .own _,_=>rfl| .owns _,_=>rfl| .box _,_=>rfl| .ownb _,_=>rfl| .rp _,_=>rfl| .fn _ _,_=>rfl| .ifc _ _,_=>rfl| .cell _,_=>rfl
theorem wV{C:Cx}{cs:List Value}(h:cs.length=1)(h1:∀v∈cs,v.oneCell' =true):gX C [.undef] cs:=by
 match cs,h with
 |[v],_=>exact⟨v,[],rfl,trivial,h1 v A7,rfl⟩
theorem Nc{C:Cx} :∀{m:M} {ho:Option Nat} {x:m.den} {cs:List Value} {O:List Nat},oU C.h C.ok m ho x cs O->gX C (Iy m x []) cs
 | .dat t,_,_,_,_,h=>qP h.1| .pair a b,_,x,_,_,h=>by obtain⟨c,d,O1,O2,rfl,rfl,h1,h2⟩:=h;simp only[Iy];rw[zM a];exact wU (Nc h1) (Nc h2)
 | .unit,_,_,_,_,h=>by obtain⟨rfl,_⟩:=h;rfl
 | .own _,_,_,_,_,h=>wV (fC h) (wW h)| .owns _,_,_,_,_,h=>wV (fC h) (wW h)| .box _,_,_,_,_,h=>wV (fC h) (wW h)| .ownb _,_,_,_,_,h=>wV (fC h) (wW h)| .rp _,_,_,_,_,h=>wV (fC h) (wW h)| .fn _ _,_,_,_,_,h=>wV (fC h) (wW h)| .ifc _ _,_,_,_,_,h=>wV (fC h) (wW h)| .cell _,_,_,_,_,h=>wV (fC h) (wW h)
theorem fJ{α:Type}{Q:α->Sm->Prop}{S:Sm}{k:Nat}{c:V->Cmd α}(h:(c (S k)).post S Q):(Cmd.get k c).post S Q:=h
theorem lU{α:Type}{Q:α->Sm->Prop}{S:Sm}{k:Nat}{v:V}{c:Cmd α}(h:c.post (upd S k v) Q):(Cmd.set k v c).post S Q:=h
theorem Hm{α:Type}{Q:α->Sm->Prop}(H:FxOk X)(R:Rel X cl ch S m ok a w){t:Nat}{p:V}{x:Value}(hp:nO ⟨w.heap,ok,m⟩ p x){K:V->Cmd α}
  (hK:∀v u ad,nO ⟨w.heap,ok,m⟩ v u->x= .pointer (some ad)->(loadVar t ad).run X.P w= .ok u w->(K v).post S Q):(LJ X.E t p K).post S Q:=by
 unfold LJ;refine rM H λi hi=>?_;cases p<;>try trivial
 case ptr bx off=>
  obtain⟨blk,hm,rfl⟩:=hp;refine fJ ?_;split<;>try trivial
  ·rename_i cs hS;obtain⟨blk',arr,T,hm',hh,hl⟩:=R.own_cells hS;simp only at hm;rw[hm]at hm';cases hm';refine Dt λhle=>?_;have hlen:=nK hl;have e:=lV hh off i.size (by simp at hlen;omega);refine hK _ _ _ (Bj (zy _ (xB _ hl)) (λha=>by have:=pM e;rw[hi.one ha]at this;rw[hi.one ha];exact this)) rfl ?_;exact wZ hi w e
  ·rename_i u y hS;obtain⟨blk',es,hm',hok,he,hr⟩:=R.own_fc hS;simp only at hm;rw[hm]at hm';cases hm';refine Dt λhle=>?_;rw[pz]at hle;have e:=BK he off i.size hle;rw[iy]at e;refine hK _ _ _ (Bj (zy _ (xB _ (qP (C:=⟨w.heap,ok,m⟩) hr))) (λha=>by have:=pM e;rw[hi.one ha]at this;rw[hi.one ha];exact this)) rfl ?_;exact wZ hi w e
 case ep bx ix off=>
  obtain⟨blk,o',len,cap,sz,hm,hlt,rfl⟩:=hp;refine fJ ?_;have key:∀{u:Ty} {xs:List u.den},arrOk ⟨w.heap,ok,m⟩ u xs (.arr blk o' len cap sz)->(Cmd.opt (Y3 xs ix) λx=>WT off i.size (flat u x []) (λr=>K (mkV (bi i.td) r)) Cmd.fail).post S Q:=by intro u xs ha;obtain⟨_,rfl,rfl,h3,c,T,hh,hs,hx⟩:=ha;refine gJ λy hy=>?_;obtain⟨es,he,hr⟩:=hx ix y hy;refine Dt λhle=>?_;rw[pz]at hle;have e:=BK he off i.size hle;refine hK _ _ _ (Bj (zy _ (xB _ (qP (C:=⟨w.heap,ok,m⟩) hr))) (λha=>by have:=pM e;rw[hi.one ha]at this;rw[hi.one ha];exact this)) rfl ?_;exact wZ hi w e
  split<;>try trivial
  ·rename_i u xs hS;obtain⟨l,hm',ha⟩:=R.own_arr hS;simp only at hm;rw[hm]at hm';cases hm';exact key ha
  ·rename_i u xs hS;obtain⟨l,hm',ha,_⟩:=R.own_frz hS;simp only at hm;rw[hm]at hm';cases hm';exact key ha
  ·rename_i md xs hole hS;obtain⟨_,l,Os,hm',⟨ha,hho⟩,_⟩:=R.own_barrs hS;simp only at hm;rw[hm]at hm';cases hm';obtain⟨rfl,rfl,h3,h7,c,T,hh,hs,hx⟩:=ha;refine gJ λy hy=>?_;obtain⟨es,O,hO,he,hr⟩:=hx ix y hy;refine Dt λhle=>?_;rw[GZ]at hle;have e:=BK he off i.size hle;refine hK _ _ _ (Bj (zy _ (xB _ (Nc (C:=⟨w.heap,ok,m⟩) hr))) (λha=>by have:=pM e;rw[hi.one ha]at this;rw[hi.one ha];exact this)) rfl ?_;exact wZ hi w e
 case dp u y off=>obtain⟨blk,o',es,rfl,hb,he,hr⟩:=hp;refine Dt λhle=>?_;rw[pz]at hle;have e:=BK he off i.size hle;refine hK _ _ _ (Bj (zy _ (xB _ (qP (C:=⟨w.heap,ok,m⟩) hr))) (λha=>by have:=pM e;rw[hi.one ha]at this;rw[hi.one ha];exact this)) rfl ?_;exact wZ hi w e
theorem xU(h:Array Obj)(o:Obj){b:Nat}(hb:b<h.size):(h.push o)[b]? =h[b]?:=by rw[Array.getElem?_push,if_neg l7]
theorem Rel.new(R:Rel X cl ch S m ok a w){n:Nat}{l:Loc}{ks:List Nat}{v:V}{obj:Obj}(hn:S (aO+n)= .undef)(hcl:cl<=n)(hch:n<ch)(hv:v≠.undef)
  (hb:Y6 (nR m n l ks) n v=[w.heap.size]) (hB:Ef ⟨(w.alloc obj).heap,ok,nR m n l ks⟩ n v):
  Rel X cl ch (upd S (aO+n) v) (nR m n l ks) ok a (w.alloc obj):=by
 refine R.lay hn hcl hch hv rfl rfl rfl A7 (λb hb' _=>xU _ _ hb') (by rw[hb];simp) (λb h=>?_) hB;rw[hb]at h;simp only[D8]at h;subst h;refine⟨λt h' =>qh _ (R.okLt _ t h'),A7,.inl R.frame.size,λk h' =>qh _ (R.sep k _ h').2.1⟩
theorem Rel.newK(R:Rel X cl ch S m ok a w){T:List Nat}(hT:Tk X S m ok w T){n:Nat}{l:Loc}{ks:List Nat}{v:V}{obj:Obj}(hn:S (aO+n)= .undef)(hcl:cl<=n)(hch:n<ch)(hv:v≠.undef)
  (hb:Y6 (nR m n l ks) n v=w.heap.size::ks) (hnd:ks.Nodup) (hks:∀b∈ks,b∈T) (hB:Ef ⟨(w.alloc obj).heap,ok,nR m n l ks⟩ n v):
  Rel X cl ch (upd S (aO+n) v) (nR m n l ks) ok a (w.alloc obj):=by
 refine R.lay hn hcl hch hv rfl rfl rfl A7 (λb hb' _=>xU _ _ hb') (by rw[hb];exact eY.2 ⟨λh=>qh _ (hT.free _ (hks _ h)).2.1,hnd⟩) (λb h=>?_) hB;rw[hb]at h;rcases C9.1 h with rfl|h
 ·exact⟨λt h' =>qh _ (R.okLt _ t h'),A7,.inl R.frame.size,λk h' =>qh _ (R.sep k _ h').2.1⟩
 ·obtain⟨h1,h2,h3,h4⟩:=hT.free b (hks b h);exact⟨h1,by simp;omega,h3,h4⟩
theorem Rel.le_new(R:Rel X cl ch S m ok a w){n:Nat}{l:Loc}{ks:List Nat}{obj:Obj}(hn:S (aO+n)= .undef)(hcl:cl<=n):Cx.le ⟨w.heap,ok,m⟩ ⟨(w.alloc obj).heap,ok,nR m n l ks⟩:=
 ⟨λ_ _ h=>h,λb t hb=>xU _ _ (R.okLt b t hb),λk x h=>by
  by_cases e:k=n
  ·subst e;have:=R.fresh k hcl hn;simp only at h;rw[this]at h;cases h
  ·show nR m n l ks k=some x;rw[kz _ _ _ e];exact h⟩
theorem rQ(H:FxOk X){q:Nat}(d:Option Tmp)(hd:∀t,d=some t->t<X.E.nt):CB*q<=U1 q d/\U1 q d+64<=CB*q+CB:=by
 have:=H.nt;cases d with
 |none=>simp only[U1];show 1000000*q<=1000000*q+999936/\1000000*q+999936+64<=1000000*q+1000000;omega|some t=>simp only[U1];have h2:LT.lt (α:=Nat) t X.E.nt:=hd t rfl;clear hd;generalize X.E.nt=n at*;revert this h2;generalize (t:Nat)=t';intro this h2;show 1000000*q<=1000000*q+64*t' /\1000000*q+64*t' +64<=1000000*q+1000000;omega
theorem Qo(H:FxOk X){q:Nat}(R:Rel X (CB*q) (CB*q+CB) S m ok a w){v:V}{l:Loc}{obj:Obj}{vv:V}{x:Value}(hv:v≠.undef)
  (hb:Y6 (nR m (U1 q o.dst) l []) (U1 q o.dst) v=[w.heap.size]) (hB:S (aO+U1 q o.dst)= .undef->CB*q<=U1 q o.dst->Ef ⟨(w.alloc obj).heap,ok,nR m (U1 q o.dst) l []⟩ (U1 q o.dst) v)
  (hx:nO ⟨(w.alloc obj).heap,ok,nR m (U1 q o.dst) l []⟩ vv x) (run:(execOp a.eval o).run X.P w= .ok (.value x) (w.alloc obj)):
  (zD (U1 q o.dst) v (fH X.E o.dst vv)).post S (λ_ S' =>jL X (CB*q) (CB*q+CB) o a w m ok S'):=by
 refine zq λhn=>?_;cases hd:o.dst with
 |none=>have hin:=rQ H (q:=q) none (λt h=>by cases h);rw[hd]at hn hB hb hx;have R' :=R.new hn hin.1 l7 hv hb (hB hn hin.1);have:=xJ (o:=o) H R' (m0:=m) (ok0:=ok) (λk l' h=>(R.le_new (obj:=obj) hn hin.1).m k l' h) (λ_ _ h=>h) hx run;rw[hd]at this;exact this
 |some t=>unfold fH;refine ed λhb' =>?_;have hin:=rQ H (q:=q) (some t) (λt' h=>by cases h;exact(Bg hb').1);rw[hd]at hn hB hb hx;have R' :=R.new hn hin.1 l7 hv hb (hB hn hin.1);have:=xJ (o:=o) H R' (m0:=m) (ok0:=ok) (λk l' h=>(R.le_new (obj:=obj) hn hin.1).m k l' h) (λ_ _ h=>h) hx run;rw[hd]at this;unfold fH at this;simp only[hb',cond_true]at this;exact this
theorem VG{C:Cx} :∀{cs:List V} {vs:List Value},gX ⟨#[],λ_ _=>False,nom⟩ cs vs->gX C cs vs:=by intro cs vs h;exact ET (C:=⟨#[],λ_ _=>False,nom⟩) ⟨λ_ _ h=>h.elim,λ_ _ h=>h.elim,λ_ _ h=>by cases h⟩ h
theorem a9c(H:FxOk X){q:Nat}(R:Rel X (CB*q) (CB*q+CB) S m ok a w){t:TypeId}(ho:o.op= .alloc t):(bZ X.E q o).post S (λ_ S' =>jL X (CB*q) (CB*q+CB) o a w m ok S'):=by
 unfold bZ;simp only[ho];refine rM H λi hi=>ed λhz=>?_;obtain⟨inf,h1,h2,h3,h4,h5⟩:=hi.info;obtain⟨z,hz1,hz2⟩:=h4 (iO hz);refine Qo (l:=.st w.heap.size) (obj:=.cells z.cells t) H R A7 (by simp[Y6]) (λhn hc=>?_) ⟨w.heap.size,A7,rfl⟩ ?_
 ·exact⟨w.heap.size,z.cells,t,A7,heap_alloc_new w _,VG hz2⟩
 ·simp[execOp,ho,Instr.alloc,zeroValue,typeInfo,h1,hz1,newVar,newRow]
theorem b4T(H:FxOk X){q:Nat}(R:Rel X (CB*q) (CB*q+CB) S m ok a w){t:TypeId}{x:Operand}(ho:o.op= .box t x):(bZ X.E q o).post S (λ_ S' =>jL X (CB*q) (CB*q+CB) o a w m ok S'):=by
 unfold bZ;simp only[ho];refine aB R λu hu=>wB hu λcs hcs=>?_;refine Qo (l:=.st w.heap.size) (obj:=.cells (a.eval x).cells t) H R A7 (by simp[Y6]) (λhn hc=>?_) ⟨w.heap.size,A7,rfl⟩ ?_
 ·exact⟨w.heap.size,(a.eval x).cells,t,A7,heap_alloc_new w _,ET (R.le_new hn hc) hcs⟩
 ·simp[execOp,ho,Instr.box,newVar,newRow]
end
end Go.GP
namespace Go.GP
theorem sQ{α:Type}{p:Nat}{us L:List α}(h:p+us.length<=L.length)(i:Nat):
  (bM p us L)[i]? =if i<p then L[i]? else if i<p+us.length then us[i -p]? else L[i]?:=by
 unfold bM;rw[F6];by_cases h1:i<p
 ·rw[if_pos h1,N9 az,ak,if_pos h1]
 ·rw[if_neg h1,H6 az];have e:(L.take p).length=p:=by simp;omega
  rw[e];by_cases h2:i<p+us.length
  ·rw[if_pos h2,N9 l7]
  ·rw[if_neg h2,H6 l7,U6];congr 1;omega
theorem yu{α:Type}{p:Nat}{us L:List α}(h:p+us.length<=L.length):(bM p us L).length=L.length:=by unfold bM;simp;omega
theorem a3Y{α:Type}{p b n:Nat}{us L:List α}(h:p+us.length<=L.length)(hd:b+n<=p\/p+us.length<=b):((bM p us L).drop b).take n=(L.drop b).take n:=by
 apply dF;intro i;rw[ak,ak];split
 ·rw[U6,U6,sQ h];rcases hd with hd|hd
  ·rw[if_pos l7]
  ·rw[if_neg l7,if_neg l7]
 ·rfl
theorem QM{α:Type}{b off n:Nat}{us L:List α}(h:b+n<=L.length)(ho:off+us.length<=n):((bM (b+off) us L).drop b).take n=bM off us ((L.drop b).take n):=by
 have hl:((L.drop b).take n).length=n:=by simp;omega
 apply dF;intro i;rw[ak,sQ (by rw[hl];exact ho)];by_cases hi:i<n
 ·rw[if_pos hi,U6,sQ l7,ak,if_pos hi,U6];by_cases h1:i<off
  ·rw[if_pos l7,if_pos h1]
  ·rw[if_neg l7,if_neg h1];by_cases h2:i<off+us.length
   ·rw[if_pos l7,if_pos h2];congr 1;omega
   ·rw[if_neg l7,if_neg h2]
 ·rw[if_neg hi,if_neg l7,if_neg l7,ak,if_neg hi]
theorem JP{w:World}{blk:Nat}{c:Array Value}{T:TypeId}(hb:w.heap[blk]? =some (.cells c T (0,0)))(L:List Value)(off n:Nat)(h:off+n<=L.length):
  dR (w.setRow blk L.toArray).heap blk off n=some ((L.drop off).take n):=by
 rw[lV (setRow_heap w blk c L.toArray T (0,0) hb) off n (by simpa using h)]
theorem a7K{a b:Nat}(h:a<b):Nat.blt a b=true:=by unfold Nat.blt;exact Nat.ble_eq_true_of_le h
theorem a7J{a b:Nat}(h:¬a<b):Nat.blt a b=false:=by
 cases e:Nat.blt a b
 ·rfl
 ·exact absurd (Me e) h
theorem CQ{α:Type} :∀{Os:List (List α)} {i:Nat} {O1 P O2:List α},Os[i]? =some (O1++P++O2)->Os.flatten.Perm ((Os.set i (O1++O2)).flatten++P)
 |[],i,_,_,_,h=>by simp at h|A::Os,0,O1,P,O2,h=>by simp at h;subst h;simp only[ui,List.flatten_cons,F6];refine List.Perm.append_left O1 ?_;have:=(qf (l₁:=P) (l₂:=O2++Os.flatten));simpa using this|A::Os,i+1,O1,P,O2,h=>by simp at h;simp only[List.set_cons_succ,List.flatten_cons,F6];exact List.Perm.append_left A (CQ (by simpa using h))
section
variable {X:Fx} {cl ch:Nat} {S:Sm} {m:Mp} {ok:Nat->Ty->Prop} {a:Act} {w:World} {o:Oper}
theorem b4Y{h h' :Array Obj}{ok:Nat->Ty->Prop}{m:Mp}(k:∀b t,ok b t->h'[b]? =h[b]?){cs:List V}{vs:List Value}(hr:gX ⟨h,ok,m⟩ cs vs):gX ⟨h',ok,m⟩ cs vs:=
 ET (C:=⟨h,ok,m⟩) (D:=⟨h',ok,m⟩) ⟨λ_ _ h=>h,k,λ_ _ h=>h⟩ hr
theorem MX{α:Type}{Q:α->Sm->Prop}{S:Sm}{h:Array Obj}{ok:Nat->Ty->Prop} :∀(md:M) (off:Nat) {x:md.den} {es:List Value} {O:List Nat} {K:V->Cmd α} (hr:oU h ok md none x es O)
  (hK:∀v l ks u O1 Op O2,O=O1++Op++O2->oU h ok md (some off) x es (O1++O2)->es[off]? =some u->l.view none u->
   (∀mp n,Ef ⟨h,ok,nR mp n l ks⟩ n v/\Y6 (nR mp n l ks) n v=Op/\nR mp n l ks n=some l)->v≠.undef->(K v).post S Q),
  (Vq md off x K .fail).post S Q
 | .own t,off,x,es,O,K,hr,hK=>by unfold Vq;refine ed λhb=>?_;have:=iO hb;subst this;obtain⟨l,v,rfl,hv,ha,rfl⟩:=yl.1 hr;refine hK _ l [] v [] l.blks [] A7 ⟨v,rfl,rO hv,rfl⟩ rfl hv (λmp n=>⟨⟨l,A7,NE ha⟩,?_,A7⟩) A7;cases l<;>first|(simp[Y6,Loc.blks];done)|cases ha
 | .owns md,off,x,es,O,K,hr,hK=>by unfold Vq;refine ed λhb=>?_;have:=iO hb;subst this;obtain⟨he,l,v,Os,rfl,hv,ha,rfl⟩:=zA.1 hr;refine hK _ l Os.flatten v [] (l.blks++Os.flatten) [] A7 ⟨v,rfl,rO hv,rfl⟩ rfl hv (λmp n=>⟨⟨he,l,Os,A7,⟨ha,trivial⟩,A7⟩,?_,A7⟩) A7;cases l<;>first|(simp[Y6,Loc.blks];done)|cases ha
 | .pair p q,off,x,es,O,K,hr,hK=>by
  unfold Vq;obtain⟨c,d,O1,O2,rfl,rfl,h1,h2⟩:=hr;have hc:=fC h1;by_cases hlt:off<p.size
  ·have hb:Nat.blt off p.size=true:=a7K hlt;simp only[hb,cond_true];refine MX p off h1 λv l ks u A Op B e1 e2 e3 e4 e5 e6=>?_;refine hK v l ks u A Op (B++O2) (by subst e1;simp) ⟨c,d,A++B,O2,rfl,A7,?_,?_⟩ (by rw[N9 (by rw[hc];exact hlt)];exact e3) e4 e5 e6
   ·simp only[hlt,if_true];exact e2
   ·simp only[hlt,if_true];exact h2
  ·have hb:Nat.blt off p.size=false:=a7J hlt;simp only[hb,cond_false];refine MX q (off -p.size) h2 λv l ks u A Op B e1 e2 e3 e4 e5 e6=>?_;refine hK v l ks u (O1++A) Op B (by subst e1;simp) ⟨c,d,O1,A++B,rfl,A7,?_,?_⟩ (by rw[H6 l7,hc];exact e3) e4 e5 e6
   ·simp only[hlt,if_false];exact h1
   ·simp only[hlt,if_false];exact e2
 | .dat _,_,_,_,_,_,_,_=>trivial| .unit,_,_,_,_,_,_,_=>trivial| .box _,_,_,_,_,_,_,_=>trivial| .ownb _,_,_,_,_,_,_,_=>trivial| .cell _,_,_,_,_,_,_,_=>trivial| .rp _,_,_,_,_,_,_,_=>trivial| .fn _ _,_,_,_,_,_,_,_=>trivial| .ifc _ _,_,_,_,_,_,_,_=>trivial
def Yq(h:Array Obj)(ok:Nat->Ty->Prop)(v:V)(u:Value)(Op:List Nat):Prop:=
 (v= .nl/\u= .slice none 0 0/\Op=[])\/(∃t ys l,v= .barr t ys/\l.view none u/\arrOk ⟨h,ok,nom⟩ t ys l/\Op=l.blks)\/
 (∃md ys l Os,v= .barrs md ys none/\md.el=true/\l.view none u/\BZ h md.size (λ_ x es O=>oU h ok md none x es O) ys Os l/\Op=l.blks++Os.flatten)
theorem Yq.one{h:Array Obj}{v:V}{u:Value}{Op:List Nat}(k:Yq h ok v u Op):u.oneCell' =true:=by
 rcases k with⟨_,rfl,_⟩|⟨_,_,l,_,hv,_⟩|⟨_,_,l,_,_,_,hv,_⟩
 ·rfl
 ·exact rO hv
 ·exact rO hv
theorem Qk{α:Type}{Q:α->Sm->Prop}{S:Sm}{h:Array Obj}{ok:Nat->Ty->Prop}{v:V}{u:Value}{Op:List Nat}(hp:Yq h ok v u Op):∀(md:M) (off:Nat) {ho:Option Nat} {x:md.den} {es:List Value} {O:List Nat} {K:md.den->Cmd α}
  (hr:oU h ok md ho x es O) (hh:ho=none\/ho=some off) (hel:md.el=true)
  (hK:∀y O1 Old O2,O=O1++Old++O2->oU h ok md none y (es.set off u) (O1++Op++O2)->off<es.length->(K y).post S Q),
  (a2W md off v x K .fail).post S Q
 | .own t,off,ho,x,es,O,K,hr,hh,hel,hK=>by
  unfold a2W;refine ed λhb=>?_;have:=iO hb;subst this;obtain⟨v0,rfl,_,_⟩:=hr;rcases hp with⟨rfl,rfl,rfl⟩|⟨t',ys,l,rfl,hv,ha,rfl⟩|⟨md',ys,l,Os,rfl,_,hv,ha,rfl⟩
  ·have ht:t.isEnt=false:=by simpa[M.el]using hel
   simp only[ht,cond_false];exact hK [] [] O [] A7 ⟨_,rfl,rfl,.nil,rfl,⟨rfl,ht⟩,rfl⟩ A7
  ·simp only;refine gU λe=>?_;subst e;exact hK _ [] O [] A7 ⟨u,rfl,rO hv,l,hv,ha,A7⟩ A7
  ·trivial
 | .owns md,off,ho,x,es,O,K,hr,hh,hel,hK=>by
  unfold a2W;refine ed λhb=>?_;have:=iO hb;subst this;obtain⟨v0,rfl,_,_⟩:=hr;rcases hp with⟨rfl,rfl,rfl⟩|⟨t',ys,l,rfl,hv,ha,rfl⟩|⟨md',ys,l,Os,rfl,he,hv,ha,rfl⟩
  ·exact hK [] [] O [] A7 ⟨_,rfl,rfl,by simpa[M.el]using hel,.nil,[],rfl,⟨rfl,rfl⟩,rfl⟩ A7
  ·trivial
  ·simp only;refine TV λe=>?_;subst e;exact hK _ [] O [] A7 ⟨u,rfl,rO hv,he,l,Os,hv,ha,A7⟩ A7
 | .pair p q,off,ho,x,es,O,K,hr,hh,hel,hK=>by
  unfold a2W;obtain⟨c,d,O1,O2,rfl,rfl,h1,h2⟩:=hr;have hc:=fC h1;have hel' :p.el=true/\q.el=true:=by simpa[M.el]using hel
  by_cases hlt:off<p.size
  ·have hb:Nat.blt off p.size=true:=a7K hlt;simp only[hb,cond_true];have h2' :oU h ok q none x.2 d O2:=by
    rcases hh with rfl|rfl
    ·exact h2
    ·simpa only[hlt,if_true]using h2
   refine Qk hp p off h1 (by rcases hh with rfl|rfl<;>first|exact .inl rfl|(right;simp only[hlt,if_true])) hel'.1 λy A Old B e1 e2 e3=>?_;refine hK _ A Old (B++O2) (by subst e1;simp) ⟨c.set off u,d,A++Op++B,O2,?_,A7,e2,h2'⟩ az;rw[List.set_append_left _ _ l7]
  ·have hb:Nat.blt off p.size=false:=a7J hlt;simp only[hb,cond_false];have h1' :oU h ok p none x.1 c O1:=by
    rcases hh with rfl|rfl
    ·exact h1
    ·simpa only[hlt,if_false]using h1
   refine Qk hp q (off -p.size) h2 (by rcases hh with rfl|rfl<;>first|exact .inl rfl|(right;simp only[hlt,if_false])) hel'.2 λy A Old B e1 e2 e3=>?_;refine hK _ (O1++A) Old B (by subst e1;simp) ⟨c,d.set (off -p.size) u,O1,A++Op++B,?_,A7,h1',e2⟩ az;rw[iQ _ _ l7,hc]
 | .dat _,_,_,_,_,_,_,_,_,_,_=>trivial| .unit,_,_,_,_,_,_,_,_,_,_=>trivial| .box _,_,_,_,_,_,_,_,_,_,_=>trivial| .ownb _,_,_,_,_,_,_,_,_,_,_=>trivial| .cell _,_,_,_,_,_,_,_,_,_,_=>trivial| .rp _,_,_,_,_,_,_,_,_,_,_=>trivial| .fn _ _,_,_,_,_,_,_,_,_,_,_=>trivial| .ifc _ _,_,_,_,_,_,_,_,_,_,_=>trivial
theorem JS{α:Type}{Q:α->Sm->Prop}{C:Cx}{ln:Ty->Bool} :∀(t:Ty) {cs:List V} {K:t.den->List V->Cmd α} {S:Sm} {vs:List Value} (hf:t.flat=true) (hL:gX C cs vs)
  (hK:∀x r us us',vs=us++us' ->(∀h ok,lC h ok t x us)->gX C r us' ->(K x r).post S Q),(oZ ln t cs K).post S Q
 | .bool,cs,K,S,vs,hf,hL,hK=>by
  unfold oZ;split
  ·obtain⟨v,r,rfl,h1,_,h3⟩:=hL;exact hK _ _ [v] r rfl (λ_ _=>by simp only[yj]at h1;simp[lC,h1]) h3
  ·trivial
 | .int k,cs,K,S,vs,hf,hL,hK=>by
  unfold oZ;split
  ·obtain⟨v,r,rfl,h1,_,h3⟩:=hL;refine gQ λe=>?_;have e:=of_decide_eq_true e;subst e;exact hK _ _ [v] r rfl (λ_ _=>by simp only[yj]at h1;simp[lC,h1]) h3
  ·trivial
 | .str,cs,K,S,vs,hf,hL,hK=>by
  unfold oZ;split
  ·obtain⟨v,r,rfl,h1,_,h3⟩:=hL;exact hK _ _ [v] r rfl (λ_ _=>by simp only[yj]at h1;simp[lC,h1]) h3
  ·trivial
 | .unit,cs,K,S,vs,hf,hL,hK=>by unfold oZ;exact hK _ _ [] vs rfl (λ_ _=>rfl) hL
 | .prod p q,cs,K,S,vs,hf,hL,hK=>by unfold oZ;simp[Ty.flat]at hf;refine JS p hf.1 hL λx r us us' e1 h1 l1=>?_;refine JS q hf.2 l1 λy r' vs2 vs2' e2 h2 l2=>?_;subst e1;subst e2;exact hK _ _ (us++vs2) vs2' A7 (λh ok=>⟨us,vs2,rfl,h1 h ok,h2 h ok⟩) l2| .sl t,cs,K,S,vs,hf,hL,hK=>by simp[Ty.flat]at hf
theorem a1W{α:Type}{off:Nat}{us c d:List α}(h:off+us.length<=c.length):bM off us (c++d)=bM off us c++d:=by
 apply dF;intro i;have hs:=yu h;rw[sQ az];by_cases hi:i<c.length
 ·rw[N9 hi,N9 (l₁:=bM off us c) (by rw[hs];exact hi),sQ h]
 ·rw[H6 l7,H6 (l₁:=bM off us c) (by rw[hs];omega),hs,if_neg l7,if_neg l7]
theorem ZF{α:Type}{off:Nat}{us c d:List α}(h:(off -c.length)+us.length<=d.length)(h' :c.length<=off):bM off us (c++d)=c++bM (off -c.length) us d:=by
 apply dF;intro i;rw[sQ az];by_cases hi:i<c.length
 ·rw[N9 hi,if_pos l7,N9 hi]
 ·rw[H6 l7,H6 (l₂:=bM (off -c.length) us d) l7,sQ h];by_cases h1:i<off
  ·simp only[h1,if_true,show i -c.length<off -c.length by omega]
  ·by_cases h2:i<off+us.length
   ·simp only[h1,if_false,h2,if_true,show ¬(i -c.length<off -c.length) by omega,show i -c.length<off -c.length+us.length by omega];congr 1;omega
   ·simp only[h1,if_false,h2,show ¬(i -c.length<off -c.length) by omega,show ¬(i -c.length<off -c.length+us.length) by omega]
theorem PS{α:Type}{Q:α->Sm->Prop}{h:Array Obj}{ok:Nat->Ty->Prop}{m:Mp} :∀(md:M) (off:Nat) {ho:Option Nat} {x:md.den} {es us:List Value} {vs:List V} {O:List Nat} {K:md.den->Cmd α} {S:Sm}
  (hr:oU h ok md ho x es O) (hv:gX ⟨h,ok,m⟩ vs us)
  (hK:∀y,off+us.length<=es.length->oU h ok md ho y (bM off us es) O->(K y).post S Q),(a5Y md off vs x K).post S Q
 | .dat t,off,ho,x,es,us,vs,O,K,S,hr,hv,hK=>by
  unfold a5Y;refine gQ λhf=>Dp _ _ _ λhle=>?_;rw[pz]at hle;obtain⟨hr,rfl⟩:=hr;have hl:=gB hr;have hlv:=nK hv;have hnew:=EU (off:=off) hv (qP (C:=⟨h,ok,m⟩) hr);refine JS t hf hnew λy q vs1 vs2 e1 h1 l1=>?_;cases q with
  |cons _ _=>trivial|nil=>
  simp only[gX]at l1;subst l1;simp only[F7]at e1;subst e1;exact hK y l7 ⟨h1 _ _,rfl⟩
 | .pair p q,off,ho,x,es,us,vs,O,K,S,hr,hv,hK=>by
  unfold a5Y;obtain⟨c,d,O1,O2,rfl,rfl,h1,h2⟩:=hr;have hc:=fC h1;by_cases hlt:off<p.size
  ·have hb:Nat.blt off p.size=true:=a7K hlt;simp only[hb,cond_true];refine PS p off h1 hv λy hle e2=>?_;exact hK _ az ⟨_,d,O1,O2,a1W hle,rfl,e2,h2⟩
  ·have hb:Nat.blt off p.size=false:=a7J hlt;simp only[hb,cond_false];refine PS q (off -p.size) h2 hv λy hle e2=>?_;refine hK _ az ⟨c,_,O1,O2,?_,rfl,h1,e2⟩;rw[ZF l7 l7,hc]
 | .own _,_,_,_,_,_,_,_,_,_,_,_,_=>trivial| .owns _,_,_,_,_,_,_,_,_,_,_,_,_=>trivial| .unit,_,_,_,_,_,_,_,_,_,_,_,_=>trivial| .box _,_,_,_,_,_,_,_,_,_,_,_,_=>trivial| .ownb _,_,_,_,_,_,_,_,_,_,_,_,_=>trivial| .cell _,_,_,_,_,_,_,_,_,_,_,_,_=>trivial| .rp _,_,_,_,_,_,_,_,_,_,_,_,_=>trivial| .fn _ _,_,_,_,_,_,_,_,_,_,_,_,_=>trivial| .ifc _ _,_,_,_,_,_,_,_,_,_,_,_,_=>trivial
theorem a6m(i:Nat):WF none i=none:=rfl
theorem UB{i o j:Nat}{k:Option Nat}(h:j≠i):WF (some (i,o,k)) j=none:=by simp[WF,h]
theorem XC{i o:Nat}{k:Option Nat} :WF (some (i,o,k)) i=some o:=by simp[WF]
theorem VF{C:Cx}{n:Nat}{md:M}{xs:List md.den}{hole:Option (Nat×Nat×Option Nat)}{blk off len cap sz:Nat}{Os:List (List Nat)}(he:md.el=true)(hm:C.m n=some (.arr blk off len cap sz))
  (ha:BZ C.h md.size (λi x es O=>oU C.h C.ok md (WF hole i) x es O) xs Os (.arr blk off len cap sz)) (hk:C.m.kid n=Os.flatten) (hh:UC C md.size (.arr blk off len cap sz) hole):Ef C n (.barrs md xs hole):=⟨he,_,Os,hm,⟨ha,hh⟩,hk⟩
theorem Jk{j o2 idx off:Nat}{k:Option Nat}(h:YK (some (j,o2,k)) idx off=true):j=idx/\o2=off:=by
 simp only[YK]at h;cases hb:Nat.beq o2 off<;>rw[hb]at h
 ·cases h
 ·exact⟨iO h,iO hb⟩
theorem a6y(H:FxOk X){q:Nat}{S1:Sm}{m1:Mp}{ok1:Nat->Ty->Prop}{w0:World}{Op:List Nat}(R:Rel X (CB*q) (CB*q+CB) S1 m1 ok1 a w)(hT:Tk X S1 m1 ok1 w Op)
  (hm:∀k l,m k=some l->m1 k=some l) (hok:∀b t,ok b t->ok1 b t) {v:V} {l:Loc} {ks:List Nat} {x:Value} (hv:v≠.undef)
  (ho:Y6 (nR m1 (U1 q o.dst) l ks) (U1 q o.dst) v=Op) (hB:Ef ⟨w.heap,ok1,nR m1 (U1 q o.dst) l ks⟩ (U1 q o.dst) v)
  (hx:l.view none x) {bx idx off:Nat} {md:M} {xs:List md.den} (hS:S1 (aO+bx)= .barrs md xs (some (idx,off,none))) {blk o' len cap sz:Nat} (hmb:m1 bx=some (.arr blk o' len cap sz))
  (hc:dR w.heap blk (o' +idx*md.size+off) 1=some [x]) (hsz:sz=md.size)
  (run:(execOp a.eval o).run X.P w0= .ok (.value x) w):
  (zD (U1 q o.dst) v (Cmd.set (aO+bx) (.barrs md xs (some (idx,off,some (U1 q o.dst)))) (fH X.E o.dst (.own (U1 q o.dst) none)))).post S1 (λ_ S' =>jL X (CB*q) (CB*q+CB) o a w0 m ok S'):=by
 refine zq λhn=>?_;have key:∀n,n=U1 q o.dst->CB*q<=n->n<CB*q+CB->∃R2:Rel X (CB*q) (CB*q+CB) (upd (upd S1 (aO+n) v) (aO+bx) (.barrs md xs (some (idx,off,some n)))) (nR m1 n l ks) ok1 a w,∀k l',m k=some l' ->nR m1 n l ks k=some l' :=by
  rintro n rfl h1 h2;obtain⟨R',_,hm'⟩:=R.adopt (T:=[]) hn h1 hv (by simpa using hT) (λb h=>by rw[ho]at h;exact h) (by rw[ho];exact hT.nodup) hB;rw[Nat.max_eq_left l7]at R';have hne:bx≠U1 q o.dst:=λe=>by have:=R.fresh _ h1 hn;rw[←e,hmb]at this;cases this
  have hS' :upd S1 (aO+U1 q o.dst) v (aO+bx)= .barrs md xs (some (idx,off,none)):=by rw[bz _ _ l7];exact hS
  have hb:=R'.box bx;rw[hS']at hb;obtain⟨hel,l0,Os,hm0,⟨ha,_⟩,hk⟩:=hb;have hmb' :=hm' _ _ hmb;simp only at hm0;rw[hmb']at hm0;cases hm0;refine⟨R'.mod (by rw[hS'];rfl) A7 rfl rfl rfl rfl (λ_ _=>rfl) ⟨hel,_,Os,hmb',⟨?_,?_⟩,hk⟩,λk l' h=>hm' k l' (hm k l' h)⟩
  ·exact Et (λ_ _=>rfl) (λi x es O _ hr=>hr) ha
  ·exact⟨blk,o',len,cap,x,l,by rw[hsz],hc,eQ _ _ _ _,hx⟩
 cases hd:o.dst with
 |none=>have hin:=rQ H (q:=q) none (λt h=>by cases h);obtain⟨R2,hm2⟩:=key (U1 q none) (by rw[hd]) hin.1 l7;have:=xJ (o:=o) H R2 (m0:=m) (ok0:=ok) hm2 hok (v:=.own (U1 q none) none) ⟨l,eQ _ _ _ _,hx⟩ run;rw[hd]at this;exact this
 |some t=>unfold fH;refine lU (ed λhb' =>?_);have hin:=rQ H (q:=q) (some t) (λt' h=>by cases h;exact(Bg hb').1);obtain⟨R2,hm2⟩:=key (U1 q (some t)) (by rw[hd]) hin.1 l7;have:=xJ (o:=o) H R2 (m0:=m) (ok0:=ok) hm2 hok (v:=.own (U1 q (some t)) none) ⟨l,eQ _ _ _ _,hx⟩ run;rw[hd]at this;unfold fH at this;simp only[hb',cond_true]at this;exact this
theorem b2z(H:FxOk X){q:Nat}(R:Rel X (CB*q) (CB*q+CB) S m ok a w){t:TypeId}{x:Operand}(ho:o.op= .load t x):(bZ X.E q o).post S (λ_ S' =>jL X (CB*q) (CB*q+CB) o a w m ok S'):=by
 unfold bZ;simp only[ho];refine aB R λp hp=>?_;have plain:(LJ X.E t p λv=>fH X.E o.dst v).post S (λ_ S' =>jL X (CB*q) (CB*q+CB) o a w m ok S'):=by refine Hm H R hp λv u ad hv hx hr=>aN H R hv ?_;simp[execOp,ho,hx,Instr.loadAt,Instr.sureAddr,hr]
 unfold b3C;split
 ·rename_i bx idx off;refine fJ ?_;split
  ·rename_i md xs hS;cases hown:md.ownAt off
   ·simpa only[cond_false]using plain
   simp only[cond_true];refine rM H λi hi=>gQ λhi1=>?_;simp only[x9,bH]at hi1;obtain⟨hsz,hagg⟩:=hi1;have hsz:=iO hsz;have hp' :=hp;obtain⟨blk,o',len,cap,sz,hm,hlt,hx⟩:=hp;obtain⟨hel,l,Os,hm',⟨ha,hho⟩,hk⟩:=R.own_barrs hS;simp only at hm;rw[hm]at hm';cases hm';cases DU (match o.dst with|some d=>d|none=>aO) X.E.tk<;>simp only[cond_true,cond_false]
   ·refine Du (T:=[]) (.sl md.ty) R Tk.nil (cs:=[.own bx none]) (vs:=[.slice (some ⟨blk,o',none⟩) len cap]) ⟨_,_,rfl,⟨_,hm,rfl⟩,rfl,rfl⟩ λS1 ok1 _ _ us us' R1 T1 k1 s1 e1 h1 l1=>?_;refine Hm H R1 (KY k1 hp') λv u ad hv hx hr=>xJ H R1 (λ_ _ h=>h) k1 hv ?_;simp[execOp,ho,hx,Instr.loadAt,Instr.sureAddr,hr]
   ·refine gJ λe0 he0=>?_;obtain⟨rfl,rfl,h3,h7,c,T,hh,hs,hxs⟩:=ha;obtain⟨es,O,hO,he,hr⟩:=hxs idx e0 he0;refine MX md off hr λv l2 ks u O1 Op O2 eO hr' hu hv hB hvu=>?_;refine lU ?_;have hOs:Os.flatten.Perm ((Os.set idx (O1++O2)).flatten++Op):=CQ (by rw[hO,eO]);have hown0:Y6 m bx (S (aO+bx))=blk::Os.flatten:=by simp[Y6,hS,hm,hk]
    have hown1:Y6 (Ep m bx (Os.set idx (O1++O2)).flatten) bx (.barrs md xs (some (idx,off,none)))=blk::(Os.set idx (O1++O2)).flatten:=by simp[Y6,hm]
    have hnd:=R.nd bx;rw[hown0]at hnd;have hperm:(blk::Os.flatten).Perm ((blk::(Os.set idx (O1++O2)).flatten)++Op):=by simpa using hOs.cons blk
    have hnd' :=I7.1 (hperm.nodup_iff.1 hnd);have hB1:Ef ⟨w.heap,ok,Ep m bx (Os.set idx (O1++O2)).flatten⟩ bx (.barrs md xs (some (idx,off,none))):=by
     refine VF (Os:=Os.set idx (O1++O2)) hel hm ⟨rfl,rfl,h3,by simp[h7],c,T,hh,hs,λj z hz=>?_⟩ A7 trivial;by_cases hj:j=idx
     ·subst hj;rw[show xs[j]? =some e0 from he0]at hz;cases hz;refine⟨es,O1++O2,?_,he,by simp only[XC];exact hr'⟩;rw[V7,if_pos rfl,if_pos (by rw[h7];exact hlt)]
     ·obtain⟨es2,O',hO2,he2,hr2⟩:=hxs j z hz;refine⟨es2,O',?_,he2,by simp only[UB hj];exact hr2⟩;rw[V7,if_neg (λe=>hj e.symm)];exact hO2
    obtain⟨R1,T1⟩:=R.modK (T:=[]) Tk.nil (n:=bx) (v:=.barrs md xs (some (idx,off,none))) (ks:=(Os.set idx (O1++O2)).flatten) (w' :=w) (T' :=Op) A7 (by rw[hown1];exact hnd'.1)
     (λb hb=> .inl (by rw[hown0];rw[hown1]at hb;exact hperm.mem_iff.2 (G6 _ hb))) rfl rfl rfl rfl (λ_ _=>rfl) hB1 hnd'.2.1
     (λb hb=>⟨.inl (by rw[hown0];exact hperm.mem_iff.2 (aU _ hb)),λh=>hnd'.2.2 b (by rw[hown1]at h;exact h) b hb rfl⟩)
    obtain⟨hB2,hB3,hB4⟩:=hB (Ep m bx (Os.set idx (O1++O2)).flatten) (U1 q o.dst);have hlt2:=(Z4.1 hu);have hle:off+1<=md.size:=by have:=fC hr;have:=hlt2.1;omega
    have e:=BK he off i.size l7;have hr2:=wZ hi w e;have h1:(es.drop off).take i.size=[u]:=by obtain⟨hlt3,rfl⟩:=hlt2;rw[hsz,jh hlt3];rfl
    refine a6y (ok:=ok) (m:=m) H R1 T1 (λ_ _ h=>h) (λ_ _ h=>h) hvu hB3 hB2 hv (by rw[lD]) hm (by rw[←h1,←hsz];exact e) rfl ?_;rw[h1,hagg]at hr2;simp[execOp,ho,hx,Instr.loadAt,Instr.sureAddr,hr2,Po]
  ·rename_i md xs i2 o2 n2 hS;cases hown:md.ownAt off
   ·simpa only[cond_false]using plain
   simp only[cond_true];refine rM H λi hi=>gQ λhi1=>⟨λhat=>?_,λ_=>trivial⟩;simp only[x9,bH]at hi1;obtain⟨hsz,hagg⟩:=hi1;have hsz:=iO hsz;obtain⟨e1,e2⟩:=Jk hat
   subst e1;subst e2;obtain⟨blk,o',len,cap,sz,hm,hlt,hx⟩:=hp;obtain⟨hel,l,Os,hm',⟨ha,blk',off',len',cap',u,l',hl,hc,hmn,hvw⟩,hk⟩:=R.own_barrs hS;simp only at hm;rw[hm]at hm';cases hm';cases hl;have e:dR w.heap blk (o' +i2*md.size+o2) i.size=some [u]:=by rw[hsz];exact hc
   have hr2:=wZ hi w e;rw[hagg]at hr2;refine aN H R (v:=.own n2 none) (x:=u) ⟨l',hmn,hvw⟩ ?_;simp[execOp,ho,hx,Instr.loadAt,Instr.sureAddr,hr2,Po]
  ·exact plain
 ·exact plain
theorem Ii{S' :Sm}{t:TypeId}{x y:Operand}{w' :World}{m' :Mp}{ok' :Nat->Ty->Prop}(ho:o.op= .store t x y)(hd:o.dst=none)(run:(Instr.storeAt t (a.eval x) (a.eval y)).run X.P w= .ok () w')
  (R:Rel X cl ch S' m' ok' a w') (hm:∀k l,m k=some l->m' k=some l) (hok:∀b t,ok b t->ok' b t):jL X cl ch o a w m ok S' :=by
 intro next Q hn
 unfold Oper.wp;have e:(execOp a.eval o).run X.P w= .ok .skip w' :=by simp[execOp,ho,run]
 rw[e,Oper.upon_skip,hd];exact hn m' ok' a w' R hm hok
theorem a3X{α:Type}{off:Nat}{u:α}{L:List α}(h:off<L.length):bM off [u] L=L.set off u:=by
 apply dF;intro i;rw[sQ az,V7];by_cases h1:i=off
 ·subst h1;rw[if_neg l7,if_pos A7,if_pos rfl,if_pos h];simp
 ·by_cases h2:i<off
  ·rw[if_pos h2,if_neg l7]
  ·rw[if_neg h2,if_neg az,if_neg l7]
theorem a5X{u:Value}(h:u.oneCell' =true):u.cells.toList=[u]:=by cases u<;>simp[Value.oneCell',Value.cells]at*
theorem VL{w:World}{blk o' sz len cap off idx:Nat}{c:Array Value}{T:TypeId}(hh:w.heap[blk]? =some (.cells c T (0,0)))(hs:o' +cap*sz<=c.size)(hlc:len<=cap)(hlt:idx<len){us es:List Value}
  (he:dR w.heap blk (o' +idx*sz) sz=some es) (hf:off+us.length<=sz):
  o' +idx*sz+off+us.length<=c.size/\(bM (o' +idx*sz+off) us c.toList).length=c.size/\
  dR (w.setRow blk (bM (o' +idx*sz+off) us c.toList).toArray).heap blk (o' +idx*sz) sz=some (bM off us es)/\
  (∀j,j<len->j≠idx->dR (w.setRow blk (bM (o' +idx*sz+off) us c.toList).toArray).heap blk (o' +j*sz) sz=dR w.heap blk (o' +j*sz) sz):=by
 have hcap:(idx+1)*sz<=cap*sz:=G9 _ l7;rw[J3,aW]at hcap;have hfit:o' +idx*sz+off+us.length<=c.size:=l7;have hcl:c.toList.length=c.size:=A7;have hsp:(bM (o' +idx*sz+off) us c.toList).length=c.size:=by rw[yu (by rw[hcl];exact hfit)];exact hcl
 refine⟨hfit,hsp,?_,λj hj hne=>?_⟩
 ·rw[JP hh _ _ _ (by rw[hsp];omega),QM (by rw[hcl];omega) l7];obtain⟨c2,T2,f2,hb2,hn2,rfl⟩:=wz he;rw[hh]at hb2;cases hb2;rfl
 ·have hcap' :(j+1)*sz<=cap*sz:=G9 _ l7;rw[J3,aW]at hcap';rw[JP hh _ _ _ (by rw[hsp];omega),lV hh _ _ l7,a3Y (by rw[hcl];exact hfit)];rcases Nat.lt_or_gt_of_ne hne with hlt'|hgt
  ·left;have:(j+1)*sz<=idx*sz:=G9 _ l7;rw[J3,aW]at this;omega
  ·right;have:(idx+1)*sz<=j*sz:=G9 _ l7;rw[J3,aW]at this;omega
theorem Sj{Q:Unit->Sm->Prop}(R:Rel X cl ch S m ok a w){Op:List Nat}(hT:Tk X S m ok w Op){t:TypeId}{i:TI}(hi:TiOk X.P t i)(h1:i.size=1){bx idx off:Nat}{md:M}{xs:List md.den}{hole:Option (Nat×Nat×Option Nat)}
  (hS:S (aO+bx)= .barrs md xs hole) {blk o' len cap sz:Nat} (hm:m bx=some (.arr blk o' len cap sz)) {v:V} {u:Value} (hp:Yq w.heap ok v u Op)
  (hK:∀S' m' w',Rel X cl ch S' m' ok a w' ->(∀k l,m k=some l->m' k=some l)->(storeVar t ⟨blk,o' +idx*sz+off,none⟩ u).run X.P w= .ok () w' ->Q () S'):
  (ZH bx idx off md xs hole v (.ret ())).post S Q:=by
 unfold ZH;refine⟨λhb=>?_,λ_=>trivial⟩;refine gJ λe0 he0=>?_;have he0' :xs[idx]? =some e0:=he0;obtain⟨hel,l,Os,hm',⟨ha,hho⟩,hk⟩:=R.own_barrs hS;rw[hm]at hm';cases hm';obtain⟨rfl,rfl,h3,h7,c,T,hh,hs,hxs⟩:=ha;obtain⟨es,O,hO,he,hr⟩:=hxs idx e0 he0';have hho:WF hole idx=none\/WF hole idx=some off:=by
  rcases hole with _|⟨j,o2,o3⟩
  ·exact .inl rfl
  ·obtain⟨e1,e2⟩:=Jk hb;subst e1;subst e2;exact .inr XC
 have hho' :∀j,j≠idx->WF hole j=none:=λj hj=>by
  rcases hole with _|⟨j',o2,o3⟩
  ·rfl
  ·obtain⟨e1,_⟩:=Jk hb;subst e1;exact UB hj
 refine Qk hp md off hr hho hel λy O1 Old O2 eO hr' hoff=>lU ?_;have hlt:idx<xs.length:=(Z4.1 he0').1;have hes:es.length=md.size:=fC hr;have hu1:=hp.one;have huc:=a5X hu1;obtain⟨hfit,hsp,hnew,hold⟩:=VL (us:=[u]) (off:=off) hh hs h3 hlt he az;have run:=Dh hi w (off:=o' +idx*md.size+off) hh (v:=u) (by have:=congrArg List.length huc;simp at this;omega) (by simpa[h1]using hfit) (by rw[huc];simp[hu1]);rw[huc]at run;generalize hw' :w.setRow blk (bM (o' +idx*md.size+off) [u] c.toList).toArray=w' at run hnew hold;have hrow:w'.heap[blk]? =some (.cells (bM (o' +idx*md.size+off) [u] c.toList).toArray T (0,0)):=by subst hw';exact setRow_heap w blk c _ T (0,0) hh
 have hoth:∀b,b≠blk->w'.heap[b]? =w.heap[b]?:=λb hb=>by subst hw';exact setRow_other w blk b _ hb
 have hsize:w'.heap.size=w.heap.size:=by subst hw';simp
 have hos:w'.os=w.os:=by subst hw';rfl
 have htp:w'.tape=w.tape:=by subst hw';rfl
 have hout:w'.output=w.output:=by subst hw';rfl
 have hO1:Os.flatten.Perm ((Os.set idx (O1++O2)).flatten++Old):=CQ (by rw[hO,eO]);have hO2:(Os.set idx (O1++Op++O2)).flatten.Perm ((Os.set idx (O1++O2)).flatten++Op):=by have:=CQ (Os:=Os.set idx (O1++Op++O2)) (i:=idx) (O1:=O1) (P:=Op) (O2:=O2) (by rw[V7,if_pos rfl,if_pos (by rw[h7];exact hlt)]);rwa[List.set_set]at this
 have hown0:Y6 m bx (S (aO+bx))=blk::Os.flatten:=by simp[Y6,hS,hm,hk]
 have hown1:Y6 (Ep m bx (Os.set idx (O1++Op++O2)).flatten) bx (.barrs md (bu xs idx y) none)=blk::(Os.set idx (O1++Op++O2)).flatten:=by simp[Y6,hm]
 have hnd:=R.nd bx;rw[hown0]at hnd;have hnd0:=eY.1 hnd;have hndA:=I7.1 (hO1.nodup_iff.1 hnd0.2);have hfreeOp:∀b∈Op,b∉blk::Os.flatten:=λb hb h=>(hT.free b hb).2.2.2 bx (by rw[hown0];exact h);have hsubA:∀b∈(Os.set idx (O1++O2)).flatten,b∈Os.flatten:=λb hb=>hO1.mem_iff.2 (G6 _ hb);have hneO:∀b∈Os.flatten,b≠blk:=λb hb e=>hnd0.1 (e▸hb);have hneP:∀b∈Op,b≠blk:=λb hb e=>hfreeOp b hb (by simp[e]);have hkeep:∀b t,ok b t->w'.heap[b]? =w.heap[b]?:=λb t hb=>hoth b (λe=>(R.sep bx blk (by rw[hown0];simp)).1 t (e▸hb));have hB:Ef ⟨w'.heap,ok,Ep m bx (Os.set idx (O1++Op++O2)).flatten⟩ bx (.barrs md (bu xs idx y) none):=by
  refine VF (Os:=Os.set idx (O1++Op++O2)) hel hm ⟨rfl,by simp[bu],h3,by simp[h7,bu],_,T,hrow,by simp[hsp];exact hs,λj z hz=>?_⟩ A7 trivial;unfold bu at hz;rw[V7]at hz;split at hz
  ·rename_i hj;subst hj;cases hz;refine⟨_,O1++Op++O2,by rw[V7,if_pos rfl,if_pos (by rw[h7];exact hlt)],hnew,?_⟩;rw[a3X l7];refine jK (λ_ _ h=>h) hkeep (λb hb=>hoth b ?_) hr';rcases A8.1 hb with hb|hb
   ·rcases A8.1 hb with hb|hb
    ·exact hneO b (dA.2 ⟨O,su hO,by rw[eO];simp[hb]⟩)
    ·exact hneP b hb
   ·exact hneO b (dA.2 ⟨O,su hO,by rw[eO];simp[hb]⟩)
  ·rename_i hj;obtain⟨es2,O',hO2',he2,hr2⟩:=hxs j z hz;refine⟨es2,O',by rw[V7,if_neg hj];exact hO2',by rw[←he2];exact hold j (Z4.1 hz).1 (λe=>hj e.symm),?_⟩;simp only[a6m];rw[hho' j (λe=>hj e.symm)]at hr2;exact jK (λ_ _ h=>h) hkeep (λb hb=>hoth b (hneO b (dA.2 ⟨O',su hO2',hb⟩))) hr2
 have hmod:=R.modK hT (n:=bx) (v:=.barrs md (bu xs idx y) none) (ks:=(Os.set idx (O1++Op++O2)).flatten) (w' :=w') (T' :=[]) A7
  (by
   rw[hown1];refine eY.2 ⟨λh=>?_,hO2.nodup_iff.2 (I7.2 ⟨hndA.1,hT.nodup,λx hx z hz e=>?_⟩)⟩
   ·rcases A8.1 (hO2.mem_iff.1 h)with h|h
    ·exact hnd0.1 (hsubA _ h)
    ·exact hneP _ h rfl
   ·subst e;exact hfreeOp x hz (by simp[hsubA x hx]))
  (λb hb=>by
   rw[hown1]at hb;rw[hown0];rcases C9.1 hb with hb|hb
   ·exact .inl (by simp[hb])
   ·rcases A8.1 (hO2.mem_iff.1 hb)with h|h
    ·exact .inl (by simp[hsubA _ h])
    ·exact .inr h)
  hos htp hout hsize (λb hb=>hoth b (λe=>hb (by rw[hown0,e];simp))) hB dY (λb hb=>by cases hb)
 exact hK _ _ w' hmod.1 (λ_ _ h=>h) run
theorem a9j(H:FxOk X)(R:Rel X cl ch S m ok a w){t:TypeId}{x y:Operand}{q:Nat}(ho:o.op= .store t x y):(bZ X.E q o).post S (λ_ S' =>jL X cl ch o a w m ok S'):=by
 unfold bZ;simp only[ho];cases hd:o.dst with
 |some d=>trivial|none=>
 refine aB R λp hp=>aB R λv hv=>?_;unfold b1z;refine rM H λi hi=>?_;cases p<;>try trivial
 case ptr bx off=>
  obtain⟨blk,hm,hx⟩:=hp;refine fJ ?_;split<;>try trivial
  rename_i cs hS;obtain⟨blk',arr,T,hm',hh,hl⟩:=R.own_cells hS;simp only at hm hm';rw[hm]at hm';cases hm';refine wB hv λvs hvs=>gQ λhlen=>Dp _ _ _ λhle=>lU ?_;have hlen' :=iO hlen;have hL:=nK hl;have hL2:=nK hvs;have hsz:(a.eval y).cells.size=i.size:=by simp at hL2;omega
  have hown:Y6 m bx (S (aO+bx))=[blk]:=by simp[Y6,hS,hm]
  have hfit:off+i.size<=arr.size:=by simp at hL;omega
  have run:=Dh hi w hh (v:=a.eval y) hsz hfit (OI hvs);refine Ii ho hd (w' :=w.setRow blk (bM off (a.eval y).cells.toList arr.toList).toArray) (by simp[Instr.storeAt,Instr.sureAddr,hx,run]) ?_ (λ_ _ h=>h) (λ_ _ h=>h);refine R.mod (by rw[hown];simp[Y6,hm]) A7 rfl rfl rfl A7 (λb hb=>setRow_other w blk b _ (by rw[hown]at hb;simpa using hb)) ?_;refine⟨blk,_,T,hm,setRow_heap w blk arr _ T (0,0) hh,?_⟩;refine b4Y (λb t hb=>setRow_other w blk b _ (λe=>(R.sep bx blk (by rw[hown];simp)).1 t (e▸hb))) ?_;simpa using EU hvs hl
 case ep bx ix off=>
  obtain⟨blk,o',len,cap,sz,hm,hlt,hx⟩:=hp;simp only at hm;refine fJ ?_;split<;>try trivial
  ·rename_i u xs hS;obtain⟨l,hm',ha⟩:=R.own_arr hS;rw[hm]at hm';cases hm';obtain⟨hE0,rfl,rfl,h3,c,T,hh,hs,hxs⟩:=ha;refine gJ λe0 he0=>?_;obtain⟨es,he,hr⟩:=hxs ix e0 he0;refine wB hv λvs hvs=>gQ λhlen=>Dp _ _ _ λhle=>?_;rw[pz]at hle;have hlen' :=iO hlen;have hL2:=nK hvs;have hsz:(a.eval y).cells.size=i.size:=by simp at hL2;omega
   have hes:=pM he;have hnew:=EU (off:=off) hvs (qP (C:=⟨w.heap,ok,m⟩) hr);refine Du (T:=[]) u R Tk.nil hnew λS1 ok1 y1 q1 us us' R1 T1 k1 s1 e1 h1 l1=>?_;cases q1 with
   |cons _ _=>trivial|nil=>
   simp only[gX]at l1;subst l1;simp only[F7]at e1;subst e1;refine fJ ?_;split<;>try trivial
   rename_i u' xs' hS1;refine gU λe=>?_;subst e;refine lU ?_;obtain⟨l,hm',ha⟩:=R1.own_arr hS1;rw[hm]at hm';cases hm';obtain⟨_,hszu,hlen2,h3',c',T',hh',hs',hxs'⟩:=ha;rw[hh]at hh';cases hh';have hown:Y6 m bx (S1 (aO+bx))=[blk]:=by simp[Y6,hS1,hm]
   have hvl:(a.eval y).cells.toList.length=i.size:=by simpa using hsz
   obtain⟨hfit,hsp,hnew2,hold⟩:=VL (us:=(a.eval y).cells.toList) (off:=off) hh hs h3 hlt he (by rw[hvl];omega);have run:=Dh hi w (off:=o' +ix*u'.size+off) hh (v:=a.eval y) hsz (by rw[hvl]at hfit;exact hfit) (OI hvs);refine Ii ho hd (w' :=w.setRow blk (bM (o' +ix*u'.size+off) (a.eval y).cells.toList c.toList).toArray) (by simp[Instr.storeAt,Instr.sureAddr,hx,run]) ?_ (λ_ _ h=>h) k1;refine R1.mod (by rw[hown];simp[Y6,hm]) A7 rfl rfl rfl A7 (λb hb=>setRow_other w blk b _ (by rw[hown]at hb;simpa using hb)) ?_;have hkeep:∀b t,ok1 b t->(w.setRow blk (bM (o' +ix*u'.size+off) (a.eval y).cells.toList c.toList).toArray).heap[b]? =w.heap[b]?:=
    λb t hb=>setRow_other w blk b _ (λe=>(R1.sep bx blk (by rw[hown];simp)).1 t (e▸hb))
   refine⟨_,hm,hE0,rfl,by simp[bu,hlen2],h3,_,T,setRow_heap w blk c _ T (0,0) hh,by simp[hsp];exact hs,λj z hz=>?_⟩;unfold bu at hz;rw[V7]at hz;split at hz
   ·rename_i hj;subst hj;split at hz
    ·cases hz;exact⟨_,hnew2,dP (λ_ _ h=>h) hkeep h1⟩
    ·cases hz
   ·rename_i hj;obtain⟨es2,he2,hr2⟩:=hxs' j z hz;have hj2:=(Z4.1 hz).1;exact⟨_,(hold j (by rw[hlen2];exact hj2) (λe=>hj e.symm)).trans he2,dP (λ_ _ h=>h) hkeep hr2⟩
  ·rename_i md xs hole hS;cases hcd:(md.ownAt off&&Nat.beq i.size 1&&!bi i.td)
   ·simp only[cond_false];cases hole with
    |some _=>trivial|none=>
    refine wB hv λvs hvs=>gQ λhlen=>gJ λe0 he0=>?_;have he0' :xs[ix]? =some e0:=he0;obtain⟨hel,l,Os,hm',⟨ha,hho⟩,hk⟩:=R.own_barrs hS;rw[hm]at hm';cases hm';obtain⟨rfl,rfl,h3,h7,c,T,hh,hs,hxs⟩:=ha;obtain⟨es,O,hO,he,hr⟩:=hxs ix e0 he0';refine PS md off hr hvs λy1 hle hr' =>lU ?_;have hes:es.length=md.size:=fC hr;have hlen' :=iO hlen;have hL2:=nK hvs;have hsz:(a.eval y).cells.size=i.size:=by simp at hL2;omega
    have hvl:(a.eval y).cells.toList.length=i.size:=by simpa using hsz
    obtain⟨hfit,hsp,hnew2,hold⟩:=VL (us:=(a.eval y).cells.toList) (off:=off) hh hs h3 hlt he l7;have run:=Dh hi w (off:=o' +ix*md.size+off) hh (v:=a.eval y) hsz (by rw[hvl]at hfit;exact hfit) (OI hvs);have hown:Y6 m bx (S (aO+bx))=blk::Os.flatten:=by simp[Y6,hS,hm,hk]
    have hnd:=R.nd bx;rw[hown]at hnd;have hnd0:=eY.1 hnd;have hneO:∀b∈Os.flatten,b≠blk:=λb hb e=>hnd0.1 (e▸hb);refine Ii ho hd (w' :=w.setRow blk (bM (o' +ix*md.size+off) (a.eval y).cells.toList c.toList).toArray) (by simp[Instr.storeAt,Instr.sureAddr,hx,run]) ?_ (λ_ _ h=>h) (λ_ _ h=>h);have hkeep:∀b t,ok b t->(w.setRow blk (bM (o' +ix*md.size+off) (a.eval y).cells.toList c.toList).toArray).heap[b]? =w.heap[b]?:=
     λb t hb=>setRow_other w blk b _ (λe=>(R.sep bx blk (by rw[hown];simp)).1 t (e▸hb))
    refine R.mod (by rw[hown];simp[Y6,hm,hk]) A7 rfl rfl rfl A7 (λb hb=>setRow_other w blk b _ (λe=>hb (by rw[hown,e];simp))) ?_;refine VF (Os:=Os) hel hm ⟨rfl,by simp[bu],h3,by simp[h7,bu],_,T,setRow_heap w blk c _ T (0,0) hh,by simp[hsp];exact hs,λj z hz=>?_⟩ hk trivial;unfold bu at hz;rw[V7]at hz;split at hz
    ·rename_i hj;subst hj;cases hz;exact⟨_,O,hO,hnew2,jK (λ_ _ h=>h) hkeep (λb hb=>setRow_other w blk b _ (hneO b (dA.2 ⟨O,su hO,hb⟩))) hr'⟩
    ·rename_i hj;obtain⟨es2,O2,hO2,he2,hr2⟩:=hxs j z hz;have hj2:=(Z4.1 hz).1;exact⟨_,O2,hO2,(hold j l7 (λe=>hj e.symm)).trans he2,jK (λ_ _ h=>h) hkeep (λb hb=>setRow_other w blk b _ (hneO b (dA.2 ⟨O2,su hO2,hb⟩))) hr2⟩
   ·simp only[cond_true];simp only[x9,bH]at hcd;obtain⟨⟨_,hsz1⟩,_⟩:=hcd;have hsz1:=iO hsz1;have fin:∀{S' :Sm} {m' :Mp} {w' :World},Rel X cl ch S' m' ok a w' ->(∀k l,m k=some l->m' k=some l)->(storeVar t ⟨blk,o' +ix*sz+off,none⟩ (a.eval y)).run X.P w= .ok () w' ->jL X cl ch o a w m ok S' :=
     λR' hm' run=>Ii ho hd (by simp[Instr.storeAt,Instr.sureAddr,hx,run]) R' hm' (λ_ _ h=>h)
    split
    ·have hv' :a.eval y= .slice none 0 0:=hv;exact Sj (Op:=[]) R Tk.nil hi hsz1 hS hm (.inl ⟨rfl,hv',rfl⟩) (λS' m' w' R' h' run=>fin R' h' run)
    ·rename_i b2;obtain⟨l2,hm2,hv2⟩:=hv;simp only at hm2;refine fJ ?_;refine gQ λharr=>lU (fJ ?_);split<;>try trivial
     rename_i md2 xs2 hole2 hS2;have T1:=Tk.kill R (T:=[]) Tk.nil b2 (bs:=Y6 m b2 (S (aO+b2))) (λ_ h=>h) (R.nd b2);rw[J4]at T1;refine Sj (R.kill b2) T1 hi hsz1 hS2 hm ?_ (λS' m' w' R' h' run=>fin R' h' run);cases hb2:S (aO+b2)<;>rw[hb2]at harr<;>try cases harr
     ·rename_i t2 ys;obtain⟨l',hm',ha'⟩:=R.own_arr hb2;rw[hm2]at hm';cases hm';refine .inr (.inl ⟨t2,ys,l2,rfl,hv2,NE ha',?_⟩);cases l2<;>first|(simp[Y6,hm2,Loc.blks];done)|cases ha'
     ·rename_i md3 ys hole3;obtain⟨hel3,l',Os,hm',⟨ha',hho⟩,hk'⟩:=R.own_barrs hb2;rw[hm2]at hm';cases hm';rcases hole3 with _|⟨p1,p2,p3⟩
      ·refine .inr (.inr ⟨md3,ys,l2,Os,rfl,hel3,hv2,ha',?_⟩);cases l2<;>first|(simp[Y6,hm2,Loc.blks,hk'];done)|cases ha'
      ·cases harr
    ·trivial
end
end Go.GP
namespace Go.GP
section
variable {X:Fx} {cl ch:Nat} {S:Sm} {m:Mp} {ok:Nat->Ty->Prop} {a:Act} {w:World} {o:Oper}
theorem Fj(H:FxOk X){t f off n:Nat}{ag:Bool}(h:Jh X.E t f=some (off,n,ag)):
  ∃fields fld j,X.P.underlying t=some (.struct fields)/\fields[f]? =some fld/\fld.offset=off/\TiOk X.P fld.type j/\j.size=n/\n≠0/\ag=bi j.td:=by
 unfold Jh at h;cases hi:dV X.E.tt t with
 |none=>simp[hi]at h|some i=>
  have Hi:=H.tt t i hi;have htd:=Hi.td;simp only[hi]at h;cases hd:i.td<;>simp only[hd]at h<;>try (simp at h;done)
  rename_i fs;rw[hd]at htd;obtain⟨fields,hu,hf⟩:=htd;cases hfs:fs[f]? with
  |none=>simp[hfs]at h|some x=>
   obtain⟨ft,off'⟩:=x;simp only[hfs]at h;cases hj:dV X.E.tt ft with
   |none=>simp[hj]at h|some j=>
    simp only[hj]at h;cases hb:Nat.beq j.size 0
    ·simp only[hb,cond_false,H7,jZ]at h;obtain⟨rfl,rfl,rfl⟩:=h;rw[←hf]at hfs;simp only[Y8,Option.map_eq_some_iff]at hfs;obtain⟨fld,hfl,he⟩:=hfs;simp only[jZ]at he;obtain⟨rfl,rfl⟩:=he;refine⟨fields,fld,j,hu,by simpa using hfl,rfl,H.tt _ _ hj,rfl,λe=>?_,rfl⟩;rw[e]at hb;simp at hb
    ·simp[hb]at h
theorem JK{P:Program}{t f off:Nat}{fields:Array Field}{fld:Field}{j:TI}(w:World)(hu:P.underlying t=some (.struct fields))(hf:fields[f]? =some fld)(ho:fld.offset=off)
  (hj:TiOk P fld.type j) (hn:j.size≠0) (b p:Nat):(Instr.fieldAt t (.pointer (some ⟨b,p,none⟩)) f).run P w= .ok (.pointer (some ⟨b,p+off,none⟩)) w:=by
 simp[Instr.fieldAt,run_underlying hu,hf,Instr.sureAddr,fieldPlace,uP hj,hn,jD,ho]
theorem Za(H:FxOk X)(R:Rel X cl ch S m ok a w){t:TypeId}{x:Operand}{f q:Nat}(ho:o.op= .fieldAddr t x f):(bZ X.E q o).post S (λ_ S' =>jL X cl ch o a w m ok S'):=by
 unfold bZ;simp only[ho];refine aB R λp hp=>?_;split<;>try trivial
 rename_i off n ag hfo;obtain⟨fields,fld,j,hu,hf,hoff,hj,hn,hn0,_⟩:=Fj H hfo;have hj0:j.size≠0:=l7;cases p<;>try trivial
 case ptr bx o' =>obtain⟨blk,h1,h2⟩:=hp;exact aN H R (v:=.ptr bx (o' +off)) ⟨blk,h1,rfl⟩ (by simp[execOp,ho,h2,JK w hu hf hoff hj hj0])
 case ep bx ix o' =>obtain⟨blk,o2,len,cap,sz,h1,h2,h3⟩:=hp;exact aN H R (v:=.ep bx ix (o' +off)) ⟨blk,o2,len,cap,sz,h1,h2,rfl⟩ (by simp[execOp,ho,h3,JK w hu hf hoff hj hj0,qg])
 case dp u y o' =>obtain⟨blk,o2,es,h1,h2⟩:=hp;exact aN H R (v:=.dp u y (o' +off)) ⟨blk,o2,es,rfl,h2⟩ (by simp[execOp,ho,h1,JK w hu hf hoff hj hj0,qg])
theorem a9g(H:FxOk X)(R:Rel X cl ch S m ok a w){t:TypeId}{x:Operand}{f q:Nat}(ho:o.op= .field t x f):(bZ X.E q o).post S (λ_ S' =>jL X cl ch o a w m ok S'):=by
 unfold bZ;simp only[ho];refine aB R λp hp=>?_;split<;>try trivial
 rename_i off n ag hfo;obtain⟨fields,fld,j,hu,hf,hoff,hj,hn,hn0,rfl⟩:=Fj H hfo;refine Ew hp λps us hg hl=>Dt λhle=>?_;obtain⟨arr,hx,rfl⟩:=hg;have hL:=nK hl;have hlen:((arr.toList.drop off).take n).length=n:=by simp at hL ⊢;omega
 refine aN H R (Bj (zy n (xB off hl)) (λha=>by rw[hlen,←hn];exact hj.one ha)) ?_;have hpart:(part fld.type arr off).run X.P w= .ok (Po (bi j.td) ((arr.toList.drop off).take n)) w:=by
  unfold part;rw[F8,Dq hj.td];simp only[I4];cases ha:bi j.td
  ·have h1:=hj.one ha;have hlt:off<arr.size:=by simp at hL;omega
   simp only[dh,if_false,Po];rw[show arr[off]? =some arr[off]from by simp[hlt]];have:n=1:=l7;subst this;simp[List.take_one,hlt]
  ·simp only[if_true,Po,F8,uP hj,I4,hn,Y9];congr 2;apply jT;simp[lZ]
 simp[execOp,ho,hx,Instr.field,run_underlying hu,hf,asAgg,hoff,hpart]
theorem GM(H:FxOk X){t n sz:Nat}(h:GL X.E t=some (false,n,sz)):∃e j,X.P.underlying t=some (.slice e)/\TiOk X.P e j/\j.size=sz:=by
 unfold GL at h;cases hi:dV X.E.tt t with
 |none=>simp[hi]at h|some i=>
  have htd:=(H.tt t i hi).td;simp only[hi]at h;cases hd:i.td<;>simp only[hd]at h<;>try (simp at h;done)
  ·rename_i e;rw[hd]at htd;cases hj:dV X.E.tt e with
   |none=>simp[hj]at h|some j=>simp[hj]at h;exact⟨e,j,htd,H.tt _ _ hj,h.2⟩
  ·rename_i l e;cases hj:dV X.E.tt e<;>simp[hj]at h
theorem a2F(H:FxOk X){t n sz:Nat}(h:GL X.E t=some (true,n,sz)):∃e j,X.P.underlying t=some (.array n e)/\TiOk X.P e j/\j.size=sz:=by
 unfold GL at h;cases hi:dV X.E.tt t with
 |none=>simp[hi]at h|some i=>
  have htd:=(H.tt t i hi).td;simp only[hi]at h;cases hd:i.td<;>simp only[hd]at h<;>try (simp at h;done)
  ·rename_i e;cases hj:dV X.E.tt e<;>simp[hj]at h
  ·rename_i l e;rw[hd]at htd;cases hj:dV X.E.tt e with
   |none=>simp[hj]at h|some j=>simp[hj]at h;obtain⟨rfl,h⟩:=h;exact⟨e,j,htd,H.tt _ _ hj,h⟩
theorem Jm{α:Type}{l:List α}{n:Int}{y:α}(h:H8 l n=some y):0<=n/\l[n.toNat]? =some y/\n.toNat<l.length/\n<l.length:=by
 unfold H8 at h;split at h
 ·rename_i h0;have:=(Z4.1 h).1;exact⟨h0,h,this,l7⟩
 ·cases h
theorem wY{P:Program}{t e:TypeId}{j:TI}(w:World)(hu:P.underlying t=some (.slice e))(hj:TiOk P e j){k:IntKind}{n:Int}{b p len cap:Nat}(h0:0<=n)(hlt:n<len):
  (Instr.indexAt t (.slice (some ⟨b,p,none⟩) len cap) (.int k n)).run P w= .ok (.pointer (some ⟨b,p+n.toNat*j.size,none⟩)) w:=by
 simp[Instr.indexAt,asIntOf,run_underlying hu,h0,hlt,uP hj,jD]
theorem Zv{P:Program}{t e:TypeId}{j:TI}(w:World){len:Nat}(hu:P.underlying t=some (.array len e))(hj:TiOk P e j){k:IntKind}{n:Int}{b p:Nat}(h0:0<=n)(hlt:n<len):
  (Instr.indexAt t (.pointer (some ⟨b,p,none⟩)) (.int k n)).run P w= .ok (.pointer (some ⟨b,p+n.toNat*j.size,none⟩)) w:=by
 simp[Instr.indexAt,asIntOf,run_underlying hu,h0,hlt,uP hj,jD,Instr.sureAddr]
theorem Ha{P:Program}{w:World}{r:Nat}{es:Array MapEntry}{ck:Nat}(hb:w.heap[r]? =some (.map es ck)):(getObj r).run P w= .ok (.map es ck) w:=by simp[getObj,Sem.run,hb]
theorem JR{sz:Nat}{u:Ty}(h:szB sz u=true):u.isEnt=false/\sz=u.size:=by
 unfold szB at h;cases hu:u.isEnt<;>rw[hu]at h
 ·exact⟨rfl,iO h⟩
 ·cases h
theorem a7l{C:Cx}{t:Ty}{xs:List t.den}{l:Loc}{vw:Option (Nat×Nat)}{v:Value}(h0:t.isEnt=false)(ha:arrOk C t xs l)(hv:l.view vw v){i:Nat}{y:t.den}(hy:(iY vw xs)[i]? =some y):
  ∃blk off len cap,l= .arr blk off len cap t.size/\xs[a0R vw+i]? =some y/\∃p c,v= .slice (some ⟨blk,p,none⟩) (iY vw xs).length c/\p+i*t.size=off+(a0R vw+i)*t.size:=by
 cases l with
 |nil=>obtain⟨ha,_⟩:=ha;subst ha;rcases vw with _|⟨lo,hi⟩<;>simp[iY,pF]at hy
 |st b=>cases ha|mp b=>exact absurd ha.1 (by simp[h0])|arr blk off len cap sz=>
  obtain⟨_,rfl,rfl,hc,_⟩:=ha;rcases vw with _|⟨lo,hi⟩
  ·simp only[Loc.view]at hv;subst hv;exact⟨blk,off,_,cap,rfl,by simpa[a0R,iY]using hy,off,cap,rfl,by simp[a0R]⟩
  ·obtain⟨h1,h2,rfl⟩:=hv;have hl:(iY (some (lo,hi)) xs).length=hi -lo:=by simp[iY,pF];omega
   have hi' :i<hi -lo:=by rw[←hl];exact(Z4.1 hy).1
   have hx' :xs[lo+i]? =some y:=by
    simp only[iY,pF,U6,ak]at hy;split at hy
    ·exact hy
    ·cases hy
   have hne:cap≠lo:=l7;exact⟨blk,off,_,cap,rfl,hx',off+lo*t.size,cap -lo,by rw[hl];simp[hne],by simp[a0R,J3];omega⟩
theorem Zb(H:FxOk X)(R:Rel X cl ch S m ok a w){t:TypeId}{x ix:Operand}{q:Nat}(ho:o.op= .indexAddr t x ix):(bZ X.E q o).post S (λ_ S' =>jL X cl ch o a w m ok S'):=by
 unfold bZ;simp only[ho];refine aB R λu hu=>aB R λv hv=>?_;unfold UE;split<;>try trivial
 ·
  rename_i k n l sz hsz;obtain⟨e,j,hut,hj,hjs⟩:=GM H hsz;have hix:=uq hv;cases u<;>try trivial
  case sl u xs=>refine ed λhb=>gJ λy hy=>?_;obtain⟨hE0,hb'⟩:=JR hb;obtain⟨h0,hget,hlt,hlt'⟩:=Jm hy;obtain⟨ad,cap,hx,hc,hel⟩:=(Cf hE0).1 hu;simp only[I5,and_true]at hx;obtain⟨blk,off,es,rfl,hok,he,hr⟩:=hel _ y hget;refine aN H R (v:=.dp u y 0) (x:=.pointer (some ⟨blk,off+n.toNat*u.size,none⟩)) ⟨blk,off+n.toNat*u.size,es,rfl,hok,he,hr⟩ ?_;simp[execOp,ho,hx,hix,wY w hut hj h0 hlt',hjs,hb']
  case own bx vw=>
   obtain⟨loc,hm,hview⟩:=hu;refine fJ ?_;split
   ·rename_i ln sz' hSl;split<;>try trivial
    refine gQ λhb=>⟨λhin=>?_,λ_=>trivial⟩;have hb' :=iO hb;have hin' :=of_decide_eq_true (show decide (0<=n/\n<ln)=true from hin);have hbx:=R.box (PG+bx);rw[hSl]at hbx;obtain⟨k',l',e,hm',hl⟩:=hbx;have e' :k' =bx:=l7;subst e';simp only at hm hm';rw[hm]at hm';cases hm';cases loc with
    |nil=>simp only at hl;omega|st b=>cases hl|mp b=>cases hl|arr blk off len cap sz2=>obtain⟨rfl,rfl⟩:=hl;simp only[Loc.view]at hview;refine aN H R (v:=.ep k' (Y0 n) 0) (x:=.pointer (some ⟨blk,off+n.toNat*sz',none⟩)) ⟨blk,off,len,cap,sz',hm,by unfold Y0;omega,rfl⟩ ?_;simp[execOp,ho,hview,hix,wY w hut hj hin'.1 hin'.2,hjs,hb']
   refine fJ ?_;split<;>try trivial
   ·rename_i u xs hS;refine ed λhb=>gJ λy hy=>?_;obtain⟨hE0,hb'⟩:=JR hb;obtain⟨h0,hget,hlt,hlt'⟩:=Jm hy;obtain⟨loc',hm',ha⟩:=R.own_arr hS;simp only at hm;rw[hm]at hm';cases hm';obtain⟨blk,off,len,cap,rfl,hx2,p,c,hvv,hp⟩:=a7l hE0 ha hview hget;have hlen:=ha.2.2.1;have hlt2:=(Z4.1 hx2).1;rw[b2n];refine aN H R (v:=.ep bx (a0R vw+Y0 n) 0) (x:=.pointer (some ⟨blk,p+n.toNat*u.size,none⟩)) ⟨blk,off,len,cap,u.size,hm,by rw[hlen];exact hlt2,by rw[hp];rfl⟩ ?_;simp[execOp,ho,hvv,hix,wY w hut hj h0 hlt',hjs,hb']
   ·rename_i u xs hS;refine ed λhb=>gJ λy hy=>?_;obtain⟨hE0,hb'⟩:=JR hb;obtain⟨h0,hget,hlt,hlt'⟩:=Jm hy;obtain⟨loc',hm',ha,hok⟩:=R.own_frz hS;simp only at hm;rw[hm]at hm';cases hm';obtain⟨ad,cap,hx,hc,hel⟩:=(Cf hE0).1 (qm (C:=⟨w.heap,ok,m⟩) ha hview (λ_ _ h=>h) hok);simp only[I5,and_true]at hx;obtain⟨blk,off,es,rfl,hok',he,hr⟩:=hel _ y hget;refine aN H R (v:=.dp u y 0) (x:=.pointer (some ⟨blk,off+n.toNat*u.size,none⟩)) ⟨blk,off+n.toNat*u.size,es,rfl,hok',he,hr⟩ ?_;simp[execOp,ho,hx,hix,wY w hut hj h0 hlt',hjs,hb']
   ·rename_i md xs hole hS;split<;>try trivial
    refine gQ λhb=>gJ λy hy=>?_;have hb' :=iO hb;obtain⟨h0,hget,hlt,hlt'⟩:=Jm hy;obtain⟨hel,loc',Os,hm',⟨ha,hho⟩,hk⟩:=R.own_barrs hS;simp only at hm;rw[hm]at hm';cases hm';cases loc with
    |st b=>cases ha|mp b=>cases ha|nil=>obtain⟨e1,_⟩:=ha;subst e1;simp at hlt
    |arr blk off len cap sz' =>obtain⟨rfl,rfl,h3,_⟩:=ha;simp only[Loc.view]at hview;refine aN H R (v:=.ep bx (Y0 n) 0) (x:=.pointer (some ⟨blk,off+n.toNat*md.size,none⟩)) ⟨blk,off,xs.length,cap,md.size,hm,hlt,rfl⟩ ?_;simp[execOp,ho,hview,hix,wY w hut hj h0 hlt',hjs,hb']
 ·
  rename_i k n l sz hsz;obtain⟨e,j,hut,hj,hjs⟩:=a2F H hsz;have hix:=uq hv;cases u<;>try trivial
  case glob g=>
   cases hg:dV X.E.gl g with
   |none=>simp only[hg];trivial|some p=>
   obtain⟨u,xs⟩:=p;simp only[hg];refine ed λhb=>gJ λy hy=>?_;simp only[x9]at hb;have hb1:=iO hb.1;have hb2:=iO hb.2;obtain⟨h0,hget,hlt,hlt'⟩:=Jm hy;obtain⟨hok,_,hel⟩:=R.gl g _ hg;obtain⟨es,he,hr⟩:=hel _ y hget;have hx:a.eval x= .pointer (some ⟨g,0,none⟩):=hu;refine aN H R (v:=.dp u y 0) (x:=.pointer (some ⟨g,0+n.toNat*u.size,none⟩)) ⟨g,n.toNat*u.size,es,A7,hok,he,hr⟩ ?_;have:=Zv w hut hj (k:=k) (b:=g) (p:=0) h0 (by rw[hb2];exact hlt');simp only[hjs,hb1]at this;simp[execOp,ho,hx,hix,this]
theorem a8D{α β:Type}{f:α->β}{args:Array α}{u:β}(h:args.toList.map f=[u]):∃y,args=#[y]/\f y=u:=by obtain⟨l⟩:=args;simp only[List.map_eq_cons_iff,List.map_eq_nil_iff]at h;obtain⟨y,r,h1,h2,h3⟩:=h;subst h3;exact⟨y,by rw[h1],h2⟩
theorem a0O{α β:Type}{f:α->β}{args:Array α}{u v:β}(h:args.toList.map f=[u,v]):∃y z,args=#[y,z]/\f y=u/\f z=v:=by obtain⟨l⟩:=args;simp only[List.map_eq_cons_iff,List.map_eq_nil_iff]at h;obtain⟨y,r,h1,h2,z,r',h3,h4,h5⟩:=h;subst h5;subst h3;exact⟨y,z,by rw[h1],h2,h4⟩
theorem b4V(H:FxOk X)(R:Rel X cl ch S m ok a w){c:Call}{q:Nat}(ho:o.op= .call c)(hc:c.callee= .builtin .len):(bZ X.E q o).post S (λ_ S' =>jL X cl ch o a w m ok S'):=by
 obtain⟨cal,args,ats⟩:=c;simp only at hc;subst hc;unfold bZ;simp only[ho];refine oz R _ λvs hvs=>?_;split<;>try trivial
 rename_i t rt x hat
 obtain⟨u,r,he,hx,hr⟩:=hvs;simp only[jb]at hr;subst hr;refine rM H λi hi=>?_;have htd:=hi.td;obtain⟨y,rfl,rfl⟩:=a8D he;have h0:ats[0]? =some t:=by
  obtain⟨l⟩:=ats;simp only at hat
  simp[hat]
 have fin:∀(v:V) (n:Nat),nO ⟨w.heap,ok,m⟩ v (.int .i64 n)->(Builtin.len_ ats o.type #[a.eval y]).run X.P w= .ok (.int .i64 n) w->(fH X.E o.dst v).post S (λ_ S' =>jL X cl ch o a w m ok S'):=λv n hv h=>
  aN H R hv (by simp[execOp,ho,resolve,invoke,builtin,h])
 have mapLen:∀{ke e n:Nat},X.P.underlying t=some (.map ke e)->(∃mv,a.eval y= .map mv/\(mv=none->n=0)/\∀blk,mv=some blk->∃es ck,w.heap[blk]? =some (.map es ck)/\es.size=n)->
   (fH X.E o.dst (.i .i64 n)).post S (λ_ S' =>jL X cl ch o a w m ok S'):=λ{ke e n} hu ⟨mv,hv,h1,h2⟩=>by
  refine fin _ n rfl ?_;cases mv with
  |none=>rw[h1 rfl];simp[Builtin.len_,h0,run_underlying hu,hv,goInt]|some blk=>obtain⟨es,ck,h3,h4⟩:=h2 blk rfl;simp[Builtin.len_,h0,run_underlying hu,hv,goInt,Ha h3,h4]
 unfold b6Z;split<;>try trivial
 ·rename_i l htd';rw[htd']at htd;refine fin _ l.length rfl ?_;simp[Builtin.len_,h0,run_underlying (show X.P.underlying t=some .string from htd),Nh hx,goInt];rfl
 ·rename_i e u xs htd';rw[htd']at htd;cases hE0:u.isEnt
  ·simp only[cond_false];obtain⟨ad,cap,hv,_⟩:=(Cf hE0).1 hx;simp only[I5,and_true]at hv;refine fin _ xs.length rfl ?_;simp[Builtin.len_,h0,run_underlying (show X.P.underlying t=some (.slice e)from htd),hv,goInt]
  ·trivial
 ·rename_i ke e u xs htd';rw[htd']at htd;cases hE0:u.isEnt
  ·trivial
  ·simp only[cond_true];refine mapLen htd ?_;obtain⟨mv,hv,h1,h2⟩:=(a3x hE0).1 hx;exact⟨mv,by simpa using hv,(λe=>by simp[h1 e]),λblk hb=>by obtain⟨_,es,ck,h3,h4,_⟩:=h2 blk hb;exact⟨es,ck,h3,h4⟩⟩
 ·rename_i ke e bx htd';rw[htd']at htd;obtain⟨loc,hm,hview⟩:=hx;simp only at hm;refine fJ ?_;have key:∀{u:Ty} {xs:List u.den},u.isEnt=true->arrOk ⟨w.heap,ok,m⟩ u xs loc->(fH X.E o.dst (.i .i64 (x8 xs))).post S (λ_ S' =>jL X cl ch o a w m ok S'):=λ{u xs} hE0 ha=>by
   refine mapLen htd ?_;cases loc with
   |nil=>exact absurd ha.2 (by simp[hE0])|st b=>cases ha|arr blk off len cap sz=>exact absurd ha.1 (by simp[hE0])|mp b=>simp only[Loc.view]at hview;obtain⟨_,es,ck,h3,h4,_⟩:=ha;exact⟨some b,hview,(λh=>nomatch h),λblk hb=>by cases hb;exact⟨es,ck,h3,h4⟩⟩
  split<;>try trivial
  ·rename_i u xs hS;obtain⟨loc',hm',ha⟩:=R.own_arr hS;rw[hm]at hm';cases hm';cases hE0:u.isEnt
   ·trivial
   ·exact key hE0 ha
  ·rename_i u xs hS;obtain⟨loc',hm',ha,_⟩:=R.own_frz hS;rw[hm]at hm';cases hm';cases hE0:u.isEnt
   ·trivial
   ·exact key hE0 ha
 ·rename_i e htd';rw[htd']at htd;have hv:a.eval y= .slice none 0 0:=hx;refine fin _ 0 rfl ?_;simp[Builtin.len_,h0,run_underlying (show X.P.underlying t=some (.slice e)from htd),hv,goInt]
 ·rename_i e bx vw htd';rw[htd']at htd;obtain⟨loc,hm,hview⟩:=hx;refine fJ ?_;split
  ·rename_i ln sz' hSl;split<;>try trivial
   have hbx:=R.box (PG+bx);rw[hSl]at hbx;obtain⟨k',l',e',hm',hl⟩:=hbx;have e2:k' =bx:=l7;subst e2;simp only at hm hm';rw[hm]at hm';cases hm';cases loc with
   |nil=>simp only at hl;subst hl;simp only[Loc.view]at hview;refine fin _ 0 rfl ?_;simp[Builtin.len_,h0,run_underlying (show X.P.underlying t=some (.slice e)from htd),hview,goInt]|st b=>cases hl|mp b=>cases hl|arr blk off len cap sz2=>obtain⟨rfl,rfl⟩:=hl;simp only[Loc.view]at hview;refine fin _ len rfl ?_;simp[Builtin.len_,h0,run_underlying (show X.P.underlying t=some (.slice e)from htd),hview,goInt]
  refine fJ ?_;have key:∀{u:Ty} {xs:List u.den},u.isEnt=false->arrOk ⟨w.heap,ok,m⟩ u xs loc->(fH X.E o.dst (.i .i64 (x8 (iY vw xs)))).post S (λ_ S' =>jL X cl ch o a w m ok S'):=λ{u xs} hE0 ha=>by obtain⟨ad,cap,hv,_⟩:=(Cf hE0).1 (qm (C:=⟨w.heap,ok,m⟩) (ok' :=λ_ _=>True) ha hview (λ_ _ _=>trivial) (λ_ _=>trivial));simp only[I5,and_true]at hv;refine fin _ (iY vw xs).length rfl ?_;simp[Builtin.len_,h0,run_underlying (show X.P.underlying t=some (.slice e)from htd),hv,goInt]
  split<;>try trivial
  ·rename_i u xs hS;obtain⟨loc',hm',ha⟩:=R.own_arr hS;simp only at hm;rw[hm]at hm';cases hm';cases hE0:u.isEnt
   ·exact key hE0 ha
   ·trivial
  ·rename_i u xs hS;obtain⟨loc',hm',ha,_⟩:=R.own_frz hS;simp only at hm;rw[hm]at hm';cases hm';cases hE0:u.isEnt
   ·exact key hE0 ha
   ·trivial
  ·rename_i md xs hole hS;split<;>try trivial
   obtain⟨hel,loc',Os,hm',⟨ha,hho⟩,hk⟩:=R.own_barrs hS;simp only at hm;rw[hm]at hm';cases hm';cases loc with
   |st b=>cases ha|mp b=>cases ha|nil=>obtain⟨e1,_⟩:=ha;subst e1;simp only[Loc.view]at hview;refine fin _ 0 rfl ?_;simp[Builtin.len_,h0,run_underlying (show X.P.underlying t=some (.slice e)from htd),hview,goInt]
   |arr blk off len cap sz' =>obtain⟨rfl,rfl,h3,_⟩:=ha;simp only[Loc.view]at hview;refine fin _ xs.length rfl ?_;simp[Builtin.len_,h0,run_underlying (show X.P.underlying t=some (.slice e)from htd),hview,goInt]
theorem XX(H:FxOk X)(R:Rel X cl ch S m ok a w){c:Call}{q:Nat}(ho:o.op= .call c)(hc:c.callee= .builtin .min\/c.callee= .builtin .max):(bZ X.E q o).post S (λ_ S' =>jL X cl ch o a w m ok S'):=by
 obtain⟨cal,args,ats⟩:=c;simp only at hc;rcases hc with rfl|rfl
 all_goals
  unfold bZ;simp only[ho];refine oz R _ λvs hvs=>?_;split<;>try trivial
  rename_i k p k' r;obtain⟨u,r',he,hx,v,r'',he',hy,hr⟩:=hvs;simp only[jb]at hr;subst hr;rw[he']at he;refine ed λhk=>?_;have hk' :k=k' :=of_decide_eq_true hk;subst hk';obtain⟨y,z,rfl,rfl,rfl⟩:=a0O he
 ·refine aN H R (v:=.i k (qF p r)) rfl ?_;simp[execOp,ho,resolve,invoke,builtin,Builtin.min_,Builtin.min2,uq hx,uq hy,qF]
 ·refine aN H R (v:=.i k (nz p r)) rfl ?_;simp[execOp,ho,resolve,invoke,builtin,Builtin.max_,Builtin.max2,uq hx,uq hy,nz]
end
end Go.GP
namespace Go.GP
def Bnd(d:Int)(o:Option Value)(n:Int):Prop:=(o=none/\n=d)\/∃k,o=some (.int k n)
theorem Ib{P:Program}{w:World}{isS:Bool}{len cap:Nat}{lo hi:Option Value}{x y:Int}(hlo:Bnd 0 lo x)(hhi:Bnd len hi y)(h0:0<=x)(h1:x<=y)(h2:y<=len)(hc:len<=cap):
  (Instr.sliceBounds isS len cap lo hi none).run P w= .ok (x.toNat,y.toNat,cap) w:=by
 have hyc:y<=cap:=l7;have hy0:0<=y:=l7;have e:((y.toNat:Nat):Int)=y:=l7;rcases hlo with⟨rfl,rfl⟩|⟨k,rfl⟩<;>rcases hhi with⟨rfl,rfl⟩|⟨k',rfl⟩
 ·simp[Instr.sliceBounds]
 ·simp[Instr.sliceBounds,Instr.sliceBound,asIntOf,hy0,hyc]
 ·simp[Instr.sliceBounds,Instr.sliceBound,asIntOf,h0,h1]
 ·simp[Instr.sliceBounds,Instr.sliceBound,asIntOf,hy0,hyc,h0,e,h1]
theorem XI{α:Type}{l r:List α}{x y:Int}(h:BM l x y=some r):0<=x/\x<=y/\y<=l.length/\r=(l.take y.toNat).drop x.toNat:=by
 unfold BM at h;split at h
 ·rename_i hh;cases h;exact⟨hh.1,hh.2.1,hh.2.2,rfl⟩
 ·cases h
theorem Wx(l:List UInt8)(x y:Nat):(⟨l.toArray⟩:ByteArray).extract x y=⟨((l.take y).drop x).toArray⟩:=by apply ByteArray.ext;apply jT;simp[ByteArray.data_extract,lZ,jr]
theorem b2I{h:Array Obj}{ok:Nat->Ty->Prop}{t:Ty}(ht:t.isEnt=false){xs:List t.den}{ad:Option Addr}{cap:Nat}{x y:Nat}(hr:lC h ok (.sl t) xs [.slice ad xs.length cap])(h1:x<=y)(h2:y<=xs.length):
  lC h ok (.sl t) ((xs.take y).drop x) [.slice (if cap=x then ad else ad.map (·.add (x*t.size))) (y -x) (cap -x)]:=by
 obtain⟨ad',cap',e,hc,hel⟩:=(Cf ht).1 hr;simp only[I5,Value.slice.injEq,and_true,true_and]at e;obtain⟨rfl,rfl⟩:=e;have hl:((xs.take y).drop x).length=y -x:=by simp;omega
 refine(Cf ht).2 ⟨_,cap -x,by rw[hl],by rw[hl];omega,λi z hz=>?_⟩;have hi:i<y -x:=by rw[←hl];exact(Z4.1 hz).1
 have hz' :xs[x+i]? =some z:=by
  simp only[U6,ak]at hz;split at hz
  ·exact hz
  ·cases hz
 obtain⟨blk,off,es,rfl,hb,he,hrp⟩:=hel _ z hz';have hne:cap≠x:=l7;refine⟨blk,off+x*t.size,es,by simp[hne,jD],hb,?_,hrp⟩;rw[←he];congr 1;rw[J3];omega
section
variable {X:Fx} {cl ch:Nat} {S:Sm} {m:Mp} {ok:Nat->Ty->Prop} {a:Act} {w:World} {o:Oper}
theorem wu{C:Cx}{d n:Int}{v:Option V}{u:Option Value}(h:AB d v=some n)(hr:(v=none/\u=none)\/∃c x,v=some c/\u=some x/\nO C c x):Bnd d u n:=by
 rcases hr with⟨rfl,rfl⟩|⟨c,x,rfl,rfl,hr⟩
 ·simp[AB]at h;subst h;exact .inl ⟨rfl,rfl⟩
 ·cases c<;>simp[AB]at h;subst h;exact .inr ⟨_,by rw[uq hr]⟩
theorem EZ(H:FxOk X)(R:Rel X cl ch S m ok a w){t:TypeId}{x:V}{u:Value}{lo hi:Option V}{lv hv:Option Value}(hx:nO ⟨w.heap,ok,m⟩ x u)
  (hlo:(lo=none/\lv=none)\/∃c y,lo=some c/\lv=some y/\nO ⟨w.heap,ok,m⟩ c y) (hhi:(hi=none/\hv=none)\/∃c y,hi=some c/\hv=some y/\nO ⟨w.heap,ok,m⟩ c y)
  {K:V->Cmd Unit} {Q:Unit->Sm->Prop} (hK:∀v z,nO ⟨w.heap,ok,m⟩ v z->(Instr.sliceAt t u lv hv none).run X.P w= .ok z w->(K v).post S Q):(QK X.E t x lo hi K).post S Q:=by
 unfold QK;cases x<;>try trivial
 case s l=>
  refine rM H λi hi' =>?_;have htd:=hi'.td;split<;>try trivial
  rename_i p q htd' hp hq;rw[htd']at htd;refine gJ λr hr=>?_;obtain⟨h0,h1,h2,rfl⟩:=XI hr;have hb:=Ib (P:=X.P) (w:=w) (isS:=false) (cap:=l.length) (wu hp hlo) (wu hq hhi) h0 h1 h2 (E5 _);refine hK (.s _) (.string ⟨((l.take q.toNat).drop p.toNat).toArray⟩) rfl ?_;have hus:X.P.underlying t=some .string:=htd;have hs:(⟨l.toArray⟩:ByteArray).size=l.length:=rfl;simp[Instr.sliceAt,run_underlying hus,Instr.slice,Nh hx,hs,hb,Wx]
 case sl v l=>
  dsimp only;split<;>try trivial
  rename_i n sz p q hsz hp hq;obtain⟨e,j,hut,hj,hjs⟩:=GM H hsz;refine ed λhbq=>gJ λr hr=>?_;obtain⟨hE0,hbq'⟩:=JR hbq;obtain⟨h0,h1,h2,rfl⟩:=XI hr;have hx' :lC w.heap ok (.sl v) l [u]:=hx;obtain⟨ad,cap,hu,hc,_⟩:=(Cf hE0).1 hx';simp only[I5,and_true]at hu;subst hu;have hb:=Ib (P:=X.P) (w:=w) (isS:=true) (cap:=cap) (wu hp hlo) (wu hq hhi) h0 h1 h2 hc;refine hK (.sl v _) _ (b2I hE0 (x:=p.toNat) (y:=q.toNat) hx' l7 l7) ?_;simp[Instr.sliceAt,run_underlying hut,Instr.slice,hb,uP hj,hjs,hbq']
 case own bx vw=>
  cases vw with
  |some _=>trivial|none=>
  obtain⟨loc,hm,hview⟩:=hx;refine fJ ?_;have key:∀{v:Ty} {xs:List v.den} {n sz:Nat} {p q:Int},arrOk ⟨w.heap,ok,m⟩ v xs loc->GL X.E t=some (false,n,sz)->AB 0 lo=some p->AB (x8 xs) hi=some q->
    (bif szB sz v then Cmd.br (sS p q (x8 xs)) (K (.own bx (some (Y0 p,Y0 q)))) .fail else .fail).post S Q:=λ{v xs n sz p q} ha hsz hp hq=>by
   obtain⟨e,j,hut,hj,hjs⟩:=GM H hsz;refine ed λhbq=>⟨λhr=>?_,λ_=>trivial⟩;obtain⟨hE0,hbq'⟩:=JR hbq;have hr' :=of_decide_eq_true (show decide (0<=p/\p<=q/\q<=x8 xs)=true from hr);obtain⟨h0,h1,h2⟩:=hr';have h2' :q<=(xs.length:Int):=h2;cases loc with
   |st b=>cases ha|mp b=>exact absurd ha.1 (by simp[hE0])|nil=>
    obtain⟨ha,_⟩:=ha;subst ha;simp only[Loc.view]at hview;subst hview;have h2'' :q<=((0:Nat):Int):=by simpa using h2'
    have hb:=Ib (P:=X.P) (w:=w) (isS:=true) (len:=0) (cap:=0) (wu hp hlo) (by have:=wu hq hhi;simpa[x8]using this) h0 h1 h2'' (E5 _);have ep:p=0:=l7;have eq:q=0:=l7;subst ep;subst eq;refine hK (.own bx (some (Y0 0,Y0 0))) (.slice none 0 0) ⟨.nil,hm,rfl,rfl,rfl⟩ ?_;simp[Instr.sliceAt,run_underlying hut,Instr.slice,hb,uP hj]
   |arr blk off len cap sz' =>
    obtain⟨_,rfl,rfl,hc,_⟩:=ha;simp only[Loc.view]at hview;subst hview;have hb:=Ib (P:=X.P) (w:=w) (isS:=true) (cap:=cap) (wu hp hlo) (wu hq hhi) h0 h1 h2' hc;refine hK (.own bx (some (Y0 p,Y0 q))) _ ⟨_,hm,by unfold Y0;omega,by unfold Y0;omega,rfl⟩ ?_;have e1:(if cap=p.toNat then some (⟨blk,off,none⟩:Addr)else some ⟨blk,off+p.toNat*v.size,none⟩)=some (if cap=p.toNat then⟨blk,off,none⟩else⟨blk,off+p.toNat*v.size,none⟩):=by split<;>rfl
    simp[Instr.sliceAt,run_underlying hut,Instr.slice,hb,uP hj,hjs,hbq',jD,Y0,e1];by_cases ecp:cap=p.toNat<;>simp[ecp]
  split<;>try trivial
  ·rename_i v xs hS;obtain⟨loc',hm',ha⟩:=R.own_arr hS;simp only at hm;rw[hm]at hm';cases hm';split<;>try trivial
   rename_i n sz p q hsz hp hq;exact key ha hsz hp hq
  ·rename_i v xs hS;obtain⟨loc',hm',ha,_⟩:=R.own_frz hS;simp only at hm;rw[hm]at hm';cases hm';split<;>try trivial
   rename_i n sz p q hsz hp hq;exact key ha hsz hp hq
theorem a9i(H:FxOk X)(R:Rel X cl ch S m ok a w){t:TypeId}{x:Operand}{lo hi:Option Operand}{q:Nat}(ho:o.op= .slice t x lo hi none):(bZ X.E q o).post S (λ_ S' =>jL X cl ch o a w m ok S'):=by
 unfold bZ;simp only[ho];refine aB R λv hv=>oz R _ λbs hbs=>?_;split<;>try trivial
 ·refine EZ H R (lv:=none) (hv:=none) hv (.inl ⟨rfl,rfl⟩) (.inl ⟨rfl,rfl⟩) λr z hr hz=>aN H R hr ?_;simp[execOp,ho,hz]
 ·rename_i l c;obtain⟨y,r,he,h1,h2⟩:=hbs;simp only[jb]at h2;subst h2;simp at he;subst he;refine EZ H R (lv:=some (a.eval l)) (hv:=none) hv (.inr ⟨_,_,rfl,rfl,h1⟩) (.inl ⟨rfl,rfl⟩) λr z hr hz=>aN H R hr ?_;simp[execOp,ho,hz]
 ·rename_i h c;obtain⟨y,r,he,h1,h2⟩:=hbs;simp only[jb]at h2;subst h2;simp at he;subst he;refine EZ H R (lv:=none) (hv:=some (a.eval h)) hv (.inl ⟨rfl,rfl⟩) (.inr ⟨_,_,rfl,rfl,h1⟩) λr z hr hz=>aN H R hr ?_;simp[execOp,ho,hz]
 ·rename_i l h c d;obtain⟨y,r,he,h1,y',r',he',h2,h3⟩:=hbs;simp only[jb]at h3;subst h3;subst he';simp at he;obtain⟨rfl,rfl⟩:=he;refine EZ H R (lv:=some (a.eval l)) (hv:=some (a.eval h)) hv (.inr ⟨_,_,rfl,rfl,h1⟩) (.inr ⟨_,_,rfl,rfl,h2⟩) λr z hr hz=>aN H R hr ?_;simp[execOp,ho,hz]
end
end Go.GP
namespace Go.GP
def fO(h:Array Obj)(ok:Nat->Ty->Prop)(t:Ty)(xs:List t.den)(cs:List Value):Prop:=
 cs.length=xs.length*t.size/\∀i x,xs[i]? =some x->lC h ok t x ((cs.drop (i*t.size)).take t.size)
theorem fO.nil{h:Array Obj}{ok:Nat->Ty->Prop}{t:Ty} :fO h ok t [] []:=⟨A7,λi x hi=>by simp at hi⟩
theorem fO.append{h:Array Obj}{ok:Nat->Ty->Prop}{t:Ty}{xs ys:List t.den}{cs ds:List Value}(hx:fO h ok t xs cs)(hy:fO h ok t ys ds):fO h ok t (xs++ys) (cs++ds):=by
 refine⟨by simp[hx.1,hy.1,J3],λi x hi=>?_⟩;by_cases hlt:i<xs.length
 ·rw[N9 hlt]at hi;have h1:=hx.2 i x hi;have hle:(i+1)*t.size<=cs.length:=by rw[hx.1];exact G9 _ l7
  rw[J3,aW]at hle;rw[List.drop_append_of_le_length l7,aC az];exact h1
 ·rw[H6 l7]at hi;have h1:=hy.2 _ x hi;have hle:cs.length<=i*t.size:=by rw[hx.1];exact G9 _ l7
  rw[List.drop_append,fF hle,J4];have:i*t.size -cs.length=(i -xs.length)*t.size:=by rw[hx.1,Nat.sub_mul]
  rw[this];exact h1
theorem fO.one{h:Array Obj}{ok:Nat->Ty->Prop}{t:Ty}{x:t.den}{cs:List Value}(hr:lC h ok t x cs):fO h ok t [x] cs:=by
 refine⟨by simp[gB hr],λi y hi=>?_⟩;have:i=0:=by have:=(Z4.1 hi).1;simp at this;exact this
 subst this;simp at hi;subst hi;have:(List.drop (0*t.size) cs).take t.size=cs:=by simp[←gB hr]
 rw[this];exact hr
theorem fO.mono{h h' :Array Obj}{ok ok' :Nat->Ty->Prop}{t:Ty}{xs:List t.den}{cs:List Value}(hok:∀b t,ok b t->ok' b t)(hh:∀b t,ok b t->h'[b]? =h[b]?)(hr:fO h ok t xs cs):fO h' ok' t xs cs:=
 ⟨hr.1,λi x hi=>dP hok hh (hr.2 i x hi)⟩
theorem fO.rep_all{h:Array Obj}{ok:Nat->Ty->Prop}{t:Ty}{x:t.den}{cs:List Value}(hr:lC h ok t x cs):∀n,fO h ok t (List.replicate n x) ((List.replicate n cs).flatten)
 |0=>by simpa using fO.nil|n+1=>by have:=(fO.one hr).append (fO.rep_all hr n);simpa[jQ]using this
theorem fO.one_cell{h:Array Obj}{ok:Nat->Ty->Prop}{t:Ty} :∀{xs:List t.den} {cs:List Value},fO h ok t xs cs->∀v∈cs,v.oneCell' =true
 |[],cs,hr=>by have:=hr.1;simp at this;simp[this]|x::xs,cs,hr=>by
  intro v hv;have h0:=hr.2 0 x rfl;simp only[Nat.zero_mul,List.drop_zero]at h0;have hl:=hr.1;simp only[G5,J3,aW]at hl;have hrest:fO h ok t xs (cs.drop t.size):=by refine⟨by simp;omega,λi y hi=>?_⟩;have:=hr.2 (i+1) y (by simpa using hi);rw[ae];rwa[show t.size+i*t.size=(i+1)*t.size by rw[J3];omega]
  rw[←iR t.size cs]at hv;rcases A8.1 hv with hv|hv
  ·exact wX h0 v hv
  ·exact fO.one_cell hrest v hv
theorem fO.arrOk{C:Cx}{t:Ty}{xs:List t.den}{cs:List Value}(h0:t.isEnt=false)(hr:fO C.h C.ok t xs cs){blk off cap:Nat}{c:Array Value}{T:TypeId}(hb:C.h[blk]? =some (.cells c T (0,0)))
  (hcap:xs.length<=cap) (hfit:off+cap*t.size<=c.size) (he:(c.toList.drop off).take (xs.length*t.size)=cs):Go.GP.arrOk C t xs (.arr blk off xs.length cap t.size):=by
 refine⟨h0,rfl,rfl,hcap,c,T,hb,hfit,λi x hi=>?_⟩;have hlt:=(Z4.1 hi).1;have hle:(i+1)*t.size<=xs.length*t.size:=G9 _ l7;rw[J3,aW]at hle;have hle2:xs.length*t.size<=cap*t.size:=G9 _ hcap;refine⟨_,lV hb _ _ l7,?_⟩;have h1:=hr.2 i x hi;rw[←he,jr,ik,ae]at h1;rwa[iT l7]at h1
theorem Xf{C:Cx}{t:Ty}{xs:List t.den}{blk off len cap sz:Nat}(h:arrOk C t xs (.arr blk off len cap sz)):
  ∃c T,C.h[blk]? =some (.cells c T (0,0))/\sz=t.size/\len=xs.length/\len<=cap/\off+cap*sz<=c.size/\fO C.h C.ok t xs ((c.toList.drop off).take (len*sz)):=by
 obtain⟨_,rfl,rfl,h3,c,T,hb,hf,hx⟩:=h;refine⟨c,T,hb,rfl,rfl,h3,hf,?_,λi x hi=>?_⟩
 ·have:xs.length*t.size<=cap*t.size:=G9 _ h3;simp;omega
 ·obtain⟨es,he,hr⟩:=hx i x hi;obtain⟨c',T',f',hb',hn',rfl⟩:=wz he;rw[hb]at hb';cases hb';have hlt:=(Z4.1 hi).1;have hle:(i+1)*t.size<=xs.length*t.size:=G9 _ l7;rw[J3,aW]at hle;rw[jr,ik,ae,iT l7];exact hr
def xf(h:Array Obj)(ok:Nat->Ty->Prop)(m:M)(xs:List m.den)(cs:List Value)(Os:List (List Nat)):Prop:=
 cs.length=xs.length*m.size/\Os.length=xs.length/\∀i x,xs[i]? =some x->∃O,Os[i]? =some O/\oU h ok m none x ((cs.drop (i*m.size)).take m.size) O
theorem xf.nil{h:Array Obj}{ok:Nat->Ty->Prop}{m:M} :xf h ok m [] [] []:=⟨A7,rfl,λi x hi=>by simp at hi⟩
theorem xf.append{h:Array Obj}{ok:Nat->Ty->Prop}{t:M}{xs ys:List t.den}{cs ds:List Value}{Os Ps:List (List Nat)}(hx:xf h ok t xs cs Os)(hy:xf h ok t ys ds Ps):xf h ok t (xs++ys) (cs++ds) (Os++Ps):=by
 refine⟨by simp[hx.1,hy.1,J3],by simp[hx.2.1,hy.2.1],λi x hi=>?_⟩;by_cases hlt:i<xs.length
 ·rw[N9 hlt]at hi;obtain⟨O,hO,h1⟩:=hx.2.2 i x hi;have hle:(i+1)*t.size<=cs.length:=by rw[hx.1];exact G9 _ l7
  rw[J3,aW]at hle;rw[List.drop_append_of_le_length l7,aC az];exact⟨O,by rw[N9 (by rw[hx.2.1];exact hlt)];exact hO,h1⟩
 ·rw[H6 l7]at hi;obtain⟨O,hO,h1⟩:=hy.2.2 _ x hi;have hle:cs.length<=i*t.size:=by rw[hx.1];exact G9 _ l7
  rw[List.drop_append,fF hle,J4];have:i*t.size -cs.length=(i -xs.length)*t.size:=by rw[hx.1,Nat.sub_mul]
  rw[this];exact⟨O,by rw[H6 (by rw[hx.2.1];omega),hx.2.1];exact hO,h1⟩
theorem xf.one{h:Array Obj}{ok:Nat->Ty->Prop}{t:M}{x:t.den}{cs:List Value}{O:List Nat}(hr:oU h ok t none x cs O):xf h ok t [x] cs [O]:=by
 refine⟨by simp[fC hr],rfl,λi y hi=>?_⟩;have:i=0:=by have:=(Z4.1 hi).1;simp at this;exact this
 subst this;simp at hi;subst hi;have:(List.drop (0*t.size) cs).take t.size=cs:=by simp[←fC hr]
 rw[this];exact⟨O,rfl,hr⟩
theorem xf.mono{h h' :Array Obj}{ok ok' :Nat->Ty->Prop}{t:M}{xs:List t.den}{cs:List Value}{Os:List (List Nat)}(hok:∀b t,ok b t->ok' b t)(hh:∀b t,ok b t->h'[b]? =h[b]?)(hO:∀b∈Os.flatten,h'[b]? =h[b]?)(hr:xf h ok t xs cs Os):xf h' ok' t xs cs Os:=
 ⟨hr.1,hr.2.1,λi x hi=>by obtain⟨O,h1,h2⟩:=hr.2.2 i x hi;exact⟨O,h1,jK hok hh (λb hb=>hO b (dA.2 ⟨O,su h1,hb⟩)) h2⟩⟩
theorem xf.rep_all{h:Array Obj}{ok:Nat->Ty->Prop}{t:M}{x:t.den}{cs:List Value}(hr:oU h ok t none x cs []):∀n,xf h ok t (List.replicate n x) ((List.replicate n cs).flatten) (List.replicate n [])
 |0=>by simpa using xf.nil|n+1=>by have:=(xf.one hr).append (xf.rep_all hr n);simpa[jQ]using this
theorem xf.one_cell{h:Array Obj}{ok:Nat->Ty->Prop}{t:M} :∀{xs:List t.den} {cs:List Value} {Os:List (List Nat)},xf h ok t xs cs Os->∀v∈cs,v.oneCell' =true
 |[],cs,_,hr=>by have:=hr.1;simp at this;simp[this]|x::xs,cs,Os,hr=>by
  intro v hv;obtain⟨O,hO,h0⟩:=hr.2.2 0 x rfl;simp only[Nat.zero_mul,List.drop_zero]at h0;have hl:=hr.1;simp only[G5,J3,aW]at hl;have hl2:=hr.2.1;simp only[G5]at hl2;have hrest:xf h ok t xs (cs.drop t.size) (Os.drop 1):=by refine⟨by simp;omega,by simp;omega,λi y hi=>?_⟩;obtain⟨O',hO',this⟩:=hr.2.2 (i+1) y (by simpa using hi);rw[ae];refine⟨O',by rw[U6,Nat.add_comm];exact hO',?_⟩;rwa[show t.size+i*t.size=(i+1)*t.size by rw[J3];omega]
  rw[←iR t.size cs]at hv;rcases A8.1 hv with hv|hv
  ·exact wW h0 v hv
  ·exact xf.one_cell hrest v hv
theorem xf.arrs{h:Array Obj}{ok:Nat->Ty->Prop}{t:M}{xs:List t.den}{cs:List Value}{Os:List (List Nat)}(hr:xf h ok t xs cs Os){blk off cap:Nat}{c:Array Value}{T:TypeId}(hb:h[blk]? =some (.cells c T (0,0)))
  (hcap:xs.length<=cap) (hfit:off+cap*t.size<=c.size) (he:(c.toList.drop off).take (xs.length*t.size)=cs):BZ h t.size (λ_ x es O=>oU h ok t none x es O) xs Os (.arr blk off xs.length cap t.size):=by
 refine⟨rfl,rfl,hcap,hr.2.1,c,T,hb,hfit,λi x hi=>?_⟩;have hlt:=(Z4.1 hi).1;have hle:(i+1)*t.size<=xs.length*t.size:=G9 _ l7;rw[J3,aW]at hle;have hle2:xs.length*t.size<=cap*t.size:=G9 _ hcap;obtain⟨O,hO,h1⟩:=hr.2.2 i x hi;refine⟨_,O,hO,lV hb _ _ l7,?_⟩;rw[←he,jr,ik,ae]at h1;rwa[iT l7]at h1
theorem a0b{h:Array Obj}{ok:Nat->Ty->Prop}{t:M}{xs:List t.den}{Os:List (List Nat)}{blk off len cap sz:Nat}(k:BZ h t.size (λ_ x es O=>oU h ok t none x es O) xs Os (.arr blk off len cap sz)):
  ∃c T,h[blk]? =some (.cells c T (0,0))/\sz=t.size/\len=xs.length/\len<=cap/\off+cap*sz<=c.size/\xf h ok t xs ((c.toList.drop off).take (len*sz)) Os:=by
 obtain⟨rfl,rfl,h3,h7,c,T,hb,hf,hx⟩:=k;refine⟨c,T,hb,rfl,rfl,h3,hf,?_,h7,λi x hi=>?_⟩
 ·have:xs.length*t.size<=cap*t.size:=G9 _ h3;simp;omega
 ·obtain⟨es,O,hO,he,hr⟩:=hx i x hi;obtain⟨c',T',f',hb',hn',rfl⟩:=wz he;rw[hb]at hb';cases hb';have hlt:=(Z4.1 hi).1;have hle:(i+1)*t.size<=xs.length*t.size:=G9 _ l7;rw[J3,aW]at hle;rw[jr,ik,ae,iT l7];exact⟨O,hO,hr⟩
theorem a7N{α β:Type}(e:α=β)(e' :List α=List β):cast e' []=[]:=by subst e;rfl
theorem Wv{h:Array Obj}{ok:Nat->Ty->Prop}{C:Cx} :∀(m:M) (he:m.el=true) {zs:List V} {cs r:List Value},lC h ok m.ty m.ty.zero cs->gX C zs (cs++r)->Rw m zs=true->oU h ok m none (m.zero he) cs []
 | .dat t,_,_,_,_,hr,_,_=>⟨hr,rfl⟩| .unit,_,_,_,_,hr,_,_=>⟨hr,rfl⟩| .own t,he,zs,cs,r,hr,hz,hn=>by
  have ht:t.isEnt=false:=by simpa[M.el]using he
  obtain⟨a,cap,rfl,_⟩:=(Cf ht).1 hr;unfold Rw at hn;split at hn
  ·obtain⟨v,r',e,h1,_⟩:=hz;simp only[au,J4,I5]at e;obtain⟨rfl,rfl⟩:=e;exact⟨_,rfl,rfl,.nil,h1,⟨rfl,ht⟩,rfl⟩
  ·cases hn
 | .owns t,he,zs,cs,r,hr,hz,hn=>by
  obtain⟨a,cap,rfl,_⟩:=(Cf (M.ty_ent (m:=t) (by simpa[M.el]using he))).1 hr;unfold Rw at hn;split at hn
  ·obtain⟨v,r',e,h1,_⟩:=hz;simp only[au,J4,I5]at e;obtain⟨rfl,rfl⟩:=e;have he' :t.el=true:=by simpa[M.el]using he
   refine zA.2 ⟨he',.nil,_,[],rfl,h1,⟨?_,rfl⟩,rfl⟩;exact a7N (M.denEq t he').symm _
  ·cases hn
 | .pair p q,he,zs,cs,r,hr,hz,hn=>by
  obtain⟨c,d,rfl,h1,h2⟩:=hr;have he' :p.el=true/\q.el=true:=by simpa[M.el]using he
  have hp:=gB h1;rw[M.ty_size he'.1]at hp;unfold Rw at hn;split at hn
  ·rename_i r' hd;obtain⟨_,rfl⟩:=Ul _ _ _ hd;cases hb:Rw p zs<;>rw[hb]at hn
   ·cases hn
   ·have a1:=Wv p he'.1 (r:=d++r) h1 (by simpa using hz) hb;have hz' :=xB p.size hz;rw[show(c++d++r).drop p.size=d++r by rw[←hp,F6,List.drop_left]]at hz';have a2:=Wv q he'.2 (r:=r) h2 hz' hn;refine⟨c,d,[],[],rfl,rfl,?_,?_⟩
    ·have:=PO (M.denEq p he'.1).symm (M.denEq q he'.2).symm (M.denEq (.pair p q) he).symm (p.ty.zero,q.ty.zero);exact(congrArg (λz:p.den×q.den=>oU h ok p none z.1 c []) this).mpr a1
    ·have:=PO (M.denEq p he'.1).symm (M.denEq q he'.2).symm (M.denEq (.pair p q) he).symm (p.ty.zero,q.ty.zero);exact(congrArg (λz:p.den×q.den=>oU h ok q none z.2 d []) this).mpr a2
  ·cases hn
 | .box _,he,_,_,_,_,_,_=>by simp[M.el]at he| .ownb _,he,_,_,_,_,_,_=>by simp[M.el]at he| .cell _,he,_,_,_,_,_,_=>by simp[M.el]at he| .rp _,he,_,_,_,_,_,_=>by simp[M.el]at he| .fn _ _,he,_,_,_,_,_,_=>by simp[M.el]at he| .ifc _ _,he,_,_,_,_,_,_=>by simp[M.el]at he
theorem Jo(z:Array Value):∀n,(madeCells z (n*z.size)).toList=(List.replicate n z.toList).flatten:=by
 intro n;rcases iH z.size with h0|h0
 ·have:z=#[]:=by simpa using h0
  subst this;simp[madeCells]
 induction n with
 |zero=>simp[madeCells]|succ n ih=>
  rw[List.replicate_succ',jP,←ih];simp only[madeCells,qy,Array.toList_range,List.flatten_cons,List.flatten_nil,F7];rw[J3,aW,List.range_add,bV,qZ];congr 1;apply lS
  ·simp
  ·intro i h1 h2;simp at h1 h2;simp[Nat.mod_eq_of_lt h1,Nat.add_mod,h1,getElem!_pos]
theorem MI{E:Env}{t e:Nat}{u:Ty}(h:GN E t=some (e,u)):u.isEnt=false:=by
 unfold GN at h;split at h<;>try (cases h;done)
 split at h<;>try (cases h;done)
 split at h<;>try (cases h;done)
 split at h<;>try (cases h;done)
 rename_i u' _;cases hu:u'.isEnt
 ·revert h;generalize (Nat.beq _ _&&Nat.ble _ _)=b;cases b<;>simp[hu];rintro _ rfl;exact hu
 ·simp[hu]at h
theorem EG{X:Fx}(H:FxOk X){t e:Nat}{u:Ty}(h:GN X.E t=some (e,u)):
  ∃j z inf,X.P.underlying t=some (.slice e)/\TiOk X.P e j/\X.P.info? e=some inf/\inf.size=u.size/\j.size=u.size/\inf.bytes<=65536/\inf.zero=some z/\lC #[] (λ_ _=>False) u u.zero z.cells.toList:=by
 unfold GN at h;cases hi:dV X.E.tt t with
 |none=>simp[hi]at h|some i=>
  have htd:=(H.tt t i hi).td;simp only[hi]at h;cases hd:i.td<;>simp only[hd]at h<;>try (simp at h;done)
  rename_i e';rw[hd]at htd;cases hj:dV X.E.tt e' with
  |none=>simp[hj]at h|some j=>
   simp only[hj]at h;cases hy:j.ty with
   |none=>simp[hy]at h|some u' =>
    simp only[hy]at h;cases hb:(Nat.beq u'.size j.size&&Nat.ble j.bytes 65536&&!u'.isEnt)
    ·simp only[hb,cond_false]at h;cases h
    ·simp only[hb,cond_true,H7,jZ]at h;obtain⟨rfl,rfl⟩:=h;simp only[x9]at hb;have h1:=iO hb.1.1;have h2:=V8 hb.1.2;obtain⟨inf,a1,a2,a3,a4,a5⟩:=(H.tt e' j hj).info;obtain⟨b1,z,b2,b3⟩:=a5 u' hy;exact⟨j,z,inf,htd,H.tt _ _ hj,a1,l7,l7,l7,b2,b3⟩
section
variable {X:Fx} {cl ch:Nat} {S:Sm} {m:Mp} {ok:Nat->Ty->Prop} {a:Act} {w:World} {o:Oper}
theorem Yg{C:Cx}{t:Ty}{x:t.den}{cs:List Value}(h:lC #[] (λ_ _=>False) t x cs):lC C.h C.ok t x cs:=
 dP (λ_ _ h=>h.elim) (λ_ _ h=>h.elim) h
theorem Gi(H:FxOk X){q:Nat}{v vv:V}{Q:Unit->Sm->Prop}
  (hK:∀n,n=U1 q o.dst->CB*q<=n->n+64<=CB*q+CB->S (aO+n)= .undef->(fH X.E o.dst vv).post (upd S (aO+n) v) Q):
  (zD (U1 q o.dst) v (fH X.E o.dst vv)).post S Q:=by
 refine zq λhn=>?_;cases hd:o.dst with
 |none=>have hin:=rQ H (q:=q) none (λt h=>by cases h);rw[hd]at hn;have:=hK (U1 q none) (by rw[hd]) hin.1 hin.2 hn;rwa[hd]at this|some t=>
  cases hb:XV X.E t with
  |false=>unfold fH;simp only[hb,cond_false];trivial|true=>have hin:=rQ H (q:=q) (some t) (λt' h=>by cases h;exact(Bg hb).1);rw[hd]at hn;have:=hK (U1 q (some t)) (by rw[hd]) hin.1 hin.2 hn;rwa[hd]at this
theorem a6x(H:FxOk X){q:Nat}{v vv u:V}{Q:Unit->Sm->Prop}
  (hK:∀n,n=U1 q o.dst->CB*q<=n->n+64<=CB*q+CB->S (aO+n)= .undef->(Cmd.set (aO+(PG+n)) u (fH X.E o.dst vv)).post (upd S (aO+n) v) Q):
  (zD (U1 q o.dst) v (.set (aO+(PG+U1 q o.dst)) u (fH X.E o.dst vv))).post S Q:=by
 refine zq λhn=>?_;cases hd:o.dst with
 |none=>have hin:=rQ H (q:=q) none (λt h=>by cases h);rw[hd]at hn;have:=hK (U1 q none) (by rw[hd]) hin.1 hin.2 hn;rwa[hd]at this|some t=>
  cases hb:XV X.E t with
  |false=>refine lU ?_;unfold fH;simp only[hb,cond_false];trivial|true=>have hin:=rQ H (q:=q) (some t) (λt' h=>by cases h;exact(Bg hb).1);rw[hd]at hn;have:=hK (U1 q (some t)) (by rw[hd]) hin.1 hin.2 hn;rwa[hd]at this
theorem a3d(R:Rel X cl ch S m ok a w){w1:World}(hos:w1.os=w.os)(htp:w1.tape=w.tape)(hout:w1.output=w.output)(hh:w1.heap=w.heap)
  {u:Ty} (ht:u.isEnt=false) {xs:List u.den} {cs:List Value} {e:TypeId} {c:Array Value} {cap n:Nat} (hr:fO w.heap ok u xs cs)
  (hcap:xs.length<=cap) (hfit:cap*u.size<=c.size) (he:c.toList.take (xs.length*u.size)=cs) (hcl:cl<=n) (hch:n<ch) (hn:S (aO+n)= .undef):
  Rel X cl ch (upd S (aO+n) (.barr u xs)) (nR m n (.arr w.heap.size 0 xs.length cap u.size) []) ok a (w1.alloc (.cells c e)):=by
 have R1:Rel X cl ch S m ok a w1:=R.same hos htp hout hh;have hblk:(w1.alloc (.cells c e)).heap[w.heap.size]? =some (.cells c e (0,0)):=by rw[←hh];exact heap_alloc_new w1 _
 refine R1.new hn hcl hch A7 (by simp[Y6,hh]) ⟨_,eQ _ _ _ _,?_⟩;refine fO.arrOk (cs:=cs) ht (hr.mono (λ_ _ h=>h) (λb t hb=>?_)) hblk hcap l7 (by simpa using he);have:=R.okLt b t hb;show(w1.heap.push (.cells c e))[b]? =_;rw[hh];exact xU _ _ this
theorem Qp(H:FxOk X){q:Nat}(R:Rel X (CB*q) (CB*q+CB) S m ok a w){w1:World}(hos:w1.os=w.os)(htp:w1.tape=w.tape)(hout:w1.output=w.output)(hh:w1.heap=w.heap)
  {u:Ty} (ht:u.isEnt=false) {xs:List u.den} {cs:List Value} {e:TypeId} {c:Array Value} {cap:Nat} (hr:fO w.heap ok u xs cs)
  (hcap:xs.length<=cap) (hfit:cap*u.size<=c.size) (he:c.toList.take (xs.length*u.size)=cs) {w0:World} {m0:Mp} {ok0:Nat->Ty->Prop} (hm:∀k l,m0 k=some l->m k=some l) (hok:∀b t,ok0 b t->ok b t)
  (run:(execOp a.eval o).run X.P w0= .ok (.value (.slice (some ⟨w.heap.size,0,none⟩) xs.length cap)) (w1.alloc (.cells c e))):
  (zD (U1 q o.dst) (.barr u xs) (fH X.E o.dst (.own (U1 q o.dst) none))).post S (λ_ S' =>jL X (CB*q) (CB*q+CB) o a w0 m0 ok0 S'):=by
 refine Gi H λn e1 h1 h2 hn=>?_;rw[←e1];clear e1;generalize CB*q=Z at*;have R' :=a3d R hos htp hout hh ht (e:=e) hr hcap hfit he h1 (by show n<Z+1000000;change n+64<=Z+1000000 at h2;omega) hn;refine xJ H R' (λk l h=>?_) hok ⟨_,eQ _ _ _ _,rfl⟩ run;by_cases ek:k=n
 ·subst ek;have:=R.fresh k h1 hn;have h3:=hm _ _ h;rw[this]at h3;cases h3
 ·rw[kz _ _ _ ek];exact hm _ _ h
theorem Rt(R:Rel X cl ch S m ok a w){T:List Nat}(hT:Tk X S m ok w T){w1:World}(hos:w1.os=w.os)(htp:w1.tape=w.tape)(hout:w1.output=w.output)(hh:w1.heap=w.heap)
  {md:M} (hel:md.el=true) {xs:List md.den} {cs:List Value} {Os:List (List Nat)} {e:TypeId} {c:Array Value} {cap n:Nat} (hr:xf w.heap ok md xs cs Os) (hnd:Os.flatten.Nodup) (hO:∀b∈Os.flatten,b∈T)
  (hcap:xs.length<=cap) (hfit:cap*md.size<=c.size) (he:c.toList.take (xs.length*md.size)=cs) (hcl:cl<=n) (hch:n<ch) (hn:S (aO+n)= .undef):
  Rel X cl ch (upd S (aO+n) (.barrs md xs none)) (nR m n (.arr w.heap.size 0 xs.length cap md.size) Os.flatten) ok a (w1.alloc (.cells c e)):=by
 have R1:Rel X cl ch S m ok a w1:=R.same hos htp hout hh;have T1:Tk X S m ok w1 T:=⟨hT.nodup,λb hb=>by rw[hh];exact hT.free b hb⟩;have hblk:(w1.alloc (.cells c e)).heap[w.heap.size]? =some (.cells c e (0,0)):=by rw[←hh];exact heap_alloc_new w1 _
 have hold:∀b,b<w.heap.size->(w1.alloc (.cells c e)).heap[b]? =w.heap[b]?:=λb hb=>by show(w1.heap.push (.cells c e))[b]? =_;rw[hh];exact xU _ _ hb
 refine R1.newK T1 hn hcl hch A7 (by simp[Y6,hh]) hnd hO ⟨hel,_,Os,eQ _ _ _ _,?_,A7⟩;exact⟨xf.arrs (cs:=cs) (hr.mono (λ_ _ h=>h) (λb t hb=>hold b (R.okLt b t hb)) (λb hb=>hold b (hT.free b (hO b hb)).2.1)) hblk hcap l7 (by simpa using he),trivial⟩
theorem Vf(H:FxOk X){q:Nat}(R:Rel X (CB*q) (CB*q+CB) S m ok a w){T:List Nat}(hT:Tk X S m ok w T){w1:World}(hos:w1.os=w.os)(htp:w1.tape=w.tape)(hout:w1.output=w.output)(hh:w1.heap=w.heap)
  {md:M} (hel:md.el=true) {xs:List md.den} {cs:List Value} {Os:List (List Nat)} {e:TypeId} {c:Array Value} {cap:Nat} (hr:xf w.heap ok md xs cs Os) (hnd:Os.flatten.Nodup) (hO:∀b∈Os.flatten,b∈T)
  (hcap:xs.length<=cap) (hfit:cap*md.size<=c.size) (he:c.toList.take (xs.length*md.size)=cs) {w0:World} {m0:Mp} {ok0:Nat->Ty->Prop} (hm:∀k l,m0 k=some l->m k=some l) (hok:∀b t,ok0 b t->ok b t)
  (run:(execOp a.eval o).run X.P w0= .ok (.value (.slice (some ⟨w.heap.size,0,none⟩) xs.length cap)) (w1.alloc (.cells c e))):
  (zD (U1 q o.dst) (.barrs md xs none) (fH X.E o.dst (.own (U1 q o.dst) none))).post S (λ_ S' =>jL X (CB*q) (CB*q+CB) o a w0 m0 ok0 S'):=by
 refine Gi H λn e1 h1 h2 hn=>?_;rw[←e1];clear e1;generalize CB*q=Z at*;have R' :=Rt R hT hos htp hout hh (e:=e) hel hr hnd hO hcap hfit he h1 (by show n<Z+1000000;change n+64<=Z+1000000 at h2;omega) hn;refine xJ H R' (λk l h=>?_) hok ⟨_,eQ _ _ _ _,rfl⟩ run;by_cases ek:k=n
 ·subst ek;have:=R.fresh k h1 hn;have h3:=hm _ _ h;rw[this]at h3;cases h3
 ·rw[kz _ _ _ ek];exact hm _ _ h
theorem a1h(H:FxOk X){q:Nat}(R:Rel X (CB*q) (CB*q+CB) S m ok a w){T:List Nat}(hT:Tk X S m ok w T){w1:World}(hos:w1.os=w.os)(htp:w1.tape=w.tape)(hout:w1.output=w.output)(hh:w1.heap=w.heap)
  {md:M} (hel:md.el=true) {xs:List md.den} {cs:List Value} {Os:List (List Nat)} {e:TypeId} {c:Array Value} {cap:Nat} (hr:xf w.heap ok md xs cs Os) (hnd:Os.flatten.Nodup) (hO:∀b∈Os.flatten,b∈T)
  (hcap:xs.length<=cap) (hfit:cap*md.size<=c.size) (he:c.toList.take (xs.length*md.size)=cs) {w0:World} {m0:Mp} {ok0:Nat->Ty->Prop} (hm:∀k l,m0 k=some l->m k=some l) (hok:∀b t,ok0 b t->ok b t)
  (run:(execOp a.eval o).run X.P w0= .ok (.value (.slice (some ⟨w.heap.size,0,none⟩) xs.length cap)) (w1.alloc (.cells c e))):
  (zD (U1 q o.dst) (.barrs md xs none) (.set (aO+(PG+U1 q o.dst)) (.blen (x8 xs) md.size) (fH X.E o.dst (.own (U1 q o.dst) none)))).post S (λ_ S' =>jL X (CB*q) (CB*q+CB) o a w0 m0 ok0 S'):=by
 refine a6x H λn e1 h1 h2 hn=>?_;refine lU ?_;rw[←e1];clear e1;generalize CB*q=Z at*;have R' :=Rt R hT hos htp hout hh (e:=e) hel hr hnd hO hcap hfit he h1 (by show n<Z+1000000;change n+64<=Z+1000000 at h2;omega) hn;refine xJ H (R'.mark (lD _ _ _)) (λk l h=>?_) hok ⟨_,eQ _ _ _ _,rfl⟩ run;by_cases ek:k=n
 ·subst ek;have:=R.fresh k h1 hn;have h3:=hm _ _ h;rw[this]at h3;cases h3
 ·rw[kz _ _ _ ek];exact hm _ _ h
theorem Zc(H:FxOk X){q:Nat}(R:Rel X (CB*q) (CB*q+CB) S m ok a w){t:TypeId}{l c:Operand}(ho:o.op= .makeSlice t l c):(bZ X.E q o).post S (λ_ S' =>jL X (CB*q) (CB*q+CB) o a w m ok S'):=by
 unfold bZ;simp only[ho];split
 ·rename_i md hom;split<;>try trivial
  rename_i e u het;obtain⟨j,z,inf,hu,hj,h1,h2,h3,h4,h5,h6⟩:=EG H het;have hz:=gB h6;refine aB R λv hv=>?_;split<;>try trivial
  rename_i k n;refine gQ λhc=>?_;simp only[x9]at hc;obtain⟨⟨hs,hsz⟩,hza⟩:=hc;split<;>try trivial
  rename_i hel;obtain⟨hel,rfl⟩:=hel;refine gJ λxs hxs=>?_;have hec:a.eval c=a.eval l:=by
   unfold VO at hs;split at hs
   ·have:=iO hs;subst this;rfl
   ·cases hs
  unfold sU at hxs;split at hxs
  ·rename_i hh;cases hxs;have e1:=uq hv;have e2:=hec.trans e1;have hms:=M.ty_size hel;have hby:(inf.bytes:Int)*n<=65536*1073741824:=by
    have:inf.bytes*n.toNat<=65536*1073741824:=Nat.mul_le_mul h4 l7;have e:(n.toNat:Int)=n:=l7;rw[←e,←qX];generalize inf.bytes*n.toNat=p at*;omega
   have hrun:=run_make (P:=X.P) w t e inf z hu h1 h5 k k n n hh.1 (aV _) l7 l7;have hflat:=Jo z.cells n.toNat
   have hzs:z.cells.size=md.ty.size:=by simpa using hz
   have hzero:oU w.heap ok md none (md.zero hel) z.cells.toList []:=by
    unfold a5L at hza;rw[het]at hza;simp only at hza;cases hj2:dV X.E.tt e with
    |none=>rw[hj2]at hza;cases hza|some j2=>
     rw[hj2]at hza;simp only at hza;cases hb:Nat.beq j2.zero.length j2.size<;>rw[hb]at hza
     ·cases hza
     ·obtain⟨inf2,a1,a2,a3,a4,a5⟩:=(H.tt e j2 hj2).info;rw[h1]at a1;cases a1;obtain⟨z2,b1,b2⟩:=a4 (iO hb);rw[h5]at b1;cases b1;exact Wv md hel (r:=[]) (Yg (C:=⟨w.heap,ok,m⟩) h6) (by simpa using b2) hza
   refine a1h H R (T:=[]) Tk.nil rfl rfl rfl rfl (cs:=(List.replicate n.toNat z.cells.toList).flatten) (c:=madeCells z.cells (n.toNat*inf.size)) (cap:=n.toNat) (e:=e) hel (xf.rep_all hzero _) A7 A7 A7 (by simp[size_madeCells,h2,hms]) ?_ (λ_ _ h=>h) (λ_ _ h=>h) (w1:=w) ?_
   ·rw[h2,←hzs,hflat];rw[aJ (by simp[List.length_flatten,hzs,hms])]
   ·simp[execOp,ho,e1,e2,hrun]
  ·cases hxs
 split<;>try trivial
 rename_i e u het;obtain⟨j,z,inf,hu,hj,h1,h2,h3,h4,h5,h6⟩:=EG H het;have hz:=gB h6;have key:∀{k k' :IntKind} {n n' :Int},a.eval l= .int k n->a.eval c= .int k' n' ->0<=n->n<=n' ->n' <=1073741824->
   (zD (U1 q o.dst) (.barr u (List.replicate n.toNat u.zero)) (fH X.E o.dst (.own (U1 q o.dst) none))).post S (λ_ S' =>jL X (CB*q) (CB*q+CB) o a w m ok S'):=λ{k k' n n'} e1 e2 g0 g1 g2=>by
  have hby:(inf.bytes:Int)*n' <=65536*1073741824:=by have:inf.bytes*n'.toNat<=65536*1073741824:=Nat.mul_le_mul h4 l7;have e:(n'.toNat:Int)=n' :=l7;rw[←e,←qX];generalize inf.bytes*n'.toNat=p at*;omega
  have hrun:=run_make (P:=X.P) w t e inf z hu h1 h5 k k' n n' g0 g1 l7 l7;have hflat:=Jo z.cells n'.toNat
  have hzs:z.cells.size=u.size:=by simpa using hz
  refine Qp H R rfl rfl rfl rfl (MI het) (cs:=(List.replicate n.toNat z.cells.toList).flatten) (c:=madeCells z.cells (n'.toNat*inf.size)) (cap:=n'.toNat) (e:=e) (fO.rep_all (Yg (C:=⟨w.heap,ok,m⟩) h6) _) az (by simp[size_madeCells,h2]) ?_ (λ_ _ h=>h) (λ_ _ h=>h) (w1:=w) ?_
  ·rw[h2,←hzs,hflat];have:n'.toNat=n.toNat+(n'.toNat -n.toNat):=l7;rw[this,←List.replicate_append_replicate,jP,aC (by simp[List.length_flatten]),aJ (by simp[List.length_flatten])]
  ·simp[execOp,ho,e1,e2,hrun]
 refine aB R λv hv=>?_;split<;>try trivial
 rename_i k n;cases hs:VO l c
 ·simp only[cond_false];refine aB R λv' hv' =>?_;split<;>try trivial
  rename_i k' n';refine⟨λhr=>gJ λxs hxs=>?_,λ_=>trivial⟩;have hr' :=of_decide_eq_true (show decide (0<=n/\n<=n' /\n' <=1073741824)=true from hr);unfold sU at hxs;split at hxs
  ·cases hxs;exact key (uq hv) (uq hv') hr'.1 hr'.2.1 hr'.2.2
  ·cases hxs
 ·simp only[cond_true];refine gJ λxs hxs=>?_;have hec:a.eval c=a.eval l:=by
   unfold VO at hs;split at hs
   ·have:=iO hs;subst this;rfl
   ·cases hs
  unfold sU at hxs;split at hxs
  ·rename_i hh;cases hxs;exact key (uq hv) (hec.trans (uq hv)) hh.1 (aV _) hh.2
  ·cases hxs
end
end Go.GP
