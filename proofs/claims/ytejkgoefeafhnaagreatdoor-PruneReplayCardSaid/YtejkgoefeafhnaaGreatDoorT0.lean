import Derived.ProofKit
import Derived.Below
import Derived.Laws.CopyRow
import Derived.Laws.BytesArg
import Derived.Laws.Cells
import Derived.Laws.Append
import Derived.Laws.Strings
import Derived.Lib.SmallJoins
import Derived.Laws.MakeOwn
import Derived.ArgAppend
set_option linter.all false
namespace Go.GP
abbrev d1A:Type:=List Int
abbrev d1B:Type:=List Nat
abbrev d1C:Type:=List UInt8
abbrev d1D:Type:=List Value
abbrev d1E:Type:=List Bool
abbrev d1F:Type:=Option Bool
abbrev d1G:Type:=Option Int
variable {p:Prop}
theorem l7(h:p:=by omega):p:=h
theorem x9(h:p:=by simp):p:=h
theorem G7(h:p:=by decide):p:=h
theorem Z5(h:p:=by simp;omega):p:=h
theorem P7:True:=trivial
def U3:=@List.take_succ_eq_append_getElem
def U9:=@Int.mul_le_mul_of_nonneg_right
def aH:=@List.take_append_of_le_length
def aT:=@Array.getD_eq_getD_getElem?
def dD:=@Int.add_mul_emod_self_right
def bT:=@Array.getElem?_eq_some_iff
def J4:=@List.getElem?_append_right
def oL:=@Array.getElem?_append_left
def fU:=@Int.tmod_eq_emod_of_nonneg
def dH:=@List.findSome?_eq_none_iff
def U5:=@List.getElem?_append_left
def gp:=@List.drop_eq_getElem_cons
def pF:=@List.extract_eq_take_drop
def Y2:=@Array.getElem?_eq_getElem
def bW:=@Classical.byContradiction
def iZ:=@List.pairwise_iff_getElem
def xh:=@List.mem_take_iff_getElem
def pG:=@List.getElem?_eq_none_iff
def jh:=@List.getElem?_take_of_lt
def GY:=@Option.isSome_iff_exists
def lZ:=@List.getElem?_cons_zero
def U2:=@List.length_eq_zero_iff
def jC:=@List.getElem?_replicate
def dV:=@List.drop_eq_nil_of_le
def Y8:=@List.take_of_length_le
def su:=@List.pairwise_lt_range
def cZ:=@List.getElem?_set_self
def nP:=@List.filter_eq_nil_iff
def bH:=@Int.add_mul_ediv_right
def nO:=@Int.ediv_eq_zero_of_lt
def aK:=@List.mem_append_right
def ax:=@Nat.le_of_ble_eq_true
def dC:=@Array.getElem?_toList
def tV:=@List.perm_append_comm
def kF:=@List.set_append_right
def gI:=@List.take_append_drop
def tC:=@Array.getElem?_modify
def bQ:=@List.getElem?_eq_none
def aJ:=@List.length_filter_le
def oq:=@List.findSome?_append
def tK:=@List.countP_le_length
def tJ:=@Int.le_ediv_of_mul_le
def Y5:=@Int.ediv_mul_add_emod
def oh:=@Int.ediv_lt_of_lt_mul
def au:=@List.length_singleton
def tN:=@List.length_replicate
def I5:=@List.mem_append_left
def V4:=@List.mem_cons_of_mem
def G9:=@Nat.mul_le_mul_right
def uF:=@MapKept.run_checkKey
def Be:=@List.getElem?_zipIdx
def jq:=@List.getElem?_set_ne
def lT:=@List.replicate_succ
def lS:=@List.flatten_append
def X7:=@List.getElem_of_mem
def eG:=@Array.length_toList
def dn:=@List.map_congr_left
def aA:=@Int.toNat_of_nonneg
def di:=@List.getElem?_range
def F5:=@List.length_append
def Y7:=@List.getElem?_drop
def ae:=@List.getElem?_take
def nz:=@List.mem_cons_self
def D9:=@List.mem_singleton
def xk:=@List.set_cons_zero
def dL:=@Bool.false_eq_true
def jS:=@Nat.eq_zero_or_pos
def nC:=@List.zip_cons_cons
def af:=@List.pairwise_cons
def ny:=@List.filter_append
def U4:=@Int.emod_lt_of_pos
def jR:=@Int.mul_right_comm
def qK:=@List.countP_append
def O7:=@List.nodup_append
def eH:=@Bool.not_eq_true'
def G5:=@List.append_assoc
def J8:=@Result.andThen_ok
def O8:=@Option.some.injEq
def bu:=@List.ext_getElem?
def Z9:=@List.getElem?_set
def I8:=@List.getElem?_map
def eQ:=@List.size_toArray
def bz:=@List.length_range
def D8:=@Int.toNat_natCast
def eP:=@List.any_eq_false
def rY:=@Bool.not_eq_false
def rZ:=@List.getElem_take
def Y1:=@List.foldl_append
def fG:=@List.mem_flatten
def A8:=@Bool.and_eq_true
def aG:=@List.cons_append
def H9:=@List.length_cons
def uu:=@Array.toList_map
def oQ:=@List.ext_getElem
def oV:=@List.range'_succ
def bM:=@List.length_take
def aQ:=@List.take_length
def oU:=@List.length_drop
def lK:=@Nat.le_add_right
def lJ:=@List.all_eq_true
def G8:=@List.getElem_mem
def oZ:=@Option.bind_some
def dP:=@Option.getD_some
def uw:=@List.not_mem_nil
def bK:=@List.filter_cons
def FH:=@List.drop_length
def lI:=@Bool.not_eq_true
def Y6:=@List.any_eq_true
def yP:=@List.countP_cons
def fF:=@Int.ediv_le_self
def C9:=@List.mem_append
def H6:=@List.append_nil
def iG:=@Nat.le_max_left
def G6:=@List.nil_append
def O0:=@List.cons.injEq
def fV:=@Bool.eq_iff_iff
def iF:=@List.nodup_cons
def eX:=@Nat.min_eq_left
def bY:=@List.map_append
def vG:=@Int.natCast_mul
def P6:=@List.foldl_cons
def ji:=@List.length_set
def dG:=@List.length_nil
def H7:=@List.length_map
def eY:=@Option.map_some
def X3:=@List.range_succ
def kD:=@Bool.or_eq_true
def I7:=@List.mem_filter
def vJ:=@List.filter_nil
def I9:=@Option.some.inj
def vI:=@List.any_append
def vH:=@Int.natCast_pow
def W9:=@Int.emod_nonneg
def Z8:=@Int.ediv_nonneg
def jK:=@List.drop_take
def iR:=@List.take_take
def aO:=@List.drop_drop
def fP:=@List.nodup_nil
def P8:=@List.mem_range
def X5:=@Int.mul_nonneg
def lg:=@Int.mul_le_mul
def Sv:=@Bool.and_assoc
def D6:=@List.mem_cons
def jw:=@Nat.add_assoc
def jv:=@List.map_cons
def aP:=@List.cons.inj
def tu:=@Addr.mk.injEq
def tX:=@Nat.lt_irrefl
def mM:=@Prod.mk.injEq
def fK:=@Bool.true_and
def kE:=@List.any_cons
def jr:=@Bool.not_true
def kz:=@Bool.false_or
def tH:=@Bool.or_false
def Dj:=@List.map_take
def dX:=@Nat.sub_self
def vK:=@List.map_nil
def aI:=@Sem.run_pure
def H8:=@Sem.run_bind
def dW:=@Nat.add_zero
def jc:=@Addr.add_lit
def iH:=@Nat.zero_add
def qL:=@List.map_map
def U0:=@List.mem_map
def bJ:=@Nat.le_trans
def E9:=@Nat.le_refl
def P5:=@Nat.add_mul
def pI:=@Nat.zero_le
def nH:=@Nat.mul_one
def bZ:=@Nat.one_mul
def aX:=@Int.le_refl
def iY:=@Int.add_mul
def gm:=@Int.one_mul
def ng:=@Int.sub_mul
def kU:=@Int.neg_mul
def iC:=@Nat.blt_eq
def lX:=@Array.ext'
def iT:=@Int.not_lt
def lY:=@Int.not_le
def fH:=@Prod.ext
variable {i:Nat}
theorem X6{α:Type _}{l:List α}{a:α} :l[i]? =some a↔∃h:i<l.length,l[i]=a:=List.getElem?_eq_some_iff
theorem bn{α:Type _}{l:List α}(h:i<l.length):l[i]? =some l[i]:=List.getElem?_eq_getElem h
theorem jU{n m:Nat}(h:Nat.beq n m=true):n=m:=Nat.eq_of_beq_eq_true h
theorem kw{α:Type _}{l:List α}{a:α}(h:l[i]? =some a):a∈l:=List.mem_of_getElem? h
theorem qY{α:Type _}{l:List α}{a:α} :l.getD i a=l[i]?.getD a:=List.getD_eq_getElem?_getD
universe u
set_option linter.unusedVariables false
inductive Ty where
 |bool|int (k:IntKind)|str|sl (t:Ty)|prod (a b:Ty)|unit|ent (ka va:Bool) (k v:Ty)
def tbb(a b:Bool):Bool:=bif a then b else !b
theorem a9a:∀{a b:Bool},tbb a b=true->a=b:=by decide
theorem a6R:∀(a:Bool),tbb a a=true:=by decide
def Ty.beq:Ty->Ty->Bool
 | .bool,b=>match b with| .bool=>true|_=>false
 | .int k,b=>match b with| .int k' =>decide (k=k')|_=>false
 | .str,b=>match b with| .str=>true|_=>false
 | .sl t,b=>match b with| .sl u=>Ty.beq t u|_=>false
 | .prod p q,b=>match b with| .prod p' q' =>bif Ty.beq p p' then Ty.beq q q' else false|_=>false
 | .unit,b=>match b with| .unit=>true|_=>false
 | .ent x y p q,b=>match b with| .ent x' y' p' q' =>bif tbb x x' &&tbb y y' then(bif Ty.beq p p' then Ty.beq q q' else false)else false|_=>false
theorem Ty.beq_eq:∀{a b:Ty},Ty.beq a b=true->a=b
 | .bool,b,h=>by cases b<;>first|rfl|cases h
 | .int k,b,h=>by cases b<;>first|(cases h;done)|(rename_i k';have:=of_decide_eq_true (show decide (k=k')=true from h);subst this;rfl)
 | .str,b,h=>by cases b<;>first|rfl|cases h
 | .sl t,b,h=>by cases b<;>first|(cases h;done)|(rename_i u;have:=Ty.beq_eq (show Ty.beq t u=true from h);subst this;rfl)
 | .prod p q,b,h=>by
  cases b<;>try (cases h;done)
  rename_i p' q';cases hp:Ty.beq p p'
  .have h' :(bif Ty.beq p p' then Ty.beq q q' else false)=true:=h;rw[hp]at h';cases h'
  .have h' :(bif Ty.beq p p' then Ty.beq q q' else false)=true:=h;rw[hp]at h';rw[Ty.beq_eq hp,Ty.beq_eq (show Ty.beq q q' =true from h')]
 | .unit,b,h=>by cases b<;>first|rfl|cases h
 | .ent x y p q,b,h=>by
  cases b<;>try (cases h;done)
  rename_i x' y' p' q';have h0:(bif tbb x x' &&tbb y y' then(bif Ty.beq p p' then Ty.beq q q' else false)else false)=true:=h;cases hx:tbb x x'<;>cases hy:tbb y y'<;>rw[hx,hy]at h0<;>try (cases h0;done)
  cases hp:Ty.beq p p'<;>rw[hp]at h0
  .cases h0
  .rw[a9a hx,a9a hy,Ty.beq_eq hp,Ty.beq_eq (show Ty.beq q q' =true from h0)]
theorem Ty.beq_refl:∀(a:Ty),Ty.beq a a=true
 | .bool=>rfl| .int k=>by show decide (k=k)=true;simp| .str=>rfl| .sl t=>Ty.beq_refl t| .prod p q=>by show(bif Ty.beq p p then Ty.beq q q else false)=true;rw[Ty.beq_refl p,Ty.beq_refl q];rfl| .unit=>rfl| .ent x y p q=>by show(bif tbb x x&&tbb y y then(bif Ty.beq p p then Ty.beq q q else false)else false)=true;rw[a6R,a6R,Ty.beq_refl p,Ty.beq_refl q];rfl
instance:DecidableEq Ty:=λa b=>match h:Ty.beq a b with
 |true=> .isTrue (Ty.beq_eq h)|false=> .isFalse (λe=>by subst e;rw[Ty.beq_refl]at h;cases h)
@[reducible] def Ty.den:Ty->Type
 | .bool=>Bool| .int _=>Int| .str=>d1C| .sl t=>List t.den| .prod a b=>a.den×b.den| .unit=>Unit| .ent _ _ a b=>a.den×b.den
def Ty.isEnt:Ty->Bool| .ent ..=>true|_=>false
def Ty.size:Ty->Nat
 | .bool| .int _| .str| .sl _=>1| .prod a b=>a.size+b.size| .unit=>0| .ent _ _ a b=>a.size+b.size
def Ty.flat:Ty->Bool
 | .bool| .int _| .str| .unit=>true| .sl _=>false| .prod a b=>a.flat&&b.flat
 | .ent ..=>false
def Ty.zero:(t:Ty)->t.den
 | .bool=>false| .int _=>(0:Int)| .str=>[]| .sl _=>[]| .prod a b=>(a.zero,b.zero)| .unit=>()| .ent _ _ a b=>(a.zero,b.zero)
inductive M where
 |dat (t:Ty)|own (t:Ty)|pair (a b:M)|unit|box (m:M)
 |owns (el:M)|ownb (t:Ty)|rp (t:Ty)|fn (f:Nat) (ts:List Ty)|ifc (t:Nat) (m:M)|cell (n:Option d1F)
def M.beq:M->M->Bool
 | .dat t,b=>match b with| .dat u=>Ty.beq t u|_=>false
 | .own t,b=>match b with| .own u=>Ty.beq t u|_=>false
 | .pair p q,b=>match b with| .pair p' q' =>bif M.beq p p' then M.beq q q' else false|_=>false
 | .unit,b=>match b with| .unit=>true|_=>false
 | .owns m,b=>match b with| .owns m' =>M.beq m m'|_=>false
 |_,_=>false
theorem M.beq_eq:∀{a b:M},M.beq a b=true->a=b
 | .dat t,b,h=>by cases b<;>first|(cases h;done)|(rename_i u;have:=Ty.beq_eq (show Ty.beq t u=true from h);subst this;rfl)
 | .own t,b,h=>by cases b<;>first|(cases h;done)|(rename_i u;have:=Ty.beq_eq (show Ty.beq t u=true from h);subst this;rfl)
 | .pair p q,b,h=>by
  cases b<;>try (cases h;done)
  rename_i p' q';cases hp:M.beq p p'
  .have h' :(bif M.beq p p' then M.beq q q' else false)=true:=h;rw[hp]at h';cases h'
  .have h' :(bif M.beq p p' then M.beq q q' else false)=true:=h;rw[hp]at h';rw[M.beq_eq hp,M.beq_eq (show M.beq q q' =true from h')]
 | .unit,b,h=>by cases b<;>first|rfl|cases h
 | .owns m,b,h=>by cases b<;>first|(cases h;done)|(rename_i u;have:=M.beq_eq (show M.beq m u=true from h);subst this;rfl)
 | .box _,b,h=>by cases h| .ownb _,b,h=>by cases h| .rp _,b,h=>by cases h| .fn _ _,b,h=>by cases h| .ifc _ _,b,h=>by cases h| .cell _,b,h=>by cases h
@[reducible] def XA:List Ty->Type
 |[]=>Unit|[t]=>t.den|t::t' ::r=>t.den×XA (t' ::r)
@[reducible] def M.den:M->Type
 | .dat t=>t.den| .own t=>List t.den| .pair a b=>a.den×b.den| .unit=>Unit| .box m=>m.den| .owns el=>List el.den| .ownb t=>List t.den| .rp t=>t.den| .fn _ ts=>XA ts| .ifc _ m=>m.den| .cell _=>Unit
def M.size:M->Nat
 | .dat t=>t.size| .own _=>1| .pair a b=>a.size+b.size| .unit=>0| .box _=>1| .owns _| .ownb _| .rp _| .fn _ _| .ifc _ _| .cell _=>1
def M.el:M->Bool
 | .unit=>true| .dat t| .own t=> !t.isEnt| .owns m=>m.el| .pair a b=>a.el&&b.el|_=>false
def M.ty:M->Ty
 | .dat t=>t| .own t=> .sl t| .owns m=> .sl m.ty| .pair a b=> .prod a.ty b.ty|_=> .unit
theorem M.denEq:∀(m:M),m.el=true->m.den=m.ty.den
 | .dat _,_=>rfl| .own _,_=>rfl| .unit,_=>rfl| .owns m,h=>congrArg List (M.denEq m h)| .pair a b,h=>by
  have h' :a.el=true/\b.el=true:=by simpa[M.el]using h
  show(a.den×b.den)=(a.ty.den×b.ty.den);rw[M.denEq a h'.1,M.denEq b h'.2]
 | .box _,h=>by simp[M.el]at h| .ownb _,h=>by simp[M.el]at h| .rp _,h=>by simp[M.el]at h| .fn _ _,h=>by simp[M.el]at h| .ifc _ _,h=>by simp[M.el]at h| .cell _,h=>by simp[M.el]at h
def M.zero:(m:M)->m.el=true->m.den
 |m,h=>cast (M.denEq m h).symm m.ty.zero
abbrev MG:=Bool×M
@[reducible] def dR:List MG->Type
 |[]=>Unit|[m]=>m.2.den|m::m' ::r=>m.2.den×dR (m' ::r)
inductive V where
 |undef
 |un
 |b (x:Bool)|i (k:IntKind) (n:Int)|s (l:d1C)
 |nl
 |sl (t:Ty) (xs:List t.den)
 |own (bx:Nat) (vw:Option (Nat×Nat))
 |ptr (bx off:Nat)
 |ep (bx idx off:Nat)
 |dp (t:Ty) (x:t.den) (off:Nat)
 |agg (cs:List V)|tup (cs:List V)
 |glob (g:Nat)|fnv (f:Nat)|clos (f:Nat) (caps:List ((t:Ty)×t.den))|ifc (t:Nat) (v:V)
 |bcells (cs:List V)|barr (t:Ty) (xs:List t.den)|bfrz (t:Ty) (xs:List t.den)|biter (l:d1C) (pos:Nat)
 |barrs (el:M) (xs:List el.den) (hole:Option (Nat×Nat×Option Nat))|bfc (t:Ty) (x:t.den)
 |dead|gone (t:Ty)|blen (n:Int) (sz:Nat)
 |ne (b:Bool)
variable {α:Type}{β:Type}
def o5(o:Option α)(f:α->Option β):Option β:=match o with|some x=>f x|none=>none
def l9(b:Bool)(x y:α):α:=match b with|true=>x|false=>y
def E8(a b:Int):Bool:=decide (a<b)
def L8(a b:Int):Bool:=decide (a<=b)
def x8(a b:Int):Bool:=decide (a=b)
def jY(a b:Bool):Bool:=a==b
def F8(a:Bool):Bool:=!a
def iV(a b:Bool):Bool:=a&&b
def seq(a b:d1C):Bool:=decide (a=b)
def slt(a b:d1C):Bool:=Op.bytesLess a b
def wrap(k:IntKind)(n:Int):Int:=k.wrap n
def D5(k:IntKind)(a b:Int):Int:=k.wrap (a+b)
def L6(k:IntKind)(a b:Int):Int:=k.wrap (a -b)
def az(k:IntKind)(a b:Int):Int:=k.wrap (a*b)
def dM(k:IntKind)(a b:Int):Int:=k.wrap (a.tdiv b)
def fC(a b:Int):Int:=a.tmod b
def rC(k:IntKind)(a b:Int):d1G:=if b=0 then none else some (k.wrap (a.tdiv b))
def Bc(a b:Int):d1G:=if b=0 then none else some (a.tmod b)
def a5p(k:IntKind)(a b:Int):Int:=k.wrap (BitVec.ofInt k.bits a&&& BitVec.ofInt k.bits b).toNat
def ior(k:IntKind)(a b:Int):Int:=k.wrap (BitVec.ofInt k.bits a ||| BitVec.ofInt k.bits b).toNat
def b3T(k:IntKind)(a b:Int):Int:=k.wrap (BitVec.ofInt k.bits a^^^BitVec.ofInt k.bits b).toNat
def a9Q(k:IntKind)(a b:Int):Int:=k.wrap (BitVec.ofInt k.bits a&&& ~~~(BitVec.ofInt k.bits b)).toNat
def b3S(k:IntKind)(a b:Int):Int:=k.wrap (a*2^(min b.toNat k.bits))
def wB(k:IntKind)(a b:Int):Int:=a.fdiv (2^(min b.toNat k.bits))
def u_(k:IntKind)(a b:Int):d1G:=if b<0 then none else some (b3S k a b)
def v_(k:IntKind)(a b:Int):d1G:=if b<0 then none else some (wB k a b)
def ru(a b:Int):Int:=if b<a then b else a
def pW(a b:Int):Int:=if a<b then b else a
def o9(l:List α):Int:=l.length
def c7R(a b:d1C):Option d1C:=if a.length+b.length<=4611686018427387904 then some (a++b)else none
def Qk(a b:Nat):Bool:=Nat.beq a b
def inb(i n:Int):Bool:=decide (0<=i/\i<n)
def F9(l:List α)(i:Int):Option α:=if 0<=i then l[i.toNat]? else none
def sat(l:d1C)(i:Int):d1G:=if 0<=i then(l[i.toNat]?).map (λc=>(c.toNat:Int))else none
def V6(l:List α)(i:Nat):Option α:=l[i]?
def aU(l:List α)(i:Nat)(x:α):List α:=l.set i x
def Qc(l:List α)(lo hi:Int):Option (List α):=if 0<=lo/\lo<=hi/\hi<=l.length then some ((l.take hi.toNat).drop lo.toNat)else none
def qo(l:List α)(lo hi:Nat):List α:=(l.take hi).drop lo
def ui(lo hi n:Int):Bool:=decide (0<=lo/\lo<=hi/\hi<=n)
def cu(xs ys:List α):Option (List α):=if xs.length+ys.length<=1073741824 then some (xs++ys)else none
def pX(n:Int)(x:α):Option (List α):=if 0<=n/\n<=1073741824 then some (List.replicate n.toNat x)else none
def V9(i:Int):Nat:=i.toNat
def d1x(n:Int):UInt8:=UInt8.ofNat n.toNat
def b3q(l:d1A):d1C:=l.map d1x
def Qi{α β:Type}(eq:α->α->Bool):List (α×β)->α->β->β
 |[],_,z=>z|p::r,k,z=>bif eq k p.1 then p.2 else Qi eq r k z
def Qj{α β:Type}(eq:α->α->Bool):List (α×β)->α->Bool
 |[],_=>false|p::r,k=>bif eq k p.1 then true else Qj eq r k
def SX{α β:Type}(eq:α->α->Bool):List (α×β)->α->β->List (α×β)
 |[],k,x=>[(k,x)]|p::r,k,x=>bif eq k p.1 then(k,x)::r else p::SX eq r k x
def a5I(eq:α->α->Bool)(l:List (α×β))(k:α)(z:β):β:=Qi eq l k z
def a3w(eq:α->α->Bool)(l:List (α×β))(k:α):Bool:=Qj eq l k
def N_(eq:α->α->Bool)(l:List (α×β))(k:α)(x:β):List (α×β):=SX eq l k x
def keq:(t:Ty)->t.den->t.den->Bool
 | .bool=>λa b=>jY a b
 | .int _=>λa b=>x8 a b
 | .str=>λa b=>seq a b
 | .prod p q=>λa b=>iV (keq p a.1 b.1) (keq q a.2 b.2)
 |_=>λ_ _=>true
def b1d{α:Type}(eq:α->α->Bool):List α->List α->Bool
 |[],[]=>true|a::r,b::q=>eq a b&&b1d eq r q|_,_=>false
def Pv:(t:Ty)->t.den->t.den->Bool
 | .bool=>λa b=>tbb a b
 | .int _=>λa b=>decide (a=b)
 | .str=>λa b=>decide (a=b)
 | .sl t=>λa b=>b1d (Pv t) a b
 | .prod p q=>λa b=>Pv p a.1 b.1&&Pv q a.2 b.2
 | .unit=>λ_ _=>true
 | .ent _ _ p q=>λa b=>Pv p a.1 b.1&&Pv q a.2 b.2
def deq(t:Ty)(a b:t.den):Bool:=Pv t a b
inductive Out (σ ε ρ:Type) where
 |nx (s:σ)|ex (e:ε)|rt (r:ρ)
variable {σ:Type}{ε:Type}
def aj(o:σ⊕ε)(f:σ->α)(g:ε->α):α:=match o with| .inl s=>f s| .inr e=>g e
def rH{σ ε ρ:Type}(f:σ->Option (Out σ ε ρ)):Nat->σ->Option (ε⊕ρ)
 |0,_=>none
 |n+1,s=>match f s with
  |some (.nx s')=>rH f n s'|some (.ex e)=>some (.inl e)|some (.rt r)=>some (.inr r)|none=>none
def lU{σ ε:Type}(f:σ->Option (σ⊕ε)):Nat->σ->Option ε
 |0,_=>none
 |n+1,s=>match f s with
  |some (.inl s')=>lU f n s'|some (.inr e)=>some e|none=>none
def jb:Nat:=18446744073709551616
variable {ρ:Type}
def ah(f:σ->Option (Out σ ε ρ))(s:σ):Option (ε⊕ρ):=rH f jb s
def aB(f:σ->Option (σ⊕ε))(s:σ):Option ε:=lU f jb s
inductive Cmd (α:Type):Type 1 where
 |ret (x:α)
 |fail
 |get (k:Nat) (c:V->Cmd α)
 |set (k:Nat) (v:V) (c:Cmd α)
 |opt {β:Type} (o:Option β) (c:β->Cmd α)
 |br (b:Bool) (c d:Cmd α)
inductive Ent where
 |kv (k:Nat) (v:V)|mask (lo hi:Nat)
abbrev St:=List Ent
def gV:St->Nat->V
 |[],_=> .undef| .kv k v::r,n=>bif Nat.beq k n then v else gV r n| .mask lo hi::r,n=>bif Nat.ble lo n&&Nat.blt n hi then .undef else gV r n
abbrev Tr:=d1B×d1B
variable {R:Type}
def V.force(v:V)(K:V->R):R:=
 match v with
 | .undef=>K .undef| .un=>K .un| .b x=>K (.b x)
 | .i k n=>match k with
  | .i8=>K (.i .i8 n)| .i16=>K (.i .i16 n)| .i32=>K (.i .i32 n)| .i64=>K (.i .i64 n)| .u8=>K (.i .u8 n)| .u16=>K (.i .u16 n)| .u32=>K (.i .u32 n)| .u64=>K (.i .u64 n)
 | .s l=>K (.s l)| .nl=>K .nl| .ne z=>K (.ne z)| .sl t xs=>K (.sl t xs)
 | .own bx vw=>match vw with|none=>K (.own bx none)|some p=>K (.own bx (some p))
 | .ptr bx off=>K (.ptr bx off)| .ep bx idx off=>K (.ep bx idx off)| .dp t x off=>K (.dp t x off)| .agg cs=>K (.agg cs)| .tup cs=>K (.tup cs)| .glob g=>K (.glob g)| .fnv f=>K (.fnv f)| .clos f bs=>K (.clos f bs)
 | .ifc t v=>v.force λv=>K (.ifc t v)
 | .barrs t xs h=>match h with|none=>K (.barrs t xs none)|some (p1,p2,p3)=>match p3 with|none=>K (.barrs t xs (some (p1,p2,none)))|some p3=>K (.barrs t xs (some (p1,p2,some p3)))
 | .bfc t x=>K (.bfc t x)| .bcells cs=>K (.bcells cs)| .barr t xs=>K (.barr t xs)| .bfrz t xs=>K (.bfrz t xs)| .biter l p=>K (.biter l p)| .dead=>K .dead| .gone t=>K (.gone t)| .blen n sz=>K (.blen n sz)
def WH{R:Type} :List V->(List V->R)->R
 |[],K=>K []
 |v::r,K=>v.force λv' =>WH r λr' =>K (v' ::r')
def V.force2(v:V)(K:V->R):R:=
 v.force λv=>match v with
  | .agg cs=>WH cs λcs=>K (.agg cs)
  | .bcells cs=>WH cs λcs=>K (.bcells cs)
  | .tup cs=>WH cs λcs=>K (.tup cs)|v=>K v
def Cmd.runK :Cmd α->St->Tr->(α->St->Tr->Option R)->Option R
 | .ret x,s,t,K=>K x s t| .fail,_,_,_=>none
 | .get k c,s,t,K=>(gV s k).force λv=>(c v).runK s (k::t.1,t.2) K
 | .set k v c,s,t,K=>v.force2 λv=>c.runK (.kv k v::s) (t.1,k::t.2) K
 | .opt o c,s,t,K=>o5 o λx=>(c x).runK s t K| .br b c d,s,t,K=>l9 b (c.runK s t K) (d.runK s t K)
def Cmd.bind :Cmd α->(α->Cmd β)->Cmd β
 | .ret x,f=>f x| .fail,_=> .fail
 | .get k c,f=> .get k λv=>(c v).bind f| .set k v c,f=> .set k v (c.bind f)
 | .opt o c,f=> .opt o λx=>(c x).bind f| .br b c d,f=> .br b (c.bind f) (d.bind f)
inductive TD where
 |bool|int (k:IntKind)|str
 |sl (elem:Nat)|ptr (elem:Nat)
 |struct (fs:List (Nat×Nat))
 |arr (n elem:Nat)
 |map (key elem:Nat)
 |other
structure TI where
 size:Nat
 bytes:Nat
 td:TD
 ty:Option Ty
 zero:List V
def gB{α:Type} :List (Nat×α)->Nat->Option α
 |[],_=>none|(k,v)::r,n=>bif Nat.beq k n then some v else gB r n
structure FSpec where
 ps:List MG
 rs:List MG
 outs:List MG
 fn:dR ps->Option (dR (rs++outs))
structure Env where
 nt:Nat
 eqs:List (Nat×List Ty)
 tt:List (Nat×TI)
 gl:List (Nat×(t:Ty)×List t.den)
 fs:List (Nat×FSpec)
 om:List (Nat×M):=[]
 tk:d1B:=[]
 ms:List ((Nat×String)×Nat×Option Nat):=[]
 kp:d1B:=[]
 rc:d1B:=[]
abbrev bV:Nat:=1000000
abbrev CB:Nat:=1000000
abbrev Wh:Nat:=1000000000000
def Ty.castL{R:Type u}(a b:Ty)(xs:List a.den)(k:List b.den->R)(f:R):R:=if h:a=b then k (h▸xs)else f
def a1M{R:Type u}(a b:Ty)(x:a.den)(k:b.den->R)(f:R):R:=if h:a=b then k (h▸x)else f
def flat:(t:Ty)->t.den->List V->List V
 | .bool,x,r=> .b x::r| .int k,n,r=> .i k n::r| .str,l,r=> .s l::r| .sl t,xs,r=> .sl t xs::r| .prod a b,x,r=>flat a x.1 (flat b x.2 r)| .unit,_,r=>r| .ent _ _ a b,x,r=>flat a x.1 (flat b x.2 r)
def kN(vw:Option (Nat×Nat))(xs:List α):List α:=match vw with|none=>xs|some (lo,hi)=>qo xs lo hi
def OZ:(m:M)->m.den->List V->List V
 | .dat t,x,r=>flat t x r| .pair a b,x,r=>OZ a x.1 (OZ b x.2 r)| .unit,_,r=>r|_,_,r=> .undef::r
def a9E{R:Type u}(a b:M)(xs:List a.den)(k:List b.den->R)(f:R):R:=match h:M.beq a b with
 |true=>k (M.beq_eq h▸xs)|false=>f
def a7z{R:Type u}(m:M)(t:Ty)(xs:List m.den)(k:List t.den->R)(f:R):R:=
 if h:m.el=true/\m.ty=t then k (cast (congrArg List ((M.denEq m h.1).trans (congrArg Ty.den h.2))) xs)else f
def M.owned:M->List Ty
 | .own t=>[t]| .owns m=>m.ty::m.owned| .pair a b=>a.owned++b.owned|_=>[]
def a4A(ln:Ty->Bool):List Ty->Bool|[]=>true|t::r=>bif ln t then a4A ln r else false
def rf{α:Type}(ln:Ty->Bool):(t:Ty)->List V->(t.den->List V->Cmd α)->Cmd α
 | .bool,cs,K=>match cs with| .b x::r=>K x r|_=> .fail
 | .int k,cs,K=>match cs with| .i k' n::r=>(bif decide (k=k')then K n r else Cmd.fail)|_=> .fail
 | .str,cs,K=>match cs with| .s l::r=>K l r|_=> .fail
 | .prod a b,cs,K=>rf ln a cs λx r=>rf ln b r λy r' =>K (x,y) r'| .unit,cs,K=>K () cs| .ent ..,_,_=> .fail
 | .sl t,cs,K=>match cs with
  | .nl::r=>bif t.isEnt then .fail else K [] r| .sl t' xs::r=>Ty.castL t' t xs (λys=>K ys r) Cmd.fail
  | .own bx vw::r=> .get (bV+bx) λ
   | .barr t' xs=>Ty.castL t' t xs (λys=>bif ln t then K (kN vw ys) r else Cmd.set (bV+bx) (.bfrz t ys) (K (kN vw ys) r)) Cmd.fail| .bfrz t' xs=>Ty.castL t' t xs (λys=>K (kN vw ys) r) Cmd.fail| .barrs el xs none=>a7z el t xs (λys=>bif ln t&&a4A ln el.owned then K (kN vw ys) r else Cmd.set (bV+bx) (.bfrz t ys) (K (kN vw ys) r)) Cmd.fail|_=> .fail
  |_=> .fail
def FD:Ty->Bool:=λ_=>false
def a5X(t:Ty)(v:V)(K:List t.den->Cmd α):Cmd α:=match v with
 | .nl=>bif t.isEnt then .fail else K []| .ne _=>bif t.isEnt then .fail else K []| .sl t' xs=>Ty.castL t' t xs K Cmd.fail
 | .own bx vw=> .get (bV+bx) λ
  | .barr t' xs=>Ty.castL t' t xs (λys=>K (kN vw ys)) Cmd.fail| .bfrz t' xs=>Ty.castL t' t xs (λys=>K (kN vw ys)) Cmd.fail|_=> .fail
 |_=> .fail
def rpC(t:Ty)(v:V)(K:t.den->Cmd α):Cmd α:=match v with
 | .dp t' x 0=>a1M t' t x K .fail
 | .ptr bx 0=> .get (bV+bx) λ
  | .bfc t' x=>a1M t' t x K .fail
  | .bcells bs=>rf FD t bs λx q=>(match q with
   |[]=> .get (bV+bx) λ
    | .bcells _=>Cmd.set (bV+bx) (.bfc t x) (K x)|_=> .fail
   |_=> .fail)
  |_=> .fail
 |_=> .fail
def TB{α:Type} :(ts:List Ty)->List ((t:Ty)×t.den)->(XA ts->Cmd α)->Cmd α
 |[],cs,K=>match cs with|[]=>K ()|_=> .fail
 |[t],cs,K=>match cs with|[⟨t',x⟩]=>a1M t' t x K .fail|_=> .fail
 |t::t' ::r,cs,K=>match cs with
  |⟨u,x⟩::cs=>a1M u t x (λx=>TB (t' ::r) cs λy=>K (x,y)) .fail|[]=> .fail
def Xz:(ts:List Ty)->XA ts->List ((t:Ty)×t.den)
 |[],_=>[]|[t],x=>[⟨t,x⟩]|t::t' ::r,x=>⟨t,x.1⟩::Xz (t' ::r) x.2
def exM{α:Type}(ln:Ty->Bool):(m:M)->List V->(m.den->List V->Cmd α)->Cmd α
 | .dat t,cs,K=>rf ln t cs K
 | .own t,cs,K=>match cs with
  | .nl::r=>bif t.isEnt then .fail else K [] r
  | .own bx vw::r=> .get (bV+bx) λ
   | .barr t' xs=>Ty.castL t' t xs (λys=>Cmd.set (bV+bx) .dead (K (kN vw ys) r)) Cmd.fail|_=> .fail
  |_=> .fail
 | .pair a b,cs,K=>exM FD a cs λx r=>exM FD b r λy r' =>K (x,y) r'| .unit,cs,K=>K () cs
 | .box m,cs,K=>match cs with
  | .ptr bx 0::r=> .get (bV+bx) λ
   | .bcells bs=>Cmd.set (bV+bx) .dead (exM FD m bs λx q=>match q with|[]=>K x r|_=> .fail)|_=> .fail
  |_=> .fail
 | .owns m,cs,K=>match cs with
  | .nl::r=>bif m.el then K [] r else .fail
  | .own bx none::r=> .get (bV+bx) λ
   | .barrs m' xs none=>a9E m' m xs (λys=>Cmd.set (bV+bx) .dead (K ys r)) Cmd.fail|_=> .fail
  |_=> .fail
 | .ownb t,cs,K=>match cs with
  | .nl::r=>bif t.isEnt then .fail else K [] r
  | .own bx none::r=> .get (bV+bx) λ
   | .barr t' xs=>Ty.castL t' t xs (λys=>Cmd.set (bV+bx) (.gone t) (K ys r)) Cmd.fail|_=> .fail
  |_=> .fail
 | .rp t,cs,K=>match cs with
  |v::r=>rpC t v λx=>K x r|_=> .fail
 | .fn f ts,cs,K=>match cs with
  | .clos g caps::r=>bif Nat.beq g f then TB ts caps λx=>K x r else .fail
  | .fnv g::r=>bif Nat.beq g f then TB ts [] λx=>K x r else .fail|_=> .fail
 | .ifc t m,cs,K=>match cs with
  | .ifc t' v::r=>bif Nat.beq t' t then exM FD m [v] λx q=>(match q with|[]=>K x r|_=> .fail)else .fail|_=> .fail
 | .cell (some none),cs,K=>match cs with
  | .nl::r=>K () r|_=> .fail
 | .cell (some (some b)),cs,K=>match cs with
  | .ne true::r=>bif b then K () r else .fail| .ne false::r=>bif b then .fail else K () r|_=> .fail
 | .cell none,cs,K=>match cs with
  |_::r=>K () r|_=> .fail
def cellsOf(v:V):List V:=match v with| .agg cs=>cs|v=>[v]
def Bo(n:Nat)(v:V)(K:Cmd α):Cmd α:=.get (bV+n) λ
 | .undef=> .set (bV+n) v K|_=> .fail
def emM{α:Type} :(m:M)->m.den->Nat->List V->(List V->Nat->Cmd α)->Cmd α
 | .dat t,x,n,r,K=>K (flat t x r) n| .own t,xs,n,r,K=>Bo n (.barr t xs) (K (.own n none::r) (n+1))
 | .pair a b,x,n,r,K=>emM b x.2 n r λr' n' =>emM a x.1 n' r' K| .unit,_,n,r,K=>K r n
 | .box m,x,n,r,K=>emM m x (n+1) [] λcs n' =>Bo n (.bcells cs) (K (.ptr n 0::r) n')| .owns m,xs,n,r,K=>Bo n (.barrs m xs none) (.set (bV+(Wh+n)) (.blen (o9 xs) m.size) (K (.own n none::r) (n+1)))| .ownb t,xs,n,r,K=>Bo n (.barr t xs) (K (.own n none::r) (n+1))| .rp t,x,n,r,K=>K (.dp t x 0::r) n| .fn f ts,x,n,r,K=>K (.clos f (Xz ts x)::r) n
 | .ifc t m,x,n,r,K=>emM m x n [] λcs n' =>match cs with|[c]=>K (.ifc t c::r) n'|_=> .fail
 | .cell (some none),_,n,r,K=>K (.nl::r) n| .cell (some (some b)),_,n,r,K=>K (.ne b::r) n| .cell none,_,n,r,K=>K (.undef::r) n
structure Sig where
 ms:List (Nat×MG)
 als:List (Nat×Nat)
@[reducible] def ul (s:Sig):Type:=dR (s.ms.map (·.2))
def ZE(ag:Bool)(v:V)(K:List V->Cmd α):Cmd α:=match ag,v with
 |true,.agg cs=>K cs|true,_=> .fail|false,.agg _=> .fail|false,.tup _=> .fail|false,.undef=> .fail|false,.un=> .fail|false,v=>K [v]
def NK(v:V)(K:List V->Cmd α):Cmd α:=match v with
 | .agg cs=>K cs| .tup _=> .fail| .undef=> .fail| .un=> .fail|v=>K [v]
def M.isDat:M->Bool| .dat _=>true|_=>false
def a_(ln:Ty->Bool)(m:MG)(v:V)(K:m.2.den->Cmd α):Cmd α:=
 ZE m.1 v λcs=>exM ln m.2 cs λx q=>match q with|[]=>K x|_=> .fail
def SQ{α:Type}(ln:Ty->Bool):(ms:List MG)->List V->(dR ms->Cmd α)->Cmd α
 |[],vs,K=>match vs with|[]=>K ()|_=> .fail
 |[m],vs,K=>match vs with
  |[v]=>a_ ln m v K|_=> .fail
 |m::m' ::r,vs,K=>match vs with
  |v::vs=>bif m.2.isDat then SQ ln (m' ::r) vs λy=>a_ ln m v λx=>K (x,y)
   else a_ ln m v λx=>SQ ln (m' ::r) vs λy=>K (x,y)
  |[]=> .fail
def a3j{α:Type} :d1B->(List V->Cmd α)->Cmd α
 |[],K=>K []
 |s::r,K=>bif Nat.blt s bV then .get s λv=>a3j r λvs=>K (v::vs)else .fail
def b9Q:V->V->Bool
 | .own a none,.own b none=>Nat.beq a b|_,_=>false
def b7V{α:Type} :List (Nat×Nat)->Cmd α->Cmd α
 |[],K=>K
 |(n,k)::r,K=>bif Nat.blt n bV&&Nat.blt k bV then .get n λv=> .get k λu=>bif b9Q v u then b7V r K else .fail else .fail
def b3H(s:Sig):Cmd (ul s):=b7V s.als (a3j (s.ms.map (·.1)) λvs=>SQ FD (s.ms.map (·.2)) vs .ret)
def mkV(ag:Bool)(cs:List V):V:=match ag,cs with|true,cs=> .agg cs|false,[v]=>v|false,_=> .undef
def SL{α:Type} :(ms:List MG)->dR ms->Nat->(List V->Nat->Cmd α)->Cmd α
 |[],_,n,K=>K [] n
 |[m],x,n,K=>emM m.2 x n [] λcs n' =>K [mkV m.1 cs] n'
 |m::m' ::r,x,n,K=>emM m.2 x.1 n [] λcs n' =>SL (m' ::r) x.2 n' λvs n'' =>K (mkV m.1 cs::vs) n''
def a0C:d1B->List V->Cmd Unit
 |[],[]=> .ret ()|n::ns,v::vs=>bif Nat.blt n bV then .set n v (a0C ns vs)else .fail|_,_=> .fail
def Zb:d1B->List V->Cmd Unit->Cmd Unit
 |[],[],K=>K|n::ns,v::vs,K=>bif Nat.blt n bV then .set n v (Zb ns vs K)else .fail|_,_,_=> .fail
def a4j:List (Nat×Nat)->Cmd Unit
 |[]=> .ret ()
 |(n,k)::r=>bif Nat.blt n bV&&Nat.blt k bV then .get k λv=> .set n v (a4j r)else .fail
def b3C(s:Sig)(x:ul s)(nb lim:Nat):Cmd Unit:=
 SL (s.ms.map (·.2)) x nb λvs n=>bif Nat.ble n lim then Zb (s.ms.map (·.1)) vs (a4j s.als)else .fail
def a7p:Value->V
 | .bool b=> .b b| .int k n=> .i k n| .string s=> .s s.data.toList| .slice none 0 0=> .nl|_=> .undef
def uG(x:Operand)(K:V->Cmd α):Cmd α:=
 match x with
 | .tmp t=>bif Nat.blt t bV then .get t K else .fail| .const v=>K (a7p v)| .global g=>K (.glob g)| .func f=>K (.fnv f)
def Yd{α:Type} :List Operand->(List V->Cmd α)->Cmd α
 |[],K=>K []
 |x::r,K=>uG x λv=>Yd r λvs=>K (v::vs)
def ZV(n:Nat)(cs:List V):Option (List V):=match n,cs with
 |0,cs=>some cs|n+1,_::cs=>ZV n cs|_+1,[]=>none
def a6Q{R:Type u}(n:Nat)(cs:List V)(K:List V->R)(f:R):R:=match n,cs with
 |0,_=>K []|n+1,c::cs=>a6Q n cs (λr=>K (c::r)) f|_+1,[]=>f
def a1B{R:Type u}(off n:Nat)(cs:List V)(K:List V->R)(f:R):R:=match ZV off cs with|some r=>a6Q n r K f|none=>f
def Xd{R:Type u}(off:Nat)(vs cs:List V)(K:List V->R)(f:R):R:=match off,vs,cs with
 |0,[],cs=>K cs|0,v::vs,_::cs=>Xd 0 vs cs (λr=>K (v::r)) f|n+1,vs,c::cs=>Xd n vs cs (λr=>K (c::r)) f|_,_,[]=>f
def IX:Operand->Bool
 | .const (.int _ n)=>decide (n=0)|_=>true
def MW:Operand->Bool
 | .const (.int _ n)=>decide (n<0)|_=>true
def eq1:V->V->d1F
 | .b x,.b y=>some (jY x y)| .i j x,.i k y=>bif decide (j=k)then some (x8 x y)else none| .s x,.s y=>some (seq x y)|_,_=>none
def Eh:List V->List V->d1F
 |[],[]=>some true
 |a::r,b::q=>match eq1 a b with
  |none=>none
  |some e=>match r,q with
   |[],[]=>some e|_,_=>(match Eh r q with|some e' =>some (iV e e')|none=>none)
 |_,_=>none
def Fe:List Ty->List V->Bool
 |[],[]=>true| .bool::ts,.b _::cs=>Fe ts cs| .int k::ts,.i k' _::cs=>decide (k=k')&&Fe ts cs| .str::ts,.s _::cs=>Fe ts cs|_,_=>false
def Jz(n:Nat):d1B->Bool|[]=>false|k::r=>bif Nat.beq k n then true else Jz n r
def b4q(E:Env)(t:Nat)(op:BinOp)(b:Bool)(K:V->Cmd α):Cmd α:=
 match gB E.tt t with
 |some i=>match i.td,op with
  | .sl _,.eql=>K (.b b)| .sl _,.neq=>K (.b (F8 b))|_,_=> .fail
 |none=> .fail
def PH(E:Env)(t:Nat)(op:BinOp)(yc:Operand)(x y:V)(K:V->Cmd α):Cmd α:=
 match x,y with
 | .i k a,.i k' b=>
  match op with
  | .shl=>bif MW yc then Cmd.opt (u_ k a b) λr=>K (.i k r)else K (.i k (b3S k a b))
  | .shr=>bif MW yc then Cmd.opt (v_ k a b) λr=>K (.i k r)else K (.i k (wB k a b))|_=>
  bif decide (k=k')then
   match op with
   | .add=>K (.i k (D5 k a b))| .sub=>K (.i k (L6 k a b))| .mul=>K (.i k (az k a b))
   | .quo=>bif IX yc then Cmd.opt (rC k a b) λr=>K (.i k r)else K (.i k (dM k a b))
   | .rem=>bif IX yc then Cmd.opt (Bc a b) λr=>K (.i k r)else K (.i k (fC a b))| .and=>K (.i k (a5p k a b))| .or=>K (.i k (ior k a b))| .xor=>K (.i k (b3T k a b))| .andNot=>K (.i k (a9Q k a b))| .eql=>K (.b (x8 a b))| .neq=>K (.b (F8 (x8 a b)))| .lss=>K (.b (E8 a b))| .leq=>K (.b (L8 a b))| .gtr=>K (.b (E8 b a))| .geq=>K (.b (L8 b a))|_=> .fail
  else .fail
 | .s a,.s b=>
  match op with
  | .add=>Cmd.opt (c7R a b) λr=>K (.s r)| .eql=>K (.b (seq a b))| .neq=>K (.b (F8 (seq a b)))| .lss=>K (.b (slt a b))|_=> .fail
 | .b a,.b b=>
  match gB E.tt t with
  |some i=>match i.td,op with
   | .bool,.eql=>K (.b (jY a b))| .bool,.neq=>K (.b (F8 (jY a b)))|_,_=> .fail
  |none=> .fail
 | .agg xs,.agg ys=>
  match gB E.eqs t with
  |some sh=>bif Fe sh xs&&Fe sh ys then(match op,Eh xs ys with
   | .eql,some e=>K (.b e)| .neq,some e=>K (.b (F8 e))
   |_,_=> .fail)else .fail
  |none=> .fail
 | .nl,.nl=>b4q E t op true K| .ne b,.nl=>b4q E t op b K| .sl u xs,.nl=>bif u.isEnt then .fail else .br (x8 (o9 xs) 0) .fail (b4q E t op false K)|_,_=> .fail
def unC(op:UnOp)(x:V)(K:V->Cmd α):Cmd α:=
 match op,x with
 | .neg,.i k a=>K (.i k (L6 k 0 a))| .xor,.i k a=>K (.i k (b3T k (bif k.signed then -1 else k.max) a))| .not,.b a=>K (.b (F8 a))|_,_=> .fail
def a2u(E:Env)(t:Nat):Bool:=bif Nat.blt t E.nt then !(Jz t E.kp)else false
def gY(E:Env)(d:Option Tmp)(v:V):Cmd Unit:=match d with|some t=>bif a2u E t then .set t v (.ret ())else .fail|none=> .ret ()
def V7(q:Nat)(d:Option Tmp):Nat:=match d with|some t=>CB*q+64*t|none=>CB*q+999936
def tiC(E:Env)(t:Nat)(K:TI->Cmd α):Cmd α:=match gB E.tt t with|some i=>K i|none=> .fail
def dN:TD->Bool| .struct _| .arr _ _=>true|_=>false
def SV(E:Env)(t:Nat)(p:V)(K:V->Cmd α):Cmd α:=
 tiC E t λi=>match p with
 | .ptr bx off=> .get (bV+bx) λ
  | .bcells cs=>a1B off i.size cs (λr=>K (mkV (dN i.td) r)) Cmd.fail| .bfc u x=>a1B off i.size (flat u x []) (λr=>K (mkV (dN i.td) r)) Cmd.fail|_=> .fail
 | .ep bx idx off=> .get (bV+bx) λ
  | .barr u xs=>Cmd.opt (V6 xs idx) λx=>a1B off i.size (flat u x []) (λr=>K (mkV (dN i.td) r)) Cmd.fail
  | .bfrz u xs=>Cmd.opt (V6 xs idx) λx=>a1B off i.size (flat u x []) (λr=>K (mkV (dN i.td) r)) Cmd.fail
  | .barrs m xs _=>Cmd.opt (V6 xs idx) λx=>a1B off i.size (OZ m x []) (λr=>K (mkV (dN i.td) r)) Cmd.fail|_=> .fail
 | .dp u x off=>a1B off i.size (flat u x []) (λr=>K (mkV (dN i.td) r)) Cmd.fail|_=> .fail
def X_{R:Type u} :(m:M)->Nat->m.den->(V->R)->R->R
 | .own t,off,xs,K,f=>bif Nat.beq off 0 then K (.barr t xs)else f| .owns m,off,xs,K,f=>bif Nat.beq off 0 then K (.barrs m xs none)else f| .pair a b,off,x,K,f=>bif Nat.blt off a.size then X_ a off x.1 K f else X_ b (off -a.size) x.2 K f|_,_,_,_,f=>f
def a7O{R:Type u} :(m:M)->Nat->V->m.den->(m.den->R)->R->R
 | .own t,off,v,_,K,f=>bif Nat.beq off 0 then(match v with| .barr t' ys=>Ty.castL t' t ys K f| .nl=>bif t.isEnt then f else K []|_=>f)else f| .owns m,off,v,_,K,f=>bif Nat.beq off 0 then(match v with| .barrs m' ys none=>a9E m' m ys K f| .nl=>K []|_=>f)else f| .pair a b,off,v,x,K,f=>bif Nat.blt off a.size then a7O a off v x.1 (λy=>K (y,x.2)) f else a7O b (off -a.size) v x.2 (λy=>K (x.1,y)) f|_,_,_,_,_,f=>f
def b1a{α:Type} :(m:M)->Nat->List V->m.den->(m.den->Cmd α)->Cmd α
 | .dat t,off,vs,x,K=>bif t.flat then Xd off vs (flat t x []) (λr=>rf FD t r λy q=>match q with|[]=>K y|_=> .fail) .fail else .fail| .pair a b,off,vs,x,K=>bif Nat.blt off a.size then b1a a off vs x.1 (λy=>K (y,x.2))else b1a b (off -a.size) vs x.2 (λy=>K (x.1,y))|_,_,_,_,_=> .fail
def M.ownAt:M->Nat->Bool
 | .own _,off=>Nat.beq off 0| .owns _,off=>Nat.beq off 0| .pair a b,off=>bif Nat.blt off a.size then a.ownAt off else b.ownAt (off -a.size)|_,_=>false
def a3l(h:Option (Nat×Nat×Option Nat))(idx off:Nat):Bool:=match h with|none=>true|some (i,o,_)=>bif Nat.beq o off then Qk i idx else false
def b9F(E:Env)(d:Option Tmp)(nm t:Nat)(p:V)(K:V->Cmd α):Cmd α:=
 match p with
 | .ep bx idx off=> .get (bV+bx) λ
  | .barrs m xs none=>bif m.ownAt off then tiC E t λi=>(bif Nat.beq i.size 1&&!dN i.td then
     (bif Jz (match d with|some d=>d|none=>bV) E.tk then
      Cmd.opt (V6 xs idx) λx=>X_ m off x (λv=>Cmd.set (bV+bx) (.barrs m xs (some (idx,off,none))) (Bo nm v (Cmd.set (bV+bx) (.barrs m xs (some (idx,off,some nm))) (K (.own nm none))))) .fail
     else rf FD (.sl m.ty) [.own bx none] λ_ _=>SV E t p K)else .fail)
    else SV E t p K
  | .barrs m xs (some (i,o,some n))=>bif m.ownAt off then tiC E t λj=>(bif Nat.beq j.size 1&&!dN j.td then
     .br (a3l (some (i,o,some n)) idx off) (K (.own n none)) .fail else .fail)
    else SV E t p K
  |_=>SV E t p K
 |_=>SV E t p K
def a4o(bx idx off:Nat)(m:M)(xs:List m.den)(hole:Option (Nat×Nat×Option Nat))(v:V)(K:Cmd Unit):Cmd Unit:=
 .br (a3l hole idx off) (Cmd.opt (V6 xs idx) λx=>a7O m off v x (λy=>Cmd.set (bV+bx) (.barrs m (aU xs idx y) none) K) .fail) .fail
def c3C:V->Bool| .barr ..=>true| .barrs _ _ none=>true|_=>false
def b7x(E:Env)(t:Nat)(p v:V):Cmd Unit:=
 tiC E t λi=>match p with
 | .ptr bx off=> .get (bV+bx) λ
  | .bcells cs=>NK v λvs=>bif Nat.beq vs.length i.size then Xd off vs cs (λr=>Cmd.set (bV+bx) (.bcells r) (.ret ())) Cmd.fail else .fail|_=> .fail
 | .ep bx idx off=> .get (bV+bx) λ
  | .barr u xs=>Cmd.opt (V6 xs idx) λx=>NK v λvs=>bif Nat.beq vs.length i.size then Xd off vs (flat u x []) (λr=>
    rf FD u r λy q=>match q with
     |[]=> .get (bV+bx) λ
      | .barr u' xs' =>Ty.castL u' u xs' (λxs' =>Cmd.set (bV+bx) (.barr u (aU xs' idx y)) (.ret ())) Cmd.fail|_=> .fail
     |_=> .fail) Cmd.fail else .fail
  | .barrs m xs hole=>bif m.ownAt off&&Nat.beq i.size 1&&!dN i.td then(match v with
    | .nl=>a4o bx idx off m xs hole .nl (.ret ())
    | .own b2 none=> .get (bV+b2) λw=>bif c3C w then Cmd.set (bV+b2) .dead (.get (bV+bx) λ
     | .barrs m xs hole=>a4o bx idx off m xs hole w (.ret ())
     |_=> .fail)else .fail
    |_=> .fail)
   else match hole with
    |none=>NK v λvs=>bif Nat.beq vs.length i.size then Cmd.opt (V6 xs idx) λx=>b1a m off vs x λy=>Cmd.set (bV+bx) (.barrs m (aU xs idx y) none) (.ret ())else .fail|some _=> .fail
  |_=> .fail
 |_=> .fail
def szB(sz:Nat)(u:Ty):Bool:=bif u.isEnt then false else Nat.beq sz u.size
def PX(E:Env)(t f:Nat):Option (Nat×Nat×Bool):=
 match gB E.tt t with
 |some i=>match i.td with
  | .struct fs=>match fs[f]? with
   |some (ft,off)=>match gB E.tt ft with|some j=>bif Nat.beq j.size 0 then none else some (off,j.size,dN j.td)|none=>none
   |none=>none
  |_=>none
 |none=>none
def a5A(vw:Option (Nat×Nat)):Nat:=match vw with|none=>0|some (lo,_)=>lo
def c0I(vw:Option (Nat×Nat))(n:Nat):Nat:=match vw with|none=>n|some (lo,_)=>lo+n
theorem b8j(vw:Option (Nat×Nat))(n:Nat):c0I vw n=a5A vw+n:=by cases vw<;>simp[c0I,a5A]
def NM(E:Env)(t:Nat):Option (Bool×Nat×Nat):=
 match gB E.tt t with
 |some i=>match i.td with
  | .sl e=>match gB E.tt e with|some j=>some (false,0,j.size)|none=>none
  | .arr n e=>match gB E.tt e with|some j=>some (true,n,j.size)|none=>none
  |_=>none
 |none=>none
def t_(E:Env)(t:Nat)(x ix:V)(K:V->Cmd α):Cmd α:=
 match ix,NM E t with
 | .i _ n,some (false,_,sz)=>match x with
  | .sl u xs=>bif szB sz u then Cmd.opt (F9 xs n) λy=>K (.dp u y 0)else .fail
  | .own bx vw=> .get (bV+(Wh+bx)) λ
   | .blen ln sz' =>(match vw with|none=>bif Nat.beq sz sz' then .br (inb n ln) (K (.ep bx (V9 n) 0)) .fail else .fail|_=> .fail)
   |_=> .get (bV+bx) λ
   | .barr u xs=>bif szB sz u then Cmd.opt (F9 (kN vw xs) n) λ_=>K (.ep bx (c0I vw (V9 n)) 0)else .fail
   | .bfrz u xs=>bif szB sz u then Cmd.opt (F9 (kN vw xs) n) λy=>K (.dp u y 0)else .fail| .barrs m xs _=>(match vw with|none=>bif Nat.beq sz m.size then Cmd.opt (F9 xs n) λ_=>K (.ep bx (V9 n) 0)else .fail|_=> .fail)|_=> .fail
  |_=> .fail
 | .i _ n,some (true,l,sz)=>match x with
  | .glob g=>match gB E.gl g with
   |some ⟨u,xs⟩=>bif Nat.beq sz u.size&&Nat.beq l xs.length then Cmd.opt (F9 xs n) λy=>K (.dp u y 0)else .fail|none=> .fail
  |_=> .fail
 |_,_=> .fail
def c3F(td:TD)(x:V)(K:V->Cmd α):Cmd α:=
 match td,x with
 | .str,.s l=>K (.i .i64 (o9 l))| .sl _,.sl t xs=>bif t.isEnt then .fail else K (.i .i64 (o9 xs))| .map ..,.sl t xs=>bif t.isEnt then K (.i .i64 (o9 xs))else .fail
 | .map ..,.own bx none=> .get (bV+bx) λ
  | .barr t xs=>bif t.isEnt then K (.i .i64 (o9 xs))else .fail| .bfrz t xs=>bif t.isEnt then K (.i .i64 (o9 xs))else .fail|_=> .fail
 | .sl _,.nl=>K (.i .i64 0)
 | .sl _,.own bx vw=> .get (bV+(Wh+bx)) λ
  | .blen ln _=>(match vw with|none=>K (.i .i64 ln)|_=> .fail)
  |_=> .get (bV+bx) λ
  | .barr t xs=>bif t.isEnt then .fail else K (.i .i64 (o9 (kN vw xs)))| .bfrz t xs=>bif t.isEnt then .fail else K (.i .i64 (o9 (kN vw xs)))| .barrs _ xs _=>(match vw with|none=>K (.i .i64 (o9 xs))|_=> .fail)|_=> .fail
 |_,_=> .fail
def FK(d:Int):Option V->d1G
 |none=>some d|some (.i _ n)=>some n|some _=>none
def Xv(E:Env)(t:Nat)(x:V)(lo hi:Option V)(K:V->Cmd α):Cmd α:=
 match x with
 | .s l=>tiC E t λi=>match i.td,FK 0 lo,FK (o9 l) hi with
  | .str,some a,some b=>Cmd.opt (Qc l a b) λr=>K (.s r)|_,_,_=> .fail
 | .sl u l=>match NM E t,FK 0 lo,FK (o9 l) hi with
  |some (false,_,sz),some a,some b=>bif szB sz u then Cmd.opt (Qc l a b) λr=>K (.sl u r)else .fail|_,_,_=> .fail
 | .own bx none=> .get (bV+bx) λ
  | .barr u xs=>match NM E t,FK 0 lo,FK (o9 xs) hi with
   |some (false,_,sz),some a,some b=>bif szB sz u then .br (ui a b (o9 xs)) (K (.own bx (some (V9 a,V9 b)))) .fail else .fail|_,_,_=> .fail
  | .bfrz u xs=>match NM E t,FK 0 lo,FK (o9 xs) hi with
   |some (false,_,sz),some a,some b=>bif szB sz u then .br (ui a b (o9 xs)) (K (.own bx (some (V9 a,V9 b)))) .fail else .fail|_,_,_=> .fail
  |_=> .fail
 |_=> .fail
def Hq(E:Env)(t:Nat):Option (Nat×Ty):=
 match gB E.tt t with
 |some i=>match i.td with
  | .sl e=>match gB E.tt e with
   |some j=>match j.ty with|some u=>bif (Nat.beq u.size j.size&&Nat.ble j.bytes 65536&&!u.isEnt)then some (e,u)else none|none=>none
   |none=>none
  |_=>none
 |none=>none
def a9z(E:Env)(nm:Nat)(t:Nat)(x y:V)(K:V->Cmd Unit):Cmd Unit:=
 match Hq E t with
 |none=> .fail
 |some (_,u)=>match gB E.om t with
  |none=>
   a5X u y λys=>
   match x with
   | .nl=>Cmd.opt (cu [] ys) λzs=>Bo nm (.barr u zs) (K (.own nm none))
   | .own bx vw=> .get (bV+bx) λ
    | .barr u' xs=>Ty.castL u' u xs (λxs=>Cmd.opt (cu (kN vw xs) ys) λzs=>Cmd.set (bV+bx) .dead (Bo nm (.barr u zs) (K (.own nm none)))) Cmd.fail|_=> .fail
   |_=> .fail
  |some m=>bif Nat.beq m.size u.size then exM FD (.owns m) [y] λys _=>exM FD (.owns m) [x] λxs _=>Cmd.opt (cu xs ys) λzs=>Bo nm (.barrs m zs none) (K (.own nm none))else .fail
def Df{α:Type}(u:Ty):List (Nat×V)->Nat->Nat->(List u.den->Cmd α)->Cmd α
 |[],_,0,K=>K []
 |(i,v)::r,n,m+1,K=>bif Nat.beq i n then NK v λcs=>rf FD u cs λx q=>match q with|[]=>Df u r (n+1) m λxs=>K (x::xs)|_=> .fail else .fail
 |_,_,_,_=> .fail
def zl{α:Type}(m:M):List (Nat×V)->Nat->Nat->(List m.den->Cmd α)->Cmd α
 |[],_,0,K=>K []
 |(i,v)::r,n,k+1,K=>bif Nat.beq i n then NK v λcs=>exM FD m cs λx q=>match q with|[]=>zl m r (n+1) k λxs=>K (x::xs)|_=> .fail else .fail
 |_,_,_,_=> .fail
def a9u(E:Env):List (Nat×Nat)->Bool
 |[]=>true
 |(t,_)::r=>match gB E.tt t with|some _=>a9u E r|none=>false
def Hm{α:Type}(E:Env)(t:Nat):List (Nat×V)->List V->(List V->Cmd α)->Cmd α
 |[],cs,K=>K cs
 |(f,v)::r,cs,K=>match PX E t f with
  |some (off,n,_)=>NK v λvs=>bif Nat.beq vs.length n then Xd off vs cs (λcs' =>Hm E t r cs' K) .fail else .fail|none=> .fail
def dU{α:Type} :List MG->List V->List V->Cmd α->Cmd α
 |(_,.box _)::ms,.ptr bx _::vs,.agg cs::os,K=> .get (bV+bx) λ
  | .dead=>Cmd.set (bV+bx) (.bcells cs) (dU ms vs os K)|_=> .fail
 |(_,.box _)::_,_,_,_=> .fail
 |(_,.ifc _ (.box _))::ms,.ifc _ (.ptr bx _)::vs,.agg cs::os,K=> .get (bV+bx) λ
  | .dead=>Cmd.set (bV+bx) (.bcells cs) (dU ms vs os K)|_=> .fail
 |(_,.ifc _ (.box _))::_,_,_,_=> .fail
 |(_,.ownb _)::ms,.own bx none::vs,.own nm none::os,K=> .get (bV+nm) λ
  | .barr u xs=>Cmd.set (bV+nm) .dead (.get (bV+bx) λ
   | .gone t=>Ty.castL u t xs (λxs=>Cmd.set (bV+bx) (.barr t xs) (dU ms vs os K)) .fail
   |_=> .fail)
  |_=> .fail
 |(_,.ownb _)::ms,.nl::vs,.own nm none::os,K=>Cmd.set (bV+nm) .dead (dU ms vs os K)|(_,.ownb _)::_,_,_,_=> .fail|_::ms,_::vs,os,K=>dU ms vs os K|[],[],[],K=>K|_,_,_,_=> .fail
def Ty.occ(t:Ty):Ty->Bool
 | .sl u=>decide (t=u) || Ty.occ t u| .prod a b=>Ty.occ t a || Ty.occ t b| .ent _ _ a b=>Ty.occ t a || Ty.occ t b|_=>false
def Yb(t:Ty):List Ty->Bool|[]=>false|u::r=>decide (t=u) || Ty.occ t u || Yb t r
def M.occ(t:Ty):M->Bool
 | .dat u=>Ty.occ t u| .own u=>Ty.occ t u| .pair a b=>a.occ t || b.occ t| .unit=>false| .box m=>m.occ t| .owns m=>m.occ t| .ownb u=>Ty.occ t u| .rp u=>decide (t=u) || Ty.occ t u| .fn _ ts=>Yb t ts| .ifc _ m=>m.occ t| .cell _=>false
def Qm(t:Ty):List MG->Bool|[]=>false|m::r=>m.2.occ t || Qm t r
def a3r(s:FSpec):Ty->Bool:=λt=> !(Qm t s.rs || Qm t s.outs)
def OL:Nat->List V->Option (List V×List V)
 |0,vs=>some ([],vs)
 |n+1,v::vs=>match OL n vs with|some (a,b)=>some (v::a,b)|none=>none
 |_+1,[]=>none
def LG:List V->Bool|[]=>false| .tup _::_=>true|_::r=>LG r
def b8G:List V->V|[v]=>v|vs=> .tup vs
def WE:List MG->List V->Bool
 |(_,.fn g _)::ms,.clos f _::vs=>Nat.beq f g&&WE ms vs|(_,.fn g _)::ms,.fnv f::vs=>Nat.beq f g&&WE ms vs|(_,.ifc t _)::ms,.ifc t' _::vs=>Nat.beq t t' &&WE ms vs|_::ms,_::vs=>WE ms vs|_,_=>true
def a5Y:List (Nat×FSpec)->Nat->List V->Option FSpec
 |[],_,_=>none|(g,s)::r,f,vs=>bif Nat.beq g f&&WE s.ps vs then some s else a5Y r f vs
def a1L(E:Env)(q:Nat)(d:Option Tmp)(f:Nat)(vs:List V):Cmd Unit:=
 match a5Y E.fs f vs with
 |none=> .fail|some s=>
  SQ (a3r s) s.ps vs λx=>Cmd.opt (s.fn x) λr=>
   SL (s.rs++s.outs) r (V7 q d) λws n' =>bif Nat.ble n' (V7 q d+64)then(match OL s.rs.length ws with
    |some (a,o)=>bif LG a then .fail else dU s.ps vs o (gY E d (b8G a))
    |none=> .fail)else .fail
def Ec{α:Type} :List MG->List V->(List ((t:Ty)×t.den)->Cmd α)->Cmd α
 |(_,.rp t)::ms,v::vs,K=>rpC t v λx=>Ec ms vs λcs=>K (⟨t,x⟩::cs)|[],[],K=>K []|_,_,_=> .fail
def c3B(c:(t:Ty)×t.den):V:=.dp c.1 c.2 0
def I_:List ((Nat×String)×Nat×Option Nat)->Nat->String->Option (Nat×Option Nat)
 |[],_,_=>none|((t,n),r)::l,u,m=>bif Nat.beq t u&&(n==m)then some r else I_ l u m
def Ty.leaves:Ty->List Ty
 | .prod a b=>a.leaves++b.leaves| .unit=>[]|t=>[t]
def Xr:List Ty->List Ty->Bool
 |[],[]=>true|a::r,b::q=>bif Ty.beq a b then Xr r q else false|_,_=>false
def a5s(E:Env)(ke:Nat)(td:TD)(k:Ty):Bool:=
 match td,k with
 | .bool,.bool=>true| .int i,.int j=>decide (i=j)| .str,.str=>true| .struct _,k=>bif k.flat then(match gB E.eqs ke with|some sh=>Xr sh k.leaves|none=>false)else false|_,_=>false
structure MT where
 ke:Nat
 el:Nat
 ka:Bool
 va:Bool
 k:Ty
 v:Ty
abbrev MT.ent(m:MT):Ty:=.ent m.ka m.va m.k m.v
def UZ(E:Env)(t:Nat):Option MT:=
 match gB E.tt t with
 |some i=>match i.td with
  | .map ke el=>match gB E.tt ke,gB E.tt el with
   |some a,some b=>(match a.ty,b.ty with
    |some k,some v=>bif a5s E ke a.td k&&k.flat then some ⟨ke,el,dN a.td,dN b.td,k,v⟩else none
    |_,_=>none)
   |_,_=>none
  |_=>none
 |none=>none
def b3w(ag:Bool)(t:Ty)(v:V)(K:t.den->Cmd α):Cmd α:=
 ZE ag v λcs=>rf FD t cs λx q=>match q with|[]=>K x|_=> .fail
def b4S(u:Ty)(v:V)(K:List u.den->Cmd α):Cmd α:=
 match v with
 | .sl t xs=>Ty.castL t u xs K .fail
 | .own bx none=> .get (bV+bx) λ
  | .barr t xs=>Ty.castL t u xs K .fail| .bfrz t xs=>Ty.castL t u xs K .fail|_=> .fail
 |_=> .fail
def Qe(E:Env)(nm t:Nat)(K:V->Cmd Unit):Cmd Unit:=
 match UZ E t with
 |some m=>Bo nm (.barr m.ent []) (K (.own nm none))|none=> .fail
def a9Z(E:Env)(t:Nat)(ok:Bool)(x ix:V)(K:V->Cmd Unit):Cmd Unit:=
 match UZ E t with
 |some m=>b3w m.ka m.k ix λkey=>b4S m.ent x λes=>
   bif ok then K (.tup [mkV m.va (flat m.v (a5I (keq m.k) es key m.v.zero) []),.b (a3w (keq m.k) es key)])
   else K (mkV m.va (flat m.v (a5I (keq m.k) es key m.v.zero) []))
 |none=> .fail
def a4r(E:Env)(t:Nat)(x ix y:V):Cmd Unit:=
 match UZ E t with
 |some m=>b3w m.ka m.k ix λkey=>b3w m.va m.v y λz=>match x with
  | .own bx none=> .get (bV+bx) λ
   | .barr u xs=>Ty.castL u m.ent xs (λes=>Cmd.set (bV+bx) (.barr m.ent (N_ (keq m.k) es key z)) (.ret ())) .fail|_=> .fail
  |_=> .fail
 |none=> .fail
def Ya:M->List V->Bool
 | .dat _,_=>true| .unit,_=>true
 | .own t,cs=>match cs with| .nl::_=> !t.isEnt|_=>false
 | .owns _,cs=>match cs with| .nl::_=>true|_=>false
 | .pair a b,cs=>match ZV a.size cs with|some r=>bif Ya a cs then Ya b r else false|none=>false
 |_,_=>false
def b0K(E:Env)(t:Nat)(m:M):Bool:=
 match Hq E t with
 |some (e,_)=>match gB E.tt e with|some j=>bif Nat.beq j.zero.length j.size then Ya m j.zero else false|none=>false
 |none=>false
def a0z:Operand->Operand->Bool
 | .tmp a,.tmp b=>Nat.beq a b|_,_=>false
def dY(E:Env)(q:Nat)(o:Oper):Cmd Unit:=
 match o.op with
 | .move x| .assign x=>uG x λv=>gY E o.dst v
 | .pick c a b=>uG c λ
  | .b t=>bif t then uG a λva=>gY E o.dst va else uG b λvb=>gY E o.dst vb|_=> .fail
 | .alloc t=>tiC E t λi=>bif Nat.beq i.zero.length i.size then Bo (V7 q o.dst) (.bcells i.zero) (gY E o.dst (.ptr (V7 q o.dst) 0))else .fail
 | .box _ x=>uG x λv=>NK v λcs=>Bo (V7 q o.dst) (.bcells cs) (gY E o.dst (.ptr (V7 q o.dst) 0))
 | .build t ps=>tiC E t λi=>match i.td with
  | .struct fs=>bif a9u E fs&&Nat.beq i.zero.length i.size then(Yd (ps.toList.map (·.2)) λvs=>
    Hm E t ((ps.toList.map (·.1)).zip vs) i.zero (λcs=>gY E o.dst (.agg cs)))else .fail
  |_=> .fail
 | .buildSlice t n ps=>match Hq E t with
  |some (_,u)=>bif Nat.ble (n*u.size) 16777216 then(Yd (ps.toList.map (·.2)) λvs=>match gB E.om t with
    |none=>Df u ((ps.toList.map (·.1)).zip vs) 0 n λxs=>Bo (V7 q o.dst) (.barr u xs) (gY E o.dst (.own (V7 q o.dst) none))
    |some m=>bif Nat.beq m.size u.size&&m.el then zl m ((ps.toList.map (·.1)).zip vs) 0 n λxs=>Bo (V7 q o.dst) (.barrs m xs none) (gY E o.dst (.own (V7 q o.dst) none))else .fail)else .fail
  |none=> .fail
 | .load t x=>uG x λp=>b9F E o.dst (V7 q o.dst) t p λv=>gY E o.dst v
 | .store t x y=>match o.dst with|none=>uG x λp=>uG y λv=>b7x E t p v|some _=> .fail
 | .binOp op t x y _=>uG x λa=>uG y λb=>PH E t op y a b λv=>gY E o.dst v
 | .unOp op _ x=>uG x λa=>unC op a λv=>gY E o.dst v
 | .convert src t x=>uG x λa=>tiC E src λj=>tiC E t λi=>match a,i.td with
  | .i _ n,.int k=>gY E o.dst (.i k (wrap k n))| .s l,.str=>gY E o.dst (.s l)
  |_,.str=>(match j.td with
   | .sl e=>tiC E e λk=>(match k.td with
    | .int .u8=>a5X (.int .u8) a λxs=>gY E o.dst (.s (b3q xs))
    |_=> .fail)
   |_=> .fail)
  |_,_=> .fail
 | .makeSlice t l c=>match gB E.om t with
  |some m=>(match Hq E t with
   |some (_,u)=>uG l λ
    | .i _ n=>bif a0z l c&&Nat.beq m.size u.size&&b0K E t m then(if h:m.el=true/\m.ty=u then Cmd.opt (pX n (m.zero h.1)) λxs=>Bo (V7 q o.dst) (.barrs m xs none) (.set (bV+(Wh+V7 q o.dst)) (.blen (o9 xs) m.size) (gY E o.dst (.own (V7 q o.dst) none)))else .fail)else .fail|_=> .fail
   |none=> .fail)
  |none=>match Hq E t with
  |some (_,u)=>uG l λ
   | .i _ n=>bif a0z l c then
     Cmd.opt (pX n u.zero) λxs=>Bo (V7 q o.dst) (.barr u xs) (gY E o.dst (.own (V7 q o.dst) none))
    else uG c λ
     | .i _ k=>Cmd.br (ui n k 1073741824) (Cmd.opt (pX n u.zero) λxs=>Bo (V7 q o.dst) (.barr u xs) (gY E o.dst (.own (V7 q o.dst) none))) .fail|_=> .fail
   |_=> .fail
  |none=> .fail
 | .slice t x lo hi none=>uG x λv=>Yd (lo.toList++hi.toList) λbs=>
   match lo,hi,bs with
   |none,none,[]=>Xv E t v none none λr=>gY E o.dst r
   |some _,none,[a]=>Xv E t v (some a) none λr=>gY E o.dst r
   |none,some _,[b]=>Xv E t v none (some b) λr=>gY E o.dst r
   |some _,some _,[a,b]=>Xv E t v (some a) (some b) λr=>gY E o.dst r|_,_,_=> .fail
 | .fieldAddr t x f=>uG x λp=>match PX E t f with
  |some (off,_,_)=>match p with
   | .ptr bx o' =>gY E o.dst (.ptr bx (o' +off))| .ep bx ix o' =>gY E o.dst (.ep bx ix (o' +off))| .dp u y o' =>gY E o.dst (.dp u y (o' +off))|_=> .fail
  |none=> .fail
 | .field t x f=>uG x λp=>match PX E t f with
  |some (off,n,ag)=>ZE true p λps=>a1B off n ps (λcs=>gY E o.dst (mkV ag cs)) Cmd.fail|none=> .fail
 | .indexAddr t x ix=>uG x λv=>uG ix λn=>t_ E t v n λr=>gY E o.dst r
 | .index t x ix=>uG x λv=>uG ix λn=>tiC E t λi=>match i.td,v,n with
  | .str,.s l,.i _ k=>Cmd.opt (sat l k) λc=>gY E o.dst (.i .u8 c)|_,_,_=> .fail
 | .extract x n=>uG x λ
  | .tup vs=>match vs[n]? with|some v=>gY E o.dst v|none=> .fail
  |_=> .fail
 | .nilCheck x=>uG x λv=>match v with
  | .ptr ..| .ep ..| .dp ..| .glob _=>gY E o.dst v|_=> .fail
 | .call c=>Yd c.args.toList λvs=>match c.callee with
  | .builtin .len=>(match c.argTypes.toList,vs with
   |t::_,[x]=>tiC E t λi=>c3F i.td x λv=>gY E o.dst v
   |_,_=> .fail)
  | .builtin .append=>(match c.argTypes.toList,vs with
   |[t,t'],[x,y]=>bif Nat.beq t t' then a9z E (V7 q o.dst) t x y λv=>gY E o.dst v else .fail
   |_,_=> .fail)
  | .builtin .min=>(match vs with|[.i k a,.i k' b]=>bif decide (k=k')then gY E o.dst (.i k (ru a b))else .fail|_=> .fail)| .builtin .max=>(match vs with|[.i k a,.i k' b]=>bif decide (k=k')then gY E o.dst (.i k (pW a b))else .fail|_=> .fail)| .value (.func f)=>a1L E q o.dst f vs
  | .value x=>uG x λ
   | .clos f caps=>a1L E q o.dst f (vs++caps.map c3B)|_=> .fail
  | .invoke x n=>uG x λ
   | .ifc t v=>(match I_ E.ms t n with
    |some (f,none)=>a1L E q o.dst f (v::vs)
    |some (f,some e)=>SV E e v λr=>a1L E q o.dst f (r::vs)
    |none=> .fail)
   |_=> .fail
  |_=> .fail
 | .makeFunc (.func f) first caps=>bif Nat.beq first.size 0 then(match gB E.fs f with
   |some s=>Yd caps.toList λvs=>Ec (s.ps.drop (s.ps.length -vs.length)) vs λcs=>gY E o.dst (.clos f cs)
   |none=> .fail)else .fail
 | .makeInterface t x=>tiC E t λi=>(match i.td with
  | .bool| .int _| .str| .ptr _=>uG x λv=>(match v with
   | .b ..| .i ..| .s ..| .ptr ..=>gY E o.dst (.ifc t v)
   |_=> .fail)
  |_=> .fail)
 | .typeAssert x _ t ok=>tiC E t λi=>(match i.td with
  | .other=> .fail
  |_=>uG x λ
   | .ifc t' v=>bif Nat.beq t' t then gY E o.dst (bif ok then .tup [v,.b true]else v)else .fail
   |_=> .fail)
 | .makeMap t r=>(match r with
  |none=>Qe E (V7 q o.dst) t λv=>gY E o.dst v
  |some h=>uG h λ
   | .i _ _=>Qe E (V7 q o.dst) t λv=>gY E o.dst v
   |_=> .fail)
 | .lookup t x ix ok=>uG x λm=>uG ix λk=>a9Z E t ok m k λv=>gY E o.dst v
 | .mapUpdate t x ix y| .insert t x ix y=>match o.dst with|none=>uG x λm=>uG ix λk=>uG y λv=>a4r E t m k v|some _=> .fail
 |_=> .fail
def qN(E:Env)(q:Nat)(ops:List Oper)(o:Oper):Cmd Unit:=
 match o.guard with
 |none=>dY E q o
 |some (j,want)=>match ops[j]? with
  |some p=>match p.dst with
   |some t=>bif Nat.blt t bV then(.get t λ
    | .b y=>bif (bif want then y else !y)then dY E q o else gY E o.dst .un| .un=>gY E o.dst .un
    |_=> .fail)else .fail
   |none=> .fail
  |none=> .fail
def YV(t:Nat)(s:St)(K:St->Option R):Option R:=
 (gV s t).force λ
  | .b y=>l9 y (K (.kv t (.b true)::s)) (K (.kv t (.b false)::s))| .un=>K s|_=>none
def b9z(ops:List Oper)(o:Oper):Option Nat:=
 match o.guard with
 |some (j,_)=>match ops[j]? with|some p=>p.dst|none=>none
 |none=>match o.op with| .pick (.tmp t) _ _=>some t|_=>none
abbrev Trs:=List Tr
def Ui{R:Type}(E:Env)(q:Nat)(all:List Oper):List Oper->St->Trs->(St->Trs->Option R)->Option R
 |[],s,t,K=>K s t
 |o::r,s,t,K=>match b9z all o with
  |none=>(qN E q all o).runK s ([],[]) λ_ s' tr=>Ui E q all r s' (tr::t) K
  |some p=>YV p s λs=>(qN E q all o).runK s ([],[]) λ_ s' tr=>Ui E q all r s' (tr::t) K
def QF:d1B->d1B->Bool
 |[],[]=>true|a::r,b::q=>bif Nat.beq a b then QF r q else false|_,_=>false
def rD(o:Oper):Bool:=match o.op with| .call ..=>true|_=>false
def a3h(E:Env)(o:Oper):Bool:=!rD o&&(match o.dst with|some d=>Jz d E.rc|none=>false)
def b3F(E:Env)(all:List Oper)(i:Nat):Bool:=match all[i]? with|some o=>a3h E o|none=>false
def a2Z(all:List Oper)(i:Nat):Bool:=match all[i]? with|some o=>rD o|none=>false
def b7N(a b:V)(K:Option R):Option R:=
 a.force λa=>b.force λb=>match a with
  | .i k n=>(match b with| .i k' n' =>bif decide (k=k')then l9 (x8 n n') K none else none|_=>none)| .sl t xs=>(match b with| .sl u ys=>Ty.castL u t ys (λys=>l9 (deq (.sl t) xs ys) K none) none|_=>none)| .b x=>(match b with| .b y=>l9 (jY x y) K none|_=>none)| .s x=>(match b with| .s y=>l9 (seq x y) K none|_=>none)|_=>none
abbrev b0M:=List (Oper×Tr×V)
def a2D{R:Type}(E:Env)(q:Nat)(all:List Oper)(s:St):b0M->Option R->Option R
 |[],K=>K
 |(o,tr,v)::p,K=>(qN E q all o).runK s ([],[]) λ_ s2 tr2=>match o.dst with
  |some d=>bif QF tr.1 tr2.1&&QF tr.2 tr2.2&&QF tr2.2 [d]then b7N v (gV s2 d) (a2D E q all s p K)else none|none=>none
def Z_(E:Env)(o:Oper)(s:St)(tr:Tr)(p:b0M):b0M:=
 bif a3h E o then(match o.dst with|some d=>(o,tr,gV s d)::p|none=>p)else p
def EZ{R:Type}(E:Env)(q:Nat)(all:List Oper):List Oper->St->Trs->b0M->(St->Trs->Option R)->Option R
 |[],s,t,_,K=>K s t
 |o::r,s,t,p,K=>match b9z all o with
  |none=>(qN E q all o).runK s ([],[]) λ_ s' tr=>bif rD o then a2D E q all s' p (EZ E q all r s' (tr::t) p K)else EZ E q all r s' (tr::t) (Z_ E o s' tr p) K
  |some g=>YV g s λs=>(qN E q all o).runK s ([],[]) λ_ s' tr=>bif rD o then a2D E q all s' p (EZ E q all r s' (tr::t) p K)else EZ E q all r s' (tr::t) (Z_ E o s' tr p) K
def YE(a b:d1B):Bool:=match a with|[]=>true|k::r=>bif Jz k b then false else YE r b
def a7Y(ordered:Bool)(x y:Tr):Bool:=bif ordered then true else(YE x.2 y.1&&YE x.2 y.2&&YE x.1 y.2)
def YU(mask:Nat)(y:Tr):Trs->Nat->Bool
 |[],_=>true|x::r,i=>a7Y (Nat.testBit mask (i -1)) x y&&YU mask y r (i -1)
def V_:d1B->Trs->Bool
 |m::ms,y::r=>YU m y r r.length&&V_ ms r|[],[]=>true|_,_=>false
def b0f(mask:Nat)(x:Tr):List (Nat×Tr)->Bool
 |[]=>true|(m,z)::r=>(Nat.testBit mask m || YE x.1 z.2)&&b0f mask x r
def b0l(ordered ex:Bool)(mask:Nat)(x y:Tr)(mids:List (Nat×Tr)):Bool:=
 bif ordered then true else(YE x.2 y.1&&YE x.2 y.2&&(bif YE x.1 y.2 then true else(ex&&YE x.2 x.1&&b0f mask x mids)))
def Vj(E:Env)(all:List Oper)(mask:Nat)(y:Tr)(cy:Bool):Trs->Nat->List (Nat×Tr)->Bool
 |[],_,_=>true|x::r,i,mids=>b0l (Nat.testBit mask (i -1)) (cy&&b3F E all (i -1)) mask x y mids&&Vj E all mask y cy r (i -1) ((i -1,x)::mids)
def Vl(E:Env)(all:List Oper):d1B->Trs->Bool
 |m::ms,y::r=>Vj E all m y (a2Z all r.length) r r.length []&&Vl E all ms r|[],[]=>true|_,_=>false
inductive Flow (ρ:Type) where
 |nm|ex (id:Nat)|rt (r:ρ)
def SK(acc:d1B)(n:Nat):List Edge->Nat->Option Nat
 |[],m=>some m
 |e::r,m=>match e.ground with
  | .textOnly _=>SK acc n r m| .gcOnly _=>SK acc n r m|_=>bif Nat.blt e.on n then SK acc n r (m ||| 2^e.on ||| acc.getD (n -1 -e.on) 0)else none
def a3J:List Oper->Nat->d1B->Option d1B
 |[],_,acc=>some acc
 |o::r,n,acc=>match SK acc n o.after.toList 0 with
  |some m=>a3J r (n+1) (m::acc)|none=>none
def Ub(md:Region.Mode)(done:d1B):List Edge->Bool
 |[]=>true|e::r=>bif (!Region.binds md e || Jz e.on done)then Ub md done r else false
def zB(md:Region.Mode)(done:d1B):List Oper->Nat->Option Nat
 |[],_=>none|o::r,n=>bif Jz n done then zB md done r (n+1)else bif Ub md done o.after.toList then some n else zB md done r (n+1)
def a9t:Nat->d1B->Bool
 |0,_=>true|n+1,d=>Jz n d&&a9t n d
def a4p(md:Region.Mode)(ops:List Oper):Nat->d1B->Bool
 |0,d=>a9t ops.length d
 |k+1,done=>match zB md done ops 0 with|some n=>a4p md ops k (n::done)|none=>false
def Xa:List Edge->Bool
 |[]=>true
 |e::r=>match e.ground with| .textOnly _=>false| .gcOnly _=>false|_=>Xa r
def JD:List Oper->Bool|[]=>true|o::r=>bif Xa o.after.toList then JD r else false
def b3B(ops:List Oper)(t:Trs):Bool:=
 match a3J ops 0 []with
 |some ms=>bif V_ ms t then(bif JD ops then true else a4p .text ops ops.length []&&a4p .gc ops ops.length [])else false|none=>false
def a9M(E:Env)(ops:List Oper)(t:Trs):Bool:=
 match a3J ops 0 []with
 |some ms=>bif Vl E ops ms t then(bif JD ops then true else a4p .text ops ops.length []&&a4p .gc ops ops.length [])else false|none=>false
abbrev Rgs:=List (Nat×Nat)
inductive Ann where
 |leaf
 |seq (a b:Ann)|cond (a b:Ann)|blk (a:Ann)
 |loop (rs:Rgs) (hd:Sig) (xid:Nat) (xs:Sig) (body:Ann)
 |loopR (rs:Rgs) (hd:Sig) (xid:Nat) (xs:Sig) (body:Ann)
 |join (rs:Rgs) (nm:Sig) (inner:Ann)
 |joinR (rs:Rgs) (nm:Sig) (inner:Ann)
structure Ret where
 rs:List (ResultVar×MG)
 outs:List (Nat×MG)
@[reducible] def Ret.den (r:Ret):Type:=dR (r.rs.map (·.2)++r.outs.map (·.2))
def Xo{α:Type}(E:Env):List ResultVar->(List V->Cmd α)->Cmd α
 |[],K=>K []| .tmp t::r,K=>bif Nat.blt t bV then(.get t λv=>Xo E r λvs=>K (v::vs))else .fail| .cell a t::r,K=>bif Nat.blt a bV then(.get a λp=>SV E t p λv=>Xo E r λvs=>K (v::vs))else .fail
def WZ{α:Type} :d1B->(List V->Cmd α)->Cmd α
 |[],K=>K []
 |n::r,K=>bif Nat.blt n bV then .get n λv=>(match v with
  | .ptr bx 0=> .get (bV+bx) λ
   | .bcells cs=>Cmd.set (bV+bx) .dead (WZ r λvs=>K (.agg cs::vs))|_=> .fail
  | .ifc _ u=>(match u with
   | .ptr bx 0=> .get (bV+bx) λ
    | .bcells cs=>Cmd.set (bV+bx) .dead (WZ r λvs=>K (.agg cs::vs))|_=> .fail
   |_=> .fail)
  | .own bx none=>WZ r λvs=>K (.own bx none::vs)
  |_=> .fail)else .fail
def b8M(E:Env)(r:Ret):Cmd r.den:=
 Xo E (r.rs.map (·.1)) λvs=>WZ (r.outs.map (·.1)) λws=>SQ FD (r.rs.map (·.2)++r.outs.map (·.2)) (vs++ws) .ret
def Ann.l:Ann->Ann| .seq a _=>a| .cond a _=>a| .blk a=>a|_=> .leaf
def Ann.r:Ann->Ann| .seq _ b=>b| .cond _ b=>b|_=> .leaf
def Dl:Code->Nat
 | .region ..=>2| .seq x y=>1+Dl x+Dl y| .cond _ x y=>1+Dl x+Dl y| .block _ x=>1+Dl x| .loop x=>3+Dl x|_=>1
abbrev Den(ρ:Type):=Nat->Ann->St->Rgs->(R:Type)->(Flow ρ->St->Rgs->Option R)->Option R
def b1s(lo hi:Nat):Rgs->Bool|[]=>false|(a,b)::r=>bif Nat.ble a lo&&Nat.ble hi b then true else b1s lo hi r
def ZM(lim:Nat)(rs:Rgs):Rgs->Bool|[]=>true|(a,b)::w=>bif Nat.ble lim a || b1s a b rs then ZM lim rs w else false
def UT(ks:d1B)(w:Rgs):Rgs:=match ks with|[]=>w|k::r=>(k,k+1)::UT r w
def Jy(rs:Rgs)(s:St):St:=match rs with|[]=>s|(a,b)::r=> .mask a b::Jy r s
def SS(q:Nat)(sg:Sig)(rs:Rgs)(s:St)(w:Rgs)(K:ul sg->Option R):Option R:=
 (b3H sg).runK s ([],[]) λx _ tr=>bif ZM (bV+CB*q) rs (UT tr.2 w)then K x else none
def enter(q:Nat)(sg:Sig)(rs:Rgs)(s:St)(x:ul sg)(K:St->Rgs->Option R):Option R:=
 (b3C sg x (CB*q) (CB*q+CB)).runK (Jy rs s) ([],[]) λ_ s' tr=>K s' (UT tr.2 rs)
def Zp(a b:Rgs):Rgs:=match a with|[]=>b|x::r=>x::Zp r b
def Po(core:Den ρ):Den ρ:=λq a s w R K=>
 match a with
 | .join rs nm a=>o5 (core (q+1) a s [] (ul nm) λfl s' w' =>match fl with
   | .nm=>SS q nm rs s' w' some
   |_=>none) λx=>enter q nm rs s x λs' w' =>K .nm s' (Zp w' w)
 | .joinR rs nm a=>o5 (core (q+1) a s [] (ul nm⊕ρ) λfl s' w' =>match fl with
   | .nm=>SS q nm rs s' w' λx=>some (Sum.inl x)| .rt r=>some (Sum.inr r)
   |_=>none) λo=>aj o (λx=>enter q nm rs s x λs' w' =>K .nm s' (Zp w' w)) (λr=>K (.rt r) [] [])
 |a=>core (q+1) a s w R K
def b5S(core:Den ρ)(q:Nat)(rs:Rgs)(hd:Sig)(xid:Nat)(xs:Sig)(a:Ann)(s:St)(x:ul hd):Option (ul hd⊕ul xs):=
 enter q hd rs s x λs w=>core (q+2) a s w (ul hd⊕ul xs) λfl s' w' =>match fl with
  | .nm=>SS q hd rs s' w' λx=>some (Sum.inl x)
  | .ex id=>bif Nat.beq id xid then SS q xs rs s' w' λy=>some (Sum.inr y)else none| .rt _=>none
def b5T(core:Den ρ)(q:Nat)(rs:Rgs)(hd:Sig)(xid:Nat)(xs:Sig)(a:Ann)(s:St)(x:ul hd):Option (Out (ul hd) (ul xs) ρ):=
 enter q hd rs s x λs w=>core (q+2) a s w (Out (ul hd) (ul xs) ρ) λfl s' w' =>match fl with
  | .nm=>SS q hd rs s' w' λx=>some (.nx x)
  | .ex id=>bif Nat.beq id xid then SS q xs rs s' w' λy=>some (.ex y)else none| .rt r=>some (.rt r)
def a5C(core:Den ρ):Den ρ:=λq a s w R K=>
 match a with
 | .loop rs hd xid xs a=>SS q hd rs s [] λx0=>
  o5 (aB (λx=>b5S core q rs hd xid xs a s x) x0) λy=>enter (q+1) xs rs s y λs' w' =>K (.ex xid) s' (Zp w' w)
 | .loopR rs hd xid xs a=>SS q hd rs s [] λx0=>
  o5 (ah (λx=>b5T core q rs hd xid xs a s x) x0) λo=>aj o (λy=>enter (q+1) xs rs s y λs' w' =>K (.ex xid) s' (Zp w' w)) (λr=>K (.rt r) [] [])
 |_=>none
def Hz(t:Trs)(w:Rgs):Rgs:=match t with|[]=>w|x::r=>UT x.2 (Hz r w)
def a3Y(E:Env)(q:Nat)(ops:Array Oper)(draw:Bool)(s:St)(w:Rgs)(K:St->Rgs->Option R):Option R:=
 match E.rc with
 |[]=>Ui E q ops.toList ops.toList s [] λs' t=>
  bif draw then(bif b3B ops.toList t then K s' (Hz t w)else none)else K s' (Hz t w)
 |_::_=>EZ E q ops.toList ops.toList s [] [] λs' t=>
  bif draw then(bif a9M E ops.toList t then K s' (Hz t w)else none)else K s' (Hz t w)
def den(E:Env)(rt:Ret):Code->Den rt.den
 | .skip=>Po λ_ _ s w _ K=>K .nm s w
 | .label _=>Po λ_ _ s w _ K=>K .nm s w
 | .region _ ops draw=>Po λq _ s w _ K=>a3Y E q ops draw s w λs' w' =>K .nm s' w'
 | .seq x y=>Po λq a s w R K=>den E rt x q a.l s w R λfl s' w' =>match fl with
   | .nm=>den E rt y (q+Dl x) a.r s' w' R K| .ex id=>K (.ex id) s' w'| .rt r=>K (.rt r) s' w'
 | .cond c x y=>Po λq a s w R K=>(uG c λv=>Cmd.ret v:Cmd V).runK s ([],[]) λv s' _=>match v with
   | .b t=>l9 t (den E rt x q a.l s' w R K) (den E rt y (q+Dl x) a.r s' w R K)|_=>none
 | .block id x=>Po λq a s w R K=>den E rt x q a.l s w R λfl s' w' =>match fl with
   | .nm=>K .nm s' w'| .ex j=>bif Nat.beq j id then K .nm s' w' else K (.ex j) s' w'| .rt r=>K (.rt r) s' w'
 | .loop x=>Po (a5C λq a s w R K=>den E rt x q a s w R K)
 | .exit id=>Po λ_ _ s w _ K=>K (.ex id) s w
 | .ret=>Po λ_ _ s _ _ K=>(b8M E rt).runK s ([],[]) λr _ _=>K (.rt r) [] []
 |_=>λ_ _ _ _ _ _=>none
def oz:List MG->Nat->d1B
 |[],_=>[]|(_,.box _)::ms,n=>n::oz ms (n+1)|(_,.ifc _ (.box _))::ms,n=>n::oz ms (n+1)|(_,.ownb _)::ms,n=>n::oz ms (n+1)|_::ms,n=>oz ms (n+1)
def b7z:d1B->d1B->Bool
 |[],_=>true|a::r,b=>bif Jz a b then b7z r b else false
def b1c(E:Env)(ps:List MG)(rt:Ret)(body:Code)(a:Ann)(x:dR ps):Option rt.den:=
 bif Nat.ble ps.length E.nt&&QF (rt.outs.map (·.1)) (oz ps 0)&&b7z (rt.outs.map (·.1)) E.kp then
 (SL ps x 0 λvs n=>bif Nat.ble n CB then a0C (List.range vs.length) vs else .fail).runK [] ([],[]) λ_ s _=>
  den E rt body 1 a s [] rt.den λfl s' _=>match fl with
   | .rt r=>some r
   | .nm=>(b8M E rt).runK s' ([],[]) λr _ _=>some r| .ex _=>none
 else none
end Go.GP
namespace Go.GP
open RowKit
def gU(h:Array Obj)(blk off n:Nat):Option d1D:=
 match h[blk]? with
 |some (.cells c _ _)=>if off+n<=c.size then some ((c.toList.drop off).take n)else none|_=>none
variable {h:Array Obj}{blk:Nat}{h':Array Obj}
theorem wo(e:h'[blk]? =h[blk]?)(off n:Nat):gU h' blk off n=gU h blk off n:=by simp[gU,e]
variable {n:Nat}{off:Nat}{es:d1D}
theorem sV(e:gU h blk off n=some es):es.length=n:=by
 unfold gU at e;split at e
 .split at e
  .cases e;simp;omega
  .cases e
 .cases e
theorem qQ{c:Array Value}{T:TypeId}{f:Nat×Nat}(hb:h[blk]? =some (.cells c T f))(off n:Nat)(hn:off+n<=c.size):
  gU h blk off n=some ((c.toList.drop off).take n):=by simp[gU,hb,hn]
theorem zn(e:gU h blk off n=some es):
  ∃c T f,h[blk]? =some (.cells c T f)/\off+n<=c.size/\es=(c.toList.drop off).take n:=by
 unfold gU at e;split at e
 .rename_i c T f hb;split at e
  .cases e;exact⟨c,T,f,hb,by assumption,rfl⟩
  .cases e
 .cases e
theorem GN(e:gU h blk off n=some es)(a k:Nat)(hk:a+k<=n):
  gU h blk (off+a) k=some ((es.drop a).take k):=by
 obtain⟨c,T,f,hb,hn,rfl⟩:=zn e;rw[qQ hb _ _ l7];congr 1;rw[jK,iR,aO];congr 1;omega
def xg(ag:Bool)(v:Value):d1D:=match ag with
 |true=>v.cells.toList|false=>[v]
def gok(ag:Bool)(v:Value):Prop:=match ag with
 |true=>∃arr,v= .agg arr|false=>v.oneCell' =true
def Eg(t:Ty)(e:MapEntry):d1D:=match t with
 | .ent ka va _ _=>xg ka e.key++xg va e.val|_=>[]
def UF(t:Ty)(e:MapEntry):Prop:=match t with
 | .ent ka va k v=>gok ka e.key/\gok va e.val/\(xg ka e.key).length=k.size|_=>False
def oD(h:Array Obj)(ok:Nat->Ty->Prop):(t:Ty)->t.den->d1D->Prop
 | .ent _ _ a b,x,cs=>∃c d,cs=c++d/\oD h ok a x.1 c/\oD h ok b x.2 d| .bool,x,cs=>cs=[.bool x]| .int k,n,cs=>cs=[.int k n]| .str,l,cs=>cs=[.string ⟨l.toArray⟩]| .prod a b,x,cs=>∃c d,cs=c++d/\oD h ok a x.1 c/\oD h ok b x.2 d| .unit,_,cs=>cs=[]
 | .sl t,xs,cs=>(t.isEnt=false/\∃a cap,cs=[.slice a xs.length cap]/\xs.length<=cap/\
   ∀i x,xs[i]? =some x->∃blk off es,a=some ⟨blk,off,none⟩/\ok blk t/\gU h blk (off+i*t.size) t.size=some es/\oD h ok t x es)\/
   (t.isEnt=true/\∃mv,cs=[.map mv]/\(mv=none->xs=[])/\∀blk,mv=some blk->ok blk t/\∃(es:Array MapEntry) (ck:Nat),h[blk]? =some (.map es ck)/\es.size=(xs:List t.den).length/\
    ∀(i:Nat) (x:t.den),(xs:List t.den)[i]? =some x->∃e:MapEntry,es[i]? =some e/\UF t e/\oD h ok t x (Eg t e))
variable {t:Ty}{xs:List t.den}{ok:Nat->Ty->Prop}
theorem Gm{cs:d1D}(ht:t.isEnt=false):oD h ok (.sl t) xs cs↔∃a cap,cs=[.slice a xs.length cap]/\xs.length<=cap/\
   ∀i x,xs[i]? =some x->∃blk off es,a=some ⟨blk,off,none⟩/\ok blk t/\gU h blk (off+i*t.size) t.size=some es/\oD h ok t x es:=by
 constructor
 .rintro(h|h)
  .exact h.2
  .rw[ht]at h;cases h.1
 .exact λh=> .inl ⟨ht,h⟩
theorem a8s{cs:d1D}(ht:t.isEnt=true):oD h ok (.sl t) xs cs↔∃mv,cs=[.map mv]/\(mv=none->xs=[])/\∀blk,mv=some blk->ok blk t/\∃(es:Array MapEntry) (ck:Nat),h[blk]? =some (.map es ck)/\es.size=(xs:List t.den).length/\
    ∀(i:Nat) (x:t.den),(xs:List t.den)[i]? =some x->∃e:MapEntry,es[i]? =some e/\UF t e/\oD h ok t x (Eg t e):=by
 constructor
 .rintro(h|h)
  .rw[ht]at h;cases h.1
  .exact h.2
 .exact λh=> .inr ⟨ht,h⟩
theorem iK{h:Array Obj}{ok:Nat->Ty->Prop} :∀{t:Ty} {x:t.den} {cs:d1D},oD h ok t x cs->cs.length=t.size
 | .bool,_,_,e=>by simp[oD]at e;simp[e,Ty.size]| .int _,_,_,e=>by simp[oD]at e;simp[e,Ty.size]| .str,_,_,e=>by simp[oD]at e;simp[e,Ty.size]| .unit,_,_,e=>by simp[oD]at e;simp[e,Ty.size]| .prod a b,_,_,e=>by obtain⟨c,d,rfl,h1,h2⟩:=e;simp[iK h1,iK h2,Ty.size]
 | .ent _ _ a b,_,_,e=>by obtain⟨c,d,rfl,h1,h2⟩:=e;simp[iK h1,iK h2,Ty.size]
 | .sl t,_,_,e=>by rcases e with⟨_,a,cap,rfl,_⟩|⟨_,mv,rfl,_⟩<;>simp[Ty.size]
theorem gQ{h h' :Array Obj}{ok ok' :Nat->Ty->Prop}(hok:∀b t,ok b t->ok' b t)(hh:∀b t,ok b t->h'[b]? =h[b]?):
  ∀{t:Ty} {x:t.den} {cs:d1D},oD h ok t x cs->oD h' ok' t x cs
 | .bool,_,_,e=>e| .int _,_,_,e=>e| .str,_,_,e=>e| .unit,_,_,e=>e| .prod a b,_,_,e=>by obtain⟨c,d,rfl,h1,h2⟩:=e;exact⟨c,d,rfl,gQ hok hh h1,gQ hok hh h2⟩
 | .ent _ _ a b,_,_,e=>by obtain⟨c,d,rfl,h1,h2⟩:=e;exact⟨c,d,rfl,gQ hok hh h1,gQ hok hh h2⟩
 | .sl t,xs,_,e=>by
  rcases e with⟨ht,a,cap,rfl,hc,hx⟩|⟨ht,mv,rfl,hn,hx⟩
  .refine .inl ⟨ht,a,cap,rfl,hc,λi x hi=>?_⟩;obtain⟨blk,off,es,ha,hb,he,hr⟩:=hx i x hi;exact⟨blk,off,es,ha,hok _ _ hb,by rw[wo (hh _ _ hb)];exact he,gQ hok hh hr⟩
  .refine .inr ⟨ht,mv,rfl,hn,λblk hb=>?_⟩;obtain⟨ho,es,ck,he,hs,hi⟩:=hx blk hb;refine⟨hok _ _ ho,es,ck,by rw[hh _ _ ho];exact he,hs,λi x hx=>?_⟩;obtain⟨e,h1,h2,h3⟩:=hi i x hx;exact⟨e,h1,h2,gQ hok hh h3⟩
theorem EY{h h' :Array Obj}{ok ok' :Nat->Ty->Prop} :∀{t:Ty} {x:t.den} {cs:d1D},t.flat=true->oD h ok t x cs->oD h' ok' t x cs
 | .bool,_,_,_,e=>e| .int _,_,_,_,e=>e| .str,_,_,_,e=>e| .unit,_,_,_,e=>e| .prod a b,_,_,f,e=>by simp[Ty.flat]at f;obtain⟨c,d,rfl,h1,h2⟩:=e;exact⟨c,d,rfl,EY f.1 h1,EY f.2 h2⟩
 | .sl t,xs,_,f,e=>by simp[Ty.flat]at f| .ent ..,xs,_,f,e=>by simp[Ty.flat]at f
theorem zS{h:Array Obj}{ok:Nat->Ty->Prop} :∀{t:Ty} {x:t.den} {cs:d1D},oD h ok t x cs->∀v∈cs,v.oneCell' =true
 | .bool,_,_,e=>by simp[oD]at e;subst e;simp[Value.oneCell']| .int _,_,_,e=>by simp[oD]at e;subst e;simp[Value.oneCell']| .str,_,_,e=>by simp[oD]at e;subst e;simp[Value.oneCell']| .unit,_,_,e=>by simp[oD]at e;subst e;simp| .prod a b,_,_,e=>by
  obtain⟨c,d,rfl,h1,h2⟩:=e;intro v hv;rcases C9.1 hv with hv|hv
  .exact zS h1 v hv
  .exact zS h2 v hv
 | .ent _ _ a b,_,_,e=>by
  obtain⟨c,d,rfl,h1,h2⟩:=e;intro v hv;rcases C9.1 hv with hv|hv
  .exact zS h1 v hv
  .exact zS h2 v hv
 | .sl t,xs,_,e=>by rcases e with⟨_,a,cap,rfl,_⟩|⟨_,mv,rfl,_⟩<;>simp[Value.oneCell']
theorem CX{h:Array Obj}{ok ok' :Nat->Ty->Prop} :∀{t:Ty} {x:t.den} {cs:d1D},(∀b u,ok b u->Ty.occ u t=true->ok' b u)->oD h ok t x cs->oD h ok' t x cs
 | .bool,_,_,_,e=>e| .int _,_,_,_,e=>e| .str,_,_,_,e=>e| .unit,_,_,_,e=>e| .prod a b,_,_,f,e=>by obtain⟨c,d,rfl,h1,h2⟩:=e;exact⟨c,d,rfl,CX (λb u h k=>f b u h (by simp[Ty.occ,k])) h1,CX (λb u h k=>f b u h (by simp[Ty.occ,k])) h2⟩
 | .ent _ _ a b,_,_,f,e=>by obtain⟨c,d,rfl,h1,h2⟩:=e;exact⟨c,d,rfl,CX (λb u h k=>f b u h (by simp[Ty.occ,k])) h1,CX (λb u h k=>f b u h (by simp[Ty.occ,k])) h2⟩
 | .sl t,xs,_,f,e=>by
  rcases e with⟨ht,a,cap,rfl,hc,hx⟩|⟨ht,mv,rfl,hn,hx⟩
  .refine .inl ⟨ht,a,cap,rfl,hc,λi x hi=>?_⟩;obtain⟨blk,off,es,ha,hb,he,hr⟩:=hx i x hi;exact⟨blk,off,es,ha,f _ _ hb (by simp[Ty.occ]),he,CX (λb u h k=>f b u h (by simp[Ty.occ,k])) hr⟩
  .refine .inr ⟨ht,mv,rfl,hn,λblk hb=>?_⟩;obtain⟨ho,es,ck,he,hs,hi⟩:=hx blk hb;refine⟨f _ _ ho (by simp[Ty.occ]),es,ck,he,hs,λi x hx=>?_⟩;obtain⟨e,h1,h2,h3⟩:=hi i x hx;exact⟨e,h1,h2,CX (λb u h k=>f b u h (by simp[Ty.occ,k])) h3⟩
inductive Loc where
 |nil|arr (blk off len cap sz:Nat)|st (blk:Nat)|mp (blk:Nat)
structure Mp where
 loc:Nat->Option Loc
 kid:Nat->d1B
instance:CoeFun Mp (λ_=>Nat->Option Loc):=⟨Mp.loc⟩
def nom:Mp:=⟨λ_=>none,λ_=>[]⟩
structure Cx where
 h:Array Obj
 ok:Nat->Ty->Prop
 m:Mp
def Loc.view:Loc->Option (Nat×Nat)->Value->Prop
 | .nil,none,v=>v= .slice none 0 0| .nil,some (lo,hi),v=>lo=0/\hi=0/\v= .slice none 0 0| .arr blk off len cap _,none,v=>v= .slice (some ⟨blk,off,none⟩) len cap| .arr blk off len cap sz,some (lo,hi),v=>lo<=hi/\hi<=len/\v= .slice (some (if cap=lo then⟨blk,off,none⟩else⟨blk,off+lo*sz,none⟩)) (hi -lo) (cap -lo)| .st _,_,_=>False| .mp b,none,v=>v= .map (some b)| .mp _,some _,_=>False
def Loc.blks:Loc->d1B
 | .nil=>[]| .arr b _ _ _ _=>[b]| .st b=>[b]| .mp b=>[b]
def a7u(h:Array Obj)(ok:Nat->Ty->Prop)(t:Ty)(x:t.den)(o:Nat)(v:Value):Prop:=
 ∃blk off es,v= .pointer (some ⟨blk,off+o,none⟩)/\ok blk t/\gU h blk off t.size=some es/\oD h ok t x es
def Jk(h:Array Obj)(ok:Nat->Ty->Prop):List ((t:Ty)×t.den)->d1D->Prop
 |[],vs=>vs=[]|c::cs,vs=>∃v r,vs=v::r/\a7u h ok c.1 c.2 0 v/\Jk h ok cs r
def Bv(C:Cx):V->Value->Prop
 | .undef,_=>True| .un,v=>v=Go.undef| .b x,v=>v= .bool x| .i k n,v=>v= .int k n| .s l,v=>v= .string ⟨l.toArray⟩| .nl,v=>v= .slice none 0 0| .ne b,v=>∃a c,v= .slice a 0 c/\a.isNone=b| .sl t xs,v=>oD C.h C.ok (.sl t) xs [v]| .own bx vw,v=>∃loc,C.m bx=some loc/\loc.view vw v| .ptr bx o,v=>∃blk,C.m bx=some (.st blk)/\v= .pointer (some ⟨blk,o,none⟩)| .ep bx ix o,v=>∃blk off len cap sz,C.m bx=some (.arr blk off len cap sz)/\ix<len/\v= .pointer (some ⟨blk,off+ix*sz+o,none⟩)| .dp t x o,v=>a7u C.h C.ok t x o v| .glob g,v=>v= .pointer (some ⟨g,0,none⟩)| .fnv f,v=>v= .func (.func f) #[] #[]| .clos f caps,v=>∃vs,v= .func (.func f) #[] vs/\Jk C.h C.ok caps vs.toList| .ifc t c,v=>∃u,v= .iface t u/\u.oneCell' =true/\Bv C c u|_,_=>False
def jf(C:Cx):List V->d1D->Prop
 |[],vs=>vs=[]|c::cs,vs=>∃v r,vs=v::r/\Bv C c v/\v.oneCell' =true/\jf C cs r
def a0o(C:Cx):V->Value->Prop
 | .agg cs,v=>∃arr,v= .agg arr/\jf C cs arr.toList|c,v=>Bv C c v
def a4b(C:Cx):List V->d1D->Prop
 |[],vs=>vs=[]|c::cs,vs=>∃v r,vs=v::r/\a0o C c v/\a4b C cs r
def pg(C:Cx):V->Value->Prop
 | .tup cs,v=>∃arr,v= .tuple arr/\a4b C cs arr.toList|c,v=>a0o C c v
def arrOk(C:Cx)(t:Ty)(xs:List t.den):Loc->Prop
 | .nil=>xs=[]/\t.isEnt=false| .arr blk off len cap sz=>t.isEnt=false/\sz=t.size/\len=xs.length/\len<=cap/\∃c T,C.h[blk]? =some (.cells c T (0,0))/\off+cap*sz<=c.size/\
   ∀i x,xs[i]? =some x->∃es,gU C.h blk (off+i*sz) sz=some es/\oD C.h C.ok t x es
 | .st _=>False| .mp blk=>t.isEnt=true/\∃(es:Array MapEntry) (ck:Nat),C.h[blk]? =some (.map es ck)/\es.size=xs.length/\
   ∀(i:Nat) (x:t.den),(xs:List t.den)[i]? =some x->∃e:MapEntry,es[i]? =some e/\UF t e/\oD C.h C.ok t x (Eg t e)
def Ho{α:Type}(h:Array Obj)(sz:Nat)(R:Nat->α->d1D->d1B->Prop)(xs:List α)(Os:List d1B):Loc->Prop
 | .nil=>xs=[]/\Os=[]| .arr blk off len cap sz' =>sz' =sz/\len=xs.length/\len<=cap/\Os.length=xs.length/\∃c T,h[blk]? =some (.cells c T (0,0))/\off+cap*sz<=c.size/\
   ∀i x,xs[i]? =some x->∃es O,Os[i]? =some O/\gU h blk (off+i*sz) sz=some es/\R i x es O
 | .st _=>False| .mp _=>False
def sH(h:Array Obj)(ok:Nat->Ty->Prop):(m:M)->Option Nat->m.den->d1D->d1B->Prop
 | .dat t,_,x,cs,O=>oD h ok t x cs/\O=[]| .own t,ho,xs,cs,O=>∃v,cs=[v]/\v.oneCell' =true/\(match ho with|some 0=>O=[]|_=>∃l,l.view none v/\arrOk ⟨h,ok,nom⟩ t xs l/\O=l.blks)| .pair a b,ho,x,cs,O=>∃c d O1 O2,cs=c++d/\O=O1++O2/\sH h ok a (match ho with|some o=>if o<a.size then some o else none|none=>none) x.1 c O1/\
   sH h ok b (match ho with|some o=>if o<a.size then none else some (o -a.size)|none=>none) x.2 d O2
 | .unit,_,_,cs,O=>cs=[]/\O=[]| .box m,_,x,cs,O=>∃blk arr T O',cs=[.pointer (some ⟨blk,0,none⟩)]/\h[blk]? =some (.cells arr T (0,0))/\sH h ok m none x arr.toList O' /\O=blk::O'| .owns m,ho,xs,cs,O=>∃v,cs=[v]/\v.oneCell' =true/\(match ho with|some 0=>O=[]|_=>m.el=true/\∃l Os,l.view none v/\Ho h m.size (λ_ x es O=>sH h ok m none x es O) xs Os l/\O=l.blks++Os.flatten)| .ownb t,_,xs,cs,O=>∃l v,cs=[v]/\l.view none v/\arrOk ⟨h,ok,nom⟩ t xs l/\O=l.blks| .rp t,_,x,cs,O=>∃v,cs=[v]/\a7u h ok t x 0 v/\O=[]| .fn f ts,_,x,cs,O=>∃vs,cs=[.func (.func f) #[] vs]/\Jk h ok (Xz ts x) vs.toList/\O=[]| .ifc t m,_,x,cs,O=>∃u,cs=[.iface t u]/\sH h ok m none x [u] O| .cell b,_,x,cs,O=>∃v,cs=[v]/\v.oneCell' =true/\(b=some none->v= .slice none 0 0)/\(∀b',b=some (some b')->∃a c,v= .slice a 0 c/\a.isNone=b')/\O=[]
def a1h(hole:Option (Nat×Nat×Option Nat))(i:Nat):Option Nat:=match hole with|some (j,o,_)=>if i=j then some o else none|none=>none
def r_(C:Cx)(sz:Nat)(l:Loc):Option (Nat×Nat×Option Nat)->Prop
 |none=>True|some (_,_,none)=>True|some (i,o,some n)=>∃blk off len cap u l',l= .arr blk off len cap sz/\gU C.h blk (off+i*sz+o) 1=some [u]/\C.m n=some l' /\l'.view none u
def a9C(C:Cx)(m:M)(xs:List m.den)(hole:Option (Nat×Nat×Option Nat))(Os:List d1B)(l:Loc):Prop:=
 Ho C.h m.size (λi x es O=>sH C.h C.ok m (a1h hole i) x es O) xs Os l/\r_ C m.size l hole
def JQ(C:Cx)(n:Nat):V->Prop
 | .bcells cs=>∃blk arr T,C.m n=some (.st blk)/\C.h[blk]? =some (.cells arr T (0,0))/\jf C cs arr.toList| .barr t xs=>∃loc,C.m n=some loc/\arrOk C t xs loc| .bfrz t xs=>∃loc,C.m n=some loc/\arrOk C t xs loc/\(∀blk,blk∈loc.blks->C.ok blk t)| .barrs m xs hole=>m.el=true/\∃loc Os,C.m n=some loc/\a9C C m xs hole Os loc/\C.m.kid n=Os.flatten| .bfc t x=>∃blk es,C.m n=some (.st blk)/\C.ok blk t/\gU C.h blk 0 t.size=some es/\oD C.h C.ok t x es| .gone t=>∃l,C.m n=some l/\∀blk off len cap sz,l= .arr blk off len cap sz->sz=t.size| .blen ln sz=>∃k l,n=Wh+k/\C.m k=some l/\(match l with| .arr _ _ len _ sz' =>ln=(len:Int)/\sz=sz'| .nil=>ln=0| .st _=>False| .mp _=>False)|_=>True
def aC(m:Mp)(n:Nat):V->d1B
 | .bcells _=>match m n with|some (.st blk)=>[blk]|_=>[]
 | .barr _ _=>match m n with|some (.arr blk _ _ _ _)=>[blk]|some (.mp blk)=>[blk]|_=>[]
 | .barrs _ _ _=>(match m n with|some (.arr blk _ _ _ _)=>[blk]|_=>[])++m.kid n|_=>[]
def b4N:V->List Ty
 | .barr t _=>[t]| .barrs m _ _=>m.ty::m.owned|_=>[]
structure Cx.le (C D:Cx):Prop where
 ok:∀b t,C.ok b t->D.ok b t
 h:∀b t,C.ok b t->D.h[b]? =C.h[b]?
 m:∀n l,C.m n=some l->D.m n=some l
theorem Cx.le.refl(C:Cx):C.le C:=⟨λ_ _ h=>h,λ_ _ _=>rfl,λ_ _ h=>h⟩
theorem Cx.le.trans{A B C:Cx}(h:A.le B)(k:B.le C):A.le C:=
 ⟨λb t x=>k.ok _ _ (h.ok _ _ x),λb t x=>(k.h _ _ (h.ok _ _ x)).trans (h.h _ _ x),λn l x=>k.m _ _ (h.m _ _ x)⟩
variable {v:Value}{ok':Nat->Ty->Prop}
theorem QZ(hok:∀b t,ok b t->ok' b t)(hh:∀b t,ok b t->h'[b]? =h[b]?){x:t.den}{o:Nat}(hr:a7u h ok t x o v):a7u h' ok' t x o v:=by obtain⟨b,o',es,hv,hb,hc,hp⟩:=hr;exact⟨b,o',es,hv,hok _ _ hb,by rw[wo (hh _ _ hb)];exact hc,gQ hok hh hp⟩
theorem PL{h h' :Array Obj}{ok ok' :Nat->Ty->Prop}(hok:∀b t,ok b t->ok' b t)(hh:∀b t,ok b t->h'[b]? =h[b]?):∀{cs:List ((t:Ty)×t.den)} {vs:d1D},Jk h ok cs vs->Jk h' ok' cs vs
 |[],_,hr=>hr|_::_,_,⟨v,r,e,h1,h2⟩=>⟨v,r,e,QZ hok hh h1,PL hok hh h2⟩
variable {C:Cx}{D:Cx}
theorem b0u(h:C.le D):∀{c:V} {v:Value},Bv C c v->Bv D c v:=by
 intro c;induction c using V.rec (motive_2:=λ_=>True)<;>try trivial
 all_goals
  intro v hr;simp only[Bv]at hr ⊢
  try exact hr
 case sl t xs=>exact gQ h.ok h.h hr
 case own bx vw=>obtain⟨l,hm,hv⟩:=hr;exact⟨l,h.m _ _ hm,hv⟩
 case ptr bx o=>obtain⟨b,hm,hv⟩:=hr;exact⟨b,h.m _ _ hm,hv⟩
 case ep bx ix o=>obtain⟨b,o',l,c,s,hm,hv⟩:=hr;exact⟨b,o',l,c,s,h.m _ _ hm,hv⟩
 case dp t x o=>exact QZ h.ok h.h hr
 case clos f caps=>obtain⟨vs,e,hc⟩:=hr;exact⟨vs,e,PL h.ok h.h hc⟩
 case ifc t c ih=>obtain⟨u,e,h1,hc⟩:=hr;exact⟨u,e,h1,ih hc⟩
theorem Lj{C D:Cx}(h:C.le D):∀{cs:List V} {vs:d1D},jf C cs vs->jf D cs vs
 |[],_,hr=>hr|_::_,_,⟨v,r,e,h1,h2,h3⟩=>⟨v,r,e,b0u h h1,h2,Lj h h3⟩
theorem b0t(h:C.le D){c:V}(hr:a0o C c v):a0o D c v:=by
 cases c<;>simp only[a0o]at hr ⊢<;>try exact b0u h hr
 case agg cs=>obtain⟨arr,e,hl⟩:=hr;exact⟨arr,e,Lj h hl⟩
theorem b0v{C D:Cx}(h:C.le D):∀{cs:List V} {vs:d1D},a4b C cs vs->a4b D cs vs
 |[],_,hr=>hr|_::_,_,⟨v,r,e,h1,h3⟩=>⟨v,r,e,b0t h h1,b0v h h3⟩
theorem VD(h:C.le D){c:V}(hr:pg C c v):pg D c v:=by
 cases c<;>simp only[pg]at hr ⊢<;>try exact b0t h hr
 case tup cs=>obtain⟨arr,e,hl⟩:=hr;exact⟨arr,e,b0v h hl⟩
variable {l:Loc}
theorem qP{m m' :Mp}(hok:∀b t,ok b t->ok' b t)(hh:∀b t,ok b t->h'[b]? =h[b]?)
  (hb:∀b∈l.blks,h'[b]? =h[b]?) (hr:arrOk ⟨h,ok,m⟩ t xs l):arrOk ⟨h',ok',m'⟩ t xs l:=by
 cases l with
 |nil=>exact hr|st b=>exact hr|mp blk=>have e:=hb blk (by simp[Loc.blks]);obtain⟨h1,es,ck,h2,h3,h4⟩:=hr;refine⟨h1,es,ck,by show h'[blk]? =_;rw[e];exact h2,h3,λi x hi=>?_⟩;obtain⟨en,a1,a2,a3⟩:=h4 i x hi;exact⟨en,a1,a2,gQ hok hh a3⟩
 |arr blk off len cap sz=>have e:=hb blk (by simp[Loc.blks]);obtain⟨h0,h1,h2,h3,c,T,h4,h5,h6⟩:=hr;refine⟨h0,h1,h2,h3,c,T,by show h'[blk]? =_;rw[e];exact h4,h5,λi x hi=>?_⟩;obtain⟨es,he,hp⟩:=h6 i x hi;exact⟨es,by show gU h' _ _ _=_;rw[wo e];exact he,gQ hok hh hp⟩
theorem a4D(h:C.le D)(hb:∀b∈l.blks,D.h[b]? =C.h[b]?)(hr:arrOk C t xs l):arrOk D t xs l:=
 qP h.ok h.h hb hr
theorem KD{α:Type}{sz:Nat}{R R' :Nat->α->d1D->d1B->Prop}{xs:List α}{Os:List d1B}(hb:∀b∈l.blks,h'[b]? =h[b]?)
  (hR:∀i x es O,O∈Os->R i x es O->R' i x es O) (hr:Ho h sz R xs Os l):Ho h' sz R' xs Os l:=by
 cases l with
 |nil=>exact hr|st b=>exact hr|mp b=>exact hr|arr blk off len cap sz=>have e:=hb blk (by simp[Loc.blks]);obtain⟨h1,h2,h3,h7,c,T,h4,h5,h6⟩:=hr;refine⟨h1,h2,h3,h7,c,T,by rw[e];exact h4,h5,λi x hi=>?_⟩;obtain⟨es,O,hO,he,hp⟩:=h6 i x hi;exact⟨es,O,hO,by rw[wo e];exact he,hR _ _ _ _ (kw hO) hp⟩
theorem lL{h h' :Array Obj}{ok ok' :Nat->Ty->Prop}(hok:∀b t,ok b t->ok' b t)(hh:∀b t,ok b t->h'[b]? =h[b]?):
  ∀{m:M} {ho:Option Nat} {x:m.den} {cs:d1D} {O:d1B},(∀b∈O,h'[b]? =h[b]?)->sH h ok m ho x cs O->sH h' ok' m ho x cs O
 | .dat t,_,_,_,_,_,e=>⟨gQ hok hh e.1,e.2⟩| .own t,ho,_,_,O,hb,⟨v,e,h1,ha⟩=>by
  refine⟨v,e,h1,?_⟩;split at ha
  .exact ha
  .obtain⟨l,hv,ha,ho⟩:=ha;exact⟨l,hv,qP hok hh (by subst ho;exact hb) ha,ho⟩
 | .pair a b,_,_,_,_,hb,⟨c,d,O1,O2,e,eo,h1,h2⟩=>by subst eo;exact⟨c,d,O1,O2,e,rfl,lL hok hh (λb h=>hb b (by simp[h])) h1,lL hok hh (λb h=>hb b (by simp[h])) h2⟩| .unit,_,_,_,_,_,e=>e| .box m,_,_,_,_,hb,⟨blk,arr,T,O',e,hh',hr,eo⟩=>by subst eo;exact⟨blk,arr,T,O',e,by rw[hb blk x9];exact hh',lL hok hh (λb h=>hb b (by simp[h])) hr,rfl⟩| .owns m,ho,_,_,O,hb,⟨v,e,h1,ha⟩=>by
  refine⟨v,e,h1,?_⟩;split at ha
  .exact ha
  .obtain⟨he,l,Os,hv,ha,ho⟩:=ha;subst ho;exact⟨he,l,Os,hv,KD (λb h=>hb b (by simp[h])) (λi x es O hO hr=>lL hok hh (λb h=>hb b (by simp only[C9,fG];exact .inr ⟨O,hO,h⟩)) hr) ha,rfl⟩
 | .ownb t,_,_,_,_,hb,⟨l,v,e,hv,ha,ho⟩=>⟨l,v,e,hv,qP hok hh (by subst ho;exact hb) ha,ho⟩| .rp t,_,_,_,_,_,⟨v,e,h1,h2⟩=>⟨v,e,QZ hok hh h1,h2⟩| .fn f ts,_,_,_,_,_,⟨vs,e,h1,h2⟩=>⟨vs,e,PL hok hh h1,h2⟩| .ifc t m,_,_,_,_,hb,⟨u,e,h1⟩=>⟨u,e,lL hok hh hb h1⟩| .cell b,_,_,_,_,_,h=>h
theorem YW(h:C.le D){v:V}(hk:D.m.kid n=C.m.kid n)(hb:∀b∈aC C.m n v,D.h[b]? =C.h[b]?)(hr:JQ C n v):JQ D n v:=by
 cases v<;>simp only[JQ]at hr ⊢
 case bcells cs=>obtain⟨blk,arr,T,hm,hh,hl⟩:=hr;exact⟨blk,arr,T,h.m _ _ hm,by rw[hb blk (by simp[aC,hm])];exact hh,Lj h hl⟩
 case barr t xs=>
  obtain⟨l,hm,ha⟩:=hr;refine⟨l,h.m _ _ hm,a4D h ?_ ha⟩;intro b hbl;refine hb b ?_;cases l<;>simp[Loc.blks]at hbl
  .subst hbl;simp[aC,hm]
  .cases ha
  .subst hbl;simp[aC,hm]
 case bfrz t xs=>obtain⟨l,hm,ha,hok⟩:=hr;refine⟨l,h.m _ _ hm,a4D h ?_ ha,λblk e=>h.ok _ _ (hok _ e)⟩;intro b hbl;exact h.h _ _ (hok _ hbl)
 case barrs m xs hole=>
  obtain⟨he,l,Os,hm,ha,ho⟩:=hr;obtain⟨ha,hh⟩:=ha;refine⟨he,l,Os,h.m _ _ hm,⟨KD ?_ ?_ ha,?_⟩,hk.trans ho⟩
  .intro b hbl;refine hb b ?_;cases l<;>simp[Loc.blks]at hbl
   .subst hbl;simp[aC,hm]
   .cases ha
   .cases ha
  .intro i x es O hO hr;refine lL h.ok h.h (λb hbO=>hb b ?_) hr;simp only[aC,C9];right;rw[ho];exact fG.2 ⟨O,hO,hbO⟩
  .rcases hole with _|⟨i,o,_|k⟩
   .trivial
   .trivial
   .obtain⟨blk,off,len,cap,u,l',rfl,h1,h2,h3⟩:=hh;exact⟨blk,off,len,cap,u,l',rfl,by rw[wo (hb blk (by simp[aC,hm]))];exact h1,h.m _ _ h2,h3⟩
 case bfc t x=>obtain⟨blk,es,hm,hok,he,hr⟩:=hr;exact⟨blk,es,h.m _ _ hm,h.ok _ _ hok,by rw[wo (h.h _ _ hok)];exact he,gQ h.ok h.h hr⟩
 case gone t=>obtain⟨l,hm,hs⟩:=hr;exact⟨l,h.m _ _ hm,hs⟩
 case blen ln sz=>obtain⟨k,l,e,hm,hs⟩:=hr;exact⟨k,l,e,h.m _ _ hm,hs⟩
theorem qA{C:Cx} :∀{cs:List V} {vs:d1D},jf C cs vs->cs.length=vs.length
 |[],_,h=>by simp[jf]at h;simp[h]|_::_,_,⟨v,r,e,_,_,h3⟩=>by subst e;simp[qA h3]
theorem zQ{C:Cx} :∀{a:List V} {va:d1D} {b:List V} {vb:d1D},jf C a va->jf C b vb->jf C (a++b) (va++vb)
 |[],_,_,_,h,k=>by simp[jf]at h;subst h;exact k|_::_,_,_,_,⟨v,r,e,h1,h2,h3⟩,k=>by subst e;exact⟨v,r++_,rfl,h1,h2,zQ h3 k⟩
theorem VB{C:Cx} :∀{cs:List V} {vs:d1D},jf C cs vs->∀v∈vs,v.oneCell' =true
 |[],_,h=>by simp[jf]at h;simp[h]|_::_,_,⟨v,r,e,_,h2,h3⟩=>by
  subst e;intro u hu;rcases D6.1 hu with rfl|hu
  .exact h2
  .exact VB h3 u hu
theorem AU{C:Cx} :∀(n:Nat) {cs:List V} {vs:d1D},jf C cs vs->jf C (cs.drop n) (vs.drop n)
 |0,_,_,h=>by simpa using h|n+1,[],_,h=>by simp[jf]at h;subst h;simp[jf]|n+1,_::_,_,⟨v,r,e,_,_,h3⟩=>by subst e;simpa using AU n h3
theorem DT{C:Cx} :∀(n:Nat) {cs:List V} {vs:d1D},jf C cs vs->jf C (cs.take n) (vs.take n)
 |0,_,_,h=>by simp[jf]|n+1,[],_,h=>by simp[jf]at h;subst h;simp[jf]|n+1,_::_,_,⟨v,r,e,h1,h2,h3⟩=>by subst e;exact⟨v,r.take n,x9,h1,h2,DT n h3⟩
theorem oI:∀(t:Ty) (x:t.den) (r:List V),flat t x r=flat t x []++r
 | .bool,_,_=>rfl| .int _,_,_=>rfl| .str,_,_=>rfl| .sl _,_,_=>rfl| .unit,_,_=>rfl| .prod a b,x,r=>by simp only[flat];rw[oI a x.1 (flat b x.2 r),oI b x.2 r,oI a x.1 (flat b x.2 [])];simp| .ent _ _ a b,x,r=>by simp only[flat];rw[oI a x.1 (flat b x.2 r),oI b x.2 r,oI a x.1 (flat b x.2 [])];simp
theorem uY{C:Cx} :∀{t:Ty} {x:t.den} {cs:d1D},oD C.h C.ok t x cs->jf C (flat t x []) cs
 | .bool,x,_,h=>by simp[oD]at h;subst h;exact⟨_,_,rfl,rfl,rfl,rfl⟩| .int _,x,_,h=>by simp[oD]at h;subst h;exact⟨_,_,rfl,rfl,rfl,rfl⟩| .str,x,_,h=>by simp[oD]at h;subst h;exact⟨_,_,rfl,rfl,rfl,rfl⟩| .unit,_,_,h=>by simp[oD]at h;subst h;rfl
 | .sl t,xs,_,h=>by have h' :=h;rcases h with⟨_,a,cap,rfl,_⟩|⟨_,mv,rfl,_⟩<;>exact⟨_,_,rfl,h',rfl,rfl⟩
 | .ent _ _ a b,x,_,h=>by obtain⟨c,d,rfl,h1,h2⟩:=h;simp only[flat];rw[oI a];exact zQ (uY h1) (uY h2)
 | .prod a b,x,_,h=>by obtain⟨c,d,rfl,h1,h2⟩:=h;simp only[flat];rw[oI a];exact zQ (uY h1) (uY h2)
theorem sQ:∀(t:Ty) (x:t.den),(flat t x []).length=t.size
 | .bool,_=>rfl| .int _,_=>rfl| .str,_=>rfl| .sl _,_=>rfl| .unit,_=>rfl| .prod a b,x=>by simp only[flat,Ty.size];rw[oI a,F5,sQ a x.1,sQ b x.2]| .ent _ _ a b,x=>by simp only[flat,Ty.size];rw[oI a,F5,sQ a x.1,sQ b x.2]
theorem uh{vw:Option (Nat×Nat)}(ha:arrOk C t xs l)(hv:l.view vw v)
  (hok:∀b t,C.ok b t->ok' b t) (hb:∀blk,blk∈l.blks->ok' blk t):oD C.h ok' (.sl t) (kN vw xs) [v]:=by
 cases l with
 |st b=>cases ha|mp b=>
  obtain⟨h0,es,ck,h1,h2,h3⟩:=ha;cases vw with
  |some p=>cases hv|none=>simp only[Loc.view]at hv;subst hv;refine .inr ⟨h0,some b,rfl,(λh=>nomatch h),λblk e=>?_⟩;cases e;refine⟨hb b (by simp[Loc.blks]),es,ck,h1,h2,λi x hi=>?_⟩;obtain⟨en,a1,a2,a3⟩:=h3 i x hi;exact⟨en,a1,a2,gQ hok (λ_ _ _=>rfl) a3⟩
 |nil=>
  obtain⟨ha,h0⟩:=ha;subst ha;cases vw with
  |none=>simp only[Loc.view]at hv;subst hv;exact .inl ⟨h0,none,0,rfl,E9 _,λi x hi=>by simp[kN]at hi⟩|some p=>obtain⟨lo,hi⟩:=p;obtain⟨rfl,rfl,rfl⟩:=hv;exact .inl ⟨h0,none,0,by simp[kN,qo],by simp[kN,qo],λi x hi=>by simp[kN,qo]at hi⟩
 |arr blk off len cap sz=>
  obtain⟨h0,rfl,rfl,hc,c,T,hh,hs,hx⟩:=ha;have hbk:=hb blk (by simp[Loc.blks]);cases vw with
  |none=>simp only[Loc.view]at hv;subst hv;refine .inl ⟨h0,_,cap,rfl,hc,λi x hi=>?_⟩;obtain⟨es,he,hr⟩:=hx i x hi;exact⟨blk,off,es,rfl,hbk,he,gQ hok (λ_ _ _=>rfl) hr⟩
  |some p=>
   obtain⟨lo,hi⟩:=p;obtain⟨h1,h2,rfl⟩:=hv;have hl:(kN (some (lo,hi)) xs).length=hi -lo:=by simp[kN,qo];omega
   refine .inl ⟨h0,_,cap -lo,by rw[hl],by rw[hl];omega,λi x hix=>?_⟩;have hi' :i<hi -lo:=by rw[←hl];exact(X6.1 hix).1
   have hx' :xs[lo+i]? =some x:=by
    simp only[kN,qo,Y7,ae]at hix;split at hix
    .exact hix
    .cases hix
   obtain⟨es,he,hr⟩:=hx _ x hx';have hne:cap≠lo:=l7;refine⟨blk,off+lo*t.size,es,by simp[hne],hbk,?_,gQ hok (λ_ _ _=>rfl) hr⟩;rw[←he];congr 1;rw[P5];omega
end Go.GP
namespace Go.GP
abbrev Sm:=Nat->V
def upd(S:Sm)(k:Nat)(v:V):Sm:=λn=>if n=k then v else S n
@[simp] theorem oG (S:Sm) (k:Nat) (v:V):upd S k v k=v:=by simp[upd]
theorem dZ(S:Sm){k n:Nat}(v:V)(h:n≠k):upd S k v n=S n:=by simp[upd,h]
variable {α:Type}
def Cmd.eval :Cmd α->Sm->Tr->Option (α×Sm×Tr)
 | .ret x,S,t=>some (x,S,t)| .fail,_,_=>none| .get k c,S,t=>(c (S k)).eval S (k::t.1,t.2)| .set k v c,S,t=>c.eval (upd S k v) (t.1,k::t.2)
 | .opt o c,S,t=>match o with|some x=>(c x).eval S t|none=>none
 | .br b c d,S,t=>if b=true then c.eval S t else d.eval S t
def Cmd.post :Cmd α->Sm->(α->Sm->Prop)->Prop
 | .ret x,S,Q=>Q x S| .fail,_,_=>True| .get k c,S,Q=>(c (S k)).post S Q| .set k v c,S,Q=>c.post (upd S k v) Q| .opt o c,S,Q=>∀x,o=some x->(c x).post S Q| .br b c d,S,Q=>(b=true->c.post S Q)/\(b=false->d.post S Q)
theorem xu{α:Type}{Q:α->Sm->Prop} :∀{c:Cmd α} {S S' :Sm} {t t' :Tr} {x:α},c.post S Q->c.eval S t=some (x,S',t')->Q x S'
 | .ret x,_,_,_,_,_,h,e=>by simp[Cmd.eval]at e;obtain⟨rfl,rfl,rfl⟩:=e;exact h
 | .fail,_,_,_,_,_,h,e=>by simp[Cmd.eval]at e| .get k c,_,_,_,_,_,h,e=>xu (c:=c _) h e| .set k v c,_,_,_,_,_,h,e=>xu (c:=c) h e| .opt o c,_,_,_,_,_,h,e=>by
  cases o with
  |none=>simp[Cmd.eval]at e|some x=>exact xu (c:=c x) (h x rfl) e
 | .br b c d,_,_,_,_,_,h,e=>by
  cases b
  .exact xu (c:=d) (h.2 rfl) (by simpa[Cmd.eval]using e)
  .exact xu (c:=c) (h.1 rfl) (by simpa[Cmd.eval]using e)
theorem Gi{α:Type}{Q Q' :α->Sm->Prop}(hq:∀x S,Q x S->Q' x S):∀{c:Cmd α} {S:Sm},c.post S Q->c.post S Q'
 | .ret x,_,h=>hq _ _ h| .fail,_,_=>trivial| .get k c,_,h=>Gi hq (c:=c _) h| .set k v c,_,h=>Gi hq (c:=c) h
 | .opt o c,_,h=>λx e=>Gi hq (c:=c x) (h x e)| .br b c d,_,h=>⟨λe=>Gi hq (c:=c) (h.1 e),λe=>Gi hq (c:=d) (h.2 e)⟩
theorem MR{R:Type} :∀(v:V) (K:V->R),v.force K=K v:=by
 intro v;induction v using V.rec (motive_2:=λ_=>True)<;>try trivial
 all_goals intro K
 all_goals try rfl
 case i k n=>cases k<;>rfl
 case own bx vw=>cases vw<;>rfl
 case barrs m xs h=>rcases h with _|⟨p,q,_|r⟩<;>rfl
 case ifc t v ih=>simp only[V.force];rw[ih]
theorem a2b{R:Type} :∀(l:List V) (K:List V->R),WH l K=K l
 |[],_=>rfl|v::r,K=>by simp[WH,MR,a2b r]
theorem b1j{R:Type}(v:V)(K:V->R):v.force2 K=K v:=by unfold V.force2;rw[MR];cases v<;>simp[a2b]
theorem a9Y(k:Nat)(v:V)(s:St):gV (.kv k v::s)=upd (gV s) k v:=by
 funext n;simp only[gV,upd];by_cases h:n=k
 .subst h;simp
 .have:Nat.beq k n=false:=by
   cases hb:Nat.beq k n with
   |false=>rfl|true=>exact absurd (jU hb).symm h
  simp[h,this]
theorem JB{α β:Type}{o:Option α}{f:α->Option β}{r:β}(h:o5 o f=some r):∃x,o=some x/\f x=some r:=by
 cases o with
 |none=>simp[o5]at h|some x=>exact⟨x,rfl,h⟩
theorem sU{α R:Type} :∀{c:Cmd α} {s:St} {t:Tr} {K:α->St->Tr->Option R} {r:R},c.runK s t K=some r->
  ∃x s' t',c.eval (gV s) t=some (x,gV s',t')/\K x s' t' =some r
 | .ret x,s,t,K,r,h=>⟨x,s,t,rfl,h⟩| .fail,_,_,_,_,h=>by simp[Cmd.runK]at h| .get k c,s,t,K,r,h=>by simp only[Cmd.runK,MR]at h;exact sU (c:=c _) h| .set k v c,s,t,K,r,h=>by simp only[Cmd.runK,b1j]at h;obtain⟨x,s',t',e,hk⟩:=sU (c:=c) h;exact⟨x,s',t',by simpa[Cmd.eval,a9Y]using e,hk⟩
 | .opt o c,s,t,K,r,h=>by simp only[Cmd.runK]at h;obtain⟨y,rfl,h⟩:=JB h;exact sU (c:=c y) h
 | .br b c d,s,t,K,r,h=>by
  simp only[Cmd.runK]at h;cases b
  .obtain⟨x,s',t',e,hk⟩:=sU (c:=d) (show d.runK s t K=some r from h);exact⟨x,s',t',by simpa[Cmd.eval]using e,hk⟩
  .obtain⟨x,s',t',e,hk⟩:=sU (c:=c) (show c.runK s t K=some r from h);exact⟨x,s',t',by simpa[Cmd.eval]using e,hk⟩
theorem FP{α:Type} :∀{c:Cmd α} {S S' :Sm} {t t' :Tr} {x:α},c.eval S t=some (x,S',t')->(∀k∈t.1,k∈t'.1)/\(∀k∈t.2,k∈t'.2)
 | .ret x,_,_,_,_,_,e=>by simp[Cmd.eval]at e;obtain⟨rfl,rfl,rfl⟩:=e;exact⟨λ_ h=>h,λ_ h=>h⟩
 | .fail,_,_,_,_,_,e=>by simp[Cmd.eval]at e| .get k c,_,_,_,_,_,e=>by have h:=FP (c:=c _) e;exact⟨λn hn=>h.1 n (by simp[hn]),h.2⟩| .set k v c,_,_,_,_,_,e=>by have h:=FP (c:=c) e;exact⟨h.1,λn hn=>h.2 n (by simp[hn])⟩| .opt o c,_,_,_,_,_,e=>by
  cases o with
  |none=>simp[Cmd.eval]at e|some x=>exact FP (c:=c x) e
 | .br b c d,_,_,_,_,_,e=>by
  cases b
  .exact FP (c:=d) (by simpa[Cmd.eval]using e)
  .exact FP (c:=c) (by simpa[Cmd.eval]using e)
theorem Di{α:Type} :∀{c:Cmd α} {S S' :Sm} {t t' :Tr} {x:α},c.eval S t=some (x,S',t')->∀T:Sm,(∀k∈t'.1,T k=S k)->
  ∃T',c.eval T t=some (x,T',t')/\(∀k,T k=S k->T' k=S' k)/\(∀k,k∉t'.2->T' k=T k)/\(∀k,k∈t'.2->k∉t.2->T' k=S' k)
 | .ret x,_,_,_,_,_,e,T,hT=>by simp[Cmd.eval]at e;obtain⟨rfl,rfl,rfl⟩:=e;exact⟨T,rfl,λk h=>h,λ_ _=>rfl,λk h1 h2=>absurd h1 h2⟩
 | .fail,_,_,_,_,_,e,_,_=>by simp[Cmd.eval]at e| .get k c,S,_,t,t',_,e,T,hT=>by have hk:T k=S k:=hT k ((FP (c:=c _) e).1 k x9);obtain⟨T',h1,h2,h3,h4⟩:=Di (c:=c _) e T hT;exact⟨T',by simpa[Cmd.eval,hk]using h1,h2,h3,h4⟩
 | .set k v c,S,_,t,t',_,e,T,hT=>by
  obtain⟨T',h1,h2,h3,h4⟩:=Di (c:=c) e (upd T k v) (λn hn=>by
   by_cases h:n=k
   .subst h;simp
   .rw[dZ _ _ h,dZ _ _ h];exact hT n hn)
  have hkin:k∈t'.2:=(FP (c:=c) e).2 k x9;refine⟨T',h1,λn hn=>h2 n ?_,λn hn=>?_,λn hn hn' =>?_⟩
  .by_cases h:n=k
   .subst h;simp
   .rw[dZ _ _ h,dZ _ _ h];exact hn
  .have:n≠k:=λh=>hn (h▸hkin);rw[h3 n hn,dZ _ _ this]
  .by_cases h:n=k
   .subst h;exact h2 n x9
   .exact h4 n hn (by simp[h,hn'])
 | .opt o c,_,_,_,_,_,e,T,hT=>by
  cases o with
  |none=>simp[Cmd.eval]at e|some x=>exact Di (c:=c x) e T hT
 | .br b c d,_,_,_,_,_,e,T,hT=>by
  cases b
  .obtain⟨T',h1,h2⟩:=Di (c:=d) (by simpa[Cmd.eval]using e) T hT;exact⟨T',by simpa[Cmd.eval]using h1,h2⟩
  .obtain⟨T',h1,h2⟩:=Di (c:=c) (by simpa[Cmd.eval]using e) T hT;exact⟨T',by simpa[Cmd.eval]using h1,h2⟩
theorem NT{c:Cmd α}{S S' :Sm}{t t' :Tr}{x:α}(e:c.eval S t=some (x,S',t'))(k:Nat)(h:k∉t'.2):S' k=S k:=by obtain⟨T',h1,_,h3,_⟩:=Di e S (λ_ _=>rfl);rw[e]at h1;simp at h1;rw[h1];exact h3 k h
section draws
variable {n:Nat} {c:Nat->Cmd Unit} {S:Nat->Sm} {T:Nat->Tr}
def SD(S:Nat->Sm)(T:Nat->Tr)(D:d1B):Nat->Sm
 |0=>S 0
 |m+1=>λk=>if m∈D/\k∈(T m).2 then S (m+1) k else SD S T D m k
theorem QT(hs:∀i,i<n->(c i).eval (S i) ([],[])=some ((),S (i+1),T i))(D:d1B)(k:Nat):
  ∀m,m<=n->(∀j,j<m->k∈(T j).2->j∈D)->SD S T D m k=S m k
 |0,_,_=>rfl|m+1,hm,h=>by
  have ih:=QT hs D k m l7 (λj hj=>h j l7);simp only[SD];by_cases hk:k∈(T m).2
  .rw[if_pos ⟨h m l7 hk,hk⟩]
  .rw[if_neg (λx=>hk x.2),ih,NT (hs m l7) k hk]
theorem Zj(D:d1B)(k i:Nat):∀m,i<=m->(∀j,i<=j->j<m->k∈(T j).2->j∉D)->SD S T D m k=SD S T D i k
 |m,hm,h=>by
  induction m with
  |zero=>have:i=0:=l7;subst this;rfl|succ m ih=>
   by_cases e:i=m+1
   .subst e;rfl
   .simp only[SD];rw[if_neg (λx=>h m l7 l7 x.2 x.1)];exact ih l7 (λj h1 h2=>h j h1 l7)
theorem a9p(D:d1B)(i k:Nat)(hk:k∉(T i).2):∀m,SD S T (i::D) m k=SD S T D m k
 |0=>rfl|m+1=>by
  simp only[SD,a9p D i k hk m];by_cases e:m=i
  .subst e;simp[hk]
  .simp[D6,e]
theorem b2W(hs:∀i,i<n->(c i).eval (S i) ([],[])=some ((),S (i+1),T i)){D:d1B}(hD:∀i,i<n->i∈D):SD S T D n=S n:=by funext k;exact QT hs D k n l7 (λj hj _=>hD j hj)
theorem c0f(n:Nat):SD S T [] n=S 0:=by
 induction n with
 |zero=>rfl|succ m ih=>funext k;simp[SD,ih]
end draws
end Go.GP
namespace Go.GP
structure Fx where
 P:Program
 E:Env
 w0:World
 O:d1B
 ok0:Nat->Ty->Prop
 tm0:Array Value
structure Frame' (w0 w:World) (O:d1B):Prop where
 os:w.os=w0.os
 tape:w.tape=w0.tape
 output:w.output=w0.output
 size:w0.heap.size<=w.heap.size
 block:∀b,b<w0.heap.size->b∉O->w.heap[b]? =w0.heap[b]?
theorem Frame'.refl(w:World)(O:d1B):Frame' w w O:=⟨rfl,rfl,rfl,E9 _,λ_ _ _=>rfl⟩
def b9w(h:Array Obj)(g n:Nat):Prop:=∃c T f,h[g]? =some (.cells c T f)/\c.size=n
def VZ(C:Cx)(g:Nat)(t:Ty)(xs:List t.den):Prop:=
 C.ok g t/\b9w C.h g (xs.length*t.size)/\∀i x,xs[i]? =some x->∃es,gU C.h g (i*t.size) t.size=some es/\oD C.h C.ok t x es
theorem VZ.le{C D:Cx}(h:C.le D){g:Nat}{t:Ty}{xs:List t.den}(k:VZ C g t xs):VZ D g t xs:=by obtain⟨h1,h3,h2⟩:=k;refine⟨h.ok _ _ h1,by unfold b9w at h3 ⊢;rw[h.h _ _ h1];exact h3,λi x hi=>?_⟩;obtain⟨es,he,hr⟩:=h2 i x hi;exact⟨es,by rw[wo (h.h _ _ h1)];exact he,gQ h.ok h.h hr⟩
structure Rel (X:Fx) (cl ch:Nat) (S:Sm) (m:Mp) (ok:Nat->Ty->Prop) (a:Act) (w:World):Prop where
 size:a.tmps.size=X.E.nt
 nodef:a.defers=[]
 slot:∀n,n<bV->pg ⟨w.heap,ok,m⟩ (S n) (a.tmps.getD n Go.undef)
 box:∀n,JQ ⟨w.heap,ok,m⟩ n (S (bV+n))
 inj:∀n n' b,b∈aC m n (S (bV+n))->b∈aC m n' (S (bV+n'))->n=n'
 nd:∀n,(aC m n (S (bV+n))).Nodup
 sep:∀n b,b∈aC m n (S (bV+n))->(∀t,¬ok b t)/\b<w.heap.size/\(X.w0.heap.size<=b\/b∈X.O)
 okLt:∀b t,ok b t->b<w.heap.size
 okIn:∀b t,X.ok0 b t->ok b t
 okOut:∀b t,ok b t->X.ok0 b t\/X.w0.heap.size<=b\/b∈X.O
 frame:Frame' X.w0 w X.O
 fresh:∀n,cl<=n->S (bV+n)= .undef->m n=none
 strict:∀n,ch<=n->m n=none
 gl:∀g u,gB X.E.gl g=some u->VZ ⟨w.heap,ok,m⟩ g u.1 u.2
 kept:∀n∈X.E.kp,a.tmps.getD n Go.undef=X.tm0.getD n Go.undef
def qh(m:Mp)(n:Nat)(l:Loc)(ks:d1B):Mp:=⟨λk=>if k=n then some l else m k,λk=>if k=n then ks else m.kid k⟩
@[simp] theorem fE (m:Mp) (n:Nat) (l:Loc) (ks:d1B):qh m n l ks n=some l:=by simp[qh]
variable {n:Nat}{k:Nat}
theorem lC(m:Mp)(l:Loc)(ks:d1B)(h:k≠n):qh m n l ks k=m k:=by simp[qh,h]
@[simp] theorem c8M (m:Mp) (n:Nat) (l:Loc) (ks:d1B):(qh m n l ks).kid n=ks:=by simp[qh]
theorem XC(m:Mp)(l:Loc)(ks:d1B)(h:k≠n):(qh m n l ks).kid k=m.kid k:=by simp[qh,h]
def KA(m:Mp)(n:Nat)(ks:d1B):Mp:=⟨m.loc,λk=>if k=n then ks else m.kid k⟩
@[simp] theorem c7W (m:Mp) (n k:Nat) (ks:d1B):KA m n ks k=m k:=rfl
@[simp] theorem c7V (m:Mp) (n:Nat) (ks:d1B):(KA m n ks).kid n=ks:=by simp[KA]
theorem a2K(m:Mp)(ks:d1B)(h:k≠n):(KA m n ks).kid k=m.kid k:=by simp[KA,h]
theorem AY(m:Mp)(n:Nat):KA m n (m.kid n)=m:=by
 cases m with|mk l k=>
 simp only[KA,Mp.mk.injEq,true_and];funext j;split
 .rename_i e;rw[e]
 .rfl
variable {v:V}
theorem Oi{m m' :Mp}(h:m' n=m n)(k:m'.kid n=m.kid n):aC m' n v=aC m n v:=by cases v<;>simp only[aC,h,k]
variable {d:Nat}
theorem a1g{tmps:Array Value}(h:d<tmps.size)(x e:Value):(tmps.setIfInBounds d x).getD d e=x:=by simp[Array.getD,h]
theorem PY{tmps:Array Value}(h:n≠d)(x e:Value):(tmps.setIfInBounds d x).getD n e=tmps.getD n e:=by simp only[aT];rw[Array.getElem?_setIfInBounds];simp[Ne.symm h]
structure Tk (X:Fx) (S:Sm) (m:Mp) (ok:Nat->Ty->Prop) (w:World) (T:d1B):Prop where
 nodup:T.Nodup
 free:∀b∈T,(∀t,¬ok b t)/\b<w.heap.size/\(X.w0.heap.size<=b\/b∈X.O)/\∀n,b∉aC m n (S (bV+n))
theorem Tk.nil{X:Fx}{S:Sm}{m:Mp}{ok:Nat->Ty->Prop}{w:World} :Tk X S m ok w []:=⟨fP,λb h=>by cases h⟩
def okW(ok:Nat->Ty->Prop)(bs:d1B)(Ts:List Ty):Nat->Ty->Prop:=λb t=>ok b t\/(b∈bs/\t∈Ts)
variable {w':World}{bs:d1B}
section
variable {X:Fx} {cl ch:Nat} {S:Sm} {m:Mp} {ok:Nat->Ty->Prop} {a:Act} {w:World} {T:d1B}
theorem Tk.perm{T T' :d1B}(h:Tk X S m ok w T)(p:T.Perm T'):Tk X S m ok w T' :=
 ⟨p.nodup_iff.1 h.nodup,λb hb=>h.free b (p.mem_iff.2 hb)⟩
theorem Tk.left{T T' :d1B}(h:Tk X S m ok w (T++T')):Tk X S m ok w T:=
 ⟨(O7.1 h.nodup).1,λb hb=>h.free b (I5 _ hb)⟩
theorem Tk.right{T T' :d1B}(h:Tk X S m ok w (T++T')):Tk X S m ok w T' :=
 ⟨(O7.1 h.nodup).2.1,λb hb=>h.free b (aK _ hb)⟩
theorem G_{n:Nat} :∀{l:d1B},Jz n l=false->n∉l
 |[],_,h=>by cases h|k::r,hb,h=>by
  unfold Jz at hb;cases hk:Nat.beq k n<;>rw[hk]at hb
  .rcases D6.1 h with e|h
   .subst e;rw[show Nat.beq n n=true from Nat.beq_refl n]at hk;cases hk
   .exact G_ hb h
  .cases hb
theorem a2o{n:Nat} :∀{l:d1B},Jz n l=true->n∈l
 |[],h=>by cases h|k::r,hb=>by
  unfold Jz at hb;cases hk:Nat.beq k n<;>rw[hk]at hb
  .exact V4 _ (a2o hb)
  .have:=jU hk;subst this;exact nz
theorem Gh{E:Env}{t:Nat}(h:a2u E t=true):t<E.nt/\t∉E.kp:=by
 unfold a2u at h;cases hb:Nat.blt t E.nt<;>rw[hb]at h
 .cases h
 .simp only[cond_true,eH]at h;exact⟨by rw[iC]at hb;exact hb,G_ h⟩
theorem Rel.put(R:Rel X cl ch S m ok a w)(hnt:X.E.nt<=bV){x:Value}(hd:a2u X.E d=true)(hv:pg ⟨w.heap,ok,m⟩ v x):
  Rel X cl ch (upd S d v) m ok (a.put (some d) x) w:=by
 obtain⟨hd,hkp⟩:=Gh hd;have hb:∀n,upd S d v (bV+n)=S (bV+n):=λn=>dZ _ _ l7;have hkept:∀n∈X.E.kp,(a.put (some d) x).tmps.getD n Go.undef=X.tm0.getD n Go.undef:=λn hn=>by have e:n≠d:=λe=>hkp (e▸hn);simp only[Act.put];rw[PY e];exact R.kept n hn
 refine { R with size:=(by simp[Act.put,R.size]),nodef:=(by simp[Act.put,R.nodef]),slot:=λn hn=>?_,box:=λn=>(by rw[hb];exact R.box n),inj:=λn n' b=>(by rw[hb,hb];exact R.inj n n' b),nd:=λn=>(by rw[hb];exact R.nd n),sep:=λn b=>(by rw[hb];exact R.sep n b),fresh:=λn h1 h2=>R.fresh n h1 (by rwa[hb]at h2),kept:=hkept };by_cases e:n=d
 .subst e;simp only[oG,Act.put];rw[a1g (by rw[R.size];exact hd)];exact hv
 .rw[dZ _ _ e];simp only[Act.put];rw[PY e];exact R.slot n hn
theorem Rel.slotV(R:Rel X cl ch S m ok a w)(hd:d<bV)(hv:pg ⟨w.heap,ok,m⟩ v (a.tmps.getD d Go.undef)):
  Rel X cl ch (upd S d v) m ok a w:=by
 have hb:∀n,upd S d v (bV+n)=S (bV+n):=λn=>dZ _ _ l7;refine { R with slot:=λn hn=>?_,box:=λn=>(by rw[hb];exact R.box n),inj:=λn n' b=>(by rw[hb,hb];exact R.inj n n' b),nd:=λn=>(by rw[hb];exact R.nd n),sep:=λn b=>(by rw[hb];exact R.sep n b),fresh:=λn h1 h2=>R.fresh n h1 (by rwa[hb]at h2) };by_cases e:n=d
 .subst e;simp only[oG];exact hv
 .rw[dZ _ _ e];exact R.slot n hn
theorem Rel.world(R:Rel X cl ch S m ok a w){ok' :Nat->Ty->Prop}(hos:w'.os=w.os)(htp:w'.tape=w.tape)(hout:w'.output=w.output)(hsz:w.heap.size<=w'.heap.size)
  (hkeep:∀b,b<w.heap.size->((∃t,ok b t)\/(∃n,b∈aC m n (S (bV+n)))\/¬(X.w0.heap.size<=b\/b∈X.O))->w'.heap[b]? =w.heap[b]?)
  (hok:∀b t,ok b t->ok' b t) (hok' :∀b t,ok' b t->b<w'.heap.size/\(ok b t\/((X.w0.heap.size<=b\/b∈X.O)/\∀n,b∉aC m n (S (bV+n))))):
  Rel X cl ch S m ok' a w' :=by
 have hle:Cx.le ⟨w.heap,ok,m⟩ ⟨w'.heap,ok',m⟩:=⟨hok,λb t hb=>hkeep b (R.okLt b t hb) (.inl ⟨t,hb⟩),λ_ _ h=>h⟩;refine { kept:=R.kept,size:=R.size,nodef:=R.nodef,inj:=R.inj,nd:=R.nd,fresh:=R.fresh,strict:=R.strict,slot:=λn hn=>VD hle (R.slot n hn),box:=λn=>YW hle rfl (λb hb=>hkeep b (R.sep n b hb).2.1 (.inr (.inl ⟨n,hb⟩))) (R.box n),sep:=λn b hb=>?_,okLt:=λb t hb=>(hok' b t hb).1,okIn:=λb t hb=>hok b t (R.okIn b t hb),okOut:=λb t hb=>?_,frame:=?_,gl:=λg u hg=>VZ.le hle (R.gl g u hg) }
 .obtain⟨h1,h2,h3⟩:=R.sep n b hb;refine⟨λt h=>?_,l7,h3⟩;rcases(hok' b t h).2 with h|⟨_,h⟩
  .exact h1 t h
  .exact h n hb
 .rcases(hok' b t hb).2 with h|⟨h,_⟩
  .exact R.okOut b t h
  .exact .inr h
 .obtain⟨f1,f2,f3,f4,f5⟩:=R.frame;refine⟨hos.trans f1,htp.trans f2,hout.trans f3,l7,λb hb hO=>?_⟩;rw[hkeep b l7 (.inr (.inr (by simp[hO];omega)))];exact f5 b hb hO
theorem Rel.same(R:Rel X cl ch S m ok a w)(hos:w'.os=w.os)(htp:w'.tape=w.tape)(hout:w'.output=w.output)(hh:w'.heap=w.heap):Rel X cl ch S m ok a w' :=by refine R.world hos htp hout (by rw[hh];exact E9 _) (λb _ _=>by rw[hh]) (λ_ _ h=>h) (λb t h=>⟨by rw[hh];exact R.okLt b t h,.inl h⟩)
theorem DI{n k b:Nat}(hv:aC m n v=[])(h:b∈aC m k (upd S (bV+n) v (bV+k))):k≠n/\b∈aC m k (S (bV+k)):=by
 by_cases e:k=n
 .subst e;rw[oG,hv]at h;cases h
 .rw[dZ _ _ l7]at h;exact⟨e,h⟩
theorem Rel.killV(R:Rel X cl ch S m ok a w)(n:Nat)(hv:v≠.undef)(hw:aC m n v=[])(hB:JQ ⟨w.heap,ok,m⟩ n v):Rel X cl ch (upd S (bV+n) v) m ok a w:=by
 have ho:∀k b,b∈aC m k (upd S (bV+n) v (bV+k))->k≠n/\b∈aC m k (S (bV+k)):=λk b h=>DI hw h;refine { R with slot:=λk hk=>(by rw[dZ _ _ l7];exact R.slot k hk),box:=λk=>?_,inj:=λk k' b h h' =>R.inj k k' b (ho _ _ h).2 (ho _ _ h').2,nd:=λk=>?_,sep:=λk b h=>R.sep k b (ho _ _ h).2,fresh:=λk h1 h2=>?_ }
 .by_cases e:k=n
  .subst e;rw[oG];exact hB
  .rw[dZ _ _ l7];exact R.box k
 .by_cases e:k=n
  .subst e;rw[oG,hw];exact fP
  .rw[dZ _ _ l7];exact R.nd k
 .by_cases e:k=n
  .subst e;rw[oG]at h2;exact absurd h2 hv
  .rw[dZ _ _ l7]at h2;exact R.fresh k h1 h2
theorem Rel.kill(R:Rel X cl ch S m ok a w)(n:Nat):Rel X cl ch (upd S (bV+n) .dead) m ok a w:=R.killV n x9 rfl trivial
theorem Tk.killV(R:Rel X cl ch S m ok a w)(h:Tk X S m ok w T)(n:Nat)(hw:aC m n v=[])(hbs:∀b,b∈bs->b∈aC m n (S (bV+n)))(hnd:bs.Nodup):
  Tk X (upd S (bV+n) v) m ok w (T++bs):=by
 refine⟨O7.2 ⟨h.nodup,hnd,λx hx y hy e=>?_⟩,λb hb=>?_⟩
 .subst e;exact(h.free x hx).2.2.2 n (hbs x hy)
 .rcases C9.1 hb with hb|hb
  .obtain⟨h1,h2,h3,h4⟩:=h.free b hb;exact⟨h1,h2,h3,λk e=>h4 k (DI hw e).2⟩
  .obtain⟨h1,h2,h3⟩:=R.sep n b (hbs b hb);exact⟨h1,h2,h3,λk e=>(DI hw e).1 (R.inj k n b (DI hw e).2 (hbs b hb))⟩
theorem Rel.mark(R:Rel X cl ch S m ok a w){md:M}{xs:List md.den}(hS:S (bV+n)= .barrs md xs none):Rel X cl ch (upd S (bV+(Wh+n)) (.blen (o9 xs) md.size)) m ok a w:=by
 refine R.killV (Wh+n) x9 rfl ?_;have hb:=R.box n;rw[hS]at hb;obtain⟨_,l,Os,hm,⟨ha,hho⟩,_⟩:=hb;refine⟨n,l,rfl,hm,?_⟩;cases l with
 |nil=>obtain⟨rfl,_⟩:=ha;rfl
 |st b=>cases ha|mp b=>cases ha|arr blk off len cap sz=>exact⟨by rw[ha.2.1];rfl,ha.1.symm⟩
theorem Tk.kill(R:Rel X cl ch S m ok a w)(h:Tk X S m ok w T)(n:Nat)(hbs:∀b,b∈bs->b∈aC m n (S (bV+n)))(hnd:bs.Nodup):
  Tk X (upd S (bV+n) .dead) m ok w (T++bs):=h.killV R n rfl hbs hnd
theorem Rel.lay(R:Rel X cl ch S m ok a w){l:Loc}{ks:d1B}(hn:S (bV+n)= .undef)(hcl:cl<=n)(hch:n<ch)(hv:v≠.undef)
  (hos:w'.os=w.os) (htp:w'.tape=w.tape) (hout:w'.output=w.output) (hsz:w.heap.size<=w'.heap.size)
  (hkeep:∀b,b<w.heap.size->b∉aC (qh m n l ks) n v->w'.heap[b]? =w.heap[b]?)
  (hnd:(aC (qh m n l ks) n v).Nodup)
  (hfree:∀b∈aC (qh m n l ks) n v,(∀t,¬ok b t)/\b<w'.heap.size/\(X.w0.heap.size<=b\/b∈X.O)/\∀k,b∉aC m k (S (bV+k)))
  (hB:JQ ⟨w'.heap,ok,qh m n l ks⟩ n v):Rel X cl ch (upd S (bV+n) v) (qh m n l ks) ok a w' :=by
 have hm:m n=none:=R.fresh n hcl hn;have hR:Rel X cl ch S m ok a w' :=by
  refine R.world hos htp hout hsz (λb hb h=>?_) (λ_ _ h=>h) (λb t h=>⟨by have:=R.okLt b t h;omega,.inl h⟩);refine hkeep b hb (λe=>?_);obtain⟨h1,h2,h3,h4⟩:=hfree b e;rcases h with⟨t,h⟩|⟨k,h⟩|h
  .exact h1 t h
  .exact h4 k h
  .exact h h3
 have hle:Cx.le ⟨w'.heap,ok,m⟩ ⟨w'.heap,ok,qh m n l ks⟩:=⟨λ_ _ h=>h,λ_ _ _=>rfl,λk x h=>by
  by_cases e:k=n
  .subst e;simp[hm]at h
  .show qh m n l ks k=some x;rw[lC _ _ _ e];exact h⟩
 have hob:∀k,k≠n->aC (qh m n l ks) k (upd S (bV+n) v (bV+k))=aC m k (S (bV+k)):=λk e=>by rw[dZ _ _ l7];exact Oi (lC _ _ _ e) (XC _ _ _ e)
 have hobn:aC (qh m n l ks) n (upd S (bV+n) v (bV+n))=aC (qh m n l ks) n v:=by rw[oG]
 refine { kept:=hR.kept,size:=hR.size,nodef:=hR.nodef,okLt:=hR.okLt,okIn:=hR.okIn,okOut:=hR.okOut,frame:=hR.frame,slot:=λk hk=>(by rw[dZ _ _ l7];exact VD hle (hR.slot k hk)),box:=λk=>?_,inj:=λk k' b h h' =>?_,nd:=λk=>?_,sep:=λk b h=>?_,fresh:=λk h1 h2=>?_,strict:=λk h=>?_,gl:=λg u hg=>VZ.le hle (hR.gl g u hg) }
 .by_cases e:k=n
  .subst e;rw[oG];exact hB
  .rw[dZ _ _ l7];refine YW hle (XC _ _ _ e) (λb hb=>rfl) (hR.box k)
 .by_cases e:k=n
  .by_cases e' :k' =n
   .rw[e,e']
   .subst e;rw[hobn]at h;rw[hob k' e']at h';exact absurd h' ((hfree b h).2.2.2 k')
  .by_cases e' :k' =n
   .subst e';rw[hobn]at h';rw[hob k e]at h;exact absurd h ((hfree b h').2.2.2 k)
   .rw[hob k e]at h;rw[hob k' e']at h';exact R.inj k k' b h h'
 .by_cases e:k=n
  .subst e;rw[hobn];exact hnd
  .rw[hob k e];exact R.nd k
 .by_cases e:k=n
  .subst e;rw[hobn]at h;obtain⟨h1,h2,h3,_⟩:=hfree b h;exact⟨h1,h2,h3⟩
  .rw[hob k e]at h;exact hR.sep k b h
 .by_cases e:k=n
  .subst e;rw[oG]at h2;exact absurd h2 hv
  .rw[dZ _ _ l7]at h2;rw[lC _ _ _ e];exact R.fresh k h1 h2
 .have e:k≠n:=l7;rw[lC _ _ _ e];exact R.strict k h
theorem Rel.modK(R:Rel X cl ch S m ok a w)(hT:Tk X S m ok w T){ks:d1B}(hv:v≠.undef)
  (hnd:(aC (KA m n ks) n v).Nodup) (hsub:∀b∈aC (KA m n ks) n v,b∈aC m n (S (bV+n))\/b∈T)
  (hos:w'.os=w.os) (htp:w'.tape=w.tape) (hout:w'.output=w.output) (hsz:w'.heap.size=w.heap.size)
  (hkeep:∀b,b∉aC m n (S (bV+n))->w'.heap[b]? =w.heap[b]?) (hB:JQ ⟨w'.heap,ok,KA m n ks⟩ n v)
  {T' :d1B} (hnd' :T'.Nodup) (hT' :∀b∈T',(b∈aC m n (S (bV+n))\/b∈T)/\b∉aC (KA m n ks) n v):
  Rel X cl ch (upd S (bV+n) v) (KA m n ks) ok a w' /\Tk X (upd S (bV+n) v) (KA m n ks) ok w' T' :=by
 have hsep:∀b,b∈aC m n (S (bV+n))\/b∈T->(∀t,¬ok b t)/\b<w.heap.size/\(X.w0.heap.size<=b\/b∈X.O)/\∀k,k≠n->b∉aC m k (S (bV+k)):=λb h=>by
  rcases h with h|h
  .obtain⟨h1,h2,h3⟩:=R.sep n b h;exact⟨h1,h2,h3,λk e h' =>e (R.inj k n b h' h)⟩
  .obtain⟨h1,h2,h3,h4⟩:=hT.free b h;exact⟨h1,h2,h3,λk _=>h4 k⟩
 have hle:Cx.le ⟨w.heap,ok,m⟩ ⟨w'.heap,ok,KA m n ks⟩:=⟨λ_ _ h=>h,λb t hb=>hkeep b (λe=>(R.sep n b e).1 t hb),λ_ _ h=>h⟩;have hob:∀k,k≠n->aC (KA m n ks) k (upd S (bV+n) v (bV+k))=aC m k (S (bV+k)):=λk e=>by rw[dZ _ _ l7];exact Oi rfl (a2K _ _ e)
 have hobn:aC (KA m n ks) n (upd S (bV+n) v (bV+n))=aC (KA m n ks) n v:=by rw[oG]
 refine⟨?_,hnd',λb hb=>?_⟩
 .refine { kept:=R.kept,size:=R.size,nodef:=R.nodef,okLt:=λb t hb=>(by rw[hsz];exact R.okLt b t hb),okIn:=R.okIn,okOut:=R.okOut,strict:=R.strict,slot:=λk hk=>(by rw[dZ _ _ l7];exact VD hle (R.slot k hk)),box:=λk=>?_,inj:=λk k' b h h' =>?_,nd:=λk=>?_,sep:=λk b h=>?_,fresh:=λk h1 h2=>?_,frame:=?_,gl:=λg u hg=>VZ.le hle (R.gl g u hg) }
  .by_cases e:k=n
   .subst e;rw[oG];exact hB
   .rw[dZ _ _ l7];refine YW hle (a2K _ _ e) (λb hb=>hkeep b (λe' =>e (R.inj k n b hb e'))) (R.box k)
  .by_cases e:k=n
   .by_cases e' :k' =n
    .rw[e,e']
    .subst e;rw[hobn]at h;rw[hob k' e']at h';exact absurd h' ((hsep b (hsub b h)).2.2.2 k' e')
   .by_cases e' :k' =n
    .subst e';rw[hobn]at h';rw[hob k e]at h;exact absurd h ((hsep b (hsub b h')).2.2.2 k e)
    .rw[hob k e]at h;rw[hob k' e']at h';exact R.inj k k' b h h'
  .by_cases e:k=n
   .subst e;rw[hobn];exact hnd
   .rw[hob k e];exact R.nd k
  .by_cases e:k=n
   .subst e;rw[hobn]at h;obtain⟨h1,h2,h3,_⟩:=hsep b (hsub b h);exact⟨h1,by rw[hsz];exact h2,h3⟩
   .rw[hob k e]at h;obtain⟨h1,h2,h3⟩:=R.sep k b h;exact⟨h1,by rw[hsz];exact h2,h3⟩
  .obtain⟨f1,f2,f3,f4,f5⟩:=R.frame;refine⟨hos.trans f1,htp.trans f2,hout.trans f3,by rw[hsz];exact f4,λb hb hO=>?_⟩;rw[hkeep b (λe=>?_)]
   .exact f5 b hb hO
   .rcases(R.sep n b e).2.2 with h|h
    .omega
    .exact hO h
  .by_cases e:k=n
   .subst e;rw[oG]at h2;exact absurd h2 hv
   .rw[dZ _ _ l7]at h2;exact R.fresh k h1 h2
 .obtain⟨h0,h0'⟩:=hT' b hb;obtain⟨h1,h2,h3,h4⟩:=hsep b h0;refine⟨h1,by rw[hsz];exact h2,h3,λk h=>?_⟩;by_cases e:k=n
  .subst e;rw[hobn]at h;exact h0' h
  .rw[hob k e]at h;exact h4 k e h
theorem Rel.mod(R:Rel X cl ch S m ok a w)(ho:aC m n v=aC m n (S (bV+n)))(hv:v≠.undef)
  (hos:w'.os=w.os) (htp:w'.tape=w.tape) (hout:w'.output=w.output) (hsz:w'.heap.size=w.heap.size)
  (hkeep:∀b,b∉aC m n (S (bV+n))->w'.heap[b]? =w.heap[b]?) (hB:JQ ⟨w'.heap,ok,m⟩ n v):Rel X cl ch (upd S (bV+n) v) m ok a w' :=by
 have h:=R.modK (T:=[]) Tk.nil (n:=n) (v:=v) (ks:=m.kid n) (w' :=w') (T' :=[]) hv (by rw[AY,ho];exact R.nd n) (by rw[AY,ho];exact λb h=> .inl h) hos htp hout hsz hkeep (by rw[AY];exact hB) fP (λb h=>by cases h);rw[AY]at h;exact h.1
theorem Rel.widen(R:Rel X cl ch S m ok a w)(hv:v≠.undef)(ho:aC m n v=[]){Ts:List Ty}(hbs:∀b∈bs,b∈aC m n (S (bV+n)))
  (hB:JQ ⟨w.heap,okW ok bs Ts,m⟩ n v):Rel X cl ch (upd S (bV+n) v) m (okW ok bs Ts) a w:=by
 have hmono:∀b t,ok b t->okW ok bs Ts b t:=λb t h=> .inl h;have hob:∀k b,b∈aC m k (upd S (bV+n) v (bV+k))->k≠n/\b∈aC m k (S (bV+k)):=λk b h=>DI ho h;have hle:Cx.le ⟨w.heap,ok,m⟩ ⟨w.heap,okW ok bs Ts,m⟩:=⟨hmono,λ_ _ _=>rfl,λ_ _ h=>h⟩;refine { kept:=R.kept,size:=R.size,nodef:=R.nodef,strict:=R.strict,frame:=R.frame,okIn:=λb t h=>hmono b t (R.okIn b t h),slot:=λk hk=>(by rw[dZ _ _ l7];exact VD hle (R.slot k hk)),box:=λk=>?_,inj:=λk k' b h h' =>R.inj k k' b (hob _ _ h).2 (hob _ _ h').2,nd:=λk=>?_,sep:=λk b h=>?_,okLt:=λb t h=>?_,okOut:=λb t h=>?_,fresh:=λk h1 h2=>?_,gl:=λg u hg=>VZ.le hle (R.gl g u hg) }
 .by_cases e:k=n
  .subst e;rw[oG];exact hB
  .rw[dZ _ _ l7];exact YW hle rfl (λb hb=>rfl) (R.box k)
 .by_cases e:k=n
  .subst e;rw[oG,ho];exact fP
  .rw[dZ _ _ l7];exact R.nd k
 .obtain⟨e,h⟩:=hob k b h;obtain⟨h1,h2,h3⟩:=R.sep k b h;refine⟨λt h' =>?_,h2,h3⟩;rcases h' with h'|⟨h',_⟩
  .exact h1 t h'
  .exact e (R.inj k n b h (hbs b h'))
 .rcases h with h|⟨h,_⟩
  .exact R.okLt b t h
  .exact(R.sep n b (hbs b h)).2.1
 .rcases h with h|⟨h,_⟩
  .exact R.okOut b t h
  .exact .inr (R.sep n b (hbs b h)).2.2
 .by_cases e:k=n
  .subst e;rw[oG]at h2;exact absurd h2 hv
  .rw[dZ _ _ l7]at h2;exact R.fresh k h1 h2
theorem Tk.widen(h:Tk X S m ok w T)(ho:aC m n v=[]){Ts:List Ty}(hbs:∀b∈bs,b∈aC m n (S (bV+n))):
  Tk X (upd S (bV+n) v) m (okW ok bs Ts) w T:=by
 refine⟨h.nodup,λb hb=>?_⟩;obtain⟨h1,h2,h3,h4⟩:=h.free b hb;refine⟨λt e=>?_,h2,h3,λk e=>h4 k (DI ho e).2⟩;rcases e with e|⟨e,_⟩
 .exact h1 t e
 .exact h4 n (hbs b e)
theorem Rel.backV(R:Rel X cl ch S m ok a w){O1 B:d1B}(hv:v≠.undef)(hT:Tk X S m ok w (O1++B))(ho:aC m n v=O1)(hB:JQ ⟨w.heap,ok,m⟩ n v):
  Rel X cl ch (upd S (bV+n) v) m ok a w/\Tk X (upd S (bV+n) v) m ok w B:=by
 have hnd:=O7.1 hT.nodup;have h:=R.modK hT (n:=n) (v:=v) (ks:=m.kid n) (w' :=w) (T' :=B) hv (by rw[AY,ho];exact hnd.1) (by rw[AY,ho];exact λb h=> .inr (by simp[h])) rfl rfl rfl rfl (λ_ _=>rfl) (by rw[AY];exact hB) hnd.2.1
  (λb hb=>⟨.inr (by simp[hb]),by rw[AY,ho];exact λh=>hnd.2.2 b h b hb rfl⟩)
 rw[AY]at h;exact h
end
end Go.GP
namespace Go.GP
def OV:Loc->Option (Nat×Nat)->Loc
 | .arr blk off len cap sz,some (lo,hi)=>if cap=lo then .arr blk off 0 0 sz else .arr blk (off+lo*sz) (hi -lo) (cap -lo) sz|l,_=>l
variable {t:Ty}{v:Value}{l:Loc}
theorem NC{C:Cx}{xs:List t.den}{vw:Option (Nat×Nat)}(ha:arrOk C t xs l)(hv:l.view vw v):
  arrOk C t (kN vw xs) (OV l vw)/\(OV l vw).view none v/\(OV l vw).blks=l.blks:=by
 cases l with
 |st b=>cases ha|mp b=>
  cases vw with
  |none=>exact⟨ha,hv,rfl⟩|some p=>cases hv
 |nil=>
  obtain⟨ha,h0⟩:=ha;subst ha;cases vw with
  |none=>exact⟨⟨rfl,h0⟩,hv,rfl⟩|some p=>obtain⟨lo,hi⟩:=p;obtain⟨rfl,rfl,rfl⟩:=hv;exact⟨⟨rfl,h0⟩,rfl,rfl⟩
 |arr blk off len cap sz=>
  cases vw with
  |none=>exact⟨ha,hv,rfl⟩|some p=>
   obtain⟨lo,hi⟩:=p;obtain⟨h0,rfl,rfl,hc,c,T,hh,hs,hx⟩:=ha;obtain⟨h1,h2,rfl⟩:=hv;have hl:(kN (some (lo,hi)) xs).length=hi -lo:=by simp[kN,qo];omega
   by_cases e:cap=lo
   .subst e;have e2:hi=cap:=l7;subst e2;simp only[OV,if_true,Loc.view,dX];refine⟨⟨h0,rfl,by rw[hl];omega,E9 _,c,T,hh,?_,λi x hi=>?_⟩,trivial,rfl⟩
    .have:=pI (hi*t.size);omega
    .have:i<0:=by
      have:=(X6.1 hi).1;rw[hl]at this;omega
     omega
   .simp only[OV,e,if_false,Loc.view];refine⟨⟨h0,rfl,by rw[hl],l7,c,T,hh,?_,λi x hix=>?_⟩,trivial,rfl⟩
    .have:off+lo*t.size+(cap -lo)*t.size=off+cap*t.size:=by
      rw[jw,←P5];congr 2;omega
     rw[this];exact hs
    .have hi' :i<hi -lo:=by rw[←hl];exact(X6.1 hix).1
     have hx' :xs[lo+i]? =some x:=by
      simp only[kN,qo,Y7,ae]at hix;split at hix
      .exact hix
      .cases hix
     obtain⟨es,he,hr⟩:=hx _ x hx';refine⟨es,?_,hr⟩;rw[←he];congr 1;rw[P5];omega
def Xj(ag:Bool)(v:Value)(cs:d1D):Prop:=match ag with
 |true=>∃arr,v= .agg arr/\arr.toList=cs|false=>cs=[v]
def yj(h:Array Obj)(ok:Nat->Ty->Prop):(ms:List MG)->dR ms->d1D->d1B->Prop
 |[],_,vs,O=>vs=[]/\O=[]|[m],x,vs,O=>∃v cs,vs=[v]/\Xj m.1 v cs/\sH h ok m.2 none x cs O|m::m' ::r,x,vs,O=>∃v cs vs' O1 O2,vs=v::vs' /\O=O1++O2/\Xj m.1 v cs/\sH h ok m.2 none x.1 cs O1/\yj h ok (m' ::r) x.2 vs' O2
theorem rM{vw:Option (Nat×Nat)}(h:l.view vw v):v.oneCell' =true:=by
 cases l<;>rcases vw with _|⟨lo,hi⟩<;>simp only[Loc.view]at h
 .subst h;rfl
 .obtain⟨_,_,rfl⟩:=h;rfl
 .subst h;rfl
 .obtain⟨_,_,rfl⟩:=h;rfl
 .subst h;rfl
variable {h:Array Obj}
theorem ZU{ok:Nat->Ty->Prop}{x:t.den}{o:Nat}(k:a7u h ok t x o v):v.oneCell' =true:=by obtain⟨_,_,_,rfl,_⟩:=k;rfl
variable {α:Type}{ok':Nat->Ty->Prop}{cs:d1D}{O:d1B}
section
variable {h:Array Obj} {ok:Nat->Ty->Prop}
theorem BM{xs:List t.den} :sH h ok (.own t) none xs cs O↔∃l v,cs=[v]/\l.view none v/\arrOk ⟨h,ok,nom⟩ t xs l/\O=l.blks:=by
 constructor
 .rintro⟨v,e,_,l,hv,ha,ho⟩;exact⟨l,v,e,hv,ha,ho⟩
 .rintro⟨l,v,e,hv,ha,ho⟩;exact⟨v,e,rM hv,l,hv,ha,ho⟩
theorem DU{m:M}{xs:List m.den} :sH h ok (.owns m) none xs cs O↔m.el=true/\∃l v Os,cs=[v]/\l.view none v/\
  Ho h m.size (λ_ x es O=>sH h ok m none x es O) xs Os l/\O=l.blks++Os.flatten:=by
 constructor
 .rintro⟨v,e,_,he,l,Os,hv,ha,ho⟩;exact⟨he,l,v,Os,e,hv,ha,ho⟩
 .rintro⟨he,l,v,Os,e,hv,ha,ho⟩;exact⟨v,e,rM hv,he,l,Os,hv,ha,ho⟩
theorem b2k{a b:M}{x:a.den×b.den} :sH h ok (.pair a b) none x cs O↔∃c d O1 O2,cs=c++d/\O=O1++O2/\sH h ok a none x.1 c O1/\sH h ok b none x.2 d O2:=Iff.rfl
theorem yC:∀{m:M} {ho:Option Nat} {x:m.den} {cs:d1D} {O:d1B},sH h ok m ho x cs O->∀v∈cs,v.oneCell' =true
 | .dat t,_,_,_,_,e=>zS e.1| .own t,_,_,_,_,⟨v,e,hv,_⟩=>by subst e;simp[hv]| .owns t,_,_,_,_,⟨v,e,hv,_⟩=>by subst e;simp[hv]| .ownb t,_,_,_,_,⟨l,v,e,hv,_⟩=>by subst e;simp[rM hv]| .pair a b,_,_,_,_,⟨c,d,_,_,e,_,h1,h2⟩=>by
  subst e;intro v hv;rcases C9.1 hv with hv|hv
  .exact yC h1 v hv
  .exact yC h2 v hv
 | .unit,_,_,_,_,⟨e,_⟩=>by subst e;simp| .box m,_,_,_,_,⟨_,_,_,_,e,_⟩=>by subst e;simp[Value.oneCell']| .rp t,_,_,_,_,⟨v,e,hv,_⟩=>by subst e;simp[ZU hv]| .fn f ts,_,_,_,_,⟨vs,e,_⟩=>by subst e;simp[Value.oneCell']| .ifc t m,_,_,_,_,⟨u,e,_⟩=>by subst e;simp[Value.oneCell']| .cell _,_,_,_,_,⟨v,e,h,_⟩=>by subst e;simp[h]
theorem Ws{α β α' β' :Type}(ea:α=α')(eb:β=β')(e:(α×β)=(α' ×β'))(x:α×β):cast e x=(cast ea x.1,cast eb x.2):=by subst ea;subst eb;rfl
theorem M.ty_size:∀{m:M},m.el=true->m.ty.size=m.size
 | .dat _,_=>rfl| .own _,_=>rfl| .owns _,_=>rfl| .unit,_=>rfl| .pair a b,h=>by
  have h' :a.el=true/\b.el=true:=by simpa[M.el]using h
  simp[M.ty,Ty.size,M.size,M.ty_size h'.1,M.ty_size h'.2]
 | .box _,h=>by simp[M.el]at h| .ownb _,h=>by simp[M.el]at h| .rp _,h=>by simp[M.el]at h| .fn _ _,h=>by simp[M.el]at h| .ifc _ _,h=>by simp[M.el]at h| .cell _,h=>by simp[M.el]at h
theorem gX:∀{m:M} {ho:Option Nat} {x:m.den} {cs:d1D} {O:d1B},sH h ok m ho x cs O->cs.length=m.size
 | .dat t,_,_,_,_,e=>iK e.1| .own t,_,_,_,_,⟨v,e,hv,_⟩=>by subst e;rfl| .owns t,_,_,_,_,⟨v,e,hv,_⟩=>by subst e;rfl| .ownb t,_,_,_,_,⟨l,v,e,hv,_⟩=>by subst e;rfl| .pair a b,_,_,_,_,⟨c,d,_,_,e,_,h1,h2⟩=>by subst e;simp[gX h1,gX h2,M.size]| .unit,_,_,_,_,⟨e,_⟩=>by subst e;rfl| .box m,_,_,_,_,⟨_,_,_,_,e,_⟩=>by subst e;rfl| .rp t,_,_,_,_,⟨v,e,hv,_⟩=>by subst e;rfl| .fn f ts,_,_,_,_,⟨vs,e,_⟩=>by subst e;rfl| .ifc t m,_,_,_,_,⟨u,e,_⟩=>by subst e;rfl| .cell _,_,_,_,_,⟨v,e,_⟩=>by subst e;rfl
theorem a4F{sz:Nat}{mp:Mp}(h0:t.isEnt=false)(e:α=t.den)(e' :List α=List t.den)(hs:t.size=sz){R:Nat->α->d1D->d1B->Prop}{xs:List α}{Os:List d1B}
  (hR:∀i x es O,O∈Os->R i x es O->oD h ok' t (cast e x) es) (ha:Ho h sz R xs Os l):arrOk ⟨h,ok',mp⟩ t (cast e' xs) l:=by
 subst e;simp only[cast_eq]at hR ⊢;cases l with
 |nil=>exact⟨ha.1,h0⟩|st b=>exact ha|mp b=>exact ha.elim|arr blk off len cap sz' =>obtain⟨h1,h2,h3,h7,c,T,h4,h5,h6⟩:=ha;refine⟨h0,by rw[hs];exact h1,h2,h3,c,T,h4,by rw[h1];exact h5,λi x hi=>?_⟩;obtain⟨es,O,hO,hc,hr⟩:=h6 i x hi;exact⟨es,by rw[h1];exact hc,hR i x es O (kw hO) hr⟩
theorem M.ty_ent:∀{m:M},m.el=true->m.ty.isEnt=false
 | .dat t,h=>by simpa[M.el,M.ty]using h| .own _,_=>rfl| .owns _,_=>rfl| .unit,_=>rfl| .pair _ _,_=>rfl| .box _,h=>by simp[M.el]at h| .ownb _,h=>by simp[M.el]at h| .rp _,h=>by simp[M.el]at h| .fn _ _,h=>by simp[M.el]at h| .ifc _ _,h=>by simp[M.el]at h| .cell _,h=>by simp[M.el]at h
theorem VC{ok' :Nat->Ty->Prop}(hok:∀b t,ok b t->ok' b t):∀{m:M} (he:m.el=true) {x:m.den} {cs:d1D} {O:d1B},(∀b∈O,∀t∈m.owned,ok' b t)->sH h ok m none x cs O->oD h ok' m.ty (cast (M.denEq m he) x) cs
 | .dat t,_,_,_,_,_,e=>gQ hok (λ_ _ _=>rfl) e.1| .unit,_,_,_,_,_,e=>e.1| .own t,he,xs,_,_,hO,e=>by obtain⟨l,v,rfl,hv,ha,rfl⟩:=BM.1 e;exact uh (C:=⟨h,ok,nom⟩) (vw:=none) ha hv hok (λblk hb=>hO blk hb t (by simp[M.owned]))
 | .pair a b,he,x,_,_,hO,e=>by
  obtain⟨c,d,O1,O2,rfl,rfl,h1,h2⟩:=e;have h' :a.el=true/\b.el=true:=by simpa[M.el]using he
  have e:cast (M.denEq (.pair a b) he) x=(cast (M.denEq a h'.1) x.1,cast (M.denEq b h'.2) x.2):=Ws _ _ _ _;refine⟨c,d,rfl,?_,?_⟩
  .rw[e];exact VC hok h'.1 (λb hb t ht=>hO b (by simp[hb]) t (by simp[M.owned,ht])) h1
  .rw[e];exact VC hok h'.2 (λb hb t ht=>hO b (by simp[hb]) t (by simp[M.owned,ht])) h2
 | .owns m,he,xs,_,_,hO,e=>by
  obtain⟨_,l,v,Os,rfl,hv,ha,rfl⟩:=DU.1 e;have he' :m.el=true:=he;have hA:arrOk ⟨h,ok',nom⟩ m.ty (cast (congrArg List (M.denEq m he')) xs) l:=a4F (M.ty_ent he') (M.denEq m he') _ (M.ty_size he') (λi x es O hOi hr=>VC hok he' (λb hb t ht=>hO b (by simp only[C9,fG];exact .inr ⟨O,hOi,hb⟩) t (by simp[M.owned,ht])) hr) ha
  exact uh (C:=⟨h,ok',nom⟩) (t:=m.ty) (vw:=none) hA hv (λ_ _ h=>h) (λblk hb=>hO blk (by simp[hb]) m.ty (by simp[M.owned]))
 | .box _,h,_,_,_,_,_=>by simp[M.el]at h| .ownb _,h,_,_,_,_,_=>by simp[M.el]at h| .rp _,h,_,_,_,_,_=>by simp[M.el]at h| .fn _ _,h,_,_,_,_,_=>by simp[M.el]at h| .ifc _ _,h,_,_,_,_,_=>by simp[M.el]at h| .cell _,h,_,_,_,_,_=>by simp[M.el]at h
theorem SE{m:M}{mp:Mp}(he:m.el=true)(hok:∀b t,ok b t->ok' b t){xs:List m.den}{Os:List d1B}(hO:∀b∈Os.flatten,∀t∈m.owned,ok' b t)
  (ha:Ho h m.size (λ_ x es O=>sH h ok m none x es O) xs Os l):arrOk ⟨h,ok',mp⟩ m.ty (cast (congrArg List (M.denEq m he)) xs) l:=
 a4F (M.ty_ent he) (M.denEq m he) _ (M.ty_size he) (λi x es O hOi hr=>VC hok he (λb hb t ht=>hO b (fG.2 ⟨O,hOi,hb⟩) t ht) hr) ha
end
theorem Ym{h h' :Array Obj}{ok ok' :Nat->Ty->Prop}(hok:∀b t,ok b t->ok' b t)(hh:∀b t,ok b t->h'[b]? =h[b]?):
  ∀{ms:List MG} {x:dR ms} {vs:d1D} {O:d1B},(∀b∈O,h'[b]? =h[b]?)->yj h ok ms x vs O->yj h' ok' ms x vs O
 |[],_,_,_,_,e=>e|[m],_,_,_,hb,⟨v,cs,e,hg,hr⟩=>⟨v,cs,e,hg,lL hok hh hb hr⟩|m::m' ::r,_,_,_,hb,⟨v,cs,vs',O1,O2,e,eo,hg,h1,h2⟩=>by subst eo;exact⟨v,cs,vs',O1,O2,e,rfl,hg,lL hok hh (λb h=>hb b (by simp[h])) h1,Ym hok hh (λb h=>hb b (by simp[h])) h2⟩
variable {Q:α->Sm->Prop}
section
variable {X:Fx} {cl ch:Nat} {S:Sm} {m:Mp} {ok:Nat->Ty->Prop} {a:Act} {w:World} {T:d1B}
theorem iq{p q:Ty}{xs:List p.den}{k:List q.den->Cmd α}{S:Sm}
  (h:∀e:p=q,(k (e▸xs)).post S Q):(Ty.castL p q xs k .fail).post S Q:=by
 unfold Ty.castL;split
 .rename_i e;exact h e
 .trivial
theorem iL{b:Bool}{c:Cmd α}{S:Sm}(h:b=true->c.post S Q):(bif b then c else Cmd.fail).post S Q:=by
 cases b
 .trivial
 .exact h rfl
theorem NJ{p q:Ty}{x:p.den}{k:q.den->Cmd α}{S:Sm}
  (h:∀e:p=q,(k (e▸x)).post S Q):(a1M p q x k .fail).post S Q:=by
 unfold a1M;split
 .rename_i e;exact h e
 .trivial
theorem ZC{p q:M}{xs:List p.den}{k:List q.den->Cmd α}{S:Sm}
  (h:∀e:p=q,(k (e▸xs)).post S Q):(a9E p q xs k .fail).post S Q:=by
 unfold a9E;split
 .rename_i e;exact h (M.beq_eq e)
 .trivial
theorem a4Z{p:M}{xs:List p.den}{k:List t.den->Cmd α}{S:Sm}
  (h:∀(e:p.el=true) (e' :p.ty=t),(k (e' ▸cast (congrArg List (M.denEq p e)) xs)).post S Q):(a7z p t xs k .fail).post S Q:=by
 unfold a7z;split
 .rename_i e;obtain⟨e,rfl⟩:=e;exact h e rfl
 .trivial
theorem RU{ok ok' :Nat->Ty->Prop}{m:Mp}(k:∀b t,ok b t->ok' b t){cs:List V}{vs:d1D}(hr:jf ⟨h,ok,m⟩ cs vs):jf ⟨h,ok',m⟩ cs vs:=
 Lj (C:=⟨h,ok,m⟩) (D:=⟨h,ok',m⟩) ⟨k,λ_ _ _=>rfl,λ_ _ h=>h⟩ hr
theorem RV{ok ok' :Nat->Ty->Prop}{m:Mp}(k:∀b t,ok b t->ok' b t){c:V}(hr:pg ⟨h,ok,m⟩ c v):pg ⟨h,ok',m⟩ c v:=
 VD (C:=⟨h,ok,m⟩) (D:=⟨h,ok',m⟩) ⟨k,λ_ _ _=>rfl,λ_ _ h=>h⟩ hr
theorem JC{bs:d1B}{Ts:List Ty} :∀b t,ok b t->okW ok bs Ts b t:=λ_ _ h=> .inl h
def okL(ln:Ty->Bool)(S:Sm)(m:Mp)(ok:Nat->Ty->Prop):Nat->Ty->Prop:=λb t=>ok b t\/(ln t=true/\∃n,b∈aC m n (S (bV+n))/\t∈b4N (S (bV+n)))
theorem b4y:okL FD S m ok=ok:=by funext b t;simp[okL,FD]
theorem a2v{ln:Ty->Bool}{n:Nat}{v:V}(hv:aC m n v=[]){Ts:List Ty}{bs:d1B}(hbs:aC m n (S (bV+n)) ⊆ bs)(hTs:b4N (S (bV+n)) ⊆ Ts):
  ∀b t,okL ln S m ok b t->okL ln (upd S (bV+n) v) m (okW ok bs Ts) b t:=by
 intro b t h;rcases h with h|⟨hl,k,hk,ht⟩
 .exact .inl (.inl h)
 .by_cases e:k=n
  .subst e;exact .inl (.inr ⟨hbs hk,hTs ht⟩)
  .exact .inr ⟨hl,k,by rw[dZ _ _ l7];exact⟨hk,ht⟩⟩
def fO(S S' :Sm):Prop:=∀n,n<bV->S' n=S n
theorem fO.refl(S:Sm):fO S S:=λ_ _=>rfl
theorem fO.trans{A B C:Sm}(h:fO A B)(k:fO B C):fO A C:=λn hn=>(k n hn).trans (h n hn)
theorem fO.box(S:Sm)(n:Nat)(v:V):fO S (upd S (bV+n) v):=λk hk=>dZ _ _ l7
theorem a1H{ln:Ty->Bool} :∀{ts:List Ty},a4A ln ts=true->∀t∈ts,ln t=true
 |[],_,_,h=>by cases h|u::r,e,t,h=>by
  unfold a4A at e;cases hl:ln u with
  |false=>rw[hl]at e;cases e|true=>
   rw[hl]at e;rcases D6.1 h with rfl|h
   .exact hl
   .exact a1H e t h
theorem Lu{α:Type}{Q:α->Sm->Prop}(ln:Ty->Bool):∀(t:Ty) {cs:List V} {K:t.den->List V->Cmd α} {S:Sm} {ok:Nat->Ty->Prop} {vs:d1D} (R:Rel X cl ch S m ok a w) (hT:Tk X S m ok w T)
  (hL:jf ⟨w.heap,ok,m⟩ cs vs)
  (hK:∀S' ok' x r us us',Rel X cl ch S' m ok' a w->Tk X S' m ok' w T->(∀b t,ok b t->ok' b t)->(∀b t,okL ln S m ok b t->okL ln S' m ok' b t)->fO S S' ->vs=us++us' ->oD w.heap (okL ln S' m ok') t x us->jf ⟨w.heap,ok',m⟩ r us' ->(K x r).post S' Q),
  (rf ln t cs K).post S Q
 | .bool,cs,K,S,ok,vs,R,hT,hL,hK=>by
  unfold rf;split
  .obtain⟨v,r,rfl,h1,_,h3⟩:=hL;exact hK _ _ _ _ [v] r R hT (λ_ _ h=>h) (λ_ _ h=>h) (fO.refl _) rfl (by simp only[Bv]at h1;simp[oD,h1]) h3
  .trivial
 | .int k,cs,K,S,ok,vs,R,hT,hL,hK=>by
  unfold rf;split
  .rename_i k' n r0;obtain⟨v,r,rfl,h1,_,h3⟩:=hL;by_cases e:k=k'
   .subst e;simp only[decide_true,cond_true];exact hK _ _ _ _ [v] r R hT (λ_ _ h=>h) (λ_ _ h=>h) (fO.refl _) rfl (by simp only[Bv]at h1;simp[oD,h1]) h3
   .simp only[e,decide_false,cond_false];trivial
  .trivial
 | .str,cs,K,S,ok,vs,R,hT,hL,hK=>by
  unfold rf;split
  .obtain⟨v,r,rfl,h1,_,h3⟩:=hL;exact hK _ _ _ _ [v] r R hT (λ_ _ h=>h) (λ_ _ h=>h) (fO.refl _) rfl (by simp only[Bv]at h1;simp[oD,h1]) h3
  .trivial
 | .unit,cs,K,S,ok,vs,R,hT,hL,hK=>by unfold rf;exact hK _ _ _ _ [] vs R hT (λ_ _ h=>h) (λ_ _ h=>h) (fO.refl _) rfl rfl hL
 | .prod p q,cs,K,S,ok,vs,R,hT,hL,hK=>by unfold rf;refine Lu ln p R hT hL λS1 ok1 x r us us' R1 T1 k1 g1 s1 e1 h1 l1=>?_;refine Lu ln q R1 T1 l1 λS2 ok2 y r' vs2 vs2' R2 T2 k2 g2 s2 e2 h2 l2=>?_;subst e1;subst e2;exact hK _ _ _ _ (us++vs2) vs2' R2 T2 (λb t h=>k2 b t (k1 b t h)) (λb t h=>g2 b t (g1 b t h)) (s1.trans s2) x9 ⟨us,vs2,rfl,gQ g2 (λ_ _ _=>rfl) h1,h2⟩ l2| .ent ..,cs,K,S,ok,vs,R,hT,hL,hK=>by unfold rf;trivial| .sl t,cs,K,S,ok,vs,R,hT,hL,hK=>by
  unfold rf;split
  .obtain⟨v,r,rfl,h1,_,h3⟩:=hL;simp only[Bv]at h1;subst h1;cases ht:t.isEnt
   .exact hK _ _ _ _ [_] r R hT (λ_ _ h=>h) (λ_ _ h=>h) (fO.refl _) rfl (.inl ⟨ht,none,0,rfl,E9 _,λi x hi=>by simp at hi⟩) h3
   .trivial
  .rename_i t' xs r0;obtain⟨v,r,rfl,h1,_,h3⟩:=hL;refine iq λe=>?_;subst e;exact hK _ _ _ _ [v] r R hT (λ_ _ h=>h) (λ_ _ h=>h) (fO.refl _) rfl (gQ (λ_ _ h=> .inl h) (λ_ _ _=>rfl) h1) h3
  .rename_i bx vw r0;obtain⟨v,r,rfl,h1,_,h3⟩:=hL;obtain⟨l,hm,hv⟩:=h1;show Cmd.post (match S (bV+bx)with| .barr t' xs=>_| .bfrz t' xs=>_| .barrs el xs none=>_|_=>_) S Q;have hb:=R.box bx;split
   .rename_i t' xs hS;rw[hS]at hb;obtain⟨l',hm',ha⟩:=hb;simp only at hm hm';rw[hm]at hm';cases hm';refine iq λe=>?_;subst e;have hob:aC m bx (S (bV+bx))=l.blks:=by
     rw[hS];cases l<;>first|(simp[aC,hm,Loc.blks];done)|cases ha
    cases hl:ln t'
    .simp only[cond_false];show Cmd.post _ (upd S (bV+bx) (.bfrz t' xs)) Q;have hbs:∀b∈l.blks,b∈aC m bx (S (bV+bx)):=λb h=>by rw[hob];exact h
     refine hK _ (okW ok l.blks [t']) _ _ [v] r (R.widen x9 rfl hbs ?_) (hT.widen rfl hbs) JC (a2v rfl (by rw[hob];exact λ_ h=>h) (by rw[hS];exact λ_ h=>h)) (fO.box _ _ _) rfl ?_ (RU JC h3)
     .exact⟨l,hm,qP JC (λ_ _ _=>rfl) (λ_ _=>rfl) ha,λblk hb=> .inr ⟨hb,x9⟩⟩
     .exact uh (C:=⟨w.heap,ok,m⟩) ha hv (λb t h=> .inl (.inl h)) (λblk hb=> .inl (.inr ⟨hb,x9⟩))
    .simp only[cond_true];refine hK _ _ _ _ [v] r R hT (λ_ _ h=>h) (λ_ _ h=>h) (fO.refl _) rfl ?_ h3;refine uh (C:=⟨w.heap,ok,m⟩) ha hv (λb t h=> .inl h) (λblk hb=> .inr ⟨hl,bx,?_,by rw[hS];simp[b4N]⟩);rw[hob];exact hb
   .rename_i t' xs hS;rw[hS]at hb;obtain⟨l',hm',ha,hok⟩:=hb;simp only at hm hm';rw[hm]at hm';cases hm';refine iq λe=>?_;subst e;exact hK _ _ _ _ [v] r R hT (λ_ _ h=>h) (λ_ _ h=>h) (fO.refl _) rfl (uh (C:=⟨w.heap,ok,m⟩) ha hv (λ_ _ h=> .inl h) (λblk e=> .inl (hok _ e))) h3
   .rename_i md xs hS;rw[hS]at hb;obtain⟨hel,l',Os,hm',⟨ha,hho⟩,hk⟩:=hb;simp only at hm hm' hk;rw[hm]at hm';cases hm';refine a4Z λe e' =>?_;subst e';have hob:aC m bx (S (bV+bx))=l.blks++Os.flatten:=by
     rw[hS];simp only[aC];rw[hk];cases l<;>first|(simp[hm,Loc.blks];done)|cases ha
    simp only;cases hl:(ln md.ty&&a4A ln md.owned)
    .simp only[cond_false];show Cmd.post _ (upd S (bV+bx) (.bfrz md.ty _)) Q;have hbs:∀b∈l.blks++Os.flatten,b∈aC m bx (S (bV+bx)):=λb h=>by rw[hob];exact h
     have ha' :arrOk ⟨w.heap,okW ok (l.blks++Os.flatten) (md.ty::md.owned),m⟩ md.ty (cast (congrArg List (M.denEq md e)) xs) l:=
      SE e JC (λb hb t ht=> .inr ⟨by simp[hb],by simp[ht]⟩) ha
     refine hK _ (okW ok (l.blks++Os.flatten) (md.ty::md.owned)) _ _ [v] r (R.widen x9 rfl hbs ?_) (hT.widen rfl hbs) JC (a2v rfl (by rw[hob];exact λ_ h=>h) (by rw[hS];exact λ_ h=>h)) (fO.box _ _ _) rfl ?_ (RU JC h3)
     .exact⟨l,hm,ha',λblk hb=> .inr ⟨by simp[hb],x9⟩⟩
     .exact uh (C:=⟨w.heap,okW ok (l.blks++Os.flatten) (md.ty::md.owned),m⟩) ha' hv (λb t h=> .inl h) (λblk hb=> .inl (.inr ⟨by simp[hb],x9⟩))
    .simp only[cond_true];simp only[A8]at hl;have ha' :arrOk ⟨w.heap,okL ln S m ok,m⟩ md.ty (cast (congrArg List (M.denEq md e)) xs) l:=
      SE e (λb t h=> .inl h) (λb hb t ht=> .inr ⟨a1H hl.2 t ht,bx,by rw[hob];simp[hb],by rw[hS];simp[b4N,ht]⟩) ha
     refine hK _ _ _ _ [v] r R hT (λ_ _ h=>h) (λ_ _ h=>h) (fO.refl _) rfl ?_ h3;refine uh (C:=⟨w.heap,okL ln S m ok,m⟩) ha' hv (λb t h=>h) (λblk hb=> .inr ⟨hl.1,bx,?_,by rw[hS];simp[b4N]⟩);rw[hob];simp[hb]
   .trivial
  .trivial
theorem Jg(t:Ty){cs:List V}{K:t.den->List V->Cmd α}{S:Sm}{ok:Nat->Ty->Prop}{vs:d1D}(R:Rel X cl ch S m ok a w)(hT:Tk X S m ok w T)
  (hL:jf ⟨w.heap,ok,m⟩ cs vs)
  (hK:∀S' ok' x r us us',Rel X cl ch S' m ok' a w->Tk X S' m ok' w T->(∀b t,ok b t->ok' b t)->fO S S' ->vs=us++us' ->oD w.heap ok' t x us->jf ⟨w.heap,ok',m⟩ r us' ->(K x r).post S' Q):
  (rf FD t cs K).post S Q:=
 Lu FD t R hT hL λS' ok' x r us us' R' T' k g s e h l=>hK S' ok' x r us us' R' T' k s e (by rw[b4y]at h;exact h) l
theorem Loc.blks_nodup(l:Loc):l.blks.Nodup:=by cases l<;>simp[Loc.blks]
theorem a6v(t:Ty){c:V}{K:t.den->Cmd α}{S:Sm}{ok:Nat->Ty->Prop}(R:Rel X cl ch S m ok a w)(hT:Tk X S m ok w T)
  (hv:Bv ⟨w.heap,ok,m⟩ c v)
  (hK:∀S' ok' x,Rel X cl ch S' m ok' a w->Tk X S' m ok' w T->(∀b t,ok b t->ok' b t)->fO S S' ->a7u w.heap ok' t x 0 v->(K x).post S' Q):(rpC t c K).post S Q:=by
 unfold rpC;split
 .refine NJ λe=>?_;subst e;exact hK _ _ _ R hT (λ_ _ h=>h) (fO.refl _) hv
 .rename_i bx;obtain⟨blk,hm,rfl⟩:=hv;show Cmd.post (match S (bV+bx)with| .bfc t' x=>_| .bcells bs=>_|_=>_) S Q;have hb:=R.box bx;split
  .rename_i t' x hS;rw[hS]at hb;obtain⟨blk',es,hm',hok,hc,hr⟩:=hb;simp only at hm hm';rw[hm]at hm';cases hm';refine NJ λe=>?_;subst e;exact hK _ _ _ R hT (λ_ _ h=>h) (fO.refl _) ⟨blk,0,es,rfl,hok,hc,hr⟩
  .rename_i bs hS;rw[hS]at hb;obtain⟨blk',arr,Ty',hm',hh,hl⟩:=hb;simp only at hm hm';rw[hm]at hm';cases hm';refine Jg t R hT hl λS1 ok1 x q us us' R1 T1 k1 s1 e1 h1 l1=>?_;cases q with
   |cons c q=>trivial|nil=>
    simp only[jf]at l1;subst l1;simp only[H6]at e1;show Cmd.post (match S1 (bV+bx)with| .bcells _=>_|_=>_) S1 Q;split
    .rename_i bs' hS';show Cmd.post _ (upd S1 (bV+bx) (.bfc t x)) Q;have hbs:∀b∈[blk],b∈aC m bx (S1 (bV+bx)):=λb h=>by rw[hS'];simp at h;subst h;simp[aC,hm]
     have hce:gU w.heap blk 0 t.size=some us:=by rw[qQ hh 0 t.size (by have:=iK h1;rw[←e1]at this;simp at this;omega)];rw[e1,←iK h1];simp
     have hr:=gQ (JC (bs:=[blk]) (Ts:=[t])) (λ_ _ _=>rfl) h1;refine hK _ (okW ok1 [blk] [t]) _ (R1.widen x9 rfl hbs ?_) (T1.widen rfl hbs) (λb t h=> .inl (k1 b t h)) (s1.trans (fO.box _ _ _)) ?_
     .exact⟨blk,us,hm,.inr ⟨x9,x9⟩,hce,hr⟩
     .exact⟨blk,0,us,rfl,.inr ⟨x9,x9⟩,hce,hr⟩
    .trivial
  .trivial
 .trivial
theorem PM{α:Type}{Q:α->Sm->Prop}{h:Array Obj}{ok:Nat->Ty->Prop} :∀(ts:List Ty) {cs:List ((t:Ty)×t.den)} {vs:d1D} {K:XA ts->Cmd α} {S:Sm}
  (hc:Jk h ok cs vs) (hK:∀x,Jk h ok (Xz ts x) vs->(K x).post S Q),(TB ts cs K).post S Q
 |[],cs,vs,K,S,hc,hK=>by
  unfold TB;split
  .exact hK _ hc
  .trivial
 |[t],cs,vs,K,S,hc,hK=>by
  unfold TB;split
  .refine NJ λe=>?_;subst e;exact hK _ hc
  .trivial
 |t::t' ::r,cs,vs,K,S,hc,hK=>by
  unfold TB;split
  .obtain⟨v,vs',rfl,h1,h2⟩:=hc;refine NJ λe=>?_;subst e;exact PM (t' ::r) h2 λy hy=>hK _ ⟨v,vs',rfl,h1,hy⟩
  .trivial
theorem Jq{α:Type}{Q:α->Sm->Prop} :∀(md:M) {cs:List V} {K:md.den->List V->Cmd α} {S:Sm} {ok:Nat->Ty->Prop} {vs:d1D} {T:d1B} (R:Rel X cl ch S m ok a w) (hT:Tk X S m ok w T)
  (hL:jf ⟨w.heap,ok,m⟩ cs vs)
  (hK:∀S' ok' x r us us' O,Rel X cl ch S' m ok' a w->Tk X S' m ok' w (T++O)->(∀b t,ok b t->ok' b t)->fO S S' ->vs=us++us' ->sH w.heap ok' md none x us O->jf ⟨w.heap,ok',m⟩ r us' ->(K x r).post S' Q),
  (exM FD md cs K).post S Q
 | .dat t,cs,K,S,ok,vs,T,R,hT,hL,hK=>by unfold exM;exact Jg t R hT hL λS' ok' x r us us' R' T' k s e h l=>hK S' ok' x r us us' [] R' (by simpa using T') k s e ⟨h,rfl⟩ l| .own t,cs,K,S,ok,vs,T,R,hT,hL,hK=>by
  unfold exM;split
  .obtain⟨v,r,rfl,h1,_,h3⟩:=hL;simp only[Bv]at h1;subst h1;cases ht:t.isEnt
   .exact hK _ _ _ _ [_] r [] R (by simpa using hT) (λ_ _ h=>h) (fO.refl _) rfl (BM.2 ⟨.nil,_,rfl,rfl,⟨rfl,ht⟩,rfl⟩) h3
   .trivial
  .rename_i bx vw r0;obtain⟨v,r,rfl,h1,_,h3⟩:=hL;obtain⟨l,hm,hv⟩:=h1;show Cmd.post (match S (bV+bx)with| .barr t' xs=>_|_=>_) S Q;have hb:=R.box bx;split
   .rename_i t' xs hS;rw[hS]at hb;obtain⟨l',hm',ha⟩:=hb;simp only at hm hm';rw[hm]at hm';cases hm';refine iq λe=>?_;subst e;obtain⟨a1,a2,a3⟩:=NC (C:=⟨w.heap,ok,m⟩) ha hv;show Cmd.post _ (upd S (bV+bx) .dead) Q;refine hK _ ok _ _ [v] r (OV l vw).blks (R.kill bx) ?_ (λ_ _ h=>h) (fO.box _ _ _) rfl (BM.2 ⟨_,v,rfl,a2,qP (λ_ _ h=>h) (λ_ _ _=>rfl) (λ_ _=>rfl) a1,rfl⟩) h3;rw[a3];refine hT.kill R bx (λb hb=>?_) (Loc.blks_nodup l);cases l with
    |nil=>simp[Loc.blks]at hb|st _=>cases ha|arr blk off len cap sz=>simp[Loc.blks]at hb;subst hb;simp[aC,hS,hm]|mp blk=>simp[Loc.blks]at hb;subst hb;simp[aC,hS,hm]
   .trivial
  .trivial
 | .ownb t,cs,K,S,ok,vs,T,R,hT,hL,hK=>by
  unfold exM;split
  .obtain⟨v,r,rfl,h1,_,h3⟩:=hL;simp only[Bv]at h1;subst h1;cases ht:t.isEnt
   .exact hK _ _ _ _ [_] r [] R (by simpa using hT) (λ_ _ h=>h) (fO.refl _) rfl ⟨.nil,_,rfl,rfl,⟨rfl,ht⟩,rfl⟩ h3
   .trivial
  .rename_i bx r0;obtain⟨v,r,rfl,h1,_,h3⟩:=hL;obtain⟨l,hm,hv⟩:=h1;show Cmd.post (match S (bV+bx)with| .barr t' xs=>_|_=>_) S Q;have hb:=R.box bx;split
   .rename_i t' xs hS;rw[hS]at hb;obtain⟨l',hm',ha⟩:=hb;simp only at hm hm';rw[hm]at hm';cases hm';refine iq λe=>?_;subst e;show Cmd.post _ (upd S (bV+bx) (.gone t')) Q;refine hK _ ok _ _ [v] r l.blks (R.killV bx x9 rfl ⟨l,hm,λblk off len cap sz e=>by subst e;exact ha.2.1⟩) ?_ (λ_ _ h=>h) (fO.box _ _ _) rfl ⟨l,v,rfl,hv,qP (λ_ _ h=>h) (λ_ _ _=>rfl) (λ_ _=>rfl) ha,rfl⟩ h3;refine hT.killV R bx rfl (λb hb=>?_) (Loc.blks_nodup l);cases l with
    |nil=>simp[Loc.blks]at hb|st _=>cases ha|arr blk off len cap sz=>simp[Loc.blks]at hb;subst hb;simp[aC,hS,hm]|mp blk=>simp[Loc.blks]at hb;subst hb;simp[aC,hS,hm]
   .trivial
  .trivial
 | .owns md,cs,K,S,ok,vs,T,R,hT,hL,hK=>by
  unfold exM;split
  .obtain⟨v,r,rfl,h1,_,h3⟩:=hL;simp only[Bv]at h1;subst h1;refine iL λhe=>?_;exact hK _ _ _ _ [_] r [] R (by simpa using hT) (λ_ _ h=>h) (fO.refl _) rfl (DU.2 ⟨he,.nil,_,[],rfl,rfl,⟨rfl,rfl⟩,rfl⟩) h3
  .rename_i bx r0;obtain⟨v,r,rfl,h1,_,h3⟩:=hL;obtain⟨l,hm,hv⟩:=h1;show Cmd.post (match S (bV+bx)with| .barrs m' xs none=>_|_=>_) S Q;have hb:=R.box bx;split
   .rename_i md' xs hS;rw[hS]at hb;obtain⟨hel,l',Os,hm',⟨ha,hho⟩,hk⟩:=hb;simp only at hm hm' hk;rw[hm]at hm';cases hm';refine ZC λe=>?_;subst e;have hob:aC m bx (S (bV+bx))=l.blks++Os.flatten:=by
     rw[hS];simp only[aC];rw[hk];cases l<;>first|(simp[hm,Loc.blks];done)|cases ha
    show Cmd.post _ (upd S (bV+bx) .dead) Q;refine hK _ ok _ _ [v] r (l.blks++Os.flatten) (R.kill bx) ?_ (λ_ _ h=>h) (fO.box _ _ _) rfl (DU.2 ⟨hel,l,v,Os,rfl,hv,ha,rfl⟩) h3;refine hT.kill R bx (λb hb=>by rw[hob];exact hb) (by rw[←hob];exact R.nd bx)
   .trivial
  .trivial
 | .unit,cs,K,S,ok,vs,T,R,hT,hL,hK=>by unfold exM;exact hK _ _ _ _ [] vs [] R (by simpa using hT) (λ_ _ h=>h) (fO.refl _) rfl ⟨rfl,rfl⟩ hL
 | .pair p q,cs,K,S,ok,vs,T,R,hT,hL,hK=>by unfold exM;refine Jq p R hT hL λS1 ok1 x r us us' O1 R1 T1 k1 s1 e1 h1 l1=>?_;refine Jq q R1 T1 l1 λS2 ok2 y r' vs2 vs2' O2 R2 T2 k2 s2 e2 h2 l2=>?_;subst e1;subst e2;exact hK _ _ _ _ (us++vs2) vs2' (O1++O2) R2 (by simpa using T2) (λb t h=>k2 b t (k1 b t h)) (s1.trans s2) x9 ⟨us,vs2,O1,O2,rfl,rfl,lL k2 (λ_ _ _=>rfl) (λ_ _=>rfl) h1,h2⟩ l2| .box md,cs,K,S,ok,vs,T,R,hT,hL,hK=>by
  unfold exM;split
  .rename_i bx r0;obtain⟨v,r,rfl,h1,_,h3⟩:=hL;obtain⟨blk,hm,hv⟩:=h1;show Cmd.post (match S (bV+bx)with| .bcells bs=>_|_=>_) S Q;have hb:=R.box bx;split
   .rename_i bs hS;rw[hS]at hb;obtain⟨blk',arr,Ty',hm',hh,hl⟩:=hb;simp only at hm hm' hv;rw[hm]at hm';cases hm';subst hv;show Cmd.post _ (upd S (bV+bx) .dead) Q;have hT1:Tk X (upd S (bV+bx) .dead) m ok w (T++[blk]):=hT.kill R bx (λb hb=>by simp at hb;subst hb;simp[aC,hS,hm]) x9;refine Jq md (R.kill bx) hT1 hl λS1 ok1 x q us us' O R1 T1 k1 s1 e1 h1 l1=>?_;cases q with
    |nil=>simp only[jf]at l1;subst l1;simp only[H6]at e1;refine hK _ _ _ _ [_] r (blk::O) R1 (by simpa using T1) k1 ((fO.box _ _ _).trans s1) rfl ⟨blk,arr,Ty',O,rfl,hh,by rw[e1];exact h1,rfl⟩ (RU k1 h3)|cons c q=>trivial
   .trivial
  .trivial
 | .rp t,cs,K,S,ok,vs,T,R,hT,hL,hK=>by
  unfold exM;split
  .obtain⟨v,r,rfl,h1,_,h3⟩:=hL;refine a6v t R hT h1 λS1 ok1 x R1 T1 k1 s1 h1=>?_;exact hK _ _ _ _ [v] r [] R1 (by simpa using T1) k1 s1 rfl ⟨v,rfl,h1,rfl⟩ (RU k1 h3)
  .trivial
 | .fn f ts,cs,K,S,ok,vs,T,R,hT,hL,hK=>by
  unfold exM;split
  .rename_i g caps r0;obtain⟨v,r,rfl,⟨us,rfl,hc⟩,_,h3⟩:=hL;cases hb:Nat.beq g f
   .trivial
   .simp only[cond_true];have e:=jU hb;subst e;exact PM ts hc λx hx=>hK _ _ _ _ [_] r [] R (by simpa using hT) (λ_ _ h=>h) (fO.refl _) rfl ⟨us,rfl,hx,rfl⟩ h3
  .rename_i g r0;obtain⟨v,r,rfl,h1,_,h3⟩:=hL;have h1:v= .func (.func g) #[] #[]:=h1;subst h1;cases hb:Nat.beq g f
   .trivial
   .simp only[cond_true];have e:=jU hb;subst e;exact PM (cs:=[]) (vs:=[]) ts rfl λx hx=>hK _ _ _ _ [_] r [] R (by simpa using hT) (λ_ _ h=>h) (fO.refl _) rfl ⟨#[],rfl,hx,rfl⟩ h3
  .trivial
 | .ifc t md,cs,K,S,ok,vs,T,R,hT,hL,hK=>by
  unfold exM;split
  .rename_i t' c r0;obtain⟨v,r,rfl,⟨u,rfl,hu,hc⟩,_,h3⟩:=hL;cases hb:Nat.beq t' t
   .trivial
   .simp only[cond_true];have e:=jU hb;subst e;refine Jq md (vs:=[u]) R hT ⟨u,[],rfl,hc,hu,rfl⟩ λS1 ok1 x q us us' O R1 T1 k1 s1 e1 h1 l1=>?_;cases q with
    |cons c q=>trivial|nil=>simp only[jf]at l1;subst l1;simp only[H6]at e1;subst e1;exact hK _ _ _ _ [_] r O R1 T1 k1 s1 rfl ⟨u,rfl,h1⟩ (RU k1 h3)
  .trivial
 | .cell (some none),cs,K,S,ok,vs,T,R,hT,hL,hK=>by
  unfold exM;split
  .obtain⟨v,r,rfl,h1,h2,h3⟩:=hL;exact hK _ _ _ _ [v] r [] R (by simpa using hT) (λ_ _ h=>h) (fO.refl _) rfl ⟨v,rfl,h2,λ_=>h1,(λ_ h=>nomatch h),rfl⟩ h3
  .trivial
 | .cell (some (some b)),cs,K,S,ok,vs,T,R,hT,hL,hK=>by
  unfold exM;split
  .obtain⟨v,r,rfl,h1,h2,h3⟩:=hL;cases b
   .trivial
   .exact hK _ _ _ _ [v] r [] R (by simpa using hT) (λ_ _ h=>h) (fO.refl _) rfl ⟨v,rfl,h2,(λh=>nomatch h),(λb' h=>by cases h;exact h1),rfl⟩ h3
  .obtain⟨v,r,rfl,h1,h2,h3⟩:=hL;cases b
   .exact hK _ _ _ _ [v] r [] R (by simpa using hT) (λ_ _ h=>h) (fO.refl _) rfl ⟨v,rfl,h2,(λh=>nomatch h),(λb' h=>by cases h;exact h1),rfl⟩ h3
   .trivial
  .trivial
 | .cell none,cs,K,S,ok,vs,T,R,hT,hL,hK=>by
  unfold exM;split
  .obtain⟨v,r,rfl,h1,h2,h3⟩:=hL;exact hK _ _ _ _ [v] r [] R (by simpa using hT) (λ_ _ h=>h) (fO.refl _) rfl ⟨v,rfl,h2,(λh=>nomatch h),(λ_ h=>nomatch h),rfl⟩ h3
  .trivial
end
end Go.GP
namespace Go.GP
def kK(C:Cx):List V->d1D->Prop
 |[],vs=>vs=[]|c::cs,vs=>∃v r,vs=v::r/\pg C c v/\kK C cs r
theorem Qy{h:Array Obj}{ok ok' :Nat->Ty->Prop}{m:Mp}(k:∀b t,ok b t->ok' b t):∀{cs:List V} {vs:d1D},kK ⟨h,ok,m⟩ cs vs->kK ⟨h,ok',m⟩ cs vs
 |[],_,e=>e|_::_,_,⟨v,r,e,h1,h2⟩=>⟨v,r,e,RV k h1,Qy k h2⟩
theorem OD{h:Array Obj}{ok:Nat->Ty->Prop}{m m' :Mp}(k:∀n l,m n=some l->m' n=some l){cs:List V}{vs:d1D}(hr:jf ⟨h,ok,m⟩ cs vs):jf ⟨h,ok,m'⟩ cs vs:=
 Lj (C:=⟨h,ok,m⟩) (D:=⟨h,ok,m'⟩) ⟨λ_ _ h=>h,λ_ _ _=>rfl,k⟩ hr
variable {C:Cx}
theorem a6l{c:V}{v:Value}(h1:c≠.undef)(h2:c≠.un)(h:Bv C c v):v.oneCell' =true:=by
 cases c<;>simp only[Bv]at h<;>try (subst h;rfl)
 case ne=>obtain⟨_,_,rfl,_⟩:=h;rfl
 .exact absurd rfl h1
 .exact absurd rfl h2
 .rcases h with⟨_,a,cap,e,_⟩|⟨_,mv,e,_⟩<;>(simp at e;subst e;rfl)
 .obtain⟨l,_,hv⟩:=h;exact rM hv
 .obtain⟨b,_,rfl⟩:=h;rfl
 .obtain⟨_,_,_,_,_,_,_,rfl⟩:=h;rfl
 .exact ZU h
 all_goals first|exact h.elim|(obtain⟨_,rfl,_⟩:=h;rfl)|(obtain⟨_,_,rfl⟩:=h;rfl)
theorem IK{c:V}{v:Value}(h:Bv C c v):pg C c v:=by
 cases c<;>simp only[Bv]at h<;>try exact h
 all_goals exact h.elim
variable {α:Type}{v:V}{Q:α->Sm->Prop}{x:Value}{ln:Ty->Bool}
section
variable {X:Fx} {cl ch:Nat} {S:Sm} {m:Mp} {ok:Nat->Ty->Prop} {a:Act} {w:World} {T:d1B}
theorem KE{ag:Bool}{K:List V->Cmd α}{S:Sm}(hv:pg C v x)
  (hK:∀cs us,Xj ag x us->jf C cs us->(K cs).post S Q):(ZE ag v K).post S Q:=by
 unfold ZE;split<;>try trivial
 .obtain⟨arr,rfl,hl⟩:=hv;exact hK _ _ ⟨arr,rfl,rfl⟩ hl
 .rename_i h1 h2 h3 h4;have hc:Bv C v x:=by cases v<;>first|exact hv|exact absurd rfl (h1 _)|exact absurd rfl (h2 _)
  exact hK [v] [x] rfl ⟨x,[],rfl,hc,a6l (λe=>h3 e) (λe=>h4 e) hc,rfl⟩
theorem zo{K:List V->Cmd α}{S:Sm}(hv:pg C v x)
  (hK:∀cs,jf C cs x.cells.toList->(K cs).post S Q):(NK v K).post S Q:=by
 unfold NK;split<;>try trivial
 .obtain⟨arr,rfl,hl⟩:=hv;exact hK _ hl
 .rename_i h1 h2 h3 h4;have hc:Bv C v x:=by cases v<;>first|exact hv|exact absurd rfl (h1 _)|exact absurd rfl (h2 _)
  have h1' :=a6l (λe=>h3 e) (λe=>h4 e) hc;have e:x.cells.toList=[x]:=by cases x<;>simp[Value.cells]<;>simp[Value.oneCell']at h1'
  refine hK [v] ?_;rw[e];exact⟨x,[],rfl,hc,h1',rfl⟩
theorem a5d{md:MG}{K:md.2.den->Cmd α}(R:Rel X cl ch S m ok a w)(hT:Tk X S m ok w T)(hv:pg ⟨w.heap,ok,m⟩ v x)
  (hK:∀S' ok' y cs O,Rel X cl ch S' m ok' a w->Tk X S' m ok' w (T++O)->(∀b t,ok b t->ok' b t)->fO S S' ->Xj md.1 x cs->sH w.heap ok' md.2 none y cs O->(K y).post S' Q):
  (a_ FD md v K).post S Q:=by
 refine KE hv λcs us hg hl=>?_;refine Jq md.2 R hT hl λS1 ok1 y r us1 us' O R1 T1 k1 s1 e1 h1 l1=>?_;cases r with
 |cons c q=>trivial|nil=>simp only[jf]at l1;subst l1;simp only[H6]at e1;subst e1;exact hK _ _ _ _ _ R1 T1 k1 s1 hg h1
theorem b3G{md:M}(hd:md.isDat=false)(cs:List V)(K:md.den->List V->Cmd α):exM ln md cs K=exM FD md cs K:=by cases md<;>first|rfl|(simp[M.isDat]at hd;done)|(rename_i b;cases b<;>first|rfl|(rename_i b;cases b<;>rfl))
theorem a1U{md:MG}(hd:md.2.isDat=true){K:md.2.den->Cmd α}(R:Rel X cl ch S m ok a w)(hT:Tk X S m ok w T)(hv:pg ⟨w.heap,ok,m⟩ v x)
  (hK:∀S' ok' y cs,Rel X cl ch S' m ok' a w->Tk X S' m ok' w T->(∀b t,ok b t->ok' b t)->(∀b t,okL ln S m ok b t->okL ln S' m ok' b t)->fO S S' ->Xj md.1 x cs->sH w.heap (okL ln S' m ok') md.2 none y cs []->(K y).post S' Q):
  (a_ ln md v K).post S Q:=by
 obtain⟨ag,mm⟩:=md;cases mm<;>simp[M.isDat]at hd;refine KE hv λcs us hg hl=>?_;dsimp only;unfold exM;refine Lu ln _ R hT hl λS1 ok1 y r us1 us' R1 T1 k1 g1 s1 e1 h1 l1=>?_;cases r with
 |cons c q=>trivial|nil=>simp only[jf]at l1;subst l1;simp only[H6]at e1;subst e1;exact hK _ _ _ _ R1 T1 k1 g1 s1 hg ⟨h1,rfl⟩
theorem c0N :∀b t,ok b t->okL ln S m ok b t:=λ_ _ h=> .inl h
theorem NU{α:Type}{Q:α->Sm->Prop}{ln:Ty->Bool} :∀(ms:List MG) {vs:List V} {xs:d1D} {K:dR ms->Cmd α} {S:Sm} {ok:Nat->Ty->Prop} {T:d1B} (R:Rel X cl ch S m ok a w) (hT:Tk X S m ok w T)
  (hv:kK ⟨w.heap,ok,m⟩ vs xs)
  (hK:∀S' ok' y O,Rel X cl ch S' m ok' a w->Tk X S' m ok' w (T++O)->(∀b t,ok b t->ok' b t)->fO S S' ->yj w.heap (okL ln S' m ok') ms y xs O->(K y).post S' Q),
  (SQ ln ms vs K).post S Q
 |[],vs,xs,K,S,ok,T,R,hT,hv,hK=>by
  unfold SQ;split
  .simp only[kK]at hv;subst hv;exact hK _ _ _ [] R (by simpa using hT) (λ_ _ h=>h) (fO.refl _) ⟨rfl,rfl⟩
  .trivial
 |[md],vs,xs,K,S,ok,T,R,hT,hv,hK=>by
  unfold SQ;split
  .obtain⟨x,r,rfl,h1,h2⟩:=hv;simp only[kK]at h2;subst h2;cases hd:md.2.isDat
   .unfold a_;simp only[b3G hd];exact a5d R hT h1 λS' ok' y cs O R' T' k s g h=>hK _ _ _ O R' T' k s ⟨x,cs,rfl,g,lL c0N (λ_ _ _=>rfl) (λ_ _=>rfl) h⟩
   .exact a1U hd R hT h1 λS' ok' y cs R' T' k g s hg h=>hK _ _ _ [] R' (by simpa using T') k s ⟨x,cs,rfl,hg,h⟩
  .trivial
 |md::md' ::r,vs,xs,K,S,ok,T,R,hT,hv,hK=>by
  unfold SQ;split
  .obtain⟨x,xr,rfl,h1,h2⟩:=hv;cases hd:md.2.isDat
   .simp only[cond_false];unfold a_;simp only[b3G hd];refine a5d R hT h1 λS1 ok1 y cs O R1 T1 k1 s1 g1 h1' =>?_;refine NU (md' ::r) R1 T1 (Qy k1 h2) λS2 ok2 z O2 R2 T2 k2 s2 h2' =>?_;exact hK _ _ _ (O++O2) R2 (by simpa using T2) (λb t h=>k2 b t (k1 b t h)) (s1.trans s2) ⟨x,cs,xr,O,O2,rfl,rfl,g1,lL (λb t h=> .inl (k2 b t h)) (λ_ _ _=>rfl) (λ_ _=>rfl) h1',h2'⟩
   .simp only[cond_true];refine NU (md' ::r) R hT h2 λS2 ok2 z O2 R2 T2 k2 s2 h2' =>?_;refine a1U hd R2 T2 (RV k2 h1) λS1 ok1 y cs R1 T1 k1 g1 s1 hg h1' =>?_;exact hK _ _ _ ([]++O2) R1 (by simpa using T1) (λb t h=>k1 b t (k2 b t h)) (s2.trans s1) ⟨x,cs,xr,[],O2,rfl,rfl,hg,h1',Ym g1 (λ_ _ _=>rfl) (λ_ _=>rfl) h2'⟩
  .trivial
theorem a5c(ms:List MG){vs:List V}{xs:d1D}{K:dR ms->Cmd α}{S:Sm}{ok:Nat->Ty->Prop}{T:d1B}(R:Rel X cl ch S m ok a w)(hT:Tk X S m ok w T)
  (hv:kK ⟨w.heap,ok,m⟩ vs xs)
  (hK:∀S' ok' y O,Rel X cl ch S' m ok' a w->Tk X S' m ok' w (T++O)->(∀b t,ok b t->ok' b t)->fO S S' ->yj w.heap ok' ms y xs O->(K y).post S' Q):
  (SQ FD ms vs K).post S Q:=
 NU ms R hT hv λS' ok' y O R' T' k s h=>hK S' ok' y O R' T' k s (by rw[b4y]at h;exact h)
theorem XM{α:Type}{Q:α->Sm->Prop}{tmps:Array Value}{C:Cx} :∀(ns:d1B) {K:List V->Cmd α} {S:Sm} (hs:∀n,n<bV->pg C (S n) (tmps.getD n Go.undef))
  (hK:∀vs,kK C vs (ns.map λn=>tmps.getD n Go.undef)->(K vs).post S Q),(a3j ns K).post S Q
 |[],K,S,hs,hK=>hK [] rfl|n::ns,K,S,hs,hK=>by
  unfold a3j;cases hb:Nat.blt n bV
  .trivial
  .simp only[cond_true];show Cmd.post _ S Q;refine XM ns hs λvs hvs=>?_;exact hK _ ⟨_,_,rfl,hs n (by rw[iC]at hb;exact hb),hvs⟩
def a7g(h:Array Obj)(ok:Nat->Ty->Prop)(sg:Sig)(x:ul sg)(tmps:Array Value)(O:d1B):Prop:=
 yj h ok (sg.ms.map (·.2)) x ((sg.ms.map (·.1)).map λn=>tmps.getD n Go.undef) O/\∀p∈sg.als,tmps.getD p.1 Go.undef=tmps.getD p.2 Go.undef
theorem b6z{v u:V}{x y:Value}(h:b9Q v u=true)(hv:pg C v x)(hu:pg C u y):x=y:=by
 cases v<;>try (cases h;done)
 case own a vw=>
 cases u<;>try (cases vw<;>cases h;done)
 case own b vu=>
 cases vw<;>cases vu<;>try (cases h;done)
 have:=jU (show Nat.beq a b=true from h);subst this;obtain⟨l,hm,h1⟩:=hv;obtain⟨l',hm',h2⟩:=hu;rw[hm]at hm';cases hm';cases l with
 |nil=>exact(show x=_ from h1).trans (show y=_ from h2).symm|st b=>cases h1|mp b=>exact(show x=_ from h1).trans (show y=_ from h2).symm|arr blk off len cap sz=>exact(show x=_ from h1).trans (show y=_ from h2).symm
theorem a1I{α:Type}{Q:α->Sm->Prop}{tmps:Array Value}{C:Cx} :∀(als:List (Nat×Nat)) {K:Cmd α} {S:Sm} (hs:∀n,n<bV->pg C (S n) (tmps.getD n Go.undef))
  (hK:(∀p∈als,tmps.getD p.1 Go.undef=tmps.getD p.2 Go.undef)->K.post S Q),(b7V als K).post S Q
 |[],K,S,hs,hK=>hK (λp hp=>by cases hp)|(n,k)::r,K,S,hs,hK=>by
  unfold b7V;refine iL λhb=>?_;simp only[A8]at hb;show Cmd.post _ S Q;refine iL λhv=>a1I r hs λh=>hK λp hp=>?_;rcases D6.1 hp with rfl|hp
  .have h1:=hb.1;have h2:=hb.2;rw[iC]at h1 h2;exact b6z hv (hs n h1) (hs k h2)
  .exact h p hp
theorem a7C{sg:Sig}{Q:ul sg->Sm->Prop}(R:Rel X cl ch S m ok a w)
  (hK:∀S' ok' y O,Rel X cl ch S' m ok' a w->Tk X S' m ok' w O->(∀b t,ok b t->ok' b t)->fO S S' ->
   a7g w.heap ok' sg y a.tmps O->Q y S'):(b3H sg).post S Q:=by
 unfold b3H;refine a1I _ R.slot λhals=>XM _ R.slot λvs hvs=>?_;refine a5c (T:=[]) _ R Tk.nil hvs λS' ok' y O R' T' k s h=>?_;exact hK S' ok' y O R' T' k s ⟨h,hals⟩
theorem Rel.chmono(R:Rel X cl ch S m ok a w){ch' :Nat}(h:ch<=ch'):Rel X cl ch' S m ok a w:={ R with strict:=λn hn=>R.strict n l7 }
theorem Aq{n:Nat}{K:Cmd α}(hK:S (bV+n)= .undef->K.post (upd S (bV+n) v) Q):(Bo n v K).post S Q:=by
 unfold Bo;show Cmd.post (match S (bV+n)with| .undef=>_|_=>_) S Q;split
 .rename_i h;exact hK h
 .trivial
theorem Rel.adopt(R:Rel X cl ch S m ok a w){n:Nat}{l:Loc}{ks:d1B}{O:d1B}(hn:S (bV+n)= .undef)(hcl:cl<=n)(hv:v≠.undef)
  (hT:Tk X S m ok w (O++T)) (ho:∀b∈aC (qh m n l ks) n v,b∈O) (hnd:(aC (qh m n l ks) n v).Nodup) (hB:JQ ⟨w.heap,ok,qh m n l ks⟩ n v):
  Rel X cl (max ch (n+1)) (upd S (bV+n) v) (qh m n l ks) ok a w/\Tk X (upd S (bV+n) v) (qh m n l ks) ok w T/\(∀k l',m k=some l' ->qh m n l ks k=some l'):=by
 have hm:m n=none:=R.fresh n hcl hn;refine⟨(R.chmono (iG ch (n+1))).lay hn hcl l7 hv rfl rfl rfl (E9 _) (λ_ _ _=>rfl) hnd (λb hb=>hT.free b (by simp[ho b hb])) hB,⟨?_,λb hb=>?_⟩,λk l' h=>?_⟩
 .exact(O7.1 hT.nodup).2.1
 .obtain⟨h1,h2,h3,h4⟩:=hT.free b (by simp[hb]);refine⟨h1,h2,h3,λk e=>?_⟩;by_cases ek:k=n
  .subst ek;rw[oG]at e;exact(O7.1 hT.nodup).2.2 b (ho b e) b hb rfl
  .rw[dZ _ _ l7]at e;refine h4 k ?_;rw[←Oi (m:=m) (lC m l ks ek) (XC m l ks ek)];exact e
 .by_cases ek:k=n
  .subst ek;simp[hm]at h
  .rw[lC _ _ _ ek];exact h
theorem PG{h:Array Obj}{ok:Nat->Ty->Prop}{m m' :Mp}{t:Ty}{xs:List t.den}{l:Loc}(hr:arrOk ⟨h,ok,m⟩ t xs l):arrOk ⟨h,ok,m'⟩ t xs l:=by cases l<;>exact hr
theorem b2z{S:Sm}{k:Nat}{c:Cmd α}(h:c.post (upd S k v) Q):(Cmd.set k v c).post S Q:=h
theorem ML{α:Type}{Q:α->Sm->Prop} :∀(md:M) {x:md.den} {n:Nat} {r:List V} {K:List V->Nat->Cmd α} {S:Sm} {m:Mp} {ch:Nat} {us us' :d1D} {O T:d1B}
  (R:Rel X cl ch S m ok a w) (hcl:cl<=n) (hT:Tk X S m ok w (O++T)) (h:sH w.heap ok md none x us O) (hL:jf ⟨w.heap,ok,m⟩ r us')
  (hK:∀S' m' cs n' ch',Rel X cl ch' S' m' ok a w->ch' <=max ch n' ->Tk X S' m' ok w T->(∀k l,m k=some l->m' k=some l)->fO S S' ->jf ⟨w.heap,ok,m'⟩ cs (us++us')->n<=n' ->(K cs n').post S' Q),
  (emM md x n r K).post S Q
 | .dat t,x,n,r,K,S,m,ch,us,us',O,T,R,hcl,hT,h,hL,hK=>by unfold emM;obtain⟨hr,rfl⟩:=h;refine hK S m _ n ch R (iG _ _) (by simpa using hT) (λ_ _ h=>h) (fO.refl _) ?_ (E9 _);rw[oI];exact zQ (uY (C:=⟨w.heap,ok,m⟩) hr) hL
 | .own t,x,n,r,K,S,m,ch,us,us',O,T,R,hcl,hT,h,hL,hK=>by
  unfold emM;obtain⟨l,v,rfl,hv,ha,rfl⟩:=BM.1 h;refine Aq λhn=>?_;have hob:aC (qh m n l []) n (.barr t x)=l.blks:=by cases l<;>first|(simp[aC,Loc.blks];done)|cases ha
  obtain⟨R',T',k'⟩:=R.adopt (l:=l) (ks:=[]) (v:=.barr t x) hn hcl x9 hT (λb hb=>by rw[hob]at hb;exact hb) (by rw[hob];exact Loc.blks_nodup l) ⟨l,fE _ _ _ _,PG ha⟩;exact hK _ _ _ _ _ R' l7 T' k' (fO.box _ _ _) ⟨v,us',rfl,⟨l,fE _ _ _ _,hv⟩,rM hv,OD k' hL⟩ l7
 | .ownb t,x,n,r,K,S,m,ch,us,us',O,T,R,hcl,hT,h,hL,hK=>by
  unfold emM;obtain⟨l,v,rfl,hv,ha,rfl⟩:=h;refine Aq λhn=>?_;have hob:aC (qh m n l []) n (.barr t x)=l.blks:=by cases l<;>first|(simp[aC,Loc.blks];done)|cases ha
  obtain⟨R',T',k'⟩:=R.adopt (l:=l) (ks:=[]) (v:=.barr t x) hn hcl x9 hT (λb hb=>by rw[hob]at hb;exact hb) (by rw[hob];exact Loc.blks_nodup l) ⟨l,fE _ _ _ _,PG ha⟩;exact hK _ _ _ _ _ R' l7 T' k' (fO.box _ _ _) ⟨v,us',rfl,⟨l,fE _ _ _ _,hv⟩,rM hv,OD k' hL⟩ l7
 | .owns md,x,n,r,K,S,m,ch,us,us',O,T,R,hcl,hT,h,hL,hK=>by
  unfold emM;obtain⟨hw,l,v,Os,rfl,hv,ha,rfl⟩:=DU.1 h;refine Aq λhn=>?_;have hob:aC (qh m n l Os.flatten) n (.barrs md x none)=l.blks++Os.flatten:=by cases l<;>first|(simp[aC,Loc.blks];done)|cases ha
  obtain⟨R',T',k'⟩:=R.adopt (l:=l) (ks:=Os.flatten) (v:=.barrs md x none) hn hcl x9 hT (λb hb=>by rw[hob]at hb;exact hb) (by rw[hob];exact(O7.1 hT.nodup).1)
   ⟨hw,l,Os,fE _ _ _ _,⟨ha,trivial⟩,x9⟩
  refine b2z ?_;have T2:=T'.killV R' (Wh+n) (v:=.blen (o9 x) md.size) rfl (bs:=[]) (λb h=>by cases h) fP;rw[H6]at T2;exact hK _ _ _ _ _ (R'.mark (oG _ _ _)) l7 T2 k' ((fO.box _ _ _).trans (fO.box _ _ _)) ⟨v,us',rfl,⟨l,fE _ _ _ _,hv⟩,rM hv,OD k' hL⟩ l7
 | .pair p q,x,n,r,K,S,m,ch,us,us',O,T,R,hcl,hT,h,hL,hK=>by
  unfold emM;obtain⟨c,d,O1,O2,rfl,rfl,h1,h2⟩:=b2k.1 h;have hT1:Tk X S m ok w (O2++(O1++T)):=hT.perm (by rw[G5];exact(List.perm_append_comm_assoc _ _ _))
  refine ML q R hcl hT1 h2 hL λS1 m1 cs1 n1 ch1 R1 c1 T1 k1 s1 l1 e1=>?_;refine ML p R1 l7 T1 h1 l1 λS2 m2 cs2 n2 ch2 R2 c2 T2 k2 s2 l2 e2=>?_;exact hK _ _ _ _ _ R2 l7 T2 (λk l h=>k2 k l (k1 k l h)) (s1.trans s2) (by simpa using l2) l7
 | .unit,x,n,r,K,S,m,ch,us,us',O,T,R,hcl,hT,h,hL,hK=>by unfold emM;obtain⟨rfl,rfl⟩:=h;exact hK S m _ n ch R (iG _ _) (by simpa using hT) (λ_ _ h=>h) (fO.refl _) (by simpa using hL) (E9 _)
 | .box md,x,n,r,K,S,m,ch,us,us',O,T,R,hcl,hT,h,hL,hK=>by
  unfold emM;obtain⟨blk,arr,Tt,O',rfl,hh,hr,rfl⟩:=h;have hT1:Tk X S m ok w (O' ++([blk]++T)):=hT.perm (by simpa using List.perm_middle.symm);refine ML md (r:=[]) (us' :=[]) R l7 hT1 hr rfl λS1 m1 cs1 n1 ch1 R1 c1 T1 k1 s1 l1 e1=>?_;refine Aq λhn=>?_;obtain⟨R',T',k'⟩:=R1.adopt (l:=.st blk) (ks:=[]) (v:=.bcells cs1) hn hcl x9 T1 (λb hb=>by
   simp only[aC,fE]at hb;simp at hb;simp[hb]) (by simp[aC]) ⟨blk,arr,Tt,fE _ _ _ _,hh,OD (λk l (h:m1 k=some l)=>by
    by_cases ek:k=n
    .subst ek;have:=R1.fresh k hcl hn;rw[this]at h;cases h
    .rw[lC _ _ _ ek];exact h) (by simpa using l1)⟩
  refine hK _ _ _ _ _ R' l7 T' (λk l h=>k' k l (k1 k l h)) (s1.trans (fO.box _ _ _)) ⟨_,us',rfl,⟨blk,fE _ _ _ _,rfl⟩,rfl,OD k' (OD k1 hL)⟩ l7
 | .rp t,x,n,r,K,S,m,ch,us,us',O,T,R,hcl,hT,h,hL,hK=>by unfold emM;obtain⟨v,rfl,hv,rfl⟩:=h;exact hK S m _ n ch R (iG _ _) (by simpa using hT) (λ_ _ h=>h) (fO.refl _) ⟨v,us',rfl,hv,ZU hv,hL⟩ (E9 _)
 | .fn f ts,x,n,r,K,S,m,ch,us,us',O,T,R,hcl,hT,h,hL,hK=>by unfold emM;obtain⟨vs,rfl,hv,rfl⟩:=h;exact hK S m _ n ch R (iG _ _) (by simpa using hT) (λ_ _ h=>h) (fO.refl _) ⟨_,us',rfl,⟨vs,rfl,hv⟩,rfl,hL⟩ (E9 _)
 | .ifc t md,x,n,r,K,S,m,ch,us,us',O,T,R,hcl,hT,h,hL,hK=>by
  unfold emM;obtain⟨u,rfl,h1⟩:=h;refine ML md (r:=[]) (us' :=[]) R hcl hT h1 rfl λS1 m1 cs1 n1 ch1 R1 c1 T1 k1 s1 l1 e1=>?_;split
  .rename_i c;obtain⟨v',r',e,h1',h2',h3'⟩:=l1;simp only[H6,aG,G6,O0]at e;obtain⟨rfl,rfl⟩:=e;exact hK _ _ _ _ _ R1 c1 T1 k1 s1 ⟨_,us',rfl,⟨u,rfl,h2',h1'⟩,rfl,OD k1 hL⟩ e1
  .trivial
 | .cell (some none),x,n,r,K,S,m,ch,us,us',O,T,R,hcl,hT,h,hL,hK=>by unfold emM;obtain⟨v,rfl,hv,h2,h4,rfl⟩:=h;exact hK S m _ n ch R (iG _ _) (by simpa using hT) (λ_ _ h=>h) (fO.refl _) ⟨v,us',rfl,h2 rfl,hv,hL⟩ (E9 _)
 | .cell (some (some b)),x,n,r,K,S,m,ch,us,us',O,T,R,hcl,hT,h,hL,hK=>by unfold emM;obtain⟨v,rfl,hv,h2,h4,rfl⟩:=h;exact hK S m _ n ch R (iG _ _) (by simpa using hT) (λ_ _ h=>h) (fO.refl _) ⟨v,us',rfl,h4 _ rfl,hv,hL⟩ (E9 _)
 | .cell none,x,n,r,K,S,m,ch,us,us',O,T,R,hcl,hT,h,hL,hK=>by unfold emM;obtain⟨v,rfl,hv,h2,h4,rfl⟩:=h;exact hK S m _ n ch R (iG _ _) (by simpa using hT) (λ_ _ h=>h) (fO.refl _) ⟨v,us',rfl,trivial,hv,hL⟩ (E9 _)
theorem VE{ag:Bool}{cs:List V}{us:d1D}(hg:Xj ag x us)(hl:jf C cs us):pg C (mkV ag cs) x:=by
 cases ag
 .simp only[Xj]at hg;subst hg;cases cs with
  |nil=>simp[jf]at hl|cons c r=>
   obtain⟨v,r',e,h1,h2,h3⟩:=hl;simp at e;obtain⟨rfl,rfl⟩:=e;cases r with
   |nil=>exact IK h1|cons d r=>obtain⟨_,_,e,_⟩:=h3;cases e
 .obtain⟨arr,rfl,rfl⟩:=hg;exact⟨arr,rfl,hl⟩
theorem NQ{α:Type}{Q:α->Sm->Prop} :∀(ms:List MG) {x:dR ms} {n:Nat} {K:List V->Nat->Cmd α} {S:Sm} {m:Mp} {ch:Nat} {xs:d1D} {O T:d1B}
  (R:Rel X cl ch S m ok a w) (hcl:cl<=n) (hT:Tk X S m ok w (O++T)) (h:yj w.heap ok ms x xs O)
  (hK:∀S' m' vs n' ch',Rel X cl ch' S' m' ok a w->ch' <=max ch n' ->Tk X S' m' ok w T->(∀k l,m k=some l->m' k=some l)->fO S S' ->kK ⟨w.heap,ok,m'⟩ vs xs->n<=n' ->(K vs n').post S' Q),
  (SL ms x n K).post S Q
 |[],x,n,K,S,m,ch,xs,O,T,R,hcl,hT,h,hK=>by unfold SL;obtain⟨rfl,rfl⟩:=h;exact hK S m [] n ch R (iG _ _) (by simpa using hT) (λ_ _ h=>h) (fO.refl _) rfl (E9 _)
 |[md],x,n,K,S,m,ch,xs,O,T,R,hcl,hT,h,hK=>by unfold SL;obtain⟨v,cs,rfl,hg,hr⟩:=h;refine ML md.2 (us' :=[]) R hcl hT hr rfl λS1 m1 cs1 n1 ch1 R1 c1 T1 k1 s1 l1 e1=>?_;exact hK _ _ _ _ _ R1 c1 T1 k1 s1 ⟨v,[],rfl,VE hg (by simpa using l1),rfl⟩ e1
 |md::md' ::r,x,n,K,S,m,ch,xs,O,T,R,hcl,hT,h,hK=>by unfold SL;obtain⟨v,cs,vs',O1,O2,rfl,rfl,hg,h1,h2⟩:=h;refine ML md.2 (us' :=[]) R hcl (by simpa using hT) h1 rfl λS1 m1 cs1 n1 ch1 R1 c1 T1 k1 s1 l1 e1=>?_;refine NQ (md' ::r) R1 l7 T1 h2 λS2 m2 vs2 n2 ch2 R2 c2 T2 k2 s2 l2 e2=>?_;exact hK _ _ _ _ _ R2 l7 T2 (λk l h=>k2 k l (k1 k l h)) (s1.trans s2) ⟨v,vs',rfl,VE hg (OD k2 (by simpa using l1)),l2⟩ l7
theorem Yr{Q:Unit->Sm->Prop} :∀(ns:d1B) {vs:List V} {S:Sm} (R:Rel X cl ch S m ok a w) (hv:kK ⟨w.heap,ok,m⟩ vs (ns.map λn=>a.tmps.getD n Go.undef))
  (hK:∀S',Rel X cl ch S' m ok a w->Q () S'),(a0C ns vs).post S Q
 |[],vs,S,R,hv,hK=>by
  cases vs with
  |nil=>exact hK S R|cons v vs=>trivial
 |n::ns,vs,S,R,hv,hK=>by
  cases vs with
  |nil=>trivial|cons v vs=>
   unfold a0C;obtain⟨x,r,e,h1,h2⟩:=hv;simp only[jv,O0]at e;obtain⟨rfl,rfl⟩:=e;cases hb:Nat.blt n bV
   .trivial
   .simp only[cond_true];show Cmd.post _ (upd S n v) Q;exact Yr ns (R.slotV (by rw[iC]at hb;exact hb) h1) h2 hK
theorem VL{Q:Unit->Sm->Prop} :∀(ns:d1B) {vs:List V} {S:Sm} {K:Cmd Unit} (R:Rel X cl ch S m ok a w) (hv:kK ⟨w.heap,ok,m⟩ vs (ns.map λn=>a.tmps.getD n Go.undef))
  (hK:∀S',Rel X cl ch S' m ok a w->K.post S' Q),(Zb ns vs K).post S Q
 |[],vs,S,K,R,hv,hK=>by
  simp only[vK]at hv;cases vs with
  |nil=>exact hK S R|cons _ _=>obtain⟨_,_,e,_⟩:=hv;cases e
 |n::ns,vs,S,K,R,hv,hK=>by
  cases vs with
  |nil=>trivial
  |cons v vs=>obtain⟨x,r,e,h1,h2⟩:=hv;simp only[jv,O0]at e;obtain⟨rfl,rfl⟩:=e;unfold Zb;refine iL λhb=>?_;show Cmd.post _ (upd S n v) Q;exact VL ns (R.slotV (by rw[iC]at hb;exact hb) h1) h2 hK
theorem Yt{Q:Unit->Sm->Prop} :∀(als:List (Nat×Nat)) {S:Sm} (R:Rel X cl ch S m ok a w) (h:∀p∈als,a.tmps.getD p.1 Go.undef=a.tmps.getD p.2 Go.undef)
  (hK:∀S',Rel X cl ch S' m ok a w->Q () S'),(a4j als).post S Q
 |[],S,R,h,hK=>hK S R
 |(n,k)::r,S,R,h,hK=>by unfold a4j;refine iL λhb=>?_;simp only[A8]at hb;have h1:=hb.1;have h2:=hb.2;rw[iC]at h1 h2;show Cmd.post _ (upd S n (S k)) Q;refine Yt r (R.slotV h1 ?_) (λp hp=>h p (V4 _ hp)) hK;rw[h (n,k) nz];exact R.slot k h2
theorem a7w{sg:Sig}{x:ul sg}{nb lim:Nat}{Q:Unit->Sm->Prop}{O:d1B}(R:Rel X cl ch S m ok a w)(hcl:cl<=nb)(hT:Tk X S m ok w O)
  (h:a7g w.heap ok sg x a.tmps O)
  (hK:∀S' m',Rel X cl (max ch lim) S' m' ok a w->(∀k l,m k=some l->m' k=some l)->Q () S'):(b3C sg x nb lim).post S Q:=by
 unfold b3C;refine NQ (T:=[]) _ R hcl (by simpa using hT) h.1 λS1 m1 vs n1 ch1 R1 c1 T1 k1 s1 l1 e1=>?_;cases hb:Nat.ble n1 lim
 .trivial
 .simp only[cond_true];have:n1<=lim:=ax hb;exact VL _ (R1.chmono (ch' :=max ch lim) l7) l1 λS' R' =>Yt _ R' h.2 λS'' R'' =>hK S'' m1 R'' k1
end
end Go.GP
namespace Go.GP
def b7F(P:Program)(t:TypeId):TD->Prop
 | .bool=>P.underlying t=some .bool| .int k=>P.underlying t=some (.int k)| .str=>P.underlying t=some .string| .sl e=>P.underlying t=some (.slice e)| .ptr e=>P.underlying t=some (.pointer e)| .struct fs=>∃fields,P.underlying t=some (.struct fields)/\fields.toList.map (λf=>(f.type,f.offset))=fs| .arr n e=>P.underlying t=some (.array n e)| .map k e=>P.underlying t=some (.map k e)| .other=>∃d,P.underlying t=some d/\(match d with| .struct _| .array _ _=>False|_=>True)
structure TiOk (P:Program) (t:TypeId) (i:TI):Prop where
 info:∃inf,P.info? t=some inf/\inf.size=i.size/\inf.bytes=i.bytes/\
  (i.zero.length=i.size->∃z,inf.zero=some z/\jf ⟨#[],λ_ _=>False,nom⟩ i.zero z.cells.toList)/\
  (∀u,i.ty=some u->u.size=i.size/\∃z,inf.zero=some z/\oD #[] (λ_ _=>False) u u.zero z.cells.toList)
 td:b7F P t i.td
 one:dN i.td=false->i.size=1
 agg:∀inf z,P.info? t=some inf->inf.zero=some z->(dN i.td=true->∃arr,z= .agg arr)/\(dN i.td=false->z.oneCell' =true)
def a7f(n:Nat)(v:Value)(rs:d1D):Prop:=rs.length=n/\v=(match rs with|[x]=>x|l=> .tuple l.toArray)
def Dc(h:Array Obj):List MG->d1D->d1D->d1B->Prop
 |[],[],os,B=>os=[]/\B=[]|(_,.box _)::ms,v::vs,os,B=>∃b arr T os' B',v= .pointer (some ⟨b,0,none⟩)/\h[b]? =some (.cells arr T (0,0))/\os= .agg arr::os' /\B=b::B' /\Dc h ms vs os' B'|(_,.ifc _ (.box _))::ms,v::vs,os,B=>∃t b arr T os' B',v= .iface t (.pointer (some ⟨b,0,none⟩))/\h[b]? =some (.cells arr T (0,0))/\os= .agg arr::os' /\B=b::B' /\Dc h ms vs os' B'|(_,.ownb _)::ms,v::vs,os,B=>∃os',os=v::os' /\Dc h ms vs os' B|_::ms,_::vs,os,B=>Dc h ms vs os B|_,_,_,_=>False
def nX(P:Program)(gl:List (Nat×(t:Ty)×List t.den))(f:FuncId)(s:FSpec):Prop:=
 ∀(w:World) (ok:Nat->Ty->Prop) (O:d1B) (vals:d1D) (x:dR s.ps) (r:dR (s.rs++s.outs)),
  (∀b t,ok b t->b<w.heap.size)->O.Nodup->(∀b∈O,(∀t,¬ok b t)/\b<w.heap.size)->(∀g u,gB gl g=some u->VZ ⟨w.heap,ok,nom⟩ g u.1 u.2)->
  yj w.heap ok s.ps x vals O->s.fn x=some r->
  Calls P f vals.toArray w λe w' =>∃v ok' O' rs os B,e= .returned v/\Frame' w w' O/\(∀b t,ok b t->ok' b t)/\(∀b t,ok' b t->b<w'.heap.size/\(ok b t\/w.heap.size<=b\/b∈O))/\
   (O' ++B).Nodup/\(∀b∈O' ++B,(∀t,¬ok' b t)/\b<w'.heap.size/\(w.heap.size<=b\/b∈O))/\
   a7f s.rs.length v rs/\Dc w'.heap s.ps vals os B/\yj w'.heap ok' (s.rs++s.outs) r (rs++os) O'
def kZ:List Ty->d1D->Prop
 |[],vs=>vs=[]| .bool::ts,vs=>∃b r,vs= .bool b::r/\kZ ts r| .int k::ts,vs=>∃b r,vs= .int k b::r/\kZ ts r| .str::ts,vs=>∃b r,vs= .string b::r/\kZ ts r|_::_,_=>False
def b2R(P:Program)(t:TypeId)(sh:List Ty):Prop:=
 ∀(w:World) (C:Cx) (cs ds:List V) (xs ys:Array Value) (e:Bool) (op:BinOp) (x y:Operand),Fe sh cs=true->Fe sh ds=true->jf C cs xs.toList->jf C ds ys.toList->Eh cs ds=some e->
  (op= .eql\/op= .neq)->(do eqGuard op t x y (.agg xs) (.agg ys);binOp op t (.agg xs) (.agg ys):Sem Value).run P w= .ok (.bool (if op= .eql then e else !e)) w
def a4y(P:Program)(t:TypeId)(sh:List Ty):Prop:=
 (∃fs,P.underlying t=some (.struct fs))/\∀(w:World) (xs:Array Value),kZ sh xs.toList->(∀em,(Instr.checkKey em 10000 t (.agg xs)).run P w= .ok () w)/\
  ∀ys:Array Value,kZ sh ys.toList->∃r,(Op.equal t (.agg xs) (.agg ys)).run P w= .ok r w/\(r=true↔xs.toList=ys.toList)
def QS(P:Program)(t:TypeId)(sh:List Ty):Prop:=b2R P t sh/\a4y P t sh
def Ji(P:Program)(t:Nat)(n:String)(f:Nat)(d:Option Nat):Prop:=
 ∀(v:Value) (w:World),match d with
  |none=>(method (P.types.size+Made.depth) t v n).run P w= .ok (f,v) w
  |some e=>∀ad,v= .pointer (some ad)->(method (P.types.size+Made.depth) t v n).run P w=((loadVar e ad).run P w).andThen λu w' => .ok (f,u) w'
structure FxOk (X:Fx):Prop where
 nt:64*X.E.nt<=999936
 tt:∀t i,gB X.E.tt t=some i->TiOk X.P t i
 fs:∀p∈X.E.fs,nX X.P X.E.gl p.1 p.2
 eqs:∀t sh,gB X.E.eqs t=some sh->QS X.P t sh
 ms:∀p∈X.E.ms,Ji X.P p.1.1 p.1.2 p.2.1 p.2.2
 fn:∀p∈X.E.fs,∃fn,X.P.funcs[p.1]? =some fn/\fn.body.isSome=true/\(fn.name== "runtime.NumGoroutine")=false
theorem FxOk.ntB{X:Fx}(H:FxOk X):X.E.nt<=bV:=by have:=H.nt;show X.E.nt<=1000000;omega
def jX(X:Fx)(cl ch:Nat)(o:Oper)(a:Act)(w:World)(m:Mp)(ok:Nat->Ty->Prop)(S' :Sm):Prop:=
 ∀(next:Act->World->Prop) (Q:Exit->Act->World->Prop),
  (∀m' ok' a' w',Rel X cl ch S' m' ok' a' w' ->(∀k l,m k=some l->m' k=some l)->(∀b t,ok b t->ok' b t)->next a' w')->o.wp X.P a w next Q
theorem Nl{α:Type}{ι:Sort _}{Q:ι->α->Sm->Prop} :∀{c:Cmd α} {S:Sm},(∀i,c.post S (Q i))->c.post S (λx S' =>∀i,Q i x S')
 | .ret x,S,h=>λi=>h i| .fail,S,h=>trivial| .get k c,S,h=>Nl (c:=c (S k)) h| .set k v c,S,h=>Nl (c:=c) h
 | .opt o c,S,h=>λx e=>Nl (c:=c x) λi=>h i x e| .br b c d,S,h=>⟨λe=>Nl (c:=c) λi=>(h i).1 e,λe=>Nl (c:=d) λi=>(h i).2 e⟩
variable {x:Operand}{k:IntKind}{y:Operand}{α:Type}{Q:α->Sm->Prop}{C:Cx}{v:Value}{op:BinOp}{t:TypeId}{yt:TypeId}
section
variable {X:Fx} {cl ch:Nat} {S:Sm} {m:Mp} {ok:Nat->Ty->Prop} {a:Act} {w:World} {o:Oper}
theorem iD{b:Bool}{c:Cmd α}{S:Sm}(h:b=true->c.post S Q):(bif b then c else Cmd.fail).post S Q:=by
 cases b
 .trivial
 .exact h rfl
theorem Tz{a b:Nat}(h:Nat.blt a b=true):a<b:=by rw[iC]at h;exact h
theorem xK(H:FxOk X){S:Sm}{m0 m:Mp}{ok0 ok:Nat->Ty->Prop}{w0 w:World}{a:Act}(R:Rel X cl ch S m ok a w)(hm:∀k l,m0 k=some l->m k=some l)(hok:∀b t,ok0 b t->ok b t)
  {v:V} {x:Value} (hv:pg ⟨w.heap,ok,m⟩ v x) (run:(execOp a.eval o).run X.P w0= .ok (.value x) w):
  (gY X.E o.dst v).post S (λ_ S' =>jX X cl ch o a w0 m0 ok0 S'):=by
 unfold gY;cases hd:o.dst with
 |none=>
  intro next Q hn
  unfold Oper.wp;rw[run,Oper.upon_value,hd];exact hn m ok a w R hm hok
 |some d=>
  refine iD λhb=>?_;intro next Q hn
  unfold Oper.wp;rw[run,Oper.upon_value,hd];exact hn m ok _ w (R.put H.ntB hb hv) hm hok
theorem a7q(C:Cx)(v:Value):pg C (a7p v) v:=by unfold a7p;split<;>first|exact rfl|trivial
theorem bU(R:Rel X cl ch S m ok a w){K:V->Cmd α}(hK:∀v,pg ⟨w.heap,ok,m⟩ v (a.eval x)->(K v).post S Q):(uG x K).post S Q:=by
 unfold uG;cases x with
 |tmp t=>exact iD λhb=>hK (S t) (R.slot t (Tz hb))|const v=>exact hK _ (a7q _ v)|global g=>exact hK _ rfl|func f=>exact hK _ rfl
theorem pK{α:Type}{Q:α->Sm->Prop}(R:Rel X cl ch S m ok a w):∀(xs:List Operand) {K:List V->Cmd α} (hK:∀vs,kK ⟨w.heap,ok,m⟩ vs (xs.map a.eval)->(K vs).post S Q),(Yd xs K).post S Q
 |[],K,hK=>hK [] rfl
 |x::r,K,hK=>by unfold Yd;refine bU R λv hv=>?_;exact pK R r λvs hvs=>hK _ ⟨_,_,rfl,hv,hvs⟩
theorem dh(H:FxOk X)(R:Rel X cl ch S m ok a w){v:V}{x:Value}(hv:pg ⟨w.heap,ok,m⟩ v x)(run:(execOp a.eval o).run X.P w= .ok (.value x) w):
  (gY X.E o.dst v).post S (λ_ S' =>jX X cl ch o a w m ok S'):=xK H R (λ_ _ h=>h) (λ_ _ h=>h) hv run
theorem Xk{x:Bool}(h:pg C (.b x) v):v= .bool x:=h
theorem xE{n:Int}(h:pg C (.i k n) v):v= .int k n:=h
theorem Qx{l:d1C}(h:pg C (.s l) v):v= .string ⟨l.toArray⟩:=h
theorem b0m(H:FxOk X)(R:Rel X cl ch S m ok a w)(ho:o.op= .move x\/o.op= .assign x):(uG x λv=>gY X.E o.dst v).post S (λ_ S' =>jX X cl ch o a w m ok S'):=by refine bU R λv hv=>dh H R hv ?_;rcases ho with ho|ho<;>simp[execOp,ho]
theorem b8x(H:FxOk X)(R:Rel X cl ch S m ok a w){c x y:Operand}{q:Nat}(ho:o.op= .pick c x y):(dY X.E q o).post S (λ_ S' =>jX X cl ch o a w m ok S'):=by
 unfold dY;simp only[ho];refine bU R λv hv=>?_;split<;>try trivial
 rename_i t;have hc:=Xk hv;cases t
 .simp only[cond_false];refine bU R λv hv=>dh H R hv ?_;simp[execOp,ho,hc,asBool]
 .simp only[cond_true];refine bU R λv hv=>dh H R hv ?_;simp[execOp,ho,hc,asBool]
theorem jl{α β:Type}{Q:α->Sm->Prop}{x:Option β}{c:β->Cmd α}{S:Sm}(h:∀y,x=some y->(c y).post S Q):(Cmd.opt x c).post S Q:=h
theorem b0J{yc:Operand}{a:Act}{b:Int}(h:IX yc=false)(he:a.eval yc= .int k b):b≠0:=by
 unfold IX at h;split at h
 .simp[Act.eval]at he;obtain⟨_,rfl⟩:=he;simpa using h
 .simp at h
theorem b4o{yc:Operand}{a:Act}{b:Int}(h:MW yc=false)(he:a.eval yc= .int k b):¬b<0:=by
 unfold MW at h;split at h
 .simp[Act.eval]at he;obtain⟨_,rfl⟩:=he;simpa using h
 .simp at h
theorem b1N(H:FxOk X)(R:Rel X cl ch S m ok a w)(ho:o.op= .binOp op t x y yt){k k' :IntKind}{p q:Int}
  (hx:a.eval x= .int k p) (hy:a.eval y= .int k' q):(PH X.E t op y (.i k p) (.i k' q) λv=>gY X.E o.dst v).post S (λ_ S' =>jX X cl ch o a w m ok S'):=by
 have run:∀v,(binOp op t (.int k p) (.int k' q)).run X.P w= .ok v w->(execOp a.eval o).run X.P w= .ok (.value v) w:=λv h=>by simp[execOp,ho,hx,hy,eqGuard_at_int,h]
 have fin:∀(v:V) (u:Value),pg ⟨w.heap,ok,m⟩ v u->(binOp op t (.int k p) (.int k' q)).run X.P w= .ok u w->(gY X.E o.dst v).post S (λ_ S' =>jX X cl ch o a w m ok S'):=
  λv u hv h=>dh H R hv (run u h)
 unfold PH;cases op<;>simp only[]
 case shl=>
  cases hn:MW y
  .simp only[cond_false];have h0:=b4o hn hy;exact fin _ _ rfl (by simp[binOp,Op.shift,h0,b3S])
  .simp only[cond_true];refine jl λr hr=>?_;unfold u_ at hr;split at hr
   .cases hr
   .rename_i h0;cases hr;exact fin _ _ rfl (by simp[binOp,Op.shift,h0,b3S])
 case shr=>
  cases hn:MW y
  .simp only[cond_false];have h0:=b4o hn hy;exact fin _ _ rfl (by simp[binOp,Op.shift,h0,wB])
  .simp only[cond_true];refine jl λr hr=>?_;unfold v_ at hr;split at hr
   .cases hr
   .rename_i h0;cases hr;exact fin _ _ rfl (by simp[binOp,Op.shift,h0,wB])
 all_goals
  refine iD λhk=>?_;have hk' :k=k' :=of_decide_eq_true hk;subst hk'
 case quo=>
  cases hz:IX y
  .simp only[cond_false];have h0:=b0J hz hy;exact fin _ _ rfl (by simp[binOp,Op.intDiv,h0,dM])
  .simp only[cond_true];refine jl λr hr=>?_;unfold rC at hr;split at hr
   .cases hr
   .rename_i h0;cases hr;exact fin _ _ rfl (by simp[binOp,Op.intDiv,h0])
 case rem=>
  cases hz:IX y
  .simp only[cond_false];have h0:=b0J hz hy;exact fin _ _ rfl (by simp[binOp,Op.intDiv,h0,fC])
  .simp only[cond_true];refine jl λr hr=>?_;unfold Bc at hr;split at hr
   .cases hr
   .rename_i h0;cases hr;exact fin _ _ rfl (by simp[binOp,Op.intDiv,h0])
 case add=>exact fin _ _ rfl (by simp[binOp,Op.intArith,D5])
 case sub=>exact fin _ _ rfl (by simp[binOp,Op.intArith,L6])
 case mul=>exact fin _ _ rfl (by simp[binOp,Op.intArith,az])
 case and=>exact fin _ _ rfl (by simp[binOp,Op.intBits,a5p])
 case or=>exact fin _ _ rfl (by simp[binOp,Op.intBits,ior])
 case xor=>exact fin _ _ rfl (by simp[binOp,Op.intBits,b3T])
 case andNot=>exact fin _ _ rfl (by simp[binOp,Op.intBits,a9Q])
 case eql=>exact fin _ _ rfl (by simp[binOp,Op.intCmp,x8];rfl)
 case neq=>exact fin _ _ rfl (by simp[binOp,Op.intCmp,x8,F8];rfl)
 case lss=>exact fin _ _ rfl (by simp[binOp,Op.intCmp,E8])
 case leq=>exact fin _ _ rfl (by simp[binOp,Op.intCmp,L8])
 case gtr=>exact fin _ _ rfl (by simp[binOp,Op.intCmp,E8])
 case geq=>exact fin _ _ rfl (by simp[binOp,Op.intCmp,L8])
theorem b1O(H:FxOk X)(R:Rel X cl ch S m ok a w)(ho:o.op= .binOp op t x y yt){p q:d1C}
  (hx:a.eval x= .string ⟨p.toArray⟩) (hy:a.eval y= .string ⟨q.toArray⟩):(PH X.E t op y (.s p) (.s q) λv=>gY X.E o.dst v).post S (λ_ S' =>jX X cl ch o a w m ok S'):=by
 have run:∀v,(Op.stringOp op ⟨p.toArray⟩ ⟨q.toArray⟩).run X.P w= .ok v w->(execOp a.eval o).run X.P w= .ok (.value v) w:=λv h=>by simp[execOp,ho,hx,hy,eqGuard_at_string,binOp,h]
 have fin:∀(v:V) (u:Value),pg ⟨w.heap,ok,m⟩ v u->(Op.stringOp op ⟨p.toArray⟩ ⟨q.toArray⟩).run X.P w= .ok u w->(gY X.E o.dst v).post S (λ_ S' =>jX X cl ch o a w m ok S'):=
  λv u hv h=>dh H R hv (run u h)
 unfold PH;cases op<;>simp only[]<;>try trivial
 case add=>
  refine jl λr hr=>?_;unfold c7R at hr;split at hr
  .rename_i hle;cases hr;have e:(⟨p.toArray⟩:ByteArray)++⟨q.toArray⟩=⟨(p++q).toArray⟩:=by
    apply ByteArray.ext;apply lX;simp[ByteArray.data_append]
   refine fin _ (.string ⟨(p++q).toArray⟩) rfl ?_;have hs:¬((9223372036854775807:Int)<(p.length:Int)+(q.length:Int)):=l7;simp[Op.stringOp,e,ByteArray.size,hs]
  .cases hr
 case eql=>exact fin _ _ rfl (by simp only[Op.stringOp,ByteArray.toList_mk,seq,aI];rw[show(p==q)=decide (p=q) by rw[fV];simp])
 case neq=>exact fin _ _ rfl (by simp only[Op.stringOp,ByteArray.toList_mk,seq,F8,aI];rw[show(p==q)=decide (p=q) by rw[fV];simp])
 case lss=>exact fin _ _ rfl (by simp[Op.stringOp,ByteArray.toList_mk,slt])
theorem a8b(H:FxOk X)(R:Rel X cl ch S m ok a w)(ho:o.op= .binOp op t x y yt){p q:Bool}
  (hx:a.eval x= .bool p) (hy:a.eval y= .bool q):(PH X.E t op y (.b p) (.b q) λv=>gY X.E o.dst v).post S (λ_ S' =>jX X cl ch o a w m ok S'):=by
 unfold PH;cases hi:gB X.E.tt t with
 |none=>trivial|some i=>
 have ht' :=(H.tt t i hi).td;simp only[];cases hd:i.td<;>try trivial
 rw[hd]at ht';have ht:X.P.underlying t=some .bool:=ht';have he' :∀d,(Op.equalIn (d+1) t (.bool p) (.bool q)).run X.P w= .ok (p==q) w:=λd=>by simp[Op.equalIn,run_underlying ht]
 have he:(Op.equal t (.bool p) (.bool q)).run X.P w= .ok (p==q) w:=he' 9999;have run:∀v,(binOp op t (.bool p) (.bool q)).run X.P w= .ok v w->(execOp a.eval o).run X.P w= .ok (.value v) w:=λv h=>by simp[execOp,ho,hx,hy,eqGuard_at_bool,h]
 have fin:∀(v:V) (u:Value),pg ⟨w.heap,ok,m⟩ v u->(binOp op t (.bool p) (.bool q)).run X.P w= .ok u w->(gY X.E o.dst v).post S (λ_ S' =>jX X cl ch o a w m ok S'):=
  λv u hv h=>dh H R hv (run u h)
 cases op<;>try trivial
 case eql=>exact fin _ _ rfl (by simp[binOp,he,jY])
 case neq=>exact fin _ _ rfl (by simp[binOp,he,jY,F8])
end
end Go.GP
namespace Go.GP
variable {x:Operand}{t:TypeId}{q:Nat}
section
variable {X:Fx} {cl ch:Nat} {S:Sm} {m:Mp} {ok:Nat->Ty->Prop} {a:Act} {w:World} {o:Oper}
theorem pq{α:Type}{Q:α->Sm->Prop}(H:FxOk X){t:Nat}{K:TI->Cmd α}(hK:∀i,TiOk X.P t i->(K i).post S Q):(tiC X.E t K).post S Q:=by
 unfold tiC;cases hi:gB X.E.tt t with
 |none=>trivial|some i=>exact hK i (H.tt t i hi)
theorem b2E{P:Program} :∀{d:TD},b7F P t d->∃e,P.underlying t=some e
 | .bool,h=>⟨_,h⟩| .int _,h=>⟨_,h⟩| .str,h=>⟨_,h⟩| .sl _,h=>⟨_,h⟩| .ptr _,h=>⟨_,h⟩| .struct _,⟨_,h,_⟩=>⟨_,h⟩| .arr _ _,h=>⟨_,h⟩| .map _ _,h=>⟨_,h⟩| .other,⟨_,h,_⟩=>⟨_,h⟩
theorem a3E(H:FxOk X)(R:Rel X cl ch S m ok a w){op:BinOp}{x y:Operand}{yt:TypeId}(ho:o.op= .binOp op t x y yt){ad:Option Addr}{n c:Nat}
  (hx:a.eval x= .slice ad n c) (hy:a.eval y= .slice none 0 0):(b4q X.E t op ad.isNone λv=>gY X.E o.dst v).post S (λ_ S' =>jX X cl ch o a w m ok S'):=by
 unfold b4q;cases hi:gB X.E.tt t with
 |none=>trivial|some i=>
 have ht' :=(H.tt t i hi).td;simp only[];cases hd:i.td<;>try trivial
 rename_i e;rw[hd]at ht';have ht:X.P.underlying t=some (.slice e):=ht';have he' :∀d,(Op.equalIn (d+1) t (.slice ad n c) (.slice none 0 0)).run X.P w= .ok ad.isNone w:=λd=>by cases ad<;>simp[Op.equalIn,run_underlying ht]
 have he:(Op.equal t (.slice ad n c) (.slice none 0 0)).run X.P w= .ok ad.isNone w:=he' 9999;have run:∀v,(binOp op t (.slice ad n c) (.slice none 0 0)).run X.P w= .ok v w->(execOp a.eval o).run X.P w= .ok (.value v) w:=λv h=>by simp[execOp,ho,hx,hy,eqGuard_at_slice,h]
 cases op<;>try trivial
 case eql=>exact dh H R (v:=.b ad.isNone) (x:=.bool ad.isNone) rfl (run _ (by simp[binOp,he]))
 case neq=>exact dh H R (v:=.b (F8 ad.isNone)) (x:=.bool (!ad.isNone)) rfl (run _ (by simp[binOp,he]))
theorem b4D(H:FxOk X)(R:Rel X cl ch S m ok a w){op:BinOp}{x y:Operand}{yt:TypeId}(ho:o.op= .binOp op t x y yt):
  (dY X.E q o).post S (λ_ S' =>jX X cl ch o a w m ok S'):=by
 unfold dY;simp only[ho];refine bU R λu hu=>bU R λv hv=>?_;cases u<;>try (unfold PH;trivial)
 case b p=>
  cases v<;>try (unfold PH;trivial)
  exact a8b H R ho (Xk hu) (Xk hv)
 case i k p=>
  cases v<;>try (unfold PH;trivial)
  exact b1N H R ho (xE hu) (xE hv)
 case s p=>
  cases v<;>try (unfold PH;trivial)
  exact b1O H R ho (Qx hu) (Qx hv)
 case nl=>
  cases v<;>try (unfold PH;trivial)
  exact a3E H R ho (ad:=none) (show a.eval x= .slice none 0 0 from hu) hv
 case ne=>
  cases v<;>try (unfold PH;trivial)
  obtain⟨ad,c,hx,hb⟩:=hu;subst hb;exact a3E H R ho (ad:=ad) hx hv
 case sl t' xs=>
  cases v<;>try (unfold PH;trivial)
  unfold PH;simp only[];cases ht:t'.isEnt
  .simp only[cond_false];obtain⟨ad,c,hx,hle,hx'⟩:=(Gm ht).1 (show oD w.heap ok (.sl t') xs [a.eval x]from hu);cases xs with
   |nil=>exact⟨λ_=>trivial,λh=>by simp[x8,o9]at h⟩|cons z zs=>obtain⟨blk,off,es,rfl,_⟩:=hx' 0 z rfl;exact⟨λ_=>trivial,λ_=>a3E H R ho (ad:=some _) (by simpa using hx) hv⟩
  .trivial
 case agg cs=>
  cases v<;>try (unfold PH;trivial)
  case agg ds=>
  obtain⟨xs,hx,hl⟩:=hu;obtain⟨ys,hy,hl'⟩:=hv;unfold PH;simp only[];cases hq:gB X.E.eqs t with
  |none=>trivial|some sh=>
  simp only[];refine iD λhm=>?_;simp only[A8]at hm;have hE:=(H.eqs t sh hq).1;cases he:Eh cs ds with
  |none=>cases op<;>trivial|some e=>
   cases op<;>try trivial
   case eql=>refine dh H R (v:=.b e) (x:=.bool e) rfl ?_;have h:=hE w _ cs ds xs ys e .eql x y hm.1 hm.2 hl hl' he (.inl rfl);simp only[execOp,ho,hx,hy];rw[H8,h];rfl
   case neq=>refine dh H R (v:=.b (F8 e)) (x:=.bool (!e)) rfl ?_;have h:=hE w _ cs ds xs ys e .neq x y hm.1 hm.2 hl hl' he (.inr rfl);simp only[execOp,ho,hx,hy];rw[H8,h];rfl
theorem b8y(H:FxOk X)(R:Rel X cl ch S m ok a w){op:UnOp}(ho:o.op= .unOp op t x):
  (dY X.E q o).post S (λ_ S' =>jX X cl ch o a w m ok S'):=by
 unfold dY;simp only[ho];refine bU R λu hu=>?_;cases u<;>cases op<;>try (unfold unC;trivial)
 case b.not p=>exact dh H R (v:=.b (F8 p)) (x:=.bool (!p)) rfl (by simp[execOp,ho,Xk hu,Op.unary])
 case i.neg k p=>exact dh H R (v:=.i k (L6 k 0 p)) (x:=.int k (k.wrap (0 -p))) rfl (by simp[execOp,ho,xE hu,Op.unary,Op.intArith])
 case i.xor k p=>exact dh H R (v:=.i k (b3T k (bif k.signed then -1 else k.max) p)) rfl (by simp only[execOp,ho,xE hu,Op.unary,Op.intBits,b3T];cases k.signed<;>simp)
theorem b4T{α:Type}{Q:α->Sm->Prop}(R:Rel X cl ch S m ok a w){u:Ty}{y:V}{vy:Value}{K:List u.den->Cmd α}(hy:pg ⟨w.heap,ok,m⟩ y vy)
  (hK:∀xs,oD w.heap (λ_ _=>True) (.sl u) xs [vy]->(K xs).post S Q):(a5X u y K).post S Q:=by
 unfold a5X;split<;>try trivial
 .have hv:vy= .slice none 0 0:=hy;subst hv;cases ht:u.isEnt
  .exact hK [] (.inl ⟨ht,none,0,rfl,E9 _,λi x hi=>by simp at hi⟩)
  .trivial
 .obtain⟨ad,c,rfl,_⟩:=(show ∃a c,vy=Value.slice a 0 c/\a.isNone=_ from hy);cases ht:u.isEnt
  .exact hK [] (.inl ⟨ht,ad,c,rfl,pI _,λi x hi=>by simp at hi⟩)
  .trivial
 .refine iq λe=>?_;subst e;exact hK _ (gQ (λ_ _ _=>trivial) (λ_ _ _=>rfl) (show oD w.heap ok (.sl _) _ [vy]from hy))
 .rename_i bx vw;obtain⟨l,hm,hv⟩:=hy;show Cmd.post (match S (bV+bx)with| .barr t' xs=>_| .bfrz t' xs=>_|_=>_) S Q;have hb:=R.box bx;split<;>try trivial
  .rename_i t' xs hS;rw[hS]at hb;obtain⟨l',hm',ha⟩:=hb;simp only at hm hm';rw[hm]at hm';cases hm';refine iq λe=>?_;subst e;exact hK _ (uh (C:=⟨w.heap,ok,m⟩) ha hv (λ_ _ _=>trivial) (λ_ _=>trivial))
  .rename_i t' xs hS;rw[hS]at hb;obtain⟨l',hm',ha,hok⟩:=hb;simp only at hm hm';rw[hm]at hm';cases hm';refine iq λe=>?_;subst e;exact hK _ (uh (C:=⟨w.heap,ok,m⟩) ha hv (λ_ _ _=>trivial) (λ_ _=>trivial))
theorem a8c(H:FxOk X)(R:Rel X cl ch S m ok a w){src t:TypeId}(ho:o.op= .convert src t x):
  (dY X.E q o).post S (λ_ S' =>jX X cl ch o a w m ok S'):=by
 unfold dY;simp only[ho];refine bU R λu hu=>pq H λj hj=>pq H λi hi=>?_;obtain⟨e,he⟩:=b2E hj.td;have hd:=hi.td;split<;>try trivial
 .rename_i k' n k htd;rw[htd]at hd;exact dh H R (v:=.i k (wrap k n)) (x:=.int k (k.wrap n)) rfl (by simp[execOp,ho,xE hu,convert,run_underlying he,run_underlying (show X.P.underlying t=some (.int k)from hd),Conv.intToInt])
 .rename_i l htd;rw[htd]at hd;refine dh H R (v:=.s l) (x:=.string ⟨l.toArray⟩) rfl ?_;simp only[execOp,ho,Qx hu,convert,H8,run_underlying he,run_underlying (show X.P.underlying t=some .string from hd),J8];cases e<;>simp
 .rename_i hns htd;rw[htd]at hd;split<;>try trivial
  rename_i el hjd;have hjs:=hj.td;rw[hjd]at hjs;refine pq H λk hk=>?_;have hkd:=hk.td;split<;>try trivial
  rename_i hke;rw[hke]at hkd;refine b4T R hu λxs hr=>?_;obtain⟨ad,cap,hv,hcap,hcells⟩:=(Gm rfl).1 hr;have hv:=(aP hv).1;refine dh H R (v:=.s (b3q xs)) (x:=.string ⟨(b3q xs).toArray⟩) rfl ?_;have hh:(convert src t (a.eval x)).run X.P w= .ok (.string ⟨(b3q xs).toArray⟩) w:=by
   rw[hv];cases xs with
   |nil=>
    have:=run_convert_bytes_nil (P:=X.P) w src el hjs hkd 0 cap t hd;cases ad with
    |none=>exact this|some ad=>obtain⟨b,o,s⟩:=ad;rw[run_convert_bytes_string w src t el _ _ cap hjs hkd hd];simp[Conv.bytesToString,b3q];rfl
   |cons y ys=>
    obtain⟨blk,off,es,rfl,_,_,_⟩:=hcells 0 y rfl;have:=run_convert_bytes_arg (P:=X.P) w src el hjs hkd blk off (y::ys).length cap (y::ys) rfl (λi hi=>?_) t hd
    .exact this
    .obtain⟨blk2,off2,es2,e2,_,hc,hr2⟩:=hcells i _ (bn hi);simp only[O8,tu]at e2;obtain⟨rfl,rfl,_⟩:=e2;obtain⟨c,T,f,hb,hn,rfl⟩:=zn hc;have hr3:((c.toList.drop (off+i*1)).take 1)=[.int .u8 (y::ys)[i]]:=hr2;have h5:=congrArg (λl=>l[0]?) hr3;simp only[jh (show 0<1 by omega),Y7,dW,nH,lZ,dC]at h5;simp only[World.cell?,hb,h5,Option.isSome_none];simp[List.getD,bn hi]
  simp only[execOp,ho];rw[H8,hh];rfl
theorem a8d(H:FxOk X)(R:Rel X cl ch S m ok a w){n:Nat}(ho:o.op= .extract x n):
  (dY X.E q o).post S (λ_ S' =>jX X cl ch o a w m ok S'):=by
 unfold dY;simp only[ho];refine bU R λu hu=>?_;cases u<;>try trivial
 case tup vs=>
 obtain⟨arr,hx,hl⟩:=hu;have key:∀(vs:List V) (us:d1D) (n:Nat) (v:V),a4b ⟨w.heap,ok,m⟩ vs us->vs[n]? =some v->∃u,us[n]? =some u/\pg ⟨w.heap,ok,m⟩ v u:=by
  intro vs;induction vs with
  |nil=>intro us n v _ h;simp at h|cons c cs ih=>
   rintro us n v ⟨u,r,rfl,h1,h2⟩ h;cases n with
   |zero=>simp at h;subst h;refine⟨u,rfl,?_⟩;cases c<;>first|exact h1|exact h1.elim
   |succ n=>simpa using ih r n v h2 (by simpa using h)
 simp only[];split
 .rename_i v hv;obtain⟨u,hu,hr⟩:=key vs arr.toList n v hl hv;refine dh H R hr ?_;have:arr[n]? =some u:=by simpa using hu
  simp[execOp,ho,hx,Instr.extract,this]
 .trivial
theorem b4H(H:FxOk X)(R:Rel X cl ch S m ok a w){x ix:Operand}(ho:o.op= .index t x ix):
  (dY X.E q o).post S (λ_ S' =>jX X cl ch o a w m ok S'):=by
 unfold dY;simp only[ho];refine bU R λu hu=>bU R λv hv=>pq H λi hi=>?_;have hd:=hi.td;split<;>try trivial
 rename_i l k n htd;rw[htd]at hd;refine jl λc hc=>?_;unfold sat at hc;split at hc
 .rename_i h0;cases hl:l[n.toNat]? with
  |none=>simp[hl]at hc|some b=>
   simp[hl]at hc;subst hc;refine dh H R (v:=.i .u8 b.toNat) (x:=.int .u8 b.toNat) rfl ?_;have e:(⟨l.toArray⟩:ByteArray)[n.toNat]? =some b:=by
    obtain⟨h1,h2⟩:=X6.1 hl;have hs:n.toNat<(⟨l.toArray⟩:ByteArray).size:=by simpa[ByteArray.size]using h1
    show decidableGetElem? _ _=_;unfold decidableGetElem?;rw[dif_pos hs,←h2];rfl
   simp[execOp,ho,Qx hu,xE hv,Instr.index,asIntOf,run_underlying (show X.P.underlying t=some .string from hd),h0,e]
 .cases hc
theorem a5T(H:FxOk X)(R:Rel X cl ch S m ok a w)(ho:o.op= .nilCheck x):
  (dY X.E q o).post S (λ_ S' =>jX X cl ch o a w m ok S'):=by
 unfold dY;simp only[ho];refine bU R λu hu=>?_;cases u<;>try trivial
 case ptr bx f=>obtain⟨b,h1,h2⟩:=hu;exact dh H R (v:=.ptr bx f) ⟨b,h1,h2⟩ (by simp[execOp,ho,h2])
 case ep bx ix f=>obtain⟨_,_,_,_,_,h1,h2,h3⟩:=hu;exact dh H R (v:=.ep bx ix f) ⟨_,_,_,_,_,h1,h2,h3⟩ (by simp[execOp,ho,h3])
 case dp u y f=>obtain⟨_,_,_,h1,h2⟩:=hu;exact dh H R (v:=.dp u y f) ⟨_,_,_,h1,h2⟩ (by simp[execOp,ho,h1])
 case glob g=>exact dh H R (v:=.glob g) hu (by have hu:a.eval x=_:=hu;simp[execOp,ho,hu])
end
end Go.GP
namespace Go.GP
variable {n:Nat}{off:Nat}{blk:Nat}{es:d1D}
theorem yz{w:World}(e:gU w.heap blk off n=some es){j:Nat}{v:Value}(h:es[j]? =some v):w.cell? ⟨blk,off+j,none⟩=some v:=by
 obtain⟨c,T,f,hb,hn,rfl⟩:=zn e;rw[cell_of_row w blk (off+j) c T f hb];have hj:j<n:=by have:=(X6.1 h).1;simp at this;omega
 rw[ae,if_pos hj,Y7]at h;simpa using h
variable {t:TypeId}{P:Program}
theorem Je{d:TD}(h:b7F P t d)(w:World):(isAgg t).run P w= .ok (dN d) w:=by
 unfold isAgg;cases d<;>simp only[b7F]at h
 case struct fs=>obtain⟨fields,hu,_⟩:=h;rw[H8,run_underlying hu];rfl
 case other=>obtain⟨e,hu,hn⟩:=h;rw[H8,run_underlying hu];cases e<;>first|rfl|exact hn.elim
 all_goals (rw[H8,run_underlying h];rfl)
variable {i:TI}
theorem uk(h:TiOk P t i)(w:World):(sizeOf t).run P w= .ok i.size w:=by obtain⟨inf,h1,h2,_⟩:=h.info;simp[sizeOf,typeInfo,h1,h2]
def VU(ag:Bool)(es:d1D):Value:=match ag with|true=> .agg es.toArray|false=>es.headD Go.undef
theorem zW(hi:TiOk P t i)(w:World)(e:gU w.heap blk off i.size=some es):
  (loadVar t ⟨blk,off,none⟩).run P w= .ok (VU (dN i.td) es) w:=by
 have hl:=sV e;unfold loadVar;rw[H8,Je hi.td];simp only[J8];cases ha:dN i.td
 .have h1:=hi.one ha;rw[h1]at hl;obtain⟨v,rfl⟩:∃v,es=[v]:=by
   cases es with
   |nil=>simp at hl
   |cons v r=>cases r with
    |nil=>exact⟨v,rfl⟩|cons _ _=>simp at hl
  have hc:=yz e (j:=0) (v:=v) rfl;simp only[dW]at hc;simp[hc,VU]
 .have hc:=run_loadCells_list (P:=P) w ⟨blk,off,none⟩ es (λj v h=>by rw[jc];exact yz e h);rw[hl]at hc;simp[uk hi,hc,VU]
variable {C:Cx}{cs:List V}
theorem Gl{ag:Bool}(h:jf C cs es)(h1:ag=false->es.length=1):pg C (mkV ag cs) (VU ag es):=by
 refine VE (us:=es) ?_ h;cases ag
 .have:=h1 rfl;obtain⟨v,rfl⟩:∃v,es=[v]:=by
   cases es with
   |nil=>simp at this
   |cons v r=>cases r with
    |nil=>exact⟨v,rfl⟩|cons _ _=>simp at this
  rfl
 .exact⟨es.toArray,rfl,x9⟩
theorem ZW:∀(n:Nat) (cs r:List V),ZV n cs=some r->n<=cs.length/\r=cs.drop n
 |0,cs,r,h=>by simp[ZV]at h;simp[h]|n+1,[],r,h=>by simp[ZV]at h|n+1,c::cs,r,h=>by obtain⟨h1,h2⟩:=ZW n cs r (by simpa[ZV]using h);exact⟨by simp;omega,by simpa using h2⟩
theorem a0L{α:Type}{Q:α->Sm->Prop}{S:Sm} :∀(n:Nat) (cs:List V) {K:List V->Cmd α} (hK:n<=cs.length->(K (cs.take n)).post S Q),(a6Q n cs K .fail).post S Q
 |0,cs,K,hK=>by simpa[a6Q]using hK (pI _)|n+1,[],K,hK=>trivial
 |n+1,c::cs,K,hK=>by unfold a6Q;exact a0L n cs λh=>by simpa using hK Z5
variable {α:Type}{Q:α->Sm->Prop}
theorem Jf{S:Sm}{K:List V->Cmd α}(hK:off+n<=cs.length->(K ((cs.drop off).take n)).post S Q):(a1B off n cs K .fail).post S Q:=by
 unfold a1B;split
 .rename_i r hr;obtain⟨h1,rfl⟩:=ZW _ _ _ hr;refine a0L n _ λh=>hK ?_;simp at h;omega
 .trivial
def cO(off:Nat)(vs cs:List α):List α:=cs.take off++vs++cs.drop (off+vs.length)
theorem Ja{α:Type}{Q:α->Sm->Prop}{S:Sm} :∀(off:Nat) (vs cs:List V) {K:List V->Cmd α} (hK:off+vs.length<=cs.length->(K (cO off vs cs)).post S Q),(Xd off vs cs K .fail).post S Q
 |0,[],cs,K,hK=>by have:=hK x9;cases cs<;>simpa[Xd,cO]using this|0,v::vs,[],K,hK=>by simp[Xd];trivial
 |0,v::vs,c::cs,K,hK=>by unfold Xd;exact Ja 0 vs cs λh=>by simpa[cO]using hK (by simp at h ⊢;omega)|n+1,vs,[],K,hK=>by cases vs<;>simp[Xd]<;>trivial|n+1,vs,c::cs,K,hK=>by
  have e:Xd (n+1) vs (c::cs) K Cmd.fail=Xd n vs cs (λr=>K (c::r)) Cmd.fail:=by cases vs<;>rfl
  rw[e];refine Ja n vs cs λh=>?_;have:=hK Z5;have e2:n+1+vs.length=(n+vs.length)+1:=l7;simpa[cO,e2]using this
theorem Ll{vs cs:List V}{us xs:d1D}(hv:jf C vs us)(hc:jf C cs xs):jf C (cO off vs cs) (cO off us xs):=by unfold cO;rw[←qA hv];exact zQ (zQ (DT off hc) hv) (AU _ hc)
theorem IM(hi:TiOk P t i)(w:World){c:Array Value}{T:TypeId}(hb:w.heap[blk]? =some (.cells c T (0,0))){v:Value}
  (hs:v.cells.size=i.size) (ho:off+i.size<=c.size) (h1:∀u∈v.cells.toList,u.oneCell' =true):
  (storeVar t ⟨blk,off,none⟩ v).run P w= .ok () (w.setRow blk (cO off v.cells.toList c.toList).toArray):=by
 have h:=run_storeCells_at P blk off T v.cells.toList 0 c w hb Z5 h1;simp only[dW]at h;unfold storeVar;simp[uk hi,hs,h,cO]
variable {v:V}{l:Loc}{obj:Obj}{q:Nat}{ks:d1B}
section
variable {X:Fx} {cl ch:Nat} {S:Sm} {m:Mp} {ok:Nat->Ty->Prop} {a:Act} {w:World} {o:Oper}
theorem Rel.own_cells(R:Rel X cl ch S m ok a w)(h:S (bV+n)= .bcells cs):∃blk arr T,m n=some (.st blk)/\w.heap[blk]? =some (.cells arr T (0,0))/\jf ⟨w.heap,ok,m⟩ cs arr.toList:=by have:=R.box n;rw[h]at this;exact this
theorem Rel.own_arr(R:Rel X cl ch S m ok a w){t:Ty}{xs:List t.den}(h:S (bV+n)= .barr t xs):∃l,m n=some l/\arrOk ⟨w.heap,ok,m⟩ t xs l:=by have:=R.box n;rw[h]at this;exact this
theorem Rel.own_frz(R:Rel X cl ch S m ok a w){t:Ty}{xs:List t.den}(h:S (bV+n)= .bfrz t xs):∃l,m n=some l/\arrOk ⟨w.heap,ok,m⟩ t xs l/\(∀blk,blk∈l.blks->ok blk t):=by have:=R.box n;rw[h]at this;exact this
theorem Rel.own_barrs(R:Rel X cl ch S m ok a w){md:M}{xs:List md.den}{hole:Option (Nat×Nat×Option Nat)}(h:S (bV+n)= .barrs md xs hole):md.el=true/\∃l Os,m n=some l/\a9C ⟨w.heap,ok,m⟩ md xs hole Os l/\m.kid n=Os.flatten:=by have:=R.box n;rw[h]at this;exact this
theorem Rel.own_fc(R:Rel X cl ch S m ok a w){t:Ty}{x:t.den}(h:S (bV+n)= .bfc t x):∃blk es,m n=some (.st blk)/\ok blk t/\gU w.heap blk 0 t.size=some es/\oD w.heap ok t x es:=by have:=R.box n;rw[h]at this;exact this
theorem Ej:∀(m:M) (x:m.den) (r:List V),OZ m x r=OZ m x []++r
 | .dat t,x,r=>oI t x r| .pair a b,x,r=>by simp only[OZ];rw[Ej a x.1 (OZ b x.2 r),Ej b x.2 r,Ej a x.1 (OZ b x.2 [])];simp| .unit,_,_=>rfl| .own _,_,_=>rfl| .owns _,_,_=>rfl| .box _,_,_=>rfl| .ownb _,_,_=>rfl| .rp _,_,_=>rfl| .fn _ _,_,_=>rfl| .ifc _ _,_,_=>rfl| .cell _,_,_=>rfl
theorem NV:∀(m:M) (x:m.den),(OZ m x []).length=m.size
 | .dat t,x=>sQ t x| .pair a b,x=>by simp only[OZ,M.size];rw[Ej a,F5,NV a x.1,NV b x.2]| .unit,_=>rfl| .own _,_=>rfl| .owns _,_=>rfl| .box _,_=>rfl| .ownb _,_=>rfl| .rp _,_=>rfl| .fn _ _,_=>rfl| .ifc _ _,_=>rfl| .cell _,_=>rfl
theorem yh{cs:d1D}(h:cs.length=1)(h1:∀v∈cs,v.oneCell' =true):jf C [.undef] cs:=by
 match cs,h with
 |[v],_=>exact⟨v,[],rfl,trivial,h1 v x9,rfl⟩
theorem Ug{C:Cx} :∀{m:M} {ho:Option Nat} {x:m.den} {cs:d1D} {O:d1B},sH C.h C.ok m ho x cs O->jf C (OZ m x []) cs
 | .dat t,_,_,_,_,h=>uY h.1| .pair a b,_,x,_,_,h=>by obtain⟨c,d,O1,O2,rfl,rfl,h1,h2⟩:=h;simp only[OZ];rw[Ej a];exact zQ (Ug h1) (Ug h2)
 | .unit,_,_,_,_,h=>by obtain⟨rfl,_⟩:=h;rfl
 | .own _,_,_,_,_,h=>yh (gX h) (yC h)| .owns _,_,_,_,_,h=>yh (gX h) (yC h)| .box _,_,_,_,_,h=>yh (gX h) (yC h)| .ownb _,_,_,_,_,h=>yh (gX h) (yC h)| .rp _,_,_,_,_,h=>yh (gX h) (yC h)| .fn _ _,_,_,_,_,h=>yh (gX h) (yC h)| .ifc _ _,_,_,_,_,h=>yh (gX h) (yC h)| .cell _,_,_,_,_,h=>yh (gX h) (yC h)
theorem gZ{S:Sm}{k:Nat}{c:V->Cmd α}(h:(c (S k)).post S Q):(Cmd.get k c).post S Q:=h
theorem nJ{S:Sm}{k:Nat}{c:Cmd α}(h:c.post (upd S k v) Q):(Cmd.set k v c).post S Q:=h
theorem NZ(H:FxOk X)(R:Rel X cl ch S m ok a w){t:Nat}{p:V}{x:Value}(hp:pg ⟨w.heap,ok,m⟩ p x){K:V->Cmd α}
  (hK:∀v u ad,pg ⟨w.heap,ok,m⟩ v u->x= .pointer (some ad)->(loadVar t ad).run X.P w= .ok u w->(K v).post S Q):(SV X.E t p K).post S Q:=by
 unfold SV;refine pq H λi hi=>?_;cases p<;>try trivial
 case ptr bx off=>
  obtain⟨blk,hm,rfl⟩:=hp;refine gZ ?_;split<;>try trivial
  .rename_i cs hS;obtain⟨blk',arr,T,hm',hh,hl⟩:=R.own_cells hS;simp only at hm;rw[hm]at hm';cases hm';refine Jf λhle=>?_;have hlen:=qA hl;have e:=qQ hh off i.size (by simp at hlen;omega);refine hK _ _ _ (Gl (DT _ (AU _ hl)) (λha=>by have:=sV e;rw[hi.one ha]at this;rw[hi.one ha];exact this)) rfl ?_;exact zW hi w e
  .rename_i u y hS;obtain⟨blk',es,hm',hok,he,hr⟩:=R.own_fc hS;simp only at hm;rw[hm]at hm';cases hm';refine Jf λhle=>?_;rw[sQ]at hle;have e:=GN he off i.size hle;rw[iH]at e;refine hK _ _ _ (Gl (DT _ (AU _ (uY (C:=⟨w.heap,ok,m⟩) hr))) (λha=>by have:=sV e;rw[hi.one ha]at this;rw[hi.one ha];exact this)) rfl ?_;exact zW hi w e
 case ep bx ix off=>
  obtain⟨blk,o',len,cap,sz,hm,hlt,rfl⟩:=hp;refine gZ ?_;have key:∀{u:Ty} {xs:List u.den},arrOk ⟨w.heap,ok,m⟩ u xs (.arr blk o' len cap sz)->(Cmd.opt (V6 xs ix) λx=>a1B off i.size (flat u x []) (λr=>K (mkV (dN i.td) r)) Cmd.fail).post S Q:=by intro u xs ha;obtain⟨_,rfl,rfl,h3,c,T,hh,hs,hx⟩:=ha;refine jl λy hy=>?_;obtain⟨es,he,hr⟩:=hx ix y hy;refine Jf λhle=>?_;rw[sQ]at hle;have e:=GN he off i.size hle;refine hK _ _ _ (Gl (DT _ (AU _ (uY (C:=⟨w.heap,ok,m⟩) hr))) (λha=>by have:=sV e;rw[hi.one ha]at this;rw[hi.one ha];exact this)) rfl ?_;exact zW hi w e
  split<;>try trivial
  .rename_i u xs hS;obtain⟨l,hm',ha⟩:=R.own_arr hS;simp only at hm;rw[hm]at hm';cases hm';exact key ha
  .rename_i u xs hS;obtain⟨l,hm',ha,_⟩:=R.own_frz hS;simp only at hm;rw[hm]at hm';cases hm';exact key ha
  .rename_i md xs hole hS;obtain⟨_,l,Os,hm',⟨ha,hho⟩,_⟩:=R.own_barrs hS;simp only at hm;rw[hm]at hm';cases hm';obtain⟨rfl,rfl,h3,h7,c,T,hh,hs,hx⟩:=ha;refine jl λy hy=>?_;obtain⟨es,O,hO,he,hr⟩:=hx ix y hy;refine Jf λhle=>?_;rw[NV]at hle;have e:=GN he off i.size hle;refine hK _ _ _ (Gl (DT _ (AU _ (Ug (C:=⟨w.heap,ok,m⟩) hr))) (λha=>by have:=sV e;rw[hi.one ha]at this;rw[hi.one ha];exact this)) rfl ?_;exact zW hi w e
 case dp u y off=>obtain⟨blk,o',es,rfl,hb,he,hr⟩:=hp;refine Jf λhle=>?_;rw[sQ]at hle;have e:=GN he off i.size hle;refine hK _ _ _ (Gl (DT _ (AU _ (uY (C:=⟨w.heap,ok,m⟩) hr))) (λha=>by have:=sV e;rw[hi.one ha]at this;rw[hi.one ha];exact this)) rfl ?_;exact zW hi w e
theorem BF(h:Array Obj)(o:Obj){b:Nat}(hb:b<h.size):(h.push o)[b]? =h[b]?:=by rw[Array.getElem?_push,if_neg l7]
theorem Rel.new(R:Rel X cl ch S m ok a w)(hn:S (bV+n)= .undef)(hcl:cl<=n)(hch:n<ch)(hv:v≠.undef)
  (hb:aC (qh m n l ks) n v=[w.heap.size]) (hB:JQ ⟨(w.alloc obj).heap,ok,qh m n l ks⟩ n v):
  Rel X cl ch (upd S (bV+n) v) (qh m n l ks) ok a (w.alloc obj):=by
 refine R.lay hn hcl hch hv rfl rfl rfl x9 (λb hb' _=>BF _ _ hb') (by rw[hb];simp) (λb h=>?_) hB;rw[hb]at h;simp only[D9]at h;subst h;refine⟨λt h' =>tX _ (R.okLt _ t h'),x9,.inl R.frame.size,λk h' =>tX _ (R.sep k _ h').2.1⟩
theorem Rel.newK(R:Rel X cl ch S m ok a w){T:d1B}(hT:Tk X S m ok w T)(hn:S (bV+n)= .undef)(hcl:cl<=n)(hch:n<ch)(hv:v≠.undef)
  (hb:aC (qh m n l ks) n v=w.heap.size::ks) (hnd:ks.Nodup) (hks:∀b∈ks,b∈T) (hB:JQ ⟨(w.alloc obj).heap,ok,qh m n l ks⟩ n v):
  Rel X cl ch (upd S (bV+n) v) (qh m n l ks) ok a (w.alloc obj):=by
 refine R.lay hn hcl hch hv rfl rfl rfl x9 (λb hb' _=>BF _ _ hb') (by rw[hb];exact iF.2 ⟨λh=>tX _ (hT.free _ (hks _ h)).2.1,hnd⟩) (λb h=>?_) hB;rw[hb]at h;rcases D6.1 h with rfl|h
 .exact⟨λt h' =>tX _ (R.okLt _ t h'),x9,.inl R.frame.size,λk h' =>tX _ (R.sep k _ h').2.1⟩
 .obtain⟨h1,h2,h3,h4⟩:=hT.free b (hks b h);exact⟨h1,by simp;omega,h3,h4⟩
theorem Rel.le_new(R:Rel X cl ch S m ok a w)(hn:S (bV+n)= .undef)(hcl:cl<=n):Cx.le ⟨w.heap,ok,m⟩ ⟨(w.alloc obj).heap,ok,qh m n l ks⟩:=
 ⟨λ_ _ h=>h,λb t hb=>BF _ _ (R.okLt b t hb),λk x h=>by
  by_cases e:k=n
  .subst e;have:=R.fresh k hcl hn;simp only at h;rw[this]at h;cases h
  .show qh m n l ks k=some x;rw[lC _ _ _ e];exact h⟩
theorem vZ(H:FxOk X)(d:Option Tmp)(hd:∀t,d=some t->t<X.E.nt):CB*q<=V7 q d/\V7 q d+64<=CB*q+CB:=by
 have:=H.nt;cases d with
 |none=>simp only[V7];show 1000000*q<=1000000*q+999936/\1000000*q+999936+64<=1000000*q+1000000;omega|some t=>simp only[V7];have h2:LT.lt (α:=Nat) t X.E.nt:=hd t rfl;clear hd;generalize X.E.nt=n at*;revert this h2;generalize (t:Nat)=t';intro this h2;show 1000000*q<=1000000*q+64*t' /\1000000*q+64*t' +64<=1000000*q+1000000;omega
theorem WW(H:FxOk X)(R:Rel X (CB*q) (CB*q+CB) S m ok a w){vv:V}{x:Value}(hv:v≠.undef)
  (hb:aC (qh m (V7 q o.dst) l []) (V7 q o.dst) v=[w.heap.size]) (hB:S (bV+V7 q o.dst)= .undef->CB*q<=V7 q o.dst->JQ ⟨(w.alloc obj).heap,ok,qh m (V7 q o.dst) l []⟩ (V7 q o.dst) v)
  (hx:pg ⟨(w.alloc obj).heap,ok,qh m (V7 q o.dst) l []⟩ vv x) (run:(execOp a.eval o).run X.P w= .ok (.value x) (w.alloc obj)):
  (Bo (V7 q o.dst) v (gY X.E o.dst vv)).post S (λ_ S' =>jX X (CB*q) (CB*q+CB) o a w m ok S'):=by
 refine Aq λhn=>?_;cases hd:o.dst with
 |none=>have hin:=vZ H (q:=q) none (λt h=>by cases h);rw[hd]at hn hB hb hx;have R' :=R.new hn hin.1 l7 hv hb (hB hn hin.1);have:=xK (o:=o) H R' (m0:=m) (ok0:=ok) (λk l' h=>(R.le_new (obj:=obj) hn hin.1).m k l' h) (λ_ _ h=>h) hx run;rw[hd]at this;exact this
 |some t=>unfold gY;refine iD λhb' =>?_;have hin:=vZ H (q:=q) (some t) (λt' h=>by cases h;exact(Gh hb').1);rw[hd]at hn hB hb hx;have R' :=R.new hn hin.1 l7 hv hb (hB hn hin.1);have:=xK (o:=o) H R' (m0:=m) (ok0:=ok) (λk l' h=>(R.le_new (obj:=obj) hn hin.1).m k l' h) (λ_ _ h=>h) hx run;rw[hd]at this;unfold gY at this;simp only[hb',cond_true]at this;exact this
theorem a0q :∀{cs:List V} {vs:d1D},jf ⟨#[],λ_ _=>False,nom⟩ cs vs->jf C cs vs:=by intro cs vs h;exact Lj (C:=⟨#[],λ_ _=>False,nom⟩) ⟨λ_ _ h=>h.elim,λ_ _ h=>h.elim,λ_ _ h=>by cases h⟩ h
theorem b4C(H:FxOk X)(R:Rel X (CB*q) (CB*q+CB) S m ok a w)(ho:o.op= .alloc t):(dY X.E q o).post S (λ_ S' =>jX X (CB*q) (CB*q+CB) o a w m ok S'):=by
 unfold dY;simp only[ho];refine pq H λi hi=>iD λhz=>?_;obtain⟨inf,h1,h2,h3,h4,h5⟩:=hi.info;obtain⟨z,hz1,hz2⟩:=h4 (jU hz);refine WW (l:=.st w.heap.size) (obj:=.cells z.cells t) H R x9 (by simp[aC]) (λhn hc=>?_) ⟨w.heap.size,x9,rfl⟩ ?_
 .exact⟨w.heap.size,z.cells,t,x9,heap_alloc_new w _,a0q hz2⟩
 .simp[execOp,ho,Instr.alloc,zeroValue,typeInfo,h1,hz1,newVar,newRow]
theorem c0Q(H:FxOk X)(R:Rel X (CB*q) (CB*q+CB) S m ok a w){x:Operand}(ho:o.op= .box t x):(dY X.E q o).post S (λ_ S' =>jX X (CB*q) (CB*q+CB) o a w m ok S'):=by
 unfold dY;simp only[ho];refine bU R λu hu=>zo hu λcs hcs=>?_;refine WW (l:=.st w.heap.size) (obj:=.cells (a.eval x).cells t) H R x9 (by simp[aC]) (λhn hc=>?_) ⟨w.heap.size,x9,rfl⟩ ?_
 .exact⟨w.heap.size,(a.eval x).cells,t,x9,heap_alloc_new w _,Lj (R.le_new hn hc) hcs⟩
 .simp[execOp,ho,Instr.box,newVar,newRow]
end
end Go.GP
namespace Go.GP
variable {α:Type}{us:List α}{L:List α}{p:Nat}
theorem wI(h:p+us.length<=L.length)(i:Nat):
  (cO p us L)[i]? =if i<p then L[i]? else if i<p+us.length then us[i -p]? else L[i]?:=by
 unfold cO;rw[G5];by_cases h1:i<p
 .rw[if_pos h1,U5 Z5,ae,if_pos h1]
 .rw[if_neg h1,J4 Z5];have e:(L.take p).length=p:=by simp;omega
  rw[e];by_cases h2:i<p+us.length
  .rw[if_pos h2,U5 l7]
  .rw[if_neg h2,J4 l7,Y7];congr 1;omega
theorem yN(h:p+us.length<=L.length):(cO p us L).length=L.length:=by unfold cO;simp;omega
variable {b:Nat}{n:Nat}
theorem a8Z(h:p+us.length<=L.length)(hd:b+n<=p\/p+us.length<=b):((cO p us L).drop b).take n=(L.drop b).take n:=by
 apply bu;intro i;rw[ae,ae];split
 .rw[Y7,Y7,wI h];rcases hd with hd|hd
  .rw[if_pos l7]
  .rw[if_neg l7,if_neg l7]
 .rfl
variable {off:Nat}
theorem RY(h:b+n<=L.length)(ho:off+us.length<=n):((cO (b+off) us L).drop b).take n=cO off us ((L.drop b).take n):=by
 have hl:((L.drop b).take n).length=n:=by simp;omega
 apply bu;intro i;rw[ae,wI (by rw[hl];exact ho)];by_cases hi:i<n
 .rw[if_pos hi,Y7,wI l7,ae,if_pos hi,Y7];by_cases h1:i<off
  .rw[if_pos l7,if_pos h1]
  .rw[if_neg l7,if_neg h1];by_cases h2:i<off+us.length
   .rw[if_pos l7,if_pos h2];congr 1;omega
   .rw[if_neg l7,if_neg h2]
 .rw[if_neg hi,if_neg l7,if_neg l7,ae,if_neg hi]
variable {blk:Nat}
theorem QI{w:World}{c:Array Value}{T:TypeId}(hb:w.heap[blk]? =some (.cells c T (0,0)))(L:d1D)(off n:Nat)(h:off+n<=L.length):
  gU (w.setRow blk L.toArray).heap blk off n=some ((L.drop off).take n):=by
 rw[qQ (setRow_heap w blk c L.toArray T (0,0) hb) off n (by simpa using h)]
theorem b3o{a b:Nat}(h:a<b):Nat.blt a b=true:=by unfold Nat.blt;exact Nat.ble_eq_true_of_le h
theorem b3n{a b:Nat}(h:¬a<b):Nat.blt a b=false:=by
 cases e:Nat.blt a b
 .rfl
 .exact absurd (Tz e) h
theorem Ii{α:Type} :∀{Os:List (List α)} {i:Nat} {O1 P O2:List α},Os[i]? =some (O1++P++O2)->Os.flatten.Perm ((Os.set i (O1++O2)).flatten++P)
 |[],i,_,_,_,h=>by simp at h|A::Os,0,O1,P,O2,h=>by simp at h;subst h;simp only[xk,List.flatten_cons,G5];refine List.Perm.append_left O1 ?_;have:=(tV (l₁:=P) (l₂:=O2++Os.flatten));simpa using this|A::Os,i+1,O1,P,O2,h=>by simp at h;simp only[List.set_cons_succ,List.flatten_cons,G5];exact List.Perm.append_left A (Ii (by simpa using h))
variable {t:TypeId}{Op:d1B}{k:Option Nat}{q:Nat}{x:Operand}
section
variable {X:Fx} {cl ch:Nat} {S:Sm} {m:Mp} {ok:Nat->Ty->Prop} {a:Act} {w:World} {o:Oper}
theorem c0V{h h' :Array Obj}{ok:Nat->Ty->Prop}{m:Mp}(k:∀b t,ok b t->h'[b]? =h[b]?){cs:List V}{vs:d1D}(hr:jf ⟨h,ok,m⟩ cs vs):jf ⟨h',ok,m⟩ cs vs:=
 Lj (C:=⟨h,ok,m⟩) (D:=⟨h',ok,m⟩) ⟨λ_ _ h=>h,k,λ_ _ h=>h⟩ hr
theorem TY{α:Type}{Q:α->Sm->Prop}{S:Sm}{h:Array Obj}{ok:Nat->Ty->Prop} :∀(md:M) (off:Nat) {x:md.den} {es:d1D} {O:d1B} {K:V->Cmd α} (hr:sH h ok md none x es O)
  (hK:∀v l ks u O1 Op O2,O=O1++Op++O2->sH h ok md (some off) x es (O1++O2)->es[off]? =some u->l.view none u->
   (∀mp n,JQ ⟨h,ok,qh mp n l ks⟩ n v/\aC (qh mp n l ks) n v=Op/\qh mp n l ks n=some l)->v≠.undef->(K v).post S Q),
  (X_ md off x K .fail).post S Q
 | .own t,off,x,es,O,K,hr,hK=>by unfold X_;refine iD λhb=>?_;have:=jU hb;subst this;obtain⟨l,v,rfl,hv,ha,rfl⟩:=BM.1 hr;refine hK _ l [] v [] l.blks [] x9 ⟨v,rfl,rM hv,rfl⟩ rfl hv (λmp n=>⟨⟨l,x9,PG ha⟩,?_,x9⟩) x9;cases l<;>first|(simp[aC,Loc.blks];done)|cases ha
 | .owns md,off,x,es,O,K,hr,hK=>by unfold X_;refine iD λhb=>?_;have:=jU hb;subst this;obtain⟨he,l,v,Os,rfl,hv,ha,rfl⟩:=DU.1 hr;refine hK _ l Os.flatten v [] (l.blks++Os.flatten) [] x9 ⟨v,rfl,rM hv,rfl⟩ rfl hv (λmp n=>⟨⟨he,l,Os,x9,⟨ha,trivial⟩,x9⟩,?_,x9⟩) x9;cases l<;>first|(simp[aC,Loc.blks];done)|cases ha
 | .pair p q,off,x,es,O,K,hr,hK=>by
  unfold X_;obtain⟨c,d,O1,O2,rfl,rfl,h1,h2⟩:=hr;have hc:=gX h1;by_cases hlt:off<p.size
  .have hb:Nat.blt off p.size=true:=b3o hlt;simp only[hb,cond_true];refine TY p off h1 λv l ks u A Op B e1 e2 e3 e4 e5 e6=>?_;refine hK v l ks u A Op (B++O2) (by subst e1;simp) ⟨c,d,A++B,O2,rfl,x9,?_,?_⟩ (by rw[U5 (by rw[hc];exact hlt)];exact e3) e4 e5 e6
   .simp only[hlt,if_true];exact e2
   .simp only[hlt,if_true];exact h2
  .have hb:Nat.blt off p.size=false:=b3n hlt;simp only[hb,cond_false];refine TY q (off -p.size) h2 λv l ks u A Op B e1 e2 e3 e4 e5 e6=>?_;refine hK v l ks u (O1++A) Op B (by subst e1;simp) ⟨c,d,O1,A++B,rfl,x9,?_,?_⟩ (by rw[J4 l7,hc];exact e3) e4 e5 e6
   .simp only[hlt,if_false];exact h1
   .simp only[hlt,if_false];exact e2
 | .dat _,_,_,_,_,_,_,_=>trivial| .unit,_,_,_,_,_,_,_=>trivial| .box _,_,_,_,_,_,_,_=>trivial| .ownb _,_,_,_,_,_,_,_=>trivial| .cell _,_,_,_,_,_,_,_=>trivial| .rp _,_,_,_,_,_,_,_=>trivial| .fn _ _,_,_,_,_,_,_,_=>trivial| .ifc _ _,_,_,_,_,_,_,_=>trivial
def a2S(h:Array Obj)(ok:Nat->Ty->Prop)(v:V)(u:Value)(Op:d1B):Prop:=
 (v= .nl/\u= .slice none 0 0/\Op=[])\/(∃t ys l,v= .barr t ys/\l.view none u/\arrOk ⟨h,ok,nom⟩ t ys l/\Op=l.blks)\/
 (∃md ys l Os,v= .barrs md ys none/\md.el=true/\l.view none u/\Ho h md.size (λ_ x es O=>sH h ok md none x es O) ys Os l/\Op=l.blks++Os.flatten)
theorem a2S.one{h:Array Obj}{v:V}{u:Value}(k:a2S h ok v u Op):u.oneCell' =true:=by
 rcases k with⟨_,rfl,_⟩|⟨_,_,l,_,hv,_⟩|⟨_,_,l,_,_,_,hv,_⟩
 .rfl
 .exact rM hv
 .exact rM hv
theorem WM{α:Type}{Q:α->Sm->Prop}{S:Sm}{h:Array Obj}{ok:Nat->Ty->Prop}{v:V}{u:Value}{Op:d1B}(hp:a2S h ok v u Op):∀(md:M) (off:Nat) {ho:Option Nat} {x:md.den} {es:d1D} {O:d1B} {K:md.den->Cmd α}
  (hr:sH h ok md ho x es O) (hh:ho=none\/ho=some off) (hel:md.el=true)
  (hK:∀y O1 Old O2,O=O1++Old++O2->sH h ok md none y (es.set off u) (O1++Op++O2)->off<es.length->(K y).post S Q),
  (a7O md off v x K .fail).post S Q
 | .own t,off,ho,x,es,O,K,hr,hh,hel,hK=>by
  unfold a7O;refine iD λhb=>?_;have:=jU hb;subst this;obtain⟨v0,rfl,_,_⟩:=hr;rcases hp with⟨rfl,rfl,rfl⟩|⟨t',ys,l,rfl,hv,ha,rfl⟩|⟨md',ys,l,Os,rfl,_,hv,ha,rfl⟩
  .have ht:t.isEnt=false:=by simpa[M.el]using hel
   simp only[ht,cond_false];exact hK [] [] O [] x9 ⟨_,rfl,rfl,.nil,rfl,⟨rfl,ht⟩,rfl⟩ x9
  .simp only;refine iq λe=>?_;subst e;exact hK _ [] O [] x9 ⟨u,rfl,rM hv,l,hv,ha,x9⟩ x9
  .trivial
 | .owns md,off,ho,x,es,O,K,hr,hh,hel,hK=>by
  unfold a7O;refine iD λhb=>?_;have:=jU hb;subst this;obtain⟨v0,rfl,_,_⟩:=hr;rcases hp with⟨rfl,rfl,rfl⟩|⟨t',ys,l,rfl,hv,ha,rfl⟩|⟨md',ys,l,Os,rfl,he,hv,ha,rfl⟩
  .exact hK [] [] O [] x9 ⟨_,rfl,rfl,by simpa[M.el]using hel,.nil,[],rfl,⟨rfl,rfl⟩,rfl⟩ x9
  .trivial
  .simp only;refine ZC λe=>?_;subst e;exact hK _ [] O [] x9 ⟨u,rfl,rM hv,he,l,Os,hv,ha,x9⟩ x9
 | .pair p q,off,ho,x,es,O,K,hr,hh,hel,hK=>by
  unfold a7O;obtain⟨c,d,O1,O2,rfl,rfl,h1,h2⟩:=hr;have hc:=gX h1;have hel' :p.el=true/\q.el=true:=by simpa[M.el]using hel
  by_cases hlt:off<p.size
  .have hb:Nat.blt off p.size=true:=b3o hlt;simp only[hb,cond_true];have h2' :sH h ok q none x.2 d O2:=by
    rcases hh with rfl|rfl
    .exact h2
    .simpa only[hlt,if_true]using h2
   refine WM hp p off h1 (by rcases hh with rfl|rfl<;>first|exact .inl rfl|(right;simp only[hlt,if_true])) hel'.1 λy A Old B e1 e2 e3=>?_;refine hK _ A Old (B++O2) (by subst e1;simp) ⟨c.set off u,d,A++Op++B,O2,?_,x9,e2,h2'⟩ Z5;rw[List.set_append_left _ _ l7]
  .have hb:Nat.blt off p.size=false:=b3n hlt;simp only[hb,cond_false];have h1' :sH h ok p none x.1 c O1:=by
    rcases hh with rfl|rfl
    .exact h1
    .simpa only[hlt,if_false]using h1
   refine WM hp q (off -p.size) h2 (by rcases hh with rfl|rfl<;>first|exact .inl rfl|(right;simp only[hlt,if_false])) hel'.2 λy A Old B e1 e2 e3=>?_;refine hK _ (O1++A) Old B (by subst e1;simp) ⟨c,d.set (off -p.size) u,O1,A++Op++B,?_,x9,h1',e2⟩ Z5;rw[kF _ _ l7,hc]
 | .dat _,_,_,_,_,_,_,_,_,_,_=>trivial| .unit,_,_,_,_,_,_,_,_,_,_=>trivial| .box _,_,_,_,_,_,_,_,_,_,_=>trivial| .ownb _,_,_,_,_,_,_,_,_,_,_=>trivial| .cell _,_,_,_,_,_,_,_,_,_,_=>trivial| .rp _,_,_,_,_,_,_,_,_,_,_=>trivial| .fn _ _,_,_,_,_,_,_,_,_,_,_=>trivial| .ifc _ _,_,_,_,_,_,_,_,_,_,_=>trivial
theorem Lt{α:Type}{Q:α->Sm->Prop}{C:Cx}{ln:Ty->Bool} :∀(t:Ty) {cs:List V} {K:t.den->List V->Cmd α} {S:Sm} {vs:d1D} (hf:t.flat=true) (hL:jf C cs vs)
  (hK:∀x r us us',vs=us++us' ->(∀h ok,oD h ok t x us)->jf C r us' ->(K x r).post S Q),(rf ln t cs K).post S Q
 | .bool,cs,K,S,vs,hf,hL,hK=>by
  unfold rf;split
  .obtain⟨v,r,rfl,h1,_,h3⟩:=hL;exact hK _ _ [v] r rfl (λ_ _=>by simp only[Bv]at h1;simp[oD,h1]) h3
  .trivial
 | .int k,cs,K,S,vs,hf,hL,hK=>by
  unfold rf;split
  .obtain⟨v,r,rfl,h1,_,h3⟩:=hL;refine iL λe=>?_;have e:=of_decide_eq_true e;subst e;exact hK _ _ [v] r rfl (λ_ _=>by simp only[Bv]at h1;simp[oD,h1]) h3
  .trivial
 | .str,cs,K,S,vs,hf,hL,hK=>by
  unfold rf;split
  .obtain⟨v,r,rfl,h1,_,h3⟩:=hL;exact hK _ _ [v] r rfl (λ_ _=>by simp only[Bv]at h1;simp[oD,h1]) h3
  .trivial
 | .unit,cs,K,S,vs,hf,hL,hK=>by unfold rf;exact hK _ _ [] vs rfl (λ_ _=>rfl) hL
 | .prod p q,cs,K,S,vs,hf,hL,hK=>by unfold rf;simp[Ty.flat]at hf;refine Lt p hf.1 hL λx r us us' e1 h1 l1=>?_;refine Lt q hf.2 l1 λy r' vs2 vs2' e2 h2 l2=>?_;subst e1;subst e2;exact hK _ _ (us++vs2) vs2' x9 (λh ok=>⟨us,vs2,rfl,h1 h ok,h2 h ok⟩) l2| .sl t,cs,K,S,vs,hf,hL,hK=>by simp[Ty.flat]at hf
theorem a6N{us c d:List α}(h:off+us.length<=c.length):cO off us (c++d)=cO off us c++d:=by
 apply bu;intro i;have hs:=yN h;rw[wI Z5];by_cases hi:i<c.length
 .rw[U5 hi,U5 (l₁:=cO off us c) (by rw[hs];exact hi),wI h]
 .rw[J4 l7,J4 (l₁:=cO off us c) (by rw[hs];omega),hs,if_neg l7,if_neg l7]
theorem a4n{us c d:List α}(h:(off -c.length)+us.length<=d.length)(h' :c.length<=off):cO off us (c++d)=c++cO (off -c.length) us d:=by
 apply bu;intro i;rw[wI Z5];by_cases hi:i<c.length
 .rw[U5 hi,if_pos l7,U5 hi]
 .rw[J4 l7,J4 (l₂:=cO (off -c.length) us d) l7,wI h];by_cases h1:i<off
  .simp only[h1,if_true,show i -c.length<off -c.length by omega]
  .by_cases h2:i<off+us.length
   .simp only[h1,if_false,h2,if_true,show ¬(i -c.length<off -c.length) by omega,show i -c.length<off -c.length+us.length by omega];congr 1;omega
   .simp only[h1,if_false,h2,show ¬(i -c.length<off -c.length) by omega,show ¬(i -c.length<off -c.length+us.length) by omega]
theorem Wx{α:Type}{Q:α->Sm->Prop}{h:Array Obj}{ok:Nat->Ty->Prop}{m:Mp} :∀(md:M) (off:Nat) {ho:Option Nat} {x:md.den} {es us:d1D} {vs:List V} {O:d1B} {K:md.den->Cmd α} {S:Sm}
  (hr:sH h ok md ho x es O) (hv:jf ⟨h,ok,m⟩ vs us)
  (hK:∀y,off+us.length<=es.length->sH h ok md ho y (cO off us es) O->(K y).post S Q),(b1a md off vs x K).post S Q
 | .dat t,off,ho,x,es,us,vs,O,K,S,hr,hv,hK=>by
  unfold b1a;refine iL λhf=>Ja _ _ _ λhle=>?_;rw[sQ]at hle;obtain⟨hr,rfl⟩:=hr;have hl:=iK hr;have hlv:=qA hv;have hnew:=Ll (off:=off) hv (uY (C:=⟨h,ok,m⟩) hr);refine Lt t hf hnew λy q vs1 vs2 e1 h1 l1=>?_;cases q with
  |cons _ _=>trivial|nil=>
  simp only[jf]at l1;subst l1;simp only[H6]at e1;subst e1;exact hK y l7 ⟨h1 _ _,rfl⟩
 | .pair p q,off,ho,x,es,us,vs,O,K,S,hr,hv,hK=>by
  unfold b1a;obtain⟨c,d,O1,O2,rfl,rfl,h1,h2⟩:=hr;have hc:=gX h1;by_cases hlt:off<p.size
  .have hb:Nat.blt off p.size=true:=b3o hlt;simp only[hb,cond_true];refine Wx p off h1 hv λy hle e2=>?_;exact hK _ Z5 ⟨_,d,O1,O2,a6N hle,rfl,e2,h2⟩
  .have hb:Nat.blt off p.size=false:=b3n hlt;simp only[hb,cond_false];refine Wx q (off -p.size) h2 hv λy hle e2=>?_;refine hK _ Z5 ⟨c,_,O1,O2,?_,rfl,h1,e2⟩;rw[a4n l7 l7,hc]
 | .own _,_,_,_,_,_,_,_,_,_,_,_,_=>trivial| .owns _,_,_,_,_,_,_,_,_,_,_,_,_=>trivial| .unit,_,_,_,_,_,_,_,_,_,_,_,_=>trivial| .box _,_,_,_,_,_,_,_,_,_,_,_,_=>trivial| .ownb _,_,_,_,_,_,_,_,_,_,_,_,_=>trivial| .cell _,_,_,_,_,_,_,_,_,_,_,_,_=>trivial| .rp _,_,_,_,_,_,_,_,_,_,_,_,_=>trivial| .fn _ _,_,_,_,_,_,_,_,_,_,_,_,_=>trivial| .ifc _ _,_,_,_,_,_,_,_,_,_,_,_,_=>trivial
theorem b1q(i:Nat):a1h none i=none:=rfl
theorem p_{i o j:Nat}(h:j≠i):a1h (some (i,o,k)) j=none:=by simp[a1h,h]
theorem a2e{i o:Nat} :a1h (some (i,o,k)) i=some o:=by simp[a1h]
theorem a0p{C:Cx}{md:M}{xs:List md.den}{hole:Option (Nat×Nat×Option Nat)}{blk off len cap sz:Nat}{Os:List d1B}(he:md.el=true)(hm:C.m n=some (.arr blk off len cap sz))
  (ha:Ho C.h md.size (λi x es O=>sH C.h C.ok md (a1h hole i) x es O) xs Os (.arr blk off len cap sz)) (hk:C.m.kid n=Os.flatten) (hh:r_ C md.size (.arr blk off len cap sz) hole):JQ C n (.barrs md xs hole):=⟨he,_,Os,hm,⟨ha,hh⟩,hk⟩
theorem PZ{j o2 idx off:Nat}(h:a3l (some (j,o2,k)) idx off=true):j=idx/\o2=off:=by
 simp only[a3l]at h;cases hb:Nat.beq o2 off<;>rw[hb]at h
 .cases h
 .exact⟨jU h,jU hb⟩
theorem b1G(H:FxOk X){S1:Sm}{m1:Mp}{ok1:Nat->Ty->Prop}{w0:World}(R:Rel X (CB*q) (CB*q+CB) S1 m1 ok1 a w)(hT:Tk X S1 m1 ok1 w Op)
  (hm:∀k l,m k=some l->m1 k=some l) (hok:∀b t,ok b t->ok1 b t) {v:V} {l:Loc} {ks:d1B} {x:Value} (hv:v≠.undef)
  (ho:aC (qh m1 (V7 q o.dst) l ks) (V7 q o.dst) v=Op) (hB:JQ ⟨w.heap,ok1,qh m1 (V7 q o.dst) l ks⟩ (V7 q o.dst) v)
  (hx:l.view none x) {bx idx off:Nat} {md:M} {xs:List md.den} (hS:S1 (bV+bx)= .barrs md xs (some (idx,off,none))) {blk o' len cap sz:Nat} (hmb:m1 bx=some (.arr blk o' len cap sz))
  (hc:gU w.heap blk (o' +idx*md.size+off) 1=some [x]) (hsz:sz=md.size)
  (run:(execOp a.eval o).run X.P w0= .ok (.value x) w):
  (Bo (V7 q o.dst) v (Cmd.set (bV+bx) (.barrs md xs (some (idx,off,some (V7 q o.dst)))) (gY X.E o.dst (.own (V7 q o.dst) none)))).post S1 (λ_ S' =>jX X (CB*q) (CB*q+CB) o a w0 m ok S'):=by
 refine Aq λhn=>?_;have key:∀n,n=V7 q o.dst->CB*q<=n->n<CB*q+CB->∃R2:Rel X (CB*q) (CB*q+CB) (upd (upd S1 (bV+n) v) (bV+bx) (.barrs md xs (some (idx,off,some n)))) (qh m1 n l ks) ok1 a w,∀k l',m k=some l' ->qh m1 n l ks k=some l' :=by
  rintro n rfl h1 h2;obtain⟨R',_,hm'⟩:=R.adopt (T:=[]) hn h1 hv (by simpa using hT) (λb h=>by rw[ho]at h;exact h) (by rw[ho];exact hT.nodup) hB;rw[Nat.max_eq_left l7]at R';have hne:bx≠V7 q o.dst:=λe=>by have:=R.fresh _ h1 hn;rw[←e,hmb]at this;cases this
  have hS' :upd S1 (bV+V7 q o.dst) v (bV+bx)= .barrs md xs (some (idx,off,none)):=by rw[dZ _ _ l7];exact hS
  have hb:=R'.box bx;rw[hS']at hb;obtain⟨hel,l0,Os,hm0,⟨ha,_⟩,hk⟩:=hb;have hmb' :=hm' _ _ hmb;simp only at hm0;rw[hmb']at hm0;cases hm0;refine⟨R'.mod (by rw[hS'];rfl) x9 rfl rfl rfl rfl (λ_ _=>rfl) ⟨hel,_,Os,hmb',⟨?_,?_⟩,hk⟩,λk l' h=>hm' k l' (hm k l' h)⟩
  .exact KD (λ_ _=>rfl) (λi x es O _ hr=>hr) ha
  .exact⟨blk,o',len,cap,x,l,by rw[hsz],hc,fE _ _ _ _,hx⟩
 cases hd:o.dst with
 |none=>have hin:=vZ H (q:=q) none (λt h=>by cases h);obtain⟨R2,hm2⟩:=key (V7 q none) (by rw[hd]) hin.1 l7;have:=xK (o:=o) H R2 (m0:=m) (ok0:=ok) hm2 hok (v:=.own (V7 q none) none) ⟨l,fE _ _ _ _,hx⟩ run;rw[hd]at this;exact this
 |some t=>unfold gY;refine nJ (iD λhb' =>?_);have hin:=vZ H (q:=q) (some t) (λt' h=>by cases h;exact(Gh hb').1);obtain⟨R2,hm2⟩:=key (V7 q (some t)) (by rw[hd]) hin.1 l7;have:=xK (o:=o) H R2 (m0:=m) (ok0:=ok) hm2 hok (v:=.own (V7 q (some t)) none) ⟨l,fE _ _ _ _,hx⟩ run;rw[hd]at this;unfold gY at this;simp only[hb',cond_true]at this;exact this
theorem b8w(H:FxOk X)(R:Rel X (CB*q) (CB*q+CB) S m ok a w)(ho:o.op= .load t x):(dY X.E q o).post S (λ_ S' =>jX X (CB*q) (CB*q+CB) o a w m ok S'):=by
 unfold dY;simp only[ho];refine bU R λp hp=>?_;have plain:(SV X.E t p λv=>gY X.E o.dst v).post S (λ_ S' =>jX X (CB*q) (CB*q+CB) o a w m ok S'):=by refine NZ H R hp λv u ad hv hx hr=>dh H R hv ?_;simp[execOp,ho,hx,Instr.loadAt,Instr.sureAddr,hr]
 unfold b9F;split
 .rename_i bx idx off;refine gZ ?_;split
  .rename_i md xs hS;cases hown:md.ownAt off
   .simpa only[cond_false]using plain
   simp only[cond_true];refine pq H λi hi=>iL λhi1=>?_;simp only[A8,eH]at hi1;obtain⟨hsz,hagg⟩:=hi1;have hsz:=jU hsz;have hp' :=hp;obtain⟨blk,o',len,cap,sz,hm,hlt,hx⟩:=hp;obtain⟨hel,l,Os,hm',⟨ha,hho⟩,hk⟩:=R.own_barrs hS;simp only at hm;rw[hm]at hm';cases hm';cases Jz (match o.dst with|some d=>d|none=>bV) X.E.tk<;>simp only[cond_true,cond_false]
   .refine Jg (T:=[]) (.sl md.ty) R Tk.nil (cs:=[.own bx none]) (vs:=[.slice (some ⟨blk,o',none⟩) len cap]) ⟨_,_,rfl,⟨_,hm,rfl⟩,rfl,rfl⟩ λS1 ok1 _ _ us us' R1 T1 k1 s1 e1 h1 l1=>?_;refine NZ H R1 (RV k1 hp') λv u ad hv hx hr=>xK H R1 (λ_ _ h=>h) k1 hv ?_;simp[execOp,ho,hx,Instr.loadAt,Instr.sureAddr,hr]
   .refine jl λe0 he0=>?_;obtain⟨rfl,rfl,h3,h7,c,T,hh,hs,hxs⟩:=ha;obtain⟨es,O,hO,he,hr⟩:=hxs idx e0 he0;refine TY md off hr λv l2 ks u O1 Op O2 eO hr' hu hv hB hvu=>?_;refine nJ ?_;have hOs:Os.flatten.Perm ((Os.set idx (O1++O2)).flatten++Op):=Ii (by rw[hO,eO]);have hown0:aC m bx (S (bV+bx))=blk::Os.flatten:=by simp[aC,hS,hm,hk]
    have hown1:aC (KA m bx (Os.set idx (O1++O2)).flatten) bx (.barrs md xs (some (idx,off,none)))=blk::(Os.set idx (O1++O2)).flatten:=by simp[aC,hm]
    have hnd:=R.nd bx;rw[hown0]at hnd;have hperm:(blk::Os.flatten).Perm ((blk::(Os.set idx (O1++O2)).flatten)++Op):=by simpa using hOs.cons blk
    have hnd' :=O7.1 (hperm.nodup_iff.1 hnd);have hB1:JQ ⟨w.heap,ok,KA m bx (Os.set idx (O1++O2)).flatten⟩ bx (.barrs md xs (some (idx,off,none))):=by
     refine a0p (Os:=Os.set idx (O1++O2)) hel hm ⟨rfl,rfl,h3,by simp[h7],c,T,hh,hs,λj z hz=>?_⟩ x9 trivial;by_cases hj:j=idx
     .subst hj;rw[show xs[j]? =some e0 from he0]at hz;cases hz;refine⟨es,O1++O2,?_,he,by simp only[a2e];exact hr'⟩;rw[Z9,if_pos rfl,if_pos (by rw[h7];exact hlt)]
     .obtain⟨es2,O',hO2,he2,hr2⟩:=hxs j z hz;refine⟨es2,O',?_,he2,by simp only[p_ hj];exact hr2⟩;rw[Z9,if_neg (λe=>hj e.symm)];exact hO2
    obtain⟨R1,T1⟩:=R.modK (T:=[]) Tk.nil (n:=bx) (v:=.barrs md xs (some (idx,off,none))) (ks:=(Os.set idx (O1++O2)).flatten) (w' :=w) (T' :=Op) x9 (by rw[hown1];exact hnd'.1)
     (λb hb=> .inl (by rw[hown0];rw[hown1]at hb;exact hperm.mem_iff.2 (I5 _ hb))) rfl rfl rfl rfl (λ_ _=>rfl) hB1 hnd'.2.1
     (λb hb=>⟨.inl (by rw[hown0];exact hperm.mem_iff.2 (aK _ hb)),λh=>hnd'.2.2 b (by rw[hown1]at h;exact h) b hb rfl⟩)
    obtain⟨hB2,hB3,hB4⟩:=hB (KA m bx (Os.set idx (O1++O2)).flatten) (V7 q o.dst);have hlt2:=(X6.1 hu);have hle:off+1<=md.size:=by have:=gX hr;have:=hlt2.1;omega
    have e:=GN he off i.size l7;have hr2:=zW hi w e;have h1:(es.drop off).take i.size=[u]:=by obtain⟨hlt3,rfl⟩:=hlt2;rw[hsz,gp hlt3];rfl
    refine b1G (ok:=ok) (m:=m) H R1 T1 (λ_ _ h=>h) (λ_ _ h=>h) hvu hB3 hB2 hv (by rw[oG]) hm (by rw[←h1,←hsz];exact e) rfl ?_;rw[h1,hagg]at hr2;simp[execOp,ho,hx,Instr.loadAt,Instr.sureAddr,hr2,VU]
  .rename_i md xs i2 o2 n2 hS;cases hown:md.ownAt off
   .simpa only[cond_false]using plain
   simp only[cond_true];refine pq H λi hi=>iL λhi1=>⟨λhat=>?_,λ_=>trivial⟩;simp only[A8,eH]at hi1;obtain⟨hsz,hagg⟩:=hi1;have hsz:=jU hsz;obtain⟨e1,e2⟩:=PZ hat
   subst e1;subst e2;obtain⟨blk,o',len,cap,sz,hm,hlt,hx⟩:=hp;obtain⟨hel,l,Os,hm',⟨ha,blk',off',len',cap',u,l',hl,hc,hmn,hvw⟩,hk⟩:=R.own_barrs hS;simp only at hm;rw[hm]at hm';cases hm';cases hl;have e:gU w.heap blk (o' +i2*md.size+o2) i.size=some [u]:=by rw[hsz];exact hc
   have hr2:=zW hi w e;rw[hagg]at hr2;refine dh H R (v:=.own n2 none) (x:=u) ⟨l',hmn,hvw⟩ ?_;simp[execOp,ho,hx,Instr.loadAt,Instr.sureAddr,hr2,VU]
  .exact plain
 .exact plain
theorem OM{S' :Sm}{x y:Operand}{w' :World}{m' :Mp}{ok' :Nat->Ty->Prop}(ho:o.op= .store t x y)(hd:o.dst=none)(run:(Instr.storeAt t (a.eval x) (a.eval y)).run X.P w= .ok () w')
  (R:Rel X cl ch S' m' ok' a w') (hm:∀k l,m k=some l->m' k=some l) (hok:∀b t,ok b t->ok' b t):jX X cl ch o a w m ok S' :=by
 intro next Q hn
 unfold Oper.wp;have e:(execOp a.eval o).run X.P w= .ok .skip w' :=by simp[execOp,ho,run]
 rw[e,Oper.upon_skip,hd];exact hn m' ok' a w' R hm hok
theorem a8Y{u:α}(h:off<L.length):cO off [u] L=L.set off u:=by
 apply bu;intro i;rw[wI Z5,Z9];by_cases h1:i=off
 .subst h1;rw[if_neg l7,if_pos x9,if_pos rfl,if_pos h];simp
 .by_cases h2:i<off
  .rw[if_pos h2,if_neg l7]
  .rw[if_neg h2,if_neg Z5,if_neg l7]
theorem b0X{u:Value}(h:u.oneCell' =true):u.cells.toList=[u]:=by cases u<;>simp[Value.oneCell',Value.cells]at*
theorem a0v{w:World}{blk o' sz len cap off idx:Nat}{c:Array Value}{T:TypeId}(hh:w.heap[blk]? =some (.cells c T (0,0)))(hs:o' +cap*sz<=c.size)(hlc:len<=cap)(hlt:idx<len){us es:d1D}
  (he:gU w.heap blk (o' +idx*sz) sz=some es) (hf:off+us.length<=sz):
  o' +idx*sz+off+us.length<=c.size/\(cO (o' +idx*sz+off) us c.toList).length=c.size/\
  gU (w.setRow blk (cO (o' +idx*sz+off) us c.toList).toArray).heap blk (o' +idx*sz) sz=some (cO off us es)/\
  (∀j,j<len->j≠idx->gU (w.setRow blk (cO (o' +idx*sz+off) us c.toList).toArray).heap blk (o' +j*sz) sz=gU w.heap blk (o' +j*sz) sz):=by
 have hcap:(idx+1)*sz<=cap*sz:=G9 _ l7;rw[P5,bZ]at hcap;have hfit:o' +idx*sz+off+us.length<=c.size:=l7;have hcl:c.toList.length=c.size:=x9;have hsp:(cO (o' +idx*sz+off) us c.toList).length=c.size:=by rw[yN (by rw[hcl];exact hfit)];exact hcl
 refine⟨hfit,hsp,?_,λj hj hne=>?_⟩
 .rw[QI hh _ _ _ (by rw[hsp];omega),RY (by rw[hcl];omega) l7];obtain⟨c2,T2,f2,hb2,hn2,rfl⟩:=zn he;rw[hh]at hb2;cases hb2;rfl
 .have hcap' :(j+1)*sz<=cap*sz:=G9 _ l7;rw[P5,bZ]at hcap';rw[QI hh _ _ _ (by rw[hsp];omega),qQ hh _ _ l7,a8Z (by rw[hcl];exact hfit)];rcases Nat.lt_or_gt_of_ne hne with hlt'|hgt
  .left;have:(j+1)*sz<=idx*sz:=G9 _ l7;rw[P5,bZ]at this;omega
  .right;have:(idx+1)*sz<=j*sz:=G9 _ l7;rw[P5,bZ]at this;omega
theorem Yv{Q:Unit->Sm->Prop}(R:Rel X cl ch S m ok a w)(hT:Tk X S m ok w Op){i:TI}(hi:TiOk X.P t i)(h1:i.size=1){bx idx off:Nat}{md:M}{xs:List md.den}{hole:Option (Nat×Nat×Option Nat)}
  (hS:S (bV+bx)= .barrs md xs hole) {blk o' len cap sz:Nat} (hm:m bx=some (.arr blk o' len cap sz)) {v:V} {u:Value} (hp:a2S w.heap ok v u Op)
  (hK:∀S' m' w',Rel X cl ch S' m' ok a w' ->(∀k l,m k=some l->m' k=some l)->(storeVar t ⟨blk,o' +idx*sz+off,none⟩ u).run X.P w= .ok () w' ->Q () S'):
  (a4o bx idx off md xs hole v (.ret ())).post S Q:=by
 unfold a4o;refine⟨λhb=>?_,λ_=>trivial⟩;refine jl λe0 he0=>?_;have he0' :xs[idx]? =some e0:=he0;obtain⟨hel,l,Os,hm',⟨ha,hho⟩,hk⟩:=R.own_barrs hS;rw[hm]at hm';cases hm';obtain⟨rfl,rfl,h3,h7,c,T,hh,hs,hxs⟩:=ha;obtain⟨es,O,hO,he,hr⟩:=hxs idx e0 he0';have hho:a1h hole idx=none\/a1h hole idx=some off:=by
  rcases hole with _|⟨j,o2,o3⟩
  .exact .inl rfl
  .obtain⟨e1,e2⟩:=PZ hb;subst e1;subst e2;exact .inr a2e
 have hho' :∀j,j≠idx->a1h hole j=none:=λj hj=>by
  rcases hole with _|⟨j',o2,o3⟩
  .rfl
  .obtain⟨e1,_⟩:=PZ hb;subst e1;exact p_ hj
 refine WM hp md off hr hho hel λy O1 Old O2 eO hr' hoff=>nJ ?_;have hlt:idx<xs.length:=(X6.1 he0').1;have hes:es.length=md.size:=gX hr;have hu1:=hp.one;have huc:=b0X hu1;obtain⟨hfit,hsp,hnew,hold⟩:=a0v (us:=[u]) (off:=off) hh hs h3 hlt he Z5;have run:=IM hi w (off:=o' +idx*md.size+off) hh (v:=u) (by have:=congrArg List.length huc;simp at this;omega) (by simpa[h1]using hfit) (by rw[huc];simp[hu1]);rw[huc]at run;generalize hw' :w.setRow blk (cO (o' +idx*md.size+off) [u] c.toList).toArray=w' at run hnew hold;have hrow:w'.heap[blk]? =some (.cells (cO (o' +idx*md.size+off) [u] c.toList).toArray T (0,0)):=by subst hw';exact setRow_heap w blk c _ T (0,0) hh
 have hoth:∀b,b≠blk->w'.heap[b]? =w.heap[b]?:=λb hb=>by subst hw';exact setRow_other w blk b _ hb
 have hsize:w'.heap.size=w.heap.size:=by subst hw';simp
 have hos:w'.os=w.os:=by subst hw';rfl
 have htp:w'.tape=w.tape:=by subst hw';rfl
 have hout:w'.output=w.output:=by subst hw';rfl
 have hO1:Os.flatten.Perm ((Os.set idx (O1++O2)).flatten++Old):=Ii (by rw[hO,eO]);have hO2:(Os.set idx (O1++Op++O2)).flatten.Perm ((Os.set idx (O1++O2)).flatten++Op):=by have:=Ii (Os:=Os.set idx (O1++Op++O2)) (i:=idx) (O1:=O1) (P:=Op) (O2:=O2) (by rw[Z9,if_pos rfl,if_pos (by rw[h7];exact hlt)]);rwa[List.set_set]at this
 have hown0:aC m bx (S (bV+bx))=blk::Os.flatten:=by simp[aC,hS,hm,hk]
 have hown1:aC (KA m bx (Os.set idx (O1++Op++O2)).flatten) bx (.barrs md (aU xs idx y) none)=blk::(Os.set idx (O1++Op++O2)).flatten:=by simp[aC,hm]
 have hnd:=R.nd bx;rw[hown0]at hnd;have hnd0:=iF.1 hnd;have hndA:=O7.1 (hO1.nodup_iff.1 hnd0.2);have hfreeOp:∀b∈Op,b∉blk::Os.flatten:=λb hb h=>(hT.free b hb).2.2.2 bx (by rw[hown0];exact h);have hsubA:∀b∈(Os.set idx (O1++O2)).flatten,b∈Os.flatten:=λb hb=>hO1.mem_iff.2 (I5 _ hb);have hneO:∀b∈Os.flatten,b≠blk:=λb hb e=>hnd0.1 (e▸hb);have hneP:∀b∈Op,b≠blk:=λb hb e=>hfreeOp b hb (by simp[e]);have hkeep:∀b t,ok b t->w'.heap[b]? =w.heap[b]?:=λb t hb=>hoth b (λe=>(R.sep bx blk (by rw[hown0];simp)).1 t (e▸hb));have hB:JQ ⟨w'.heap,ok,KA m bx (Os.set idx (O1++Op++O2)).flatten⟩ bx (.barrs md (aU xs idx y) none):=by
  refine a0p (Os:=Os.set idx (O1++Op++O2)) hel hm ⟨rfl,by simp[aU],h3,by simp[h7,aU],_,T,hrow,by simp[hsp];exact hs,λj z hz=>?_⟩ x9 trivial;unfold aU at hz;rw[Z9]at hz;split at hz
  .rename_i hj;subst hj;cases hz;refine⟨_,O1++Op++O2,by rw[Z9,if_pos rfl,if_pos (by rw[h7];exact hlt)],hnew,?_⟩;rw[a8Y l7];refine lL (λ_ _ h=>h) hkeep (λb hb=>hoth b ?_) hr';rcases C9.1 hb with hb|hb
   .rcases C9.1 hb with hb|hb
    .exact hneO b (fG.2 ⟨O,kw hO,by rw[eO];simp[hb]⟩)
    .exact hneP b hb
   .exact hneO b (fG.2 ⟨O,kw hO,by rw[eO];simp[hb]⟩)
  .rename_i hj;obtain⟨es2,O',hO2',he2,hr2⟩:=hxs j z hz;refine⟨es2,O',by rw[Z9,if_neg hj];exact hO2',by rw[←he2];exact hold j (X6.1 hz).1 (λe=>hj e.symm),?_⟩;simp only[b1q];rw[hho' j (λe=>hj e.symm)]at hr2;exact lL (λ_ _ h=>h) hkeep (λb hb=>hoth b (hneO b (fG.2 ⟨O',kw hO2',hb⟩))) hr2
 have hmod:=R.modK hT (n:=bx) (v:=.barrs md (aU xs idx y) none) (ks:=(Os.set idx (O1++Op++O2)).flatten) (w' :=w') (T' :=[]) x9
  (by
   rw[hown1];refine iF.2 ⟨λh=>?_,hO2.nodup_iff.2 (O7.2 ⟨hndA.1,hT.nodup,λx hx z hz e=>?_⟩)⟩
   .rcases C9.1 (hO2.mem_iff.1 h)with h|h
    .exact hnd0.1 (hsubA _ h)
    .exact hneP _ h rfl
   .subst e;exact hfreeOp x hz (by simp[hsubA x hx]))
  (λb hb=>by
   rw[hown1]at hb;rw[hown0];rcases D6.1 hb with hb|hb
   .exact .inl (by simp[hb])
   .rcases C9.1 (hO2.mem_iff.1 hb)with h|h
    .exact .inl (by simp[hsubA _ h])
    .exact .inr h)
  hos htp hout hsize (λb hb=>hoth b (λe=>hb (by rw[hown0,e];simp))) hB fP (λb hb=>by cases hb)
 exact hK _ _ w' hmod.1 (λ_ _ h=>h) run
theorem b4J(H:FxOk X)(R:Rel X cl ch S m ok a w){x y:Operand}(ho:o.op= .store t x y):(dY X.E q o).post S (λ_ S' =>jX X cl ch o a w m ok S'):=by
 unfold dY;simp only[ho];cases hd:o.dst with
 |some d=>trivial|none=>
 refine bU R λp hp=>bU R λv hv=>?_;unfold b7x;refine pq H λi hi=>?_;cases p<;>try trivial
 case ptr bx off=>
  obtain⟨blk,hm,hx⟩:=hp;refine gZ ?_;split<;>try trivial
  rename_i cs hS;obtain⟨blk',arr,T,hm',hh,hl⟩:=R.own_cells hS;simp only at hm hm';rw[hm]at hm';cases hm';refine zo hv λvs hvs=>iL λhlen=>Ja _ _ _ λhle=>nJ ?_;have hlen' :=jU hlen;have hL:=qA hl;have hL2:=qA hvs;have hsz:(a.eval y).cells.size=i.size:=by simp at hL2;omega
  have hown:aC m bx (S (bV+bx))=[blk]:=by simp[aC,hS,hm]
  have hfit:off+i.size<=arr.size:=by simp at hL;omega
  have run:=IM hi w hh (v:=a.eval y) hsz hfit (VB hvs);refine OM ho hd (w' :=w.setRow blk (cO off (a.eval y).cells.toList arr.toList).toArray) (by simp[Instr.storeAt,Instr.sureAddr,hx,run]) ?_ (λ_ _ h=>h) (λ_ _ h=>h);refine R.mod (by rw[hown];simp[aC,hm]) x9 rfl rfl rfl x9 (λb hb=>setRow_other w blk b _ (by rw[hown]at hb;simpa using hb)) ?_;refine⟨blk,_,T,hm,setRow_heap w blk arr _ T (0,0) hh,?_⟩;refine c0V (λb t hb=>setRow_other w blk b _ (λe=>(R.sep bx blk (by rw[hown];simp)).1 t (e▸hb))) ?_;simpa using Ll hvs hl
 case ep bx ix off=>
  obtain⟨blk,o',len,cap,sz,hm,hlt,hx⟩:=hp;simp only at hm;refine gZ ?_;split<;>try trivial
  .rename_i u xs hS;obtain⟨l,hm',ha⟩:=R.own_arr hS;rw[hm]at hm';cases hm';obtain⟨hE0,rfl,rfl,h3,c,T,hh,hs,hxs⟩:=ha;refine jl λe0 he0=>?_;obtain⟨es,he,hr⟩:=hxs ix e0 he0;refine zo hv λvs hvs=>iL λhlen=>Ja _ _ _ λhle=>?_;rw[sQ]at hle;have hlen' :=jU hlen;have hL2:=qA hvs;have hsz:(a.eval y).cells.size=i.size:=by simp at hL2;omega
   have hes:=sV he;have hnew:=Ll (off:=off) hvs (uY (C:=⟨w.heap,ok,m⟩) hr);refine Jg (T:=[]) u R Tk.nil hnew λS1 ok1 y1 q1 us us' R1 T1 k1 s1 e1 h1 l1=>?_;cases q1 with
   |cons _ _=>trivial|nil=>
   simp only[jf]at l1;subst l1;simp only[H6]at e1;subst e1;refine gZ ?_;split<;>try trivial
   rename_i u' xs' hS1;refine iq λe=>?_;subst e;refine nJ ?_;obtain⟨l,hm',ha⟩:=R1.own_arr hS1;rw[hm]at hm';cases hm';obtain⟨_,hszu,hlen2,h3',c',T',hh',hs',hxs'⟩:=ha;rw[hh]at hh';cases hh';have hown:aC m bx (S1 (bV+bx))=[blk]:=by simp[aC,hS1,hm]
   have hvl:(a.eval y).cells.toList.length=i.size:=by simpa using hsz
   obtain⟨hfit,hsp,hnew2,hold⟩:=a0v (us:=(a.eval y).cells.toList) (off:=off) hh hs h3 hlt he (by rw[hvl];omega);have run:=IM hi w (off:=o' +ix*u'.size+off) hh (v:=a.eval y) hsz (by rw[hvl]at hfit;exact hfit) (VB hvs);refine OM ho hd (w' :=w.setRow blk (cO (o' +ix*u'.size+off) (a.eval y).cells.toList c.toList).toArray) (by simp[Instr.storeAt,Instr.sureAddr,hx,run]) ?_ (λ_ _ h=>h) k1;refine R1.mod (by rw[hown];simp[aC,hm]) x9 rfl rfl rfl x9 (λb hb=>setRow_other w blk b _ (by rw[hown]at hb;simpa using hb)) ?_;have hkeep:∀b t,ok1 b t->(w.setRow blk (cO (o' +ix*u'.size+off) (a.eval y).cells.toList c.toList).toArray).heap[b]? =w.heap[b]?:=
    λb t hb=>setRow_other w blk b _ (λe=>(R1.sep bx blk (by rw[hown];simp)).1 t (e▸hb))
   refine⟨_,hm,hE0,rfl,by simp[aU,hlen2],h3,_,T,setRow_heap w blk c _ T (0,0) hh,by simp[hsp];exact hs,λj z hz=>?_⟩;unfold aU at hz;rw[Z9]at hz;split at hz
   .rename_i hj;subst hj;split at hz
    .cases hz;exact⟨_,hnew2,gQ (λ_ _ h=>h) hkeep h1⟩
    .cases hz
   .rename_i hj;obtain⟨es2,he2,hr2⟩:=hxs' j z hz;have hj2:=(X6.1 hz).1;exact⟨_,(hold j (by rw[hlen2];exact hj2) (λe=>hj e.symm)).trans he2,gQ (λ_ _ h=>h) hkeep hr2⟩
  .rename_i md xs hole hS;cases hcd:(md.ownAt off&&Nat.beq i.size 1&&!dN i.td)
   .simp only[cond_false];cases hole with
    |some _=>trivial|none=>
    refine zo hv λvs hvs=>iL λhlen=>jl λe0 he0=>?_;have he0' :xs[ix]? =some e0:=he0;obtain⟨hel,l,Os,hm',⟨ha,hho⟩,hk⟩:=R.own_barrs hS;rw[hm]at hm';cases hm';obtain⟨rfl,rfl,h3,h7,c,T,hh,hs,hxs⟩:=ha;obtain⟨es,O,hO,he,hr⟩:=hxs ix e0 he0';refine Wx md off hr hvs λy1 hle hr' =>nJ ?_;have hes:es.length=md.size:=gX hr;have hlen' :=jU hlen;have hL2:=qA hvs;have hsz:(a.eval y).cells.size=i.size:=by simp at hL2;omega
    have hvl:(a.eval y).cells.toList.length=i.size:=by simpa using hsz
    obtain⟨hfit,hsp,hnew2,hold⟩:=a0v (us:=(a.eval y).cells.toList) (off:=off) hh hs h3 hlt he l7;have run:=IM hi w (off:=o' +ix*md.size+off) hh (v:=a.eval y) hsz (by rw[hvl]at hfit;exact hfit) (VB hvs);have hown:aC m bx (S (bV+bx))=blk::Os.flatten:=by simp[aC,hS,hm,hk]
    have hnd:=R.nd bx;rw[hown]at hnd;have hnd0:=iF.1 hnd;have hneO:∀b∈Os.flatten,b≠blk:=λb hb e=>hnd0.1 (e▸hb);refine OM ho hd (w' :=w.setRow blk (cO (o' +ix*md.size+off) (a.eval y).cells.toList c.toList).toArray) (by simp[Instr.storeAt,Instr.sureAddr,hx,run]) ?_ (λ_ _ h=>h) (λ_ _ h=>h);have hkeep:∀b t,ok b t->(w.setRow blk (cO (o' +ix*md.size+off) (a.eval y).cells.toList c.toList).toArray).heap[b]? =w.heap[b]?:=
     λb t hb=>setRow_other w blk b _ (λe=>(R.sep bx blk (by rw[hown];simp)).1 t (e▸hb))
    refine R.mod (by rw[hown];simp[aC,hm,hk]) x9 rfl rfl rfl x9 (λb hb=>setRow_other w blk b _ (λe=>hb (by rw[hown,e];simp))) ?_;refine a0p (Os:=Os) hel hm ⟨rfl,by simp[aU],h3,by simp[h7,aU],_,T,setRow_heap w blk c _ T (0,0) hh,by simp[hsp];exact hs,λj z hz=>?_⟩ hk trivial;unfold aU at hz;rw[Z9]at hz;split at hz
    .rename_i hj;subst hj;cases hz;exact⟨_,O,hO,hnew2,lL (λ_ _ h=>h) hkeep (λb hb=>setRow_other w blk b _ (hneO b (fG.2 ⟨O,kw hO,hb⟩))) hr'⟩
    .rename_i hj;obtain⟨es2,O2,hO2,he2,hr2⟩:=hxs j z hz;have hj2:=(X6.1 hz).1;exact⟨_,O2,hO2,(hold j l7 (λe=>hj e.symm)).trans he2,lL (λ_ _ h=>h) hkeep (λb hb=>setRow_other w blk b _ (hneO b (fG.2 ⟨O2,kw hO2,hb⟩))) hr2⟩
   .simp only[cond_true];simp only[A8,eH]at hcd;obtain⟨⟨_,hsz1⟩,_⟩:=hcd;have hsz1:=jU hsz1;have fin:∀{S' :Sm} {m' :Mp} {w' :World},Rel X cl ch S' m' ok a w' ->(∀k l,m k=some l->m' k=some l)->(storeVar t ⟨blk,o' +ix*sz+off,none⟩ (a.eval y)).run X.P w= .ok () w' ->jX X cl ch o a w m ok S' :=
     λR' hm' run=>OM ho hd (by simp[Instr.storeAt,Instr.sureAddr,hx,run]) R' hm' (λ_ _ h=>h)
    split
    .have hv' :a.eval y= .slice none 0 0:=hv;exact Yv (Op:=[]) R Tk.nil hi hsz1 hS hm (.inl ⟨rfl,hv',rfl⟩) (λS' m' w' R' h' run=>fin R' h' run)
    .rename_i b2;obtain⟨l2,hm2,hv2⟩:=hv;simp only at hm2;refine gZ ?_;refine iL λharr=>nJ (gZ ?_);split<;>try trivial
     rename_i md2 xs2 hole2 hS2;have T1:=Tk.kill R (T:=[]) Tk.nil b2 (bs:=aC m b2 (S (bV+b2))) (λ_ h=>h) (R.nd b2);rw[G6]at T1;refine Yv (R.kill b2) T1 hi hsz1 hS2 hm ?_ (λS' m' w' R' h' run=>fin R' h' run);cases hb2:S (bV+b2)<;>rw[hb2]at harr<;>try cases harr
     .rename_i t2 ys;obtain⟨l',hm',ha'⟩:=R.own_arr hb2;rw[hm2]at hm';cases hm';refine .inr (.inl ⟨t2,ys,l2,rfl,hv2,PG ha',?_⟩);cases l2<;>first|(simp[aC,hm2,Loc.blks];done)|cases ha'
     .rename_i md3 ys hole3;obtain⟨hel3,l',Os,hm',⟨ha',hho⟩,hk'⟩:=R.own_barrs hb2;rw[hm2]at hm';cases hm';rcases hole3 with _|⟨p1,p2,p3⟩
      .refine .inr (.inr ⟨md3,ys,l2,Os,rfl,hel3,hv2,ha',?_⟩);cases l2<;>first|(simp[aC,hm2,Loc.blks,hk'];done)|cases ha'
      .cases harr
    .trivial
end
end Go.GP
namespace Go.GP
variable {t:TypeId}{q:Nat}{f:Nat}{P:Program}{j:TI}{x:Operand}{sz:Nat}{α:Type}
section
variable {X:Fx} {cl ch:Nat} {S:Sm} {m:Mp} {ok:Nat->Ty->Prop} {a:Act} {w:World} {o:Oper}
theorem LH(H:FxOk X){t f off n:Nat}{ag:Bool}(h:PX X.E t f=some (off,n,ag)):
  ∃fields fld j,X.P.underlying t=some (.struct fields)/\fields[f]? =some fld/\fld.offset=off/\TiOk X.P fld.type j/\j.size=n/\n≠0/\ag=dN j.td:=by
 unfold PX at h;cases hi:gB X.E.tt t with
 |none=>simp[hi]at h|some i=>
  have Hi:=H.tt t i hi;have htd:=Hi.td;simp only[hi]at h;cases hd:i.td<;>simp only[hd]at h<;>try (simp at h;done)
  rename_i fs;rw[hd]at htd;obtain⟨fields,hu,hf⟩:=htd;cases hfs:fs[f]? with
  |none=>simp[hfs]at h|some x=>
   obtain⟨ft,off'⟩:=x;simp only[hfs]at h;cases hj:gB X.E.tt ft with
   |none=>simp[hj]at h|some j=>
    simp only[hj]at h;cases hb:Nat.beq j.size 0
    .simp only[hb,cond_false,O8,mM]at h;obtain⟨rfl,rfl,rfl⟩:=h;rw[←hf]at hfs;simp only[I8,Option.map_eq_some_iff]at hfs;obtain⟨fld,hfl,he⟩:=hfs;simp only[mM]at he;obtain⟨rfl,rfl⟩:=he;refine⟨fields,fld,j,hu,by simpa using hfl,rfl,H.tt _ _ hj,rfl,λe=>?_,rfl⟩;rw[e]at hb;simp at hb
    .simp[hb]at h
theorem QE{t f off:Nat}{fields:Array Field}{fld:Field}(w:World)(hu:P.underlying t=some (.struct fields))(hf:fields[f]? =some fld)(ho:fld.offset=off)
  (hj:TiOk P fld.type j) (hn:j.size≠0) (b p:Nat):(Instr.fieldAt t (.pointer (some ⟨b,p,none⟩)) f).run P w= .ok (.pointer (some ⟨b,p+off,none⟩)) w:=by
 simp[Instr.fieldAt,run_underlying hu,hf,Instr.sureAddr,fieldPlace,uk hj,hn,jc,ho]
theorem a3B(H:FxOk X)(R:Rel X cl ch S m ok a w)(ho:o.op= .fieldAddr t x f):(dY X.E q o).post S (λ_ S' =>jX X cl ch o a w m ok S'):=by
 unfold dY;simp only[ho];refine bU R λp hp=>?_;split<;>try trivial
 rename_i off n ag hfo;obtain⟨fields,fld,j,hu,hf,hoff,hj,hn,hn0,_⟩:=LH H hfo;have hj0:j.size≠0:=l7;cases p<;>try trivial
 case ptr bx o' =>obtain⟨blk,h1,h2⟩:=hp;exact dh H R (v:=.ptr bx (o' +off)) ⟨blk,h1,rfl⟩ (by simp[execOp,ho,h2,QE w hu hf hoff hj hj0])
 case ep bx ix o' =>obtain⟨blk,o2,len,cap,sz,h1,h2,h3⟩:=hp;exact dh H R (v:=.ep bx ix (o' +off)) ⟨blk,o2,len,cap,sz,h1,h2,rfl⟩ (by simp[execOp,ho,h3,QE w hu hf hoff hj hj0,jw])
 case dp u y o' =>obtain⟨blk,o2,es,h1,h2⟩:=hp;exact dh H R (v:=.dp u y (o' +off)) ⟨blk,o2,es,rfl,h2⟩ (by simp[execOp,ho,h1,QE w hu hf hoff hj hj0,jw])
theorem b4G(H:FxOk X)(R:Rel X cl ch S m ok a w)(ho:o.op= .field t x f):(dY X.E q o).post S (λ_ S' =>jX X cl ch o a w m ok S'):=by
 unfold dY;simp only[ho];refine bU R λp hp=>?_;split<;>try trivial
 rename_i off n ag hfo;obtain⟨fields,fld,j,hu,hf,hoff,hj,hn,hn0,rfl⟩:=LH H hfo;refine KE hp λps us hg hl=>Jf λhle=>?_;obtain⟨arr,hx,rfl⟩:=hg;have hL:=qA hl;have hlen:((arr.toList.drop off).take n).length=n:=by simp at hL ⊢;omega
 refine dh H R (Gl (DT n (AU off hl)) (λha=>by rw[hlen,←hn];exact hj.one ha)) ?_;have hpart:(part fld.type arr off).run X.P w= .ok (VU (dN j.td) ((arr.toList.drop off).take n)) w:=by
  unfold part;rw[H8,Je hj.td];simp only[J8];cases ha:dN j.td
  .have h1:=hj.one ha;have hlt:off<arr.size:=by simp at hL;omega
   simp only[dL,if_false,VU];rw[show arr[off]? =some arr[off]from by simp[hlt]];have:n=1:=l7;subst this;simp[List.take_one,hlt]
  .simp only[if_true,VU,H8,uk hj,J8,hn,aI];congr 2;apply lX;simp[pF]
 simp[execOp,ho,hx,Instr.field,run_underlying hu,hf,asAgg,hoff,hpart]
theorem NP(H:FxOk X){t n sz:Nat}(h:NM X.E t=some (false,n,sz)):∃e j,X.P.underlying t=some (.slice e)/\TiOk X.P e j/\j.size=sz:=by
 unfold NM at h;cases hi:gB X.E.tt t with
 |none=>simp[hi]at h|some i=>
  have htd:=(H.tt t i hi).td;simp only[hi]at h;cases hd:i.td<;>simp only[hd]at h<;>try (simp at h;done)
  .rename_i e;rw[hd]at htd;cases hj:gB X.E.tt e with
   |none=>simp[hj]at h|some j=>simp[hj]at h;exact⟨e,j,htd,H.tt _ _ hj,h.2⟩
  .rename_i l e;cases hj:gB X.E.tt e<;>simp[hj]at h
theorem a7v(H:FxOk X){t n sz:Nat}(h:NM X.E t=some (true,n,sz)):∃e j,X.P.underlying t=some (.array n e)/\TiOk X.P e j/\j.size=sz:=by
 unfold NM at h;cases hi:gB X.E.tt t with
 |none=>simp[hi]at h|some i=>
  have htd:=(H.tt t i hi).td;simp only[hi]at h;cases hd:i.td<;>simp only[hd]at h<;>try (simp at h;done)
  .rename_i e;cases hj:gB X.E.tt e<;>simp[hj]at h
  .rename_i l e;rw[hd]at htd;cases hj:gB X.E.tt e with
   |none=>simp[hj]at h|some j=>simp[hj]at h;obtain⟨rfl,h⟩:=h;exact⟨e,j,htd,H.tt _ _ hj,h⟩
theorem Qb{l:List α}{n:Int}{y:α}(h:F9 l n=some y):0<=n/\l[n.toNat]? =some y/\n.toNat<l.length/\n<l.length:=by
 unfold F9 at h;split at h
 .rename_i h0;have:=(X6.1 h).1;exact⟨h0,h,this,l7⟩
 .cases h
theorem zU{t e:TypeId}(w:World)(hu:P.underlying t=some (.slice e))(hj:TiOk P e j){k:IntKind}{n:Int}{b p len cap:Nat}(h0:0<=n)(hlt:n<len):
  (Instr.indexAt t (.slice (some ⟨b,p,none⟩) len cap) (.int k n)).run P w= .ok (.pointer (some ⟨b,p+n.toNat*j.size,none⟩)) w:=by
 simp[Instr.indexAt,asIntOf,run_underlying hu,h0,hlt,uk hj,jc]
theorem VJ{t e:TypeId}(w:World){len:Nat}(hu:P.underlying t=some (.array len e))(hj:TiOk P e j){k:IntKind}{n:Int}{b p:Nat}(h0:0<=n)(hlt:n<len):
  (Instr.indexAt t (.pointer (some ⟨b,p,none⟩)) (.int k n)).run P w= .ok (.pointer (some ⟨b,p+n.toNat*j.size,none⟩)) w:=by
 simp[Instr.indexAt,asIntOf,run_underlying hu,h0,hlt,uk hj,jc,Instr.sureAddr]
theorem NW{w:World}{r:Nat}{es:Array MapEntry}{ck:Nat}(hb:w.heap[r]? =some (.map es ck)):(getObj r).run P w= .ok (.map es ck) w:=by simp[getObj,Sem.run,hb]
theorem QK{u:Ty}(h:szB sz u=true):u.isEnt=false/\sz=u.size:=by
 unfold szB at h;cases hu:u.isEnt<;>rw[hu]at h
 .exact⟨rfl,jU h⟩
 .cases h
theorem b2L{C:Cx}{t:Ty}{xs:List t.den}{l:Loc}{vw:Option (Nat×Nat)}{v:Value}(h0:t.isEnt=false)(ha:arrOk C t xs l)(hv:l.view vw v){i:Nat}{y:t.den}(hy:(kN vw xs)[i]? =some y):
  ∃blk off len cap,l= .arr blk off len cap t.size/\xs[a5A vw+i]? =some y/\∃p c,v= .slice (some ⟨blk,p,none⟩) (kN vw xs).length c/\p+i*t.size=off+(a5A vw+i)*t.size:=by
 cases l with
 |nil=>obtain⟨ha,_⟩:=ha;subst ha;rcases vw with _|⟨lo,hi⟩<;>simp[kN,qo]at hy
 |st b=>cases ha|mp b=>exact absurd ha.1 (by simp[h0])|arr blk off len cap sz=>
  obtain⟨_,rfl,rfl,hc,_⟩:=ha;rcases vw with _|⟨lo,hi⟩
  .simp only[Loc.view]at hv;subst hv;exact⟨blk,off,_,cap,rfl,by simpa[a5A,kN]using hy,off,cap,rfl,by simp[a5A]⟩
  .obtain⟨h1,h2,rfl⟩:=hv;have hl:(kN (some (lo,hi)) xs).length=hi -lo:=by simp[kN,qo];omega
   have hi' :i<hi -lo:=by rw[←hl];exact(X6.1 hy).1
   have hx' :xs[lo+i]? =some y:=by
    simp only[kN,qo,Y7,ae]at hy;split at hy
    .exact hy
    .cases hy
   have hne:cap≠lo:=l7;exact⟨blk,off,_,cap,rfl,hx',off+lo*t.size,cap -lo,by rw[hl];simp[hne],by simp[a5A,P5];omega⟩
theorem a3C(H:FxOk X)(R:Rel X cl ch S m ok a w){x ix:Operand}(ho:o.op= .indexAddr t x ix):(dY X.E q o).post S (λ_ S' =>jX X cl ch o a w m ok S'):=by
 unfold dY;simp only[ho];refine bU R λu hu=>bU R λv hv=>?_;unfold t_;split<;>try trivial
 ·
  rename_i k n l sz hsz;obtain⟨e,j,hut,hj,hjs⟩:=NP H hsz;have hix:=xE hv;cases u<;>try trivial
  case sl u xs=>refine iD λhb=>jl λy hy=>?_;obtain⟨hE0,hb'⟩:=QK hb;obtain⟨h0,hget,hlt,hlt'⟩:=Qb hy;obtain⟨ad,cap,hx,hc,hel⟩:=(Gm hE0).1 hu;simp only[O0,and_true]at hx;obtain⟨blk,off,es,rfl,hok,he,hr⟩:=hel _ y hget;refine dh H R (v:=.dp u y 0) (x:=.pointer (some ⟨blk,off+n.toNat*u.size,none⟩)) ⟨blk,off+n.toNat*u.size,es,rfl,hok,he,hr⟩ ?_;simp[execOp,ho,hx,hix,zU w hut hj h0 hlt',hjs,hb']
  case own bx vw=>
   obtain⟨loc,hm,hview⟩:=hu;refine gZ ?_;split
   .rename_i ln sz' hSl;split<;>try trivial
    refine iL λhb=>⟨λhin=>?_,λ_=>trivial⟩;have hb' :=jU hb;have hin' :=of_decide_eq_true (show decide (0<=n/\n<ln)=true from hin);have hbx:=R.box (Wh+bx);rw[hSl]at hbx;obtain⟨k',l',e,hm',hl⟩:=hbx;have e' :k' =bx:=l7;subst e';simp only at hm hm';rw[hm]at hm';cases hm';cases loc with
    |nil=>simp only at hl;omega|st b=>cases hl|mp b=>cases hl|arr blk off len cap sz2=>obtain⟨rfl,rfl⟩:=hl;simp only[Loc.view]at hview;refine dh H R (v:=.ep k' (V9 n) 0) (x:=.pointer (some ⟨blk,off+n.toNat*sz',none⟩)) ⟨blk,off,len,cap,sz',hm,by unfold V9;omega,rfl⟩ ?_;simp[execOp,ho,hview,hix,zU w hut hj hin'.1 hin'.2,hjs,hb']
   refine gZ ?_;split<;>try trivial
   .rename_i u xs hS;refine iD λhb=>jl λy hy=>?_;obtain⟨hE0,hb'⟩:=QK hb;obtain⟨h0,hget,hlt,hlt'⟩:=Qb hy;obtain⟨loc',hm',ha⟩:=R.own_arr hS;simp only at hm;rw[hm]at hm';cases hm';obtain⟨blk,off,len,cap,rfl,hx2,p,c,hvv,hp⟩:=b2L hE0 ha hview hget;have hlen:=ha.2.2.1;have hlt2:=(X6.1 hx2).1;rw[b8j];refine dh H R (v:=.ep bx (a5A vw+V9 n) 0) (x:=.pointer (some ⟨blk,p+n.toNat*u.size,none⟩)) ⟨blk,off,len,cap,u.size,hm,by rw[hlen];exact hlt2,by rw[hp];rfl⟩ ?_;simp[execOp,ho,hvv,hix,zU w hut hj h0 hlt',hjs,hb']
   .rename_i u xs hS;refine iD λhb=>jl λy hy=>?_;obtain⟨hE0,hb'⟩:=QK hb;obtain⟨h0,hget,hlt,hlt'⟩:=Qb hy;obtain⟨loc',hm',ha,hok⟩:=R.own_frz hS;simp only at hm;rw[hm]at hm';cases hm';obtain⟨ad,cap,hx,hc,hel⟩:=(Gm hE0).1 (uh (C:=⟨w.heap,ok,m⟩) ha hview (λ_ _ h=>h) hok);simp only[O0,and_true]at hx;obtain⟨blk,off,es,rfl,hok',he,hr⟩:=hel _ y hget;refine dh H R (v:=.dp u y 0) (x:=.pointer (some ⟨blk,off+n.toNat*u.size,none⟩)) ⟨blk,off+n.toNat*u.size,es,rfl,hok',he,hr⟩ ?_;simp[execOp,ho,hx,hix,zU w hut hj h0 hlt',hjs,hb']
   .rename_i md xs hole hS;split<;>try trivial
    refine iL λhb=>jl λy hy=>?_;have hb' :=jU hb;obtain⟨h0,hget,hlt,hlt'⟩:=Qb hy;obtain⟨hel,loc',Os,hm',⟨ha,hho⟩,hk⟩:=R.own_barrs hS;simp only at hm;rw[hm]at hm';cases hm';cases loc with
    |st b=>cases ha|mp b=>cases ha|nil=>obtain⟨e1,_⟩:=ha;subst e1;simp at hlt
    |arr blk off len cap sz' =>obtain⟨rfl,rfl,h3,_⟩:=ha;simp only[Loc.view]at hview;refine dh H R (v:=.ep bx (V9 n) 0) (x:=.pointer (some ⟨blk,off+n.toNat*md.size,none⟩)) ⟨blk,off,xs.length,cap,md.size,hm,hlt,rfl⟩ ?_;simp[execOp,ho,hview,hix,zU w hut hj h0 hlt',hjs,hb']
 ·
  rename_i k n l sz hsz;obtain⟨e,j,hut,hj,hjs⟩:=a7v H hsz;have hix:=xE hv;cases u<;>try trivial
  case glob g=>
   cases hg:gB X.E.gl g with
   |none=>simp only[hg];trivial|some p=>
   obtain⟨u,xs⟩:=p;simp only[hg];refine iD λhb=>jl λy hy=>?_;simp only[A8]at hb;have hb1:=jU hb.1;have hb2:=jU hb.2;obtain⟨h0,hget,hlt,hlt'⟩:=Qb hy;obtain⟨hok,_,hel⟩:=R.gl g _ hg;obtain⟨es,he,hr⟩:=hel _ y hget;have hx:a.eval x= .pointer (some ⟨g,0,none⟩):=hu;refine dh H R (v:=.dp u y 0) (x:=.pointer (some ⟨g,0+n.toNat*u.size,none⟩)) ⟨g,n.toNat*u.size,es,x9,hok,he,hr⟩ ?_;have:=VJ w hut hj (k:=k) (b:=g) (p:=0) h0 (by rw[hb2];exact hlt');simp only[hjs,hb1]at this;simp[execOp,ho,hx,hix,this]
theorem b4d{α β:Type}{f:α->β}{args:Array α}{u:β}(h:args.toList.map f=[u]):∃y,args=#[y]/\f y=u:=by obtain⟨l⟩:=args;simp only[List.map_eq_cons_iff,List.map_eq_nil_iff]at h;obtain⟨y,r,h1,h2,h3⟩:=h;subst h3;exact⟨y,by rw[h1],h2⟩
theorem z_{α β:Type}{f:α->β}{args:Array α}{u v:β}(h:args.toList.map f=[u,v]):∃y z,args=#[y,z]/\f y=u/\f z=v:=by obtain⟨l⟩:=args;simp only[List.map_eq_cons_iff,List.map_eq_nil_iff]at h;obtain⟨y,r,h1,h2,z,r',h3,h4,h5⟩:=h;subst h5;subst h3;exact⟨y,z,by rw[h1],h2,h4⟩
theorem c0S(H:FxOk X)(R:Rel X cl ch S m ok a w){c:Call}(ho:o.op= .call c)(hc:c.callee= .builtin .len):(dY X.E q o).post S (λ_ S' =>jX X cl ch o a w m ok S'):=by
 obtain⟨cal,args,ats⟩:=c;simp only at hc;subst hc;unfold dY;simp only[ho];refine pK R _ λvs hvs=>?_;split<;>try trivial
 rename_i t rt x hat
 obtain⟨u,r,he,hx,hr⟩:=hvs;simp only[kK]at hr;subst hr;refine pq H λi hi=>?_;have htd:=hi.td;obtain⟨y,rfl,rfl⟩:=b4d he;have h0:ats[0]? =some t:=by
  obtain⟨l⟩:=ats;simp only at hat
  simp[hat]
 have fin:∀(v:V) (n:Nat),pg ⟨w.heap,ok,m⟩ v (.int .i64 n)->(Builtin.len_ ats o.type #[a.eval y]).run X.P w= .ok (.int .i64 n) w->(gY X.E o.dst v).post S (λ_ S' =>jX X cl ch o a w m ok S'):=λv n hv h=>
  dh H R hv (by simp[execOp,ho,resolve,invoke,builtin,h])
 have mapLen:∀{ke e n:Nat},X.P.underlying t=some (.map ke e)->(∃mv,a.eval y= .map mv/\(mv=none->n=0)/\∀blk,mv=some blk->∃es ck,w.heap[blk]? =some (.map es ck)/\es.size=n)->
   (gY X.E o.dst (.i .i64 n)).post S (λ_ S' =>jX X cl ch o a w m ok S'):=λ{ke e n} hu ⟨mv,hv,h1,h2⟩=>by
  refine fin _ n rfl ?_;cases mv with
  |none=>rw[h1 rfl];simp[Builtin.len_,h0,run_underlying hu,hv,goInt]|some blk=>obtain⟨es,ck,h3,h4⟩:=h2 blk rfl;simp[Builtin.len_,h0,run_underlying hu,hv,goInt,NW h3,h4]
 unfold c3F;split<;>try trivial
 .rename_i l htd';rw[htd']at htd;refine fin _ l.length rfl ?_;simp[Builtin.len_,h0,run_underlying (show X.P.underlying t=some .string from htd),Qx hx,goInt];rfl
 .rename_i e u xs htd';rw[htd']at htd;cases hE0:u.isEnt
  .simp only[cond_false];obtain⟨ad,cap,hv,_⟩:=(Gm hE0).1 hx;simp only[O0,and_true]at hv;refine fin _ xs.length rfl ?_;simp[Builtin.len_,h0,run_underlying (show X.P.underlying t=some (.slice e)from htd),hv,goInt]
  .trivial
 .rename_i ke e u xs htd';rw[htd']at htd;cases hE0:u.isEnt
  .trivial
  .simp only[cond_true];refine mapLen htd ?_;obtain⟨mv,hv,h1,h2⟩:=(a8s hE0).1 hx;exact⟨mv,by simpa using hv,(λe=>by simp[h1 e]),λblk hb=>by obtain⟨_,es,ck,h3,h4,_⟩:=h2 blk hb;exact⟨es,ck,h3,h4⟩⟩
 .rename_i ke e bx htd';rw[htd']at htd;obtain⟨loc,hm,hview⟩:=hx;simp only at hm;refine gZ ?_;have key:∀{u:Ty} {xs:List u.den},u.isEnt=true->arrOk ⟨w.heap,ok,m⟩ u xs loc->(gY X.E o.dst (.i .i64 (o9 xs))).post S (λ_ S' =>jX X cl ch o a w m ok S'):=λ{u xs} hE0 ha=>by
   refine mapLen htd ?_;cases loc with
   |nil=>exact absurd ha.2 (by simp[hE0])|st b=>cases ha|arr blk off len cap sz=>exact absurd ha.1 (by simp[hE0])|mp b=>simp only[Loc.view]at hview;obtain⟨_,es,ck,h3,h4,_⟩:=ha;exact⟨some b,hview,(λh=>nomatch h),λblk hb=>by cases hb;exact⟨es,ck,h3,h4⟩⟩
  split<;>try trivial
  .rename_i u xs hS;obtain⟨loc',hm',ha⟩:=R.own_arr hS;rw[hm]at hm';cases hm';cases hE0:u.isEnt
   .trivial
   .exact key hE0 ha
  .rename_i u xs hS;obtain⟨loc',hm',ha,_⟩:=R.own_frz hS;rw[hm]at hm';cases hm';cases hE0:u.isEnt
   .trivial
   .exact key hE0 ha
 .rename_i e htd';rw[htd']at htd;have hv:a.eval y= .slice none 0 0:=hx;refine fin _ 0 rfl ?_;simp[Builtin.len_,h0,run_underlying (show X.P.underlying t=some (.slice e)from htd),hv,goInt]
 .rename_i e bx vw htd';rw[htd']at htd;obtain⟨loc,hm,hview⟩:=hx;refine gZ ?_;split
  .rename_i ln sz' hSl;split<;>try trivial
   have hbx:=R.box (Wh+bx);rw[hSl]at hbx;obtain⟨k',l',e',hm',hl⟩:=hbx;have e2:k' =bx:=l7;subst e2;simp only at hm hm';rw[hm]at hm';cases hm';cases loc with
   |nil=>simp only at hl;subst hl;simp only[Loc.view]at hview;refine fin _ 0 rfl ?_;simp[Builtin.len_,h0,run_underlying (show X.P.underlying t=some (.slice e)from htd),hview,goInt]|st b=>cases hl|mp b=>cases hl|arr blk off len cap sz2=>obtain⟨rfl,rfl⟩:=hl;simp only[Loc.view]at hview;refine fin _ len rfl ?_;simp[Builtin.len_,h0,run_underlying (show X.P.underlying t=some (.slice e)from htd),hview,goInt]
  refine gZ ?_;have key:∀{u:Ty} {xs:List u.den},u.isEnt=false->arrOk ⟨w.heap,ok,m⟩ u xs loc->(gY X.E o.dst (.i .i64 (o9 (kN vw xs)))).post S (λ_ S' =>jX X cl ch o a w m ok S'):=λ{u xs} hE0 ha=>by obtain⟨ad,cap,hv,_⟩:=(Gm hE0).1 (uh (C:=⟨w.heap,ok,m⟩) (ok' :=λ_ _=>True) ha hview (λ_ _ _=>trivial) (λ_ _=>trivial));simp only[O0,and_true]at hv;refine fin _ (kN vw xs).length rfl ?_;simp[Builtin.len_,h0,run_underlying (show X.P.underlying t=some (.slice e)from htd),hv,goInt]
  split<;>try trivial
  .rename_i u xs hS;obtain⟨loc',hm',ha⟩:=R.own_arr hS;simp only at hm;rw[hm]at hm';cases hm';cases hE0:u.isEnt
   .exact key hE0 ha
   .trivial
  .rename_i u xs hS;obtain⟨loc',hm',ha,_⟩:=R.own_frz hS;simp only at hm;rw[hm]at hm';cases hm';cases hE0:u.isEnt
   .exact key hE0 ha
   .trivial
  .rename_i md xs hole hS;split<;>try trivial
   obtain⟨hel,loc',Os,hm',⟨ha,hho⟩,hk⟩:=R.own_barrs hS;simp only at hm;rw[hm]at hm';cases hm';cases loc with
   |st b=>cases ha|mp b=>cases ha|nil=>obtain⟨e1,_⟩:=ha;subst e1;simp only[Loc.view]at hview;refine fin _ 0 rfl ?_;simp[Builtin.len_,h0,run_underlying (show X.P.underlying t=some (.slice e)from htd),hview,goInt]
   |arr blk off len cap sz' =>obtain⟨rfl,rfl,h3,_⟩:=ha;simp only[Loc.view]at hview;refine fin _ xs.length rfl ?_;simp[Builtin.len_,h0,run_underlying (show X.P.underlying t=some (.slice e)from htd),hview,goInt]
theorem a2w(H:FxOk X)(R:Rel X cl ch S m ok a w){c:Call}(ho:o.op= .call c)(hc:c.callee= .builtin .min\/c.callee= .builtin .max):(dY X.E q o).post S (λ_ S' =>jX X cl ch o a w m ok S'):=by
 obtain⟨cal,args,ats⟩:=c;simp only at hc;rcases hc with rfl|rfl
 all_goals
  unfold dY;simp only[ho];refine pK R _ λvs hvs=>?_;split<;>try trivial
  rename_i k p k' r;obtain⟨u,r',he,hx,v,r'',he',hy,hr⟩:=hvs;simp only[kK]at hr;subst hr;rw[he']at he;refine iD λhk=>?_;have hk' :k=k' :=of_decide_eq_true hk;subst hk';obtain⟨y,z,rfl,rfl,rfl⟩:=z_ he
 .refine dh H R (v:=.i k (ru p r)) rfl ?_;simp[execOp,ho,resolve,invoke,builtin,Builtin.min_,Builtin.min2,xE hx,xE hy,ru]
 .refine dh H R (v:=.i k (pW p r)) rfl ?_;simp[execOp,ho,resolve,invoke,builtin,Builtin.max_,Builtin.max2,xE hx,xE hy,pW]
end
end Go.GP
namespace Go.GP
def Bnd(d:Int)(o:Option Value)(n:Int):Prop:=(o=none/\n=d)\/∃k,o=some (.int k n)
theorem JW{P:Program}{w:World}{isS:Bool}{len cap:Nat}{lo hi:Option Value}{x y:Int}(hlo:Bnd 0 lo x)(hhi:Bnd len hi y)(h0:0<=x)(h1:x<=y)(h2:y<=len)(hc:len<=cap):
  (Instr.sliceBounds isS len cap lo hi none).run P w= .ok (x.toNat,y.toNat,cap) w:=by
 have hyc:y<=cap:=l7;have hy0:0<=y:=l7;have e:((y.toNat:Nat):Int)=y:=l7;rcases hlo with⟨rfl,rfl⟩|⟨k,rfl⟩<;>rcases hhi with⟨rfl,rfl⟩|⟨k',rfl⟩
 .simp[Instr.sliceBounds]
 .simp[Instr.sliceBounds,Instr.sliceBound,asIntOf,hy0,hyc]
 .simp[Instr.sliceBounds,Instr.sliceBound,asIntOf,h0,h1]
 .simp[Instr.sliceBounds,Instr.sliceBound,asIntOf,hy0,hyc,h0,e,h1]
theorem a2m{α:Type}{l r:List α}{x y:Int}(h:Qc l x y=some r):0<=x/\x<=y/\y<=l.length/\r=(l.take y.toNat).drop x.toNat:=by
 unfold Qc at h;split at h
 .rename_i hh;cases h;exact⟨hh.1,hh.2.1,hh.2.2,rfl⟩
 .cases h
theorem a1a(l:d1C)(x y:Nat):(⟨l.toArray⟩:ByteArray).extract x y=⟨((l.take y).drop x).toArray⟩:=by apply ByteArray.ext;apply lX;simp[ByteArray.data_extract,pF,jK]
theorem b8F{h:Array Obj}{ok:Nat->Ty->Prop}{t:Ty}(ht:t.isEnt=false){xs:List t.den}{ad:Option Addr}{cap:Nat}{x y:Nat}(hr:oD h ok (.sl t) xs [.slice ad xs.length cap])(h1:x<=y)(h2:y<=xs.length):
  oD h ok (.sl t) ((xs.take y).drop x) [.slice (if cap=x then ad else ad.map (·.add (x*t.size))) (y -x) (cap -x)]:=by
 obtain⟨ad',cap',e,hc,hel⟩:=(Gm ht).1 hr;simp only[O0,Value.slice.injEq,and_true,true_and]at e;obtain⟨rfl,rfl⟩:=e;have hl:((xs.take y).drop x).length=y -x:=by simp;omega
 refine(Gm ht).2 ⟨_,cap -x,by rw[hl],by rw[hl];omega,λi z hz=>?_⟩;have hi:i<y -x:=by rw[←hl];exact(X6.1 hz).1
 have hz' :xs[x+i]? =some z:=by
  simp only[Y7,ae]at hz;split at hz
  .exact hz
  .cases hz
 obtain⟨blk,off,es,rfl,hb,he,hrp⟩:=hel _ z hz';have hne:cap≠x:=l7;refine⟨blk,off+x*t.size,es,by simp[hne,jc],hb,?_,hrp⟩;rw[←he];congr 1;rw[P5];omega
section
variable {X:Fx} {cl ch:Nat} {S:Sm} {m:Mp} {ok:Nat->Ty->Prop} {a:Act} {w:World} {o:Oper}
theorem zk{C:Cx}{d n:Int}{v:Option V}{u:Option Value}(h:FK d v=some n)(hr:(v=none/\u=none)\/∃c x,v=some c/\u=some x/\pg C c x):Bnd d u n:=by
 rcases hr with⟨rfl,rfl⟩|⟨c,x,rfl,rfl,hr⟩
 .simp[FK]at h;subst h;exact .inl ⟨rfl,rfl⟩
 .cases c<;>simp[FK]at h;subst h;exact .inr ⟨_,by rw[xE hr]⟩
theorem Ls(H:FxOk X)(R:Rel X cl ch S m ok a w){t:TypeId}{x:V}{u:Value}{lo hi:Option V}{lv hv:Option Value}(hx:pg ⟨w.heap,ok,m⟩ x u)
  (hlo:(lo=none/\lv=none)\/∃c y,lo=some c/\lv=some y/\pg ⟨w.heap,ok,m⟩ c y) (hhi:(hi=none/\hv=none)\/∃c y,hi=some c/\hv=some y/\pg ⟨w.heap,ok,m⟩ c y)
  {K:V->Cmd Unit} {Q:Unit->Sm->Prop} (hK:∀v z,pg ⟨w.heap,ok,m⟩ v z->(Instr.sliceAt t u lv hv none).run X.P w= .ok z w->(K v).post S Q):(Xv X.E t x lo hi K).post S Q:=by
 unfold Xv;cases x<;>try trivial
 case s l=>
  refine pq H λi hi' =>?_;have htd:=hi'.td;split<;>try trivial
  rename_i p q htd' hp hq;rw[htd']at htd;refine jl λr hr=>?_;obtain⟨h0,h1,h2,rfl⟩:=a2m hr;have hb:=JW (P:=X.P) (w:=w) (isS:=false) (cap:=l.length) (zk hp hlo) (zk hq hhi) h0 h1 h2 (E9 _);refine hK (.s _) (.string ⟨((l.take q.toNat).drop p.toNat).toArray⟩) rfl ?_;have hus:X.P.underlying t=some .string:=htd;have hs:(⟨l.toArray⟩:ByteArray).size=l.length:=rfl;simp[Instr.sliceAt,run_underlying hus,Instr.slice,Qx hx,hs,hb,a1a]
 case sl v l=>
  dsimp only;split<;>try trivial
  rename_i n sz p q hsz hp hq;obtain⟨e,j,hut,hj,hjs⟩:=NP H hsz;refine iD λhbq=>jl λr hr=>?_;obtain⟨hE0,hbq'⟩:=QK hbq;obtain⟨h0,h1,h2,rfl⟩:=a2m hr;have hx' :oD w.heap ok (.sl v) l [u]:=hx;obtain⟨ad,cap,hu,hc,_⟩:=(Gm hE0).1 hx';simp only[O0,and_true]at hu;subst hu;have hb:=JW (P:=X.P) (w:=w) (isS:=true) (cap:=cap) (zk hp hlo) (zk hq hhi) h0 h1 h2 hc;refine hK (.sl v _) _ (b8F hE0 (x:=p.toNat) (y:=q.toNat) hx' l7 l7) ?_;simp[Instr.sliceAt,run_underlying hut,Instr.slice,hb,uk hj,hjs,hbq']
 case own bx vw=>
  cases vw with
  |some _=>trivial|none=>
  obtain⟨loc,hm,hview⟩:=hx;refine gZ ?_;have key:∀{v:Ty} {xs:List v.den} {n sz:Nat} {p q:Int},arrOk ⟨w.heap,ok,m⟩ v xs loc->NM X.E t=some (false,n,sz)->FK 0 lo=some p->FK (o9 xs) hi=some q->
    (bif szB sz v then Cmd.br (ui p q (o9 xs)) (K (.own bx (some (V9 p,V9 q)))) .fail else .fail).post S Q:=λ{v xs n sz p q} ha hsz hp hq=>by
   obtain⟨e,j,hut,hj,hjs⟩:=NP H hsz;refine iD λhbq=>⟨λhr=>?_,λ_=>trivial⟩;obtain⟨hE0,hbq'⟩:=QK hbq;have hr' :=of_decide_eq_true (show decide (0<=p/\p<=q/\q<=o9 xs)=true from hr);obtain⟨h0,h1,h2⟩:=hr';have h2' :q<=(xs.length:Int):=h2;cases loc with
   |st b=>cases ha|mp b=>exact absurd ha.1 (by simp[hE0])|nil=>
    obtain⟨ha,_⟩:=ha;subst ha;simp only[Loc.view]at hview;subst hview;have h2'' :q<=((0:Nat):Int):=by simpa using h2'
    have hb:=JW (P:=X.P) (w:=w) (isS:=true) (len:=0) (cap:=0) (zk hp hlo) (by have:=zk hq hhi;simpa[o9]using this) h0 h1 h2'' (E9 _);have ep:p=0:=l7;have eq:q=0:=l7;subst ep;subst eq;refine hK (.own bx (some (V9 0,V9 0))) (.slice none 0 0) ⟨.nil,hm,rfl,rfl,rfl⟩ ?_;simp[Instr.sliceAt,run_underlying hut,Instr.slice,hb,uk hj]
   |arr blk off len cap sz' =>
    obtain⟨_,rfl,rfl,hc,_⟩:=ha;simp only[Loc.view]at hview;subst hview;have hb:=JW (P:=X.P) (w:=w) (isS:=true) (cap:=cap) (zk hp hlo) (zk hq hhi) h0 h1 h2' hc;refine hK (.own bx (some (V9 p,V9 q))) _ ⟨_,hm,by unfold V9;omega,by unfold V9;omega,rfl⟩ ?_;have e1:(if cap=p.toNat then some (⟨blk,off,none⟩:Addr)else some ⟨blk,off+p.toNat*v.size,none⟩)=some (if cap=p.toNat then⟨blk,off,none⟩else⟨blk,off+p.toNat*v.size,none⟩):=by split<;>rfl
    simp[Instr.sliceAt,run_underlying hut,Instr.slice,hb,uk hj,hjs,hbq',jc,V9,e1];by_cases ecp:cap=p.toNat<;>simp[ecp]
  split<;>try trivial
  .rename_i v xs hS;obtain⟨loc',hm',ha⟩:=R.own_arr hS;simp only at hm;rw[hm]at hm';cases hm';split<;>try trivial
   rename_i n sz p q hsz hp hq;exact key ha hsz hp hq
  .rename_i v xs hS;obtain⟨loc',hm',ha,_⟩:=R.own_frz hS;simp only at hm;rw[hm]at hm';cases hm';split<;>try trivial
   rename_i n sz p q hsz hp hq;exact key ha hsz hp hq
theorem b4I(H:FxOk X)(R:Rel X cl ch S m ok a w){t:TypeId}{x:Operand}{lo hi:Option Operand}{q:Nat}(ho:o.op= .slice t x lo hi none):(dY X.E q o).post S (λ_ S' =>jX X cl ch o a w m ok S'):=by
 unfold dY;simp only[ho];refine bU R λv hv=>pK R _ λbs hbs=>?_;split<;>try trivial
 .refine Ls H R (lv:=none) (hv:=none) hv (.inl ⟨rfl,rfl⟩) (.inl ⟨rfl,rfl⟩) λr z hr hz=>dh H R hr ?_;simp[execOp,ho,hz]
 .rename_i l c;obtain⟨y,r,he,h1,h2⟩:=hbs;simp only[kK]at h2;subst h2;simp at he;subst he;refine Ls H R (lv:=some (a.eval l)) (hv:=none) hv (.inr ⟨_,_,rfl,rfl,h1⟩) (.inl ⟨rfl,rfl⟩) λr z hr hz=>dh H R hr ?_;simp[execOp,ho,hz]
 .rename_i h c;obtain⟨y,r,he,h1,h2⟩:=hbs;simp only[kK]at h2;subst h2;simp at he;subst he;refine Ls H R (lv:=none) (hv:=some (a.eval h)) hv (.inl ⟨rfl,rfl⟩) (.inr ⟨_,_,rfl,rfl,h1⟩) λr z hr hz=>dh H R hr ?_;simp[execOp,ho,hz]
 .rename_i l h c d;obtain⟨y,r,he,h1,y',r',he',h2,h3⟩:=hbs;simp only[kK]at h3;subst h3;subst he';simp at he;obtain⟨rfl,rfl⟩:=he;refine Ls H R (lv:=some (a.eval l)) (hv:=some (a.eval h)) hv (.inr ⟨_,_,rfl,rfl,h1⟩) (.inr ⟨_,_,rfl,rfl,h2⟩) λr z hr hz=>dh H R hr ?_;simp[execOp,ho,hz]
end
end Go.GP
namespace Go.GP
def fM(h:Array Obj)(ok:Nat->Ty->Prop)(t:Ty)(xs:List t.den)(cs:d1D):Prop:=
 cs.length=xs.length*t.size/\∀i x,xs[i]? =some x->oD h ok t x ((cs.drop (i*t.size)).take t.size)
variable {h:Array Obj}{ok:Nat->Ty->Prop}{t:Ty}
theorem fM.nil :fM h ok t [] []:=⟨x9,λi x hi=>by simp at hi⟩
theorem fM.append{xs ys:List t.den}{cs ds:d1D}(hx:fM h ok t xs cs)(hy:fM h ok t ys ds):fM h ok t (xs++ys) (cs++ds):=by
 refine⟨by simp[hx.1,hy.1,P5],λi x hi=>?_⟩;by_cases hlt:i<xs.length
 .rw[U5 hlt]at hi;have h1:=hx.2 i x hi;have hle:(i+1)*t.size<=cs.length:=by rw[hx.1];exact G9 _ l7
  rw[P5,bZ]at hle;rw[List.drop_append_of_le_length l7,aH Z5];exact h1
 .rw[J4 l7]at hi;have h1:=hy.2 _ x hi;have hle:cs.length<=i*t.size:=by rw[hx.1];exact G9 _ l7
  rw[List.drop_append,dV hle,G6];have:i*t.size -cs.length=(i -xs.length)*t.size:=by rw[hx.1,Nat.sub_mul]
  rw[this];exact h1
variable {cs:d1D}{x:t.den}
theorem fM.one(hr:oD h ok t x cs):fM h ok t [x] cs:=by
 refine⟨by simp[iK hr],λi y hi=>?_⟩;have:i=0:=by have:=(X6.1 hi).1;simp at this;exact this
 subst this;simp at hi;subst hi;have:(List.drop (0*t.size) cs).take t.size=cs:=by simp[←iK hr]
 rw[this];exact hr
variable {xs:List t.den}
theorem fM.mono{h h' :Array Obj}{ok ok' :Nat->Ty->Prop}(hok:∀b t,ok b t->ok' b t)(hh:∀b t,ok b t->h'[b]? =h[b]?)(hr:fM h ok t xs cs):fM h' ok' t xs cs:=
 ⟨hr.1,λi x hi=>gQ hok hh (hr.2 i x hi)⟩
theorem fM.rep_all{h:Array Obj}{ok:Nat->Ty->Prop}{t:Ty}{x:t.den}{cs:d1D}(hr:oD h ok t x cs):∀n,fM h ok t (List.replicate n x) ((List.replicate n cs).flatten)
 |0=>by simpa using fM.nil|n+1=>by have:=(fM.one hr).append (fM.rep_all hr n);simpa[lT]using this
theorem fM.one_cell{h:Array Obj}{ok:Nat->Ty->Prop}{t:Ty} :∀{xs:List t.den} {cs:d1D},fM h ok t xs cs->∀v∈cs,v.oneCell' =true
 |[],cs,hr=>by have:=hr.1;simp at this;simp[this]|x::xs,cs,hr=>by
  intro v hv;have h0:=hr.2 0 x rfl;simp only[Nat.zero_mul,List.drop_zero]at h0;have hl:=hr.1;simp only[H9,P5,bZ]at hl;have hrest:fM h ok t xs (cs.drop t.size):=by refine⟨by simp;omega,λi y hi=>?_⟩;have:=hr.2 (i+1) y (by simpa using hi);rw[aO];rwa[show t.size+i*t.size=(i+1)*t.size by rw[P5];omega]
  rw[←gI t.size cs]at hv;rcases C9.1 hv with hv|hv
  .exact zS h0 v hv
  .exact fM.one_cell hrest v hv
variable {blk:Nat}{off:Nat}{cap:Nat}{C:Cx}
theorem fM.arrOk(h0:t.isEnt=false)(hr:fM C.h C.ok t xs cs){c:Array Value}{T:TypeId}(hb:C.h[blk]? =some (.cells c T (0,0)))
  (hcap:xs.length<=cap) (hfit:off+cap*t.size<=c.size) (he:(c.toList.drop off).take (xs.length*t.size)=cs):Go.GP.arrOk C t xs (.arr blk off xs.length cap t.size):=by
 refine⟨h0,rfl,rfl,hcap,c,T,hb,hfit,λi x hi=>?_⟩;have hlt:=(X6.1 hi).1;have hle:(i+1)*t.size<=xs.length*t.size:=G9 _ l7;rw[P5,bZ]at hle;have hle2:xs.length*t.size<=cap*t.size:=G9 _ hcap;refine⟨_,qQ hb _ _ l7,?_⟩;have h1:=hr.2 i x hi;rw[←he,jK,iR,aO]at h1;rwa[eX l7]at h1
theorem Wp{blk off len cap sz:Nat}(h:arrOk C t xs (.arr blk off len cap sz)):
  ∃c T,C.h[blk]? =some (.cells c T (0,0))/\sz=t.size/\len=xs.length/\len<=cap/\off+cap*sz<=c.size/\fM C.h C.ok t xs ((c.toList.drop off).take (len*sz)):=by
 obtain⟨_,rfl,rfl,h3,c,T,hb,hf,hx⟩:=h;refine⟨c,T,hb,rfl,rfl,h3,hf,?_,λi x hi=>?_⟩
 .have:xs.length*t.size<=cap*t.size:=G9 _ h3;simp;omega
 .obtain⟨es,he,hr⟩:=hx i x hi;obtain⟨c',T',f',hb',hn',rfl⟩:=zn he;rw[hb]at hb';cases hb';have hlt:=(X6.1 hi).1;have hle:(i+1)*t.size<=xs.length*t.size:=G9 _ l7;rw[P5,bZ]at hle;rw[jK,iR,aO,eX l7];exact hr
def Ad(h:Array Obj)(ok:Nat->Ty->Prop)(m:M)(xs:List m.den)(cs:d1D)(Os:List d1B):Prop:=
 cs.length=xs.length*m.size/\Os.length=xs.length/\∀i x,xs[i]? =some x->∃O,Os[i]? =some O/\sH h ok m none x ((cs.drop (i*m.size)).take m.size) O
theorem Ad.nil{m:M} :Ad h ok m [] [] []:=⟨x9,rfl,λi x hi=>by simp at hi⟩
theorem Ad.append{t:M}{xs ys:List t.den}{cs ds:d1D}{Os Ps:List d1B}(hx:Ad h ok t xs cs Os)(hy:Ad h ok t ys ds Ps):Ad h ok t (xs++ys) (cs++ds) (Os++Ps):=by
 refine⟨by simp[hx.1,hy.1,P5],by simp[hx.2.1,hy.2.1],λi x hi=>?_⟩;by_cases hlt:i<xs.length
 .rw[U5 hlt]at hi;obtain⟨O,hO,h1⟩:=hx.2.2 i x hi;have hle:(i+1)*t.size<=cs.length:=by rw[hx.1];exact G9 _ l7
  rw[P5,bZ]at hle;rw[List.drop_append_of_le_length l7,aH Z5];exact⟨O,by rw[U5 (by rw[hx.2.1];exact hlt)];exact hO,h1⟩
 .rw[J4 l7]at hi;obtain⟨O,hO,h1⟩:=hy.2.2 _ x hi;have hle:cs.length<=i*t.size:=by rw[hx.1];exact G9 _ l7
  rw[List.drop_append,dV hle,G6];have:i*t.size -cs.length=(i -xs.length)*t.size:=by rw[hx.1,Nat.sub_mul]
  rw[this];exact⟨O,by rw[J4 (by rw[hx.2.1];omega),hx.2.1];exact hO,h1⟩
theorem Ad.one{t:M}{x:t.den}{O:d1B}(hr:sH h ok t none x cs O):Ad h ok t [x] cs [O]:=by
 refine⟨by simp[gX hr],rfl,λi y hi=>?_⟩;have:i=0:=by have:=(X6.1 hi).1;simp at this;exact this
 subst this;simp at hi;subst hi;have:(List.drop (0*t.size) cs).take t.size=cs:=by simp[←gX hr]
 rw[this];exact⟨O,rfl,hr⟩
variable {Os:List d1B}
theorem Ad.mono{h h' :Array Obj}{ok ok' :Nat->Ty->Prop}{t:M}{xs:List t.den}(hok:∀b t,ok b t->ok' b t)(hh:∀b t,ok b t->h'[b]? =h[b]?)(hO:∀b∈Os.flatten,h'[b]? =h[b]?)(hr:Ad h ok t xs cs Os):Ad h' ok' t xs cs Os:=
 ⟨hr.1,hr.2.1,λi x hi=>by obtain⟨O,h1,h2⟩:=hr.2.2 i x hi;exact⟨O,h1,lL hok hh (λb hb=>hO b (fG.2 ⟨O,kw h1,hb⟩)) h2⟩⟩
theorem Ad.rep_all{h:Array Obj}{ok:Nat->Ty->Prop}{t:M}{x:t.den}{cs:d1D}(hr:sH h ok t none x cs []):∀n,Ad h ok t (List.replicate n x) ((List.replicate n cs).flatten) (List.replicate n [])
 |0=>by simpa using Ad.nil|n+1=>by have:=(Ad.one hr).append (Ad.rep_all hr n);simpa[lT]using this
theorem Ad.one_cell{h:Array Obj}{ok:Nat->Ty->Prop}{t:M} :∀{xs:List t.den} {cs:d1D} {Os:List d1B},Ad h ok t xs cs Os->∀v∈cs,v.oneCell' =true
 |[],cs,_,hr=>by have:=hr.1;simp at this;simp[this]|x::xs,cs,Os,hr=>by
  intro v hv;obtain⟨O,hO,h0⟩:=hr.2.2 0 x rfl;simp only[Nat.zero_mul,List.drop_zero]at h0;have hl:=hr.1;simp only[H9,P5,bZ]at hl;have hl2:=hr.2.1;simp only[H9]at hl2;have hrest:Ad h ok t xs (cs.drop t.size) (Os.drop 1):=by refine⟨by simp;omega,by simp;omega,λi y hi=>?_⟩;obtain⟨O',hO',this⟩:=hr.2.2 (i+1) y (by simpa using hi);rw[aO];refine⟨O',by rw[Y7,Nat.add_comm];exact hO',?_⟩;rwa[show t.size+i*t.size=(i+1)*t.size by rw[P5];omega]
  rw[←gI t.size cs]at hv;rcases C9.1 hv with hv|hv
  .exact yC h0 v hv
  .exact Ad.one_cell hrest v hv
theorem Ad.arrs{t:M}{xs:List t.den}(hr:Ad h ok t xs cs Os){c:Array Value}{T:TypeId}(hb:h[blk]? =some (.cells c T (0,0)))
  (hcap:xs.length<=cap) (hfit:off+cap*t.size<=c.size) (he:(c.toList.drop off).take (xs.length*t.size)=cs):Ho h t.size (λ_ x es O=>sH h ok t none x es O) xs Os (.arr blk off xs.length cap t.size):=by
 refine⟨rfl,rfl,hcap,hr.2.1,c,T,hb,hfit,λi x hi=>?_⟩;have hlt:=(X6.1 hi).1;have hle:(i+1)*t.size<=xs.length*t.size:=G9 _ l7;rw[P5,bZ]at hle;have hle2:xs.length*t.size<=cap*t.size:=G9 _ hcap;obtain⟨O,hO,h1⟩:=hr.2.2 i x hi;refine⟨_,O,hO,qQ hb _ _ l7,?_⟩;rw[←he,jK,iR,aO]at h1;rwa[eX l7]at h1
theorem a4G{t:M}{xs:List t.den}{blk off len cap sz:Nat}(k:Ho h t.size (λ_ x es O=>sH h ok t none x es O) xs Os (.arr blk off len cap sz)):
  ∃c T,h[blk]? =some (.cells c T (0,0))/\sz=t.size/\len=xs.length/\len<=cap/\off+cap*sz<=c.size/\Ad h ok t xs ((c.toList.drop off).take (len*sz)) Os:=by
 obtain⟨rfl,rfl,h3,h7,c,T,hb,hf,hx⟩:=k;refine⟨c,T,hb,rfl,rfl,h3,hf,?_,h7,λi x hi=>?_⟩
 .have:xs.length*t.size<=cap*t.size:=G9 _ h3;simp;omega
 .obtain⟨es,O,hO,he,hr⟩:=hx i x hi;obtain⟨c',T',f',hb',hn',rfl⟩:=zn he;rw[hb]at hb';cases hb';have hlt:=(X6.1 hi).1;have hle:(i+1)*t.size<=xs.length*t.size:=G9 _ l7;rw[P5,bZ]at hle;rw[jK,iR,aO,eX l7];exact⟨O,hO,hr⟩
theorem b3r{α β:Type}(e:α=β)(e' :List α=List β):cast e' []=[]:=by subst e;rfl
theorem a0Y{h:Array Obj}{ok:Nat->Ty->Prop}{C:Cx} :∀(m:M) (he:m.el=true) {zs:List V} {cs r:d1D},oD h ok m.ty m.ty.zero cs->jf C zs (cs++r)->Ya m zs=true->sH h ok m none (m.zero he) cs []
 | .dat t,_,_,_,_,hr,_,_=>⟨hr,rfl⟩| .unit,_,_,_,_,hr,_,_=>⟨hr,rfl⟩| .own t,he,zs,cs,r,hr,hz,hn=>by
  have ht:t.isEnt=false:=by simpa[M.el]using he
  obtain⟨a,cap,rfl,_⟩:=(Gm ht).1 hr;unfold Ya at hn;split at hn
  .obtain⟨v,r',e,h1,_⟩:=hz;simp only[aG,G6,O0]at e;obtain⟨rfl,rfl⟩:=e;exact⟨_,rfl,rfl,.nil,h1,⟨rfl,ht⟩,rfl⟩
  .cases hn
 | .owns t,he,zs,cs,r,hr,hz,hn=>by
  obtain⟨a,cap,rfl,_⟩:=(Gm (M.ty_ent (m:=t) (by simpa[M.el]using he))).1 hr;unfold Ya at hn;split at hn
  .obtain⟨v,r',e,h1,_⟩:=hz;simp only[aG,G6,O0]at e;obtain⟨rfl,rfl⟩:=e;have he' :t.el=true:=by simpa[M.el]using he
   refine DU.2 ⟨he',.nil,_,[],rfl,h1,⟨?_,rfl⟩,rfl⟩;exact b3r (M.denEq t he').symm _
  .cases hn
 | .pair p q,he,zs,cs,r,hr,hz,hn=>by
  obtain⟨c,d,rfl,h1,h2⟩:=hr;have he' :p.el=true/\q.el=true:=by simpa[M.el]using he
  have hp:=iK h1;rw[M.ty_size he'.1]at hp;unfold Ya at hn;split at hn
  .rename_i r' hd;obtain⟨_,rfl⟩:=ZW _ _ _ hd;cases hb:Ya p zs<;>rw[hb]at hn
   .cases hn
   .have a1:=a0Y p he'.1 (r:=d++r) h1 (by simpa using hz) hb;have hz' :=AU p.size hz;rw[show(c++d++r).drop p.size=d++r by rw[←hp,G5,List.drop_left]]at hz';have a2:=a0Y q he'.2 (r:=r) h2 hz' hn;refine⟨c,d,[],[],rfl,rfl,?_,?_⟩
    .have:=Ws (M.denEq p he'.1).symm (M.denEq q he'.2).symm (M.denEq (.pair p q) he).symm (p.ty.zero,q.ty.zero);exact(congrArg (λz:p.den×q.den=>sH h ok p none z.1 c []) this).mpr a1
    .have:=Ws (M.denEq p he'.1).symm (M.denEq q he'.2).symm (M.denEq (.pair p q) he).symm (p.ty.zero,q.ty.zero);exact(congrArg (λz:p.den×q.den=>sH h ok q none z.2 d []) this).mpr a2
  .cases hn
 | .box _,he,_,_,_,_,_,_=>by simp[M.el]at he| .ownb _,he,_,_,_,_,_,_=>by simp[M.el]at he| .cell _,he,_,_,_,_,_,_=>by simp[M.el]at he| .rp _,he,_,_,_,_,_,_=>by simp[M.el]at he| .fn _ _,he,_,_,_,_,_,_=>by simp[M.el]at he| .ifc _ _,he,_,_,_,_,_,_=>by simp[M.el]at he
theorem Qd(z:Array Value):∀n,(madeCells z (n*z.size)).toList=(List.replicate n z.toList).flatten:=by
 intro n;rcases jS z.size with h0|h0
 .have:z=#[]:=by simpa using h0
  subst this;simp[madeCells]
 induction n with
 |zero=>simp[madeCells]|succ n ih=>
  rw[List.replicate_succ',lS,←ih];simp only[madeCells,uu,Array.toList_range,List.flatten_cons,List.flatten_nil,H6];rw[P5,bZ,List.range_add,bY,qL];congr 1;apply oQ
  .simp
  .intro i h1 h2;simp at h1 h2;simp[Nat.mod_eq_of_lt h1,Nat.add_mod,h1,getElem!_pos]
theorem Jo{E:Env}{t e:Nat}{u:Ty}(h:Hq E t=some (e,u)):u.isEnt=false:=by
 unfold Hq at h;split at h<;>try (cases h;done)
 split at h<;>try (cases h;done)
 split at h<;>try (cases h;done)
 split at h<;>try (cases h;done)
 rename_i u' _;cases hu:u'.isEnt
 .revert h;generalize (Nat.beq _ _&&Nat.ble _ _)=b;cases b<;>simp[hu];rintro _ rfl;exact hu
 .simp[hu]at h
theorem zx{X:Fx}(H:FxOk X){t e:Nat}{u:Ty}(h:Hq X.E t=some (e,u)):
  ∃j z inf,X.P.underlying t=some (.slice e)/\TiOk X.P e j/\X.P.info? e=some inf/\inf.size=u.size/\j.size=u.size/\inf.bytes<=65536/\inf.zero=some z/\oD #[] (λ_ _=>False) u u.zero z.cells.toList:=by
 unfold Hq at h;cases hi:gB X.E.tt t with
 |none=>simp[hi]at h|some i=>
  have htd:=(H.tt t i hi).td;simp only[hi]at h;cases hd:i.td<;>simp only[hd]at h<;>try (simp at h;done)
  rename_i e';rw[hd]at htd;cases hj:gB X.E.tt e' with
  |none=>simp[hj]at h|some j=>
   simp only[hj]at h;cases hy:j.ty with
   |none=>simp[hy]at h|some u' =>
    simp only[hy]at h;cases hb:(Nat.beq u'.size j.size&&Nat.ble j.bytes 65536&&!u'.isEnt)
    .simp only[hb,cond_false]at h;cases h
    .simp only[hb,cond_true,O8,mM]at h;obtain⟨rfl,rfl⟩:=h;simp only[A8]at hb;have h1:=jU hb.1.1;have h2:=ax hb.1.2;obtain⟨inf,a1,a2,a3,a4,a5⟩:=(H.tt e' j hj).info;obtain⟨b1,z,b2,b3⟩:=a5 u' hy;exact⟨j,z,inf,htd,H.tt _ _ hj,a1,l7,l7,l7,b2,b3⟩
variable {q:Nat}{w1:World}{T:d1B}
section
variable {X:Fx} {cl ch:Nat} {S:Sm} {m:Mp} {ok:Nat->Ty->Prop} {a:Act} {w:World} {o:Oper}
theorem a2H(h:oD #[] (λ_ _=>False) t x cs):oD C.h C.ok t x cs:=
 gQ (λ_ _ h=>h.elim) (λ_ _ h=>h.elim) h
theorem JA(H:FxOk X){v vv:V}{Q:Unit->Sm->Prop}
  (hK:∀n,n=V7 q o.dst->CB*q<=n->n+64<=CB*q+CB->S (bV+n)= .undef->(gY X.E o.dst vv).post (upd S (bV+n) v) Q):
  (Bo (V7 q o.dst) v (gY X.E o.dst vv)).post S Q:=by
 refine Aq λhn=>?_;cases hd:o.dst with
 |none=>have hin:=vZ H (q:=q) none (λt h=>by cases h);rw[hd]at hn;have:=hK (V7 q none) (by rw[hd]) hin.1 hin.2 hn;rwa[hd]at this|some t=>
  cases hb:a2u X.E t with
  |false=>unfold gY;simp only[hb,cond_false];trivial|true=>have hin:=vZ H (q:=q) (some t) (λt' h=>by cases h;exact(Gh hb).1);rw[hd]at hn;have:=hK (V7 q (some t)) (by rw[hd]) hin.1 hin.2 hn;rwa[hd]at this
theorem b1F(H:FxOk X){v vv u:V}{Q:Unit->Sm->Prop}
  (hK:∀n,n=V7 q o.dst->CB*q<=n->n+64<=CB*q+CB->S (bV+n)= .undef->(Cmd.set (bV+(Wh+n)) u (gY X.E o.dst vv)).post (upd S (bV+n) v) Q):
  (Bo (V7 q o.dst) v (.set (bV+(Wh+V7 q o.dst)) u (gY X.E o.dst vv))).post S Q:=by
 refine Aq λhn=>?_;cases hd:o.dst with
 |none=>have hin:=vZ H (q:=q) none (λt h=>by cases h);rw[hd]at hn;have:=hK (V7 q none) (by rw[hd]) hin.1 hin.2 hn;rwa[hd]at this|some t=>
  cases hb:a2u X.E t with
  |false=>refine nJ ?_;unfold gY;simp only[hb,cond_false];trivial|true=>have hin:=vZ H (q:=q) (some t) (λt' h=>by cases h;exact(Gh hb).1);rw[hd]at hn;have:=hK (V7 q (some t)) (by rw[hd]) hin.1 hin.2 hn;rwa[hd]at this
theorem a7V(R:Rel X cl ch S m ok a w)(hos:w1.os=w.os)(htp:w1.tape=w.tape)(hout:w1.output=w.output)(hh:w1.heap=w.heap)
  {u:Ty} (ht:u.isEnt=false) {xs:List u.den} {cs:d1D} {e:TypeId} {c:Array Value} {cap n:Nat} (hr:fM w.heap ok u xs cs)
  (hcap:xs.length<=cap) (hfit:cap*u.size<=c.size) (he:c.toList.take (xs.length*u.size)=cs) (hcl:cl<=n) (hch:n<ch) (hn:S (bV+n)= .undef):
  Rel X cl ch (upd S (bV+n) (.barr u xs)) (qh m n (.arr w.heap.size 0 xs.length cap u.size) []) ok a (w1.alloc (.cells c e)):=by
 have R1:Rel X cl ch S m ok a w1:=R.same hos htp hout hh;have hblk:(w1.alloc (.cells c e)).heap[w.heap.size]? =some (.cells c e (0,0)):=by rw[←hh];exact heap_alloc_new w1 _
 refine R1.new hn hcl hch x9 (by simp[aC,hh]) ⟨_,fE _ _ _ _,?_⟩;refine fM.arrOk (cs:=cs) ht (hr.mono (λ_ _ h=>h) (λb t hb=>?_)) hblk hcap l7 (by simpa using he);have:=R.okLt b t hb;show(w1.heap.push (.cells c e))[b]? =_;rw[hh];exact BF _ _ this
theorem Ru(H:FxOk X)(R:Rel X (CB*q) (CB*q+CB) S m ok a w)(hos:w1.os=w.os)(htp:w1.tape=w.tape)(hout:w1.output=w.output)(hh:w1.heap=w.heap)
  {u:Ty} (ht:u.isEnt=false) {xs:List u.den} {cs:d1D} {e:TypeId} {c:Array Value} {cap:Nat} (hr:fM w.heap ok u xs cs)
  (hcap:xs.length<=cap) (hfit:cap*u.size<=c.size) (he:c.toList.take (xs.length*u.size)=cs) {w0:World} {m0:Mp} {ok0:Nat->Ty->Prop} (hm:∀k l,m0 k=some l->m k=some l) (hok:∀b t,ok0 b t->ok b t)
  (run:(execOp a.eval o).run X.P w0= .ok (.value (.slice (some ⟨w.heap.size,0,none⟩) xs.length cap)) (w1.alloc (.cells c e))):
  (Bo (V7 q o.dst) (.barr u xs) (gY X.E o.dst (.own (V7 q o.dst) none))).post S (λ_ S' =>jX X (CB*q) (CB*q+CB) o a w0 m0 ok0 S'):=by
 refine JA H λn e1 h1 h2 hn=>?_;rw[←e1];clear e1;generalize CB*q=Z at*;have R' :=a7V R hos htp hout hh ht (e:=e) hr hcap hfit he h1 (by show n<Z+1000000;change n+64<=Z+1000000 at h2;omega) hn;refine xK H R' (λk l h=>?_) hok ⟨_,fE _ _ _ _,rfl⟩ run;by_cases ek:k=n
 .subst ek;have:=R.fresh k h1 hn;have h3:=hm _ _ h;rw[this]at h3;cases h3
 .rw[lC _ _ _ ek];exact hm _ _ h
theorem XX(R:Rel X cl ch S m ok a w)(hT:Tk X S m ok w T)(hos:w1.os=w.os)(htp:w1.tape=w.tape)(hout:w1.output=w.output)(hh:w1.heap=w.heap)
  {md:M} (hel:md.el=true) {xs:List md.den} {cs:d1D} {Os:List d1B} {e:TypeId} {c:Array Value} {cap n:Nat} (hr:Ad w.heap ok md xs cs Os) (hnd:Os.flatten.Nodup) (hO:∀b∈Os.flatten,b∈T)
  (hcap:xs.length<=cap) (hfit:cap*md.size<=c.size) (he:c.toList.take (xs.length*md.size)=cs) (hcl:cl<=n) (hch:n<ch) (hn:S (bV+n)= .undef):
  Rel X cl ch (upd S (bV+n) (.barrs md xs none)) (qh m n (.arr w.heap.size 0 xs.length cap md.size) Os.flatten) ok a (w1.alloc (.cells c e)):=by
 have R1:Rel X cl ch S m ok a w1:=R.same hos htp hout hh;have T1:Tk X S m ok w1 T:=⟨hT.nodup,λb hb=>by rw[hh];exact hT.free b hb⟩;have hblk:(w1.alloc (.cells c e)).heap[w.heap.size]? =some (.cells c e (0,0)):=by rw[←hh];exact heap_alloc_new w1 _
 have hold:∀b,b<w.heap.size->(w1.alloc (.cells c e)).heap[b]? =w.heap[b]?:=λb hb=>by show(w1.heap.push (.cells c e))[b]? =_;rw[hh];exact BF _ _ hb
 refine R1.newK T1 hn hcl hch x9 (by simp[aC,hh]) hnd hO ⟨hel,_,Os,fE _ _ _ _,?_,x9⟩;exact⟨Ad.arrs (cs:=cs) (hr.mono (λ_ _ h=>h) (λb t hb=>hold b (R.okLt b t hb)) (λb hb=>hold b (hT.free b (hO b hb)).2.1)) hblk hcap l7 (by simpa using he),trivial⟩
theorem P_(H:FxOk X)(R:Rel X (CB*q) (CB*q+CB) S m ok a w)(hT:Tk X S m ok w T)(hos:w1.os=w.os)(htp:w1.tape=w.tape)(hout:w1.output=w.output)(hh:w1.heap=w.heap)
  {md:M} (hel:md.el=true) {xs:List md.den} {cs:d1D} {Os:List d1B} {e:TypeId} {c:Array Value} {cap:Nat} (hr:Ad w.heap ok md xs cs Os) (hnd:Os.flatten.Nodup) (hO:∀b∈Os.flatten,b∈T)
  (hcap:xs.length<=cap) (hfit:cap*md.size<=c.size) (he:c.toList.take (xs.length*md.size)=cs) {w0:World} {m0:Mp} {ok0:Nat->Ty->Prop} (hm:∀k l,m0 k=some l->m k=some l) (hok:∀b t,ok0 b t->ok b t)
  (run:(execOp a.eval o).run X.P w0= .ok (.value (.slice (some ⟨w.heap.size,0,none⟩) xs.length cap)) (w1.alloc (.cells c e))):
  (Bo (V7 q o.dst) (.barrs md xs none) (gY X.E o.dst (.own (V7 q o.dst) none))).post S (λ_ S' =>jX X (CB*q) (CB*q+CB) o a w0 m0 ok0 S'):=by
 refine JA H λn e1 h1 h2 hn=>?_;rw[←e1];clear e1;generalize CB*q=Z at*;have R' :=XX R hT hos htp hout hh (e:=e) hel hr hnd hO hcap hfit he h1 (by show n<Z+1000000;change n+64<=Z+1000000 at h2;omega) hn;refine xK H R' (λk l h=>?_) hok ⟨_,fE _ _ _ _,rfl⟩ run;by_cases ek:k=n
 .subst ek;have:=R.fresh k h1 hn;have h3:=hm _ _ h;rw[this]at h3;cases h3
 .rw[lC _ _ _ ek];exact hm _ _ h
theorem a5M(H:FxOk X)(R:Rel X (CB*q) (CB*q+CB) S m ok a w)(hT:Tk X S m ok w T)(hos:w1.os=w.os)(htp:w1.tape=w.tape)(hout:w1.output=w.output)(hh:w1.heap=w.heap)
  {md:M} (hel:md.el=true) {xs:List md.den} {cs:d1D} {Os:List d1B} {e:TypeId} {c:Array Value} {cap:Nat} (hr:Ad w.heap ok md xs cs Os) (hnd:Os.flatten.Nodup) (hO:∀b∈Os.flatten,b∈T)
  (hcap:xs.length<=cap) (hfit:cap*md.size<=c.size) (he:c.toList.take (xs.length*md.size)=cs) {w0:World} {m0:Mp} {ok0:Nat->Ty->Prop} (hm:∀k l,m0 k=some l->m k=some l) (hok:∀b t,ok0 b t->ok b t)
  (run:(execOp a.eval o).run X.P w0= .ok (.value (.slice (some ⟨w.heap.size,0,none⟩) xs.length cap)) (w1.alloc (.cells c e))):
  (Bo (V7 q o.dst) (.barrs md xs none) (.set (bV+(Wh+V7 q o.dst)) (.blen (o9 xs) md.size) (gY X.E o.dst (.own (V7 q o.dst) none)))).post S (λ_ S' =>jX X (CB*q) (CB*q+CB) o a w0 m0 ok0 S'):=by
 refine b1F H λn e1 h1 h2 hn=>?_;refine nJ ?_;rw[←e1];clear e1;generalize CB*q=Z at*;have R' :=XX R hT hos htp hout hh (e:=e) hel hr hnd hO hcap hfit he h1 (by show n<Z+1000000;change n+64<=Z+1000000 at h2;omega) hn;refine xK H (R'.mark (oG _ _ _)) (λk l h=>?_) hok ⟨_,fE _ _ _ _,rfl⟩ run;by_cases ek:k=n
 .subst ek;have:=R.fresh k h1 hn;have h3:=hm _ _ h;rw[this]at h3;cases h3
 .rw[lC _ _ _ ek];exact hm _ _ h
theorem a3D(H:FxOk X)(R:Rel X (CB*q) (CB*q+CB) S m ok a w){t:TypeId}{l c:Operand}(ho:o.op= .makeSlice t l c):(dY X.E q o).post S (λ_ S' =>jX X (CB*q) (CB*q+CB) o a w m ok S'):=by
 unfold dY;simp only[ho];split
 .rename_i md hom;split<;>try trivial
  rename_i e u het;obtain⟨j,z,inf,hu,hj,h1,h2,h3,h4,h5,h6⟩:=zx H het;have hz:=iK h6;refine bU R λv hv=>?_;split<;>try trivial
  rename_i k n;refine iL λhc=>?_;simp only[A8]at hc;obtain⟨⟨hs,hsz⟩,hza⟩:=hc;split<;>try trivial
  rename_i hel;obtain⟨hel,rfl⟩:=hel;refine jl λxs hxs=>?_;have hec:a.eval c=a.eval l:=by
   unfold a0z at hs;split at hs
   .have:=jU hs;subst this;rfl
   .cases hs
  unfold pX at hxs;split at hxs
  .rename_i hh;cases hxs;have e1:=xE hv;have e2:=hec.trans e1;have hms:=M.ty_size hel;have hby:(inf.bytes:Int)*n<=65536*1073741824:=by
    have:inf.bytes*n.toNat<=65536*1073741824:=Nat.mul_le_mul h4 l7;have e:(n.toNat:Int)=n:=l7;rw[←e,←vG];generalize inf.bytes*n.toNat=p at*;omega
   have hrun:=run_make (P:=X.P) w t e inf z hu h1 h5 k k n n hh.1 (aX _) l7 l7;have hflat:=Qd z.cells n.toNat
   have hzs:z.cells.size=md.ty.size:=by simpa using hz
   have hzero:sH w.heap ok md none (md.zero hel) z.cells.toList []:=by
    unfold b0K at hza;rw[het]at hza;simp only at hza;cases hj2:gB X.E.tt e with
    |none=>rw[hj2]at hza;cases hza|some j2=>
     rw[hj2]at hza;simp only at hza;cases hb:Nat.beq j2.zero.length j2.size<;>rw[hb]at hza
     .cases hza
     .obtain⟨inf2,a1,a2,a3,a4,a5⟩:=(H.tt e j2 hj2).info;rw[h1]at a1;cases a1;obtain⟨z2,b1,b2⟩:=a4 (jU hb);rw[h5]at b1;cases b1;exact a0Y md hel (r:=[]) (a2H (C:=⟨w.heap,ok,m⟩) h6) (by simpa using b2) hza
   refine a5M H R (T:=[]) Tk.nil rfl rfl rfl rfl (cs:=(List.replicate n.toNat z.cells.toList).flatten) (c:=madeCells z.cells (n.toNat*inf.size)) (cap:=n.toNat) (e:=e) hel (Ad.rep_all hzero _) x9 x9 x9 (by simp[size_madeCells,h2,hms]) ?_ (λ_ _ h=>h) (λ_ _ h=>h) (w1:=w) ?_
   .rw[h2,←hzs,hflat];rw[Y8 (by simp[List.length_flatten,hzs,hms])]
   .simp[execOp,ho,e1,e2,hrun]
  .cases hxs
 split<;>try trivial
 rename_i e u het;obtain⟨j,z,inf,hu,hj,h1,h2,h3,h4,h5,h6⟩:=zx H het;have hz:=iK h6;have key:∀{k k' :IntKind} {n n' :Int},a.eval l= .int k n->a.eval c= .int k' n' ->0<=n->n<=n' ->n' <=1073741824->
   (Bo (V7 q o.dst) (.barr u (List.replicate n.toNat u.zero)) (gY X.E o.dst (.own (V7 q o.dst) none))).post S (λ_ S' =>jX X (CB*q) (CB*q+CB) o a w m ok S'):=λ{k k' n n'} e1 e2 g0 g1 g2=>by
  have hby:(inf.bytes:Int)*n' <=65536*1073741824:=by have:inf.bytes*n'.toNat<=65536*1073741824:=Nat.mul_le_mul h4 l7;have e:(n'.toNat:Int)=n' :=l7;rw[←e,←vG];generalize inf.bytes*n'.toNat=p at*;omega
  have hrun:=run_make (P:=X.P) w t e inf z hu h1 h5 k k' n n' g0 g1 l7 l7;have hflat:=Qd z.cells n'.toNat
  have hzs:z.cells.size=u.size:=by simpa using hz
  refine Ru H R rfl rfl rfl rfl (Jo het) (cs:=(List.replicate n.toNat z.cells.toList).flatten) (c:=madeCells z.cells (n'.toNat*inf.size)) (cap:=n'.toNat) (e:=e) (fM.rep_all (a2H (C:=⟨w.heap,ok,m⟩) h6) _) Z5 (by simp[size_madeCells,h2]) ?_ (λ_ _ h=>h) (λ_ _ h=>h) (w1:=w) ?_
  .rw[h2,←hzs,hflat];have:n'.toNat=n.toNat+(n'.toNat -n.toNat):=l7;rw[this,←List.replicate_append_replicate,lS,aH (by simp[List.length_flatten]),Y8 (by simp[List.length_flatten])]
  .simp[execOp,ho,e1,e2,hrun]
 refine bU R λv hv=>?_;split<;>try trivial
 rename_i k n;cases hs:a0z l c
 .simp only[cond_false];refine bU R λv' hv' =>?_;split<;>try trivial
  rename_i k' n';refine⟨λhr=>jl λxs hxs=>?_,λ_=>trivial⟩;have hr' :=of_decide_eq_true (show decide (0<=n/\n<=n' /\n' <=1073741824)=true from hr);unfold pX at hxs;split at hxs
  .cases hxs;exact key (xE hv) (xE hv') hr'.1 hr'.2.1 hr'.2.2
  .cases hxs
 .simp only[cond_true];refine jl λxs hxs=>?_;have hec:a.eval c=a.eval l:=by
   unfold a0z at hs;split at hs
   .have:=jU hs;subst this;rfl
   .cases hs
  unfold pX at hxs;split at hxs
  .rename_i hh;cases hxs;exact key (xE hv) (hec.trans (xE hv)) hh.1 (aX _) hh.2
  .cases hxs
end
end Go.GP
