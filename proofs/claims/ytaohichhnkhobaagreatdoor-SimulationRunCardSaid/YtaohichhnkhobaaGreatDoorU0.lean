import Derived.ProofKit
import Derived.Below
import Derived.Defers
import Derived.Laws.CopyRow
import Derived.Laws.BytesArg
import Derived.Laws.Cells
import Derived.Laws.Append
import Derived.Laws.Strings
import Derived.Lib.SmallJoins
set_option linter.all false
namespace Go.GP
abbrev d5X:Type:=List UInt8
abbrev d5Y:Type:=List Int
abbrev d5Z:Type:=List Value
abbrev d6a:Type:=List Nat
abbrev d6b:Type:=Option Bool
abbrev d6c:Type:=Option Int
variable {p:Prop}
theorem l9(h:p:=by omega):p:=h
theorem A7(h:p:=by simp):p:=h
theorem J5(h:p:=by decide):p:=h
theorem X5(h:p:=by simp;omega):p:=h
theorem E9:True:=trivial
def V6:=@List.take_succ_eq_append_getElem
def O6:=@Int.mul_le_mul_of_nonneg_right
def ax:=@List.take_append_of_le_length
def mi:=@Array.getElem?_setIfInBounds
def af:=@Array.getD_eq_getD_getElem?
def bK:=@Int.add_mul_emod_self_right
def au:=@Array.getElem?_eq_some_iff
def nK:=@Array.toList_setIfInBounds
def I7:=@List.getElem?_append_right
def jH:=@Array.getElem?_append_left
def fK:=@Int.tmod_eq_emod_of_nonneg
def jI:=@List.findSome?_eq_none_iff
def O8:=@List.getElem?_append_left
def fQ:=@List.drop_eq_getElem_cons
def oh:=@List.extract_eq_take_drop
def U2:=@Array.getElem?_eq_getElem
def vV:=@Classical.byContradiction
def iQ:=@List.pairwise_iff_getElem
def bD:=@List.getElem?_take_of_lt
def FW:=@Option.isSome_iff_exists
def oP:=@List.getElem_append_left
def eX:=@List.getElem?_cons_zero
def ql:=@List.getElem?_cons_succ
def O9:=@List.length_eq_zero_iff
def lF:=@List.getElem?_replicate
def mg:=@Option.map_eq_some_iff
def dH:=@List.drop_eq_nil_of_le
def S9:=@List.take_of_length_le
def yE:=@List.pairwise_lt_range
def yC:=@List.getElem?_set_self
def qO:=@List.filter_eq_nil_iff
def aH:=@Int.add_mul_ediv_right
def mf:=@Int.ediv_eq_zero_of_lt
def iP:=@List.mem_append_right
def rQ:=@List.Perm.append_left
def jO:=@List.perm_append_comm
def Y4:=@Nat.le_of_ble_eq_true
def aU:=@Array.getElem?_toList
def iR:=@List.take_append_drop
def jP:=@List.set_append_right
def rO:=@Array.getElem?_modify
def iO:=@List.getElem?_eq_none
def aV:=@List.length_filter_le
def mP:=@List.findSome?_append
def rU:=@List.countP_le_length
def rP:=@Int.le_ediv_of_mul_le
def V7:=@Int.ediv_mul_add_emod
def mO:=@Int.ediv_lt_of_lt_mul
def dY:=@List.length_singleton
def rV:=@List.length_replicate
def ah:=@List.mem_append_left
def Y2:=@List.mem_cons_of_mem
def H7:=@Nat.mul_le_mul_right
def tu:=@MapKept.run_checkKey
def Jw:=@List.mem_iff_getElem
def tq:=@List.getElem?_zipIdx
def oH:=@Value.pointer.injEq
def lm:=@List.replicate_succ
def lh:=@List.flatten_append
def X9:=@List.getElem_of_mem
def bI:=@Array.length_toList
def dU:=@List.map_congr_left
def az:=@Int.toNat_of_nonneg
def uQ:=@List.getElem?_range
def E5:=@List.length_append
def P5:=@List.getElem?_drop
def X6:=@List.getElem?_take
def jD:=@List.mem_cons_self
def vZ:=@Option.isSome_none
def dh:=@List.mem_singleton
def vX:=@List.set_cons_zero
def df:=@Bool.false_eq_true
def jE:=@Nat.eq_zero_or_pos
def di:=@List.zip_cons_cons
def pU:=@Nat.lt_of_lt_of_le
def X7:=@List.pairwise_cons
def vW:=@List.filter_append
def LH:=@List.countP_append
def L9:=@Int.emod_lt_of_pos
def jC:=@Int.mul_right_comm
def wo:=@Option.isSome_some
def L6:=@List.nodup_append
def dP:=@Bool.not_eq_true'
def F8:=@List.append_assoc
def F9:=@Option.some.injEq
def I5:=@Result.andThen_ok
def dR:=@List.ext_getElem?
def P6:=@List.getElem?_set
def dV:=@List.size_toArray
def fO:=@List.getElem?_map
def qP:=@List.flatMap_cons
def qR:=@List.zip_nil_left
def qN:=@Function.comp_def
def gQ:=@List.length_range
def U3:=@Int.toNat_natCast
def jd:=@List.any_eq_false
def qM:=@Bool.not_eq_false
def qQ:=@List.getElem_take
def xh:=@List.foldl_append
def xk:=@List.take_add_one
def eQ:=@List.mem_flatten
def A8:=@Bool.and_eq_true
def ae:=@List.cons_append
def H5:=@List.length_cons
def nU:=@Array.toList_map
def kW:=@List.ext_getElem
def nY:=@List.range'_succ
def Y9:=@List.length_take
def aA:=@List.take_length
def nX:=@List.length_drop
def kX:=@Nat.le_add_right
def kV:=@List.all_eq_true
def N7:=@List.getElem_mem
def kY:=@Option.bind_some
def dG:=@Option.getD_some
def sQ:=@List.not_mem_nil
def dF:=@List.filter_cons
def EC:=@List.drop_length
def kU:=@Bool.not_eq_true
def nV:=@List.any_eq_true
def sO:=@List.countP_cons
def ED:=@List.mem_flatMap
def eP:=@Int.ediv_le_self
def F7:=@List.mem_append
def G5:=@List.append_nil
def ed:=@Nat.le_max_left
def H8:=@List.nil_append
def I4:=@List.cons.injEq
def gK:=@Bool.eq_iff_iff
def dX:=@List.length_nil
def gW:=@List.nodup_cons
def ay:=@Option.some.inj
def bg:=@Nat.min_eq_left
def gU:=@List.map_append
def uj:=@Int.natCast_mul
def J9:=@List.foldl_cons
def um:=@List.length_set
def X4:=@List.length_map
def aN:=@Option.map_some
def dZ:=@List.range_succ
def oO:=@Bool.or_eq_true
def gV:=@List.mem_filter
def ul:=@List.any_append
def yV:=@Option.map_none
def uk:=@Int.natCast_pow
def P8:=@Int.emod_nonneg
def X3:=@Int.ediv_nonneg
def jm:=@List.drop_take
def iG:=@List.take_take
def Z9:=@List.drop_drop
def fJ:=@List.nodup_nil
def qF:=@List.drop_zero
def bT:=@List.mem_range
def P9:=@Int.mul_nonneg
def kJ:=@Int.mul_le_mul
def D5:=@List.mem_cons
def iq:=@Nat.add_assoc
def je:=@List.map_cons
def jL:=@Addr.mk.injEq
def X8:=@List.cons.inj
def rW:=@Nat.lt_irrefl
def bQ:=@Prod.mk.injEq
def ik:=@Bool.true_and
def lM:=@List.any_cons
def jM:=@Bool.not_true
def lL:=@Bool.false_or
def IU:=@Bool.and_true
def dI:=@Nat.sub_self
def uo:=@List.map_nil
def Y7:=@Sem.run_pure
def H6:=@Sem.run_bind
def aB:=@Nat.add_zero
def iU:=@Addr.add_lit
def bP:=@Nat.zero_add
def yD:=@List.map_map
def bM:=@List.mem_map
def fV:=@Nat.le_trans
def kQ:=@Prod.ext_iff
def yB:=@Int.add_zero
def JM:=@Int.zero_add
def F5:=@Nat.le_refl
def J4:=@Nat.add_mul
def bU:=@Nat.zero_le
def ji:=@Nat.mul_one
def bi:=@Nat.one_mul
def iM:=@Int.le_refl
def vY:=@Nat.le_succ
def iL:=@Int.add_mul
def fP:=@Int.one_mul
def lW:=@Int.sub_mul
def jZ:=@Int.neg_mul
def iI:=@Nat.blt_eq
def lC:=@Array.ext'
def jg:=@Int.not_lt
def lD:=@Int.not_le
def aZ:=@Prod.ext
variable {i:Nat}
theorem X0{α:Type _}{l:List α}{a:α} :l[i]? =some a↔∃h:i<l.length,l[i]=a:=List.getElem?_eq_some_iff
theorem fH{α:Type _}{l:List α}(h:i<l.length):l[i]? =some l[i]:=List.getElem?_eq_getElem h
theorem iD{n m:Nat}(h:Nat.beq n m=true):n=m:=Nat.eq_of_beq_eq_true h
theorem iZ{α:Type _}{l:List α}{a:α}(h:l[i]? =some a):a∈l:=List.mem_of_getElem? h
theorem AB{α:Type _}{l:List α}{a:α} :l.getD i a=l[i]?.getD a:=List.getD_eq_getElem?_getD
universe u
set_option linter.unusedVariables false
inductive Ty where
 |bool|int (k:IntKind)|str|sl (t:Ty)|prod (a b:Ty)|unit|ent (ka va:Bool) (k v:Ty)|any (o:Option IntKind)
def tbb(a b:Bool):Bool:=bif a then b else !b
theorem a8o:∀{a b:Bool},tbb a b=true->a=b:=by decide
theorem a6a:∀(a:Bool),tbb a a=true:=by decide
def Ty.beq:Ty->Ty->Bool
 | .bool,b=>match b with| .bool=>true|_=>false
 | .int k,b=>match b with| .int k' =>decide (k=k')|_=>false
 | .str,b=>match b with| .str=>true|_=>false
 | .sl t,b=>match b with| .sl u=>Ty.beq t u|_=>false
 | .prod p q,b=>match b with| .prod p' q' =>bif Ty.beq p p' then Ty.beq q q' else false|_=>false
 | .unit,b=>match b with| .unit=>true|_=>false
 | .any o,b=>match b with| .any o' =>decide (o=o')|_=>false
 | .ent x y p q,b=>match b with| .ent x' y' p' q' =>bif tbb x x' &&tbb y y' then(bif Ty.beq p p' then Ty.beq q q' else false)else false|_=>false
theorem Ty.beq_eq:∀{a b:Ty},Ty.beq a b=true->a=b
 | .bool,b,h=>by cases b<;>first|rfl|cases h
 | .int k,b,h=>by cases b<;>first|(cases h;done)|(rename_i k';have:=of_decide_eq_true (show decide (k=k')=true from h);subst this;rfl)
 | .str,b,h=>by cases b<;>first|rfl|cases h
 | .sl t,b,h=>by cases b<;>first|(cases h;done)|(rename_i u;have:=Ty.beq_eq (show Ty.beq t u=true from h);subst this;rfl)
 | .prod p q,b,h=>by
  cases b<;>try (cases h;done)
  rename_i p' q';cases hp:Ty.beq p p'
  .have h' :(bif Ty.beq p p' then Ty.beq q q' else false)=true:=h;rw[hp]at h';cases h'
  .have h' :(bif Ty.beq p p' then Ty.beq q q' else false)=true:=h;rw[hp]at h';rw[Ty.beq_eq hp,Ty.beq_eq (show Ty.beq q q' =true from h')]
 | .unit,b,h=>by cases b<;>first|rfl|cases h
 | .any o,b,h=>by cases b<;>first|(cases h;done)|(rename_i o';have:=of_decide_eq_true (show decide (o=o')=true from h);subst this;rfl)
 | .ent x y p q,b,h=>by
  cases b<;>try (cases h;done)
  rename_i x' y' p' q';have h0:(bif tbb x x' &&tbb y y' then(bif Ty.beq p p' then Ty.beq q q' else false)else false)=true:=h;cases hx:tbb x x'<;>cases hy:tbb y y'<;>rw[hx,hy]at h0<;>try (cases h0;done)
  cases hp:Ty.beq p p'<;>rw[hp]at h0
  .cases h0
  .rw[a8o hx,a8o hy,Ty.beq_eq hp,Ty.beq_eq (show Ty.beq q q' =true from h0)]
theorem Ty.beq_refl:∀(a:Ty),Ty.beq a a=true
 | .bool=>rfl| .int k=>by show decide (k=k)=true;simp| .str=>rfl| .sl t=>Ty.beq_refl t| .prod p q=>by show(bif Ty.beq p p then Ty.beq q q else false)=true;rw[Ty.beq_refl p,Ty.beq_refl q];rfl| .unit=>rfl| .any o=>by show decide (o=o)=true;simp| .ent x y p q=>by show(bif tbb x x&&tbb y y then(bif Ty.beq p p then Ty.beq q q else false)else false)=true;rw[a6a,a6a,Ty.beq_refl p,Ty.beq_refl q];rfl
instance:DecidableEq Ty:=λa b=>match h:Ty.beq a b with
 |true=> .isTrue (Ty.beq_eq h)|false=> .isFalse (λe=>by subst e;rw[Ty.beq_refl]at h;cases h)
@[reducible] def Ty.den:Ty->Type
 | .bool=>Bool| .int _=>Int| .str=>d5X| .sl t=>List t.den| .prod a b=>a.den×b.den| .unit=>Unit| .any _=>Unit| .ent _ _ a b=>a.den×b.den
def Ty.isEnt:Ty->Bool| .ent ..=>true|_=>false
def Ty.size:Ty->Nat
 | .bool| .int _| .str| .sl _=>1| .prod a b=>a.size+b.size| .unit=>0| .any _=>1| .ent _ _ a b=>a.size+b.size
def Ty.flat:Ty->Bool
 | .bool| .int _| .str| .unit=>true| .sl _=>false| .prod a b=>a.flat&&b.flat
 | .ent ..=>false| .any _=>false
def Ty.zero:(t:Ty)->t.den
 | .bool=>false| .int _=>(0:Int)| .str=>[]| .sl _=>[]| .prod a b=>(a.zero,b.zero)| .unit=>()| .any _=>()| .ent _ _ a b=>(a.zero,b.zero)
inductive M where
 |dat (t:Ty)|own (t:Ty)|pair (a b:M)|unit|box (m:M)
 |owns (el:M)|ownb (t:Ty)|rp (t:Ty)|fn (f:Nat) (ts:List Ty)|ifc (t:Nat) (m:M)|cell (n:Option d6b)|fr (t:Ty)|sbx (tb te:Nat)|sit|lp (t:Ty)|dv (k off sz fo:Nat)
def M.beq:M->M->Bool
 | .dat t,b=>match b with| .dat u=>Ty.beq t u|_=>false
 | .own t,b=>match b with| .own u=>Ty.beq t u|_=>false
 | .pair p q,b=>match b with| .pair p' q' =>bif M.beq p p' then M.beq q q' else false|_=>false
 | .unit,b=>match b with| .unit=>true|_=>false
 | .owns m,b=>match b with| .owns m' =>M.beq m m'|_=>false
 |_,_=>false
theorem M.beq_eq:∀{a b:M},M.beq a b=true->a=b
 | .dat t,b,h=>by cases b<;>first|(cases h;done)|(rename_i u;have:=Ty.beq_eq (show Ty.beq t u=true from h);subst this;rfl)
 | .own t,b,h=>by cases b<;>first|(cases h;done)|(rename_i u;have:=Ty.beq_eq (show Ty.beq t u=true from h);subst this;rfl)
 | .pair p q,b,h=>by
  cases b<;>try (cases h;done)
  rename_i p' q';cases hp:M.beq p p'
  .have h' :(bif M.beq p p' then M.beq q q' else false)=true:=h;rw[hp]at h';cases h'
  .have h' :(bif M.beq p p' then M.beq q q' else false)=true:=h;rw[hp]at h';rw[M.beq_eq hp,M.beq_eq (show M.beq q q' =true from h')]
 | .unit,b,h=>by cases b<;>first|rfl|cases h
 | .owns m,b,h=>by cases b<;>first|(cases h;done)|(rename_i u;have:=M.beq_eq (show M.beq m u=true from h);subst this;rfl)
 | .box _,b,h=>by cases h| .ownb _,b,h=>by cases h| .rp _,b,h=>by cases h| .fn _ _,b,h=>by cases h| .ifc _ _,b,h=>by cases h| .cell _,b,h=>by cases h| .fr _,b,h=>by cases h| .sbx _ _,b,h=>by cases h| .lp _,b,h=>by cases h| .dv ..,b,h=>by cases h| .sit,b,h=>by cases h
@[reducible] def WJ:List Ty->Type
 |[]=>Unit|[t]=>t.den|t::t' ::r=>t.den×WJ (t' ::r)
@[reducible] def M.den:M->Type
 | .dat t=>t.den| .own t=>List t.den| .pair a b=>a.den×b.den| .unit=>Unit| .box m=>m.den| .owns el=>List el.den| .ownb t=>List t.den| .rp t=>t.den| .fn _ ts=>WJ ts| .ifc _ m=>m.den| .cell _=>Unit| .fr t=>List t.den| .sbx _ _=>d5X| .sit=>d5X×Int| .lp t=>t.den| .dv ..=>Unit
def M.size:M->Nat
 | .dat t=>t.size| .own _=>1| .pair a b=>a.size+b.size| .unit=>0| .box _=>1| .owns _| .ownb _| .rp _| .fn _ _| .ifc _ _| .cell _| .fr _| .sbx _ _| .sit| .lp _| .dv ..=>1
def M.el:M->Bool
 | .unit=>true| .dat t| .own t=> !t.isEnt| .owns m=>m.el| .pair a b=>a.el&&b.el|_=>false
def M.ty:M->Ty
 | .dat t=>t| .own t=> .sl t| .owns m=> .sl m.ty| .pair a b=> .prod a.ty b.ty|_=> .unit
theorem M.denEq:∀(m:M),m.el=true->m.den=m.ty.den
 | .dat _,_=>rfl| .own _,_=>rfl| .unit,_=>rfl| .owns m,h=>congrArg List (M.denEq m h)| .pair a b,h=>by
  have h' :a.el=true/\b.el=true:=by simpa[M.el]using h
  show(a.den×b.den)=(a.ty.den×b.ty.den);rw[M.denEq a h'.1,M.denEq b h'.2]
 | .box _,h=>by simp[M.el]at h| .ownb _,h=>by simp[M.el]at h| .rp _,h=>by simp[M.el]at h| .fn _ _,h=>by simp[M.el]at h| .ifc _ _,h=>by simp[M.el]at h| .cell _,h=>by simp[M.el]at h| .fr _,h=>by simp[M.el]at h| .sbx _ _,h=>by simp[M.el]at h| .lp _,h=>by simp[M.el]at h| .dv ..,h=>by simp[M.el]at h| .sit,h=>by simp[M.el]at h
def M.zero:(m:M)->m.el=true->m.den
 |m,h=>cast (M.denEq m h).symm m.ty.zero
abbrev MG:=Bool×M
@[reducible] def bC:List MG->Type
 |[]=>Unit|[m]=>m.2.den|m::m' ::r=>m.2.den×bC (m' ::r)
inductive V where
 |undef
 |un
 |b (x:Bool)|i (k:IntKind) (n:Int)|s (l:d5X)
 |nl
 |sl (t:Ty) (xs:List t.den)
 |own (bx:Nat) (vw:Option (Nat×Nat))
 |ptr (bx off:Nat)
 |ep (bx idx off:Nat)
 |dp (t:Ty) (x:t.den) (off:Nat)
 |agg (cs:List V)|tup (cs:List V)
 |glob (g:Nat)|fnv (f:Nat)|idl (f n:Nat)|clos (f:Nat) (caps:List ((t:Ty)×t.den))|ifc (t:Nat) (v:V)
 |bcells (cs:List V)|barr (t:Ty) (xs:List t.den)|bfrz (t:Ty) (xs:List t.den)|biter (l:d5X) (pos:Int)
 |barrs (el:M) (xs:List el.den) (hole:Option (Nat×Nat×Option Nat))|bfc (t:Ty) (x:t.den)
 |dead|gone (t:Ty)|blen (n:Int) (sz:Nat)
 |ne (b:Bool)
 |npt|bsb (tb:Nat) (c:V)|brow (te:Nat) (xs:d5X)
variable {α:Type}{β:Type}
def o5(o:Option α)(f:α->Option β):Option β:=match o with|some x=>f x|none=>none
def l7(b:Bool)(x y:α):α:=match b with|true=>x|false=>y
def D8(a b:Int):Bool:=decide (a<b)
def J6(a b:Int):Bool:=decide (a<=b)
def x8(a b:Int):Bool:=decide (a=b)
def jG(a b:Bool):Bool:=a==b
def D6(a:Bool):Bool:=!a
def U6(a b:Bool):Bool:=a&&b
def seq(a b:d5X):Bool:=decide (a=b)
def slt(a b:d5X):Bool:=Op.bytesLess a b
def wrap(k:IntKind)(n:Int):Int:=k.wrap n
def x9(k:IntKind)(a b:Int):Int:=k.wrap (a+b)
def H9(k:IntKind)(a b:Int):Int:=k.wrap (a -b)
def Z4(k:IntKind)(a b:Int):Int:=k.wrap (a*b)
def eH(k:IntKind)(a b:Int):Int:=k.wrap (a.tdiv b)
def eU(a b:Int):Int:=a.tmod b
def qC(k:IntKind)(a b:Int):d6c:=if b=0 then none else some (k.wrap (a.tdiv b))
def Au(a b:Int):d6c:=if b=0 then none else some (a.tmod b)
def a4p(k:IntKind)(a b:Int):Int:=k.wrap (BitVec.ofInt k.bits a&&& BitVec.ofInt k.bits b).toNat
def ior(k:IntKind)(a b:Int):Int:=k.wrap (BitVec.ofInt k.bits a ||| BitVec.ofInt k.bits b).toNat
def b3i(k:IntKind)(a b:Int):Int:=k.wrap (BitVec.ofInt k.bits a^^^BitVec.ofInt k.bits b).toNat
def a9f(k:IntKind)(a b:Int):Int:=k.wrap (BitVec.ofInt k.bits a&&& ~~~(BitVec.ofInt k.bits b)).toNat
def b3h(k:IntKind)(a b:Int):Int:=k.wrap (a*2^(min b.toNat k.bits))
def uP(k:IntKind)(a b:Int):Int:=a.fdiv (2^(min b.toNat k.bits))
def Zp(k:IntKind)(a b:Int):d6c:=if b<0 then none else some (b3h k a b)
def Zq(k:IntKind)(a b:Int):d6c:=if b<0 then none else some (uP k a b)
def qj(a b:Int):Int:=if b<a then b else a
def nT(a b:Int):Int:=if a<b then b else a
def o9(l:List α):Int:=l.length
def wR(a b:d5X):Option d5X:=if a.length+b.length<=4611686018427387904 then some (a++b)else none
def Rj(a b:Nat):Bool:=Nat.beq a b
def inb(i n:Int):Bool:=decide (0<=i/\i<n)
def G8(l:List α)(i:Int):Option α:=if 0<=i then l[i.toNat]? else none
def c0f(l:d5X)(p:Int):Int:=((Utf8.decode ⟨l.toArray⟩ p.toNat).1:Int)
def b6Y(l:d5X)(p:Int):Int:=p+((Utf8.decode ⟨l.toArray⟩ p.toNat).2:Int)
def sat(l:d5X)(i:Int):d6c:=if 0<=i then(l[i.toNat]?).map (λc=>(c.toNat:Int))else none
def P7(l:List α)(i:Nat):Option α:=l[i]?
def aW(l:List α)(i:Nat)(x:α):List α:=l.set i x
def FX(l:List α)(lo hi:Int):Option (List α):=if 0<=lo/\lo<=hi/\hi<=l.length then some ((l.take hi.toNat).drop lo.toNat)else none
def oU(l:List α)(lo hi:Nat):List α:=(l.take hi).drop lo
def pq(lo hi n:Int):Bool:=decide (0<=lo/\lo<=hi/\hi<=n)
def RG(xs ys:List α):List α:=ys.take xs.length++xs.drop ys.length
def bz(xs ys:List α):Option (List α):=if xs.length+ys.length<=1073741824 then some (xs++ys)else none
def qo(n:Int)(x:α):Option (List α):=if 0<=n/\n<=1073741824 then some (List.replicate n.toNat x)else none
def U8(i:Int):Nat:=i.toNat
def d5V(n:Int):UInt8:=UInt8.ofNat n.toNat
def b0p(l:d5Y):d5X:=l.map d5V
def Pi(l:d5X):d5Y:=l.map λc=>(c.toNat:Int)
def JQ{α β:Type}(eq:α->α->Bool):List (α×β)->α->β->β
 |[],_,z=>z|p::r,k,z=>bif eq k p.1 then p.2 else JQ eq r k z
def Pv{α β:Type}(eq:α->α->Bool):List (α×β)->α->Bool
 |[],_=>false|p::r,k=>bif eq k p.1 then true else Pv eq r k
def Px{α β:Type}(eq:α->α->Bool):List (α×β)->α->β->List (α×β)
 |[],k,x=>[(k,x)]|p::r,k,x=>bif eq k p.1 then(k,x)::r else p::Px eq r k x
def sW(eq:α->α->Bool)(l:List (α×β))(k:α)(z:β):β:=JQ eq l k z
def Tc(eq:α->α->Bool)(l:List (α×β))(k:α):Bool:=Pv eq l k
def Gy(eq:α->α->Bool)(l:List (α×β))(k:α)(x:β):List (α×β):=Px eq l k x
def keq:(t:Ty)->t.den->t.den->Bool
 | .bool=>λa b=>jG a b
 | .int _=>λa b=>x8 a b
 | .str=>λa b=>seq a b
 | .prod p q=>λa b=>U6 (keq p a.1 b.1) (keq q a.2 b.2)
 |_=>λ_ _=>true
def b7G{α:Type}(eq:α->α->Bool):List α->List α->Bool
 |[],[]=>true|a::r,b::q=>eq a b&&b7G eq r q|_,_=>false
def YW:(t:Ty)->t.den->t.den->Bool
 | .bool=>λa b=>tbb a b
 | .int _=>λa b=>decide (a=b)
 | .str=>λa b=>decide (a=b)
 | .sl t=>λa b=>b7G (YW t) a b
 | .prod p q=>λa b=>YW p a.1 b.1&&YW q a.2 b.2
 | .unit=>λ_ _=>true
 | .any _=>λ_ _=>true
 | .ent _ _ p q=>λa b=>YW p a.1 b.1&&YW q a.2 b.2
def deq(t:Ty)(a b:t.den):Bool:=YW t a b
inductive Out (σ ε ρ:Type) where
 |nx (s:σ)|ex (e:ε)|rt (r:ρ)
variable {σ:Type}{ε:Type}
def V5(o:σ⊕ε)(f:σ->α)(g:ε->α):α:=match o with| .inl s=>f s| .inr e=>g e
def qH{σ ε ρ:Type}(f:σ->Option (Out σ ε ρ)):Nat->σ->Option (ε⊕ρ)
 |0,_=>none
 |n+1,s=>match f s with
  |some (.nx s')=>qH f n s'|some (.ex e)=>some (.inl e)|some (.rt r)=>some (.inr r)|none=>none
def uS{σ ε:Type}(f:σ->Option (σ⊕ε)):Nat->σ->Option ε
 |0,_=>none
 |n+1,s=>match f s with
  |some (.inl s')=>uS f n s'|some (.inr e)=>some e|none=>none
def kH:Nat:=18446744073709551616
variable {ρ:Type}
def U0(f:σ->Option (Out σ ε ρ))(s:σ):Option (ε⊕ρ):=qH f kH s
def Y8(f:σ->Option (σ⊕ε))(s:σ):Option ε:=uS f kH s
inductive Cmd (α:Type):Type 1 where
 |ret (x:α)
 |fail
 |get (k:Nat) (c:V->Cmd α)
 |set (k:Nat) (v:V) (c:Cmd α)
 |opt {β:Type} (o:Option β) (c:β->Cmd α)
 |br (b:Bool) (c d:Cmd α)
inductive Ent where
 |kv (k:Nat) (v:V)|mask (lo hi:Nat)
abbrev St:=List Ent
def gq:St->Nat->V
 |[],_=> .undef| .kv k v::r,n=>bif Nat.beq k n then v else gq r n| .mask lo hi::r,n=>bif Nat.ble lo n&&Nat.blt n hi then .undef else gq r n
abbrev Tr:=d6a×d6a
variable {R:Type}
def V.force(v:V)(K:V->R):R:=
 match v with
 | .undef=>K .undef| .un=>K .un| .b x=>K (.b x)
 | .i k n=>match k with
  | .i8=>K (.i .i8 n)| .i16=>K (.i .i16 n)| .i32=>K (.i .i32 n)| .i64=>K (.i .i64 n)| .u8=>K (.i .u8 n)| .u16=>K (.i .u16 n)| .u32=>K (.i .u32 n)| .u64=>K (.i .u64 n)
 | .s l=>K (.s l)| .nl=>K .nl| .ne z=>K (.ne z)| .sl t xs=>K (.sl t xs)
 | .own bx vw=>match vw with|none=>K (.own bx none)|some p=>K (.own bx (some p))
 | .ptr bx off=>K (.ptr bx off)| .ep bx idx off=>K (.ep bx idx off)| .dp t x off=>K (.dp t x off)| .agg cs=>K (.agg cs)| .tup cs=>K (.tup cs)| .glob g=>K (.glob g)| .fnv f=>K (.fnv f)| .idl f n=>K (.idl f n)| .clos f bs=>K (.clos f bs)
 | .ifc t v=>v.force λv=>K (.ifc t v)
 | .barrs t xs h=>match h with|none=>K (.barrs t xs none)|some (p1,p2,p3)=>match p3 with|none=>K (.barrs t xs (some (p1,p2,none)))|some p3=>K (.barrs t xs (some (p1,p2,some p3)))
 | .bfc t x=>K (.bfc t x)| .bcells cs=>K (.bcells cs)| .barr t xs=>K (.barr t xs)| .bfrz t xs=>K (.bfrz t xs)| .biter l p=>K (.biter l p)| .dead=>K .dead| .gone t=>K (.gone t)| .blen n sz=>K (.blen n sz)| .npt=>K .npt
 | .bsb tb c=>c.force λc=>K (.bsb tb c)| .brow te xs=>K (.brow te xs)
def VF{R:Type} :List V->(List V->R)->R
 |[],K=>K []
 |v::r,K=>v.force λv' =>VF r λr' =>K (v' ::r')
def V.force2(v:V)(K:V->R):R:=
 v.force λv=>match v with
  | .agg cs=>VF cs λcs=>K (.agg cs)
  | .bcells cs=>VF cs λcs=>K (.bcells cs)
  | .tup cs=>VF cs λcs=>K (.tup cs)|v=>K v
def Cmd.runK :Cmd α->St->Tr->(α->St->Tr->Option R)->Option R
 | .ret x,s,t,K=>K x s t| .fail,_,_,_=>none
 | .get k c,s,t,K=>(gq s k).force λv=>(c v).runK s (k::t.1,t.2) K
 | .set k v c,s,t,K=>v.force2 λv=>c.runK (.kv k v::s) (t.1,k::t.2) K
 | .opt o c,s,t,K=>o5 o λx=>(c x).runK s t K| .br b c d,s,t,K=>l7 b (c.runK s t K) (d.runK s t K)
def Cmd.bind :Cmd α->(α->Cmd β)->Cmd β
 | .ret x,f=>f x| .fail,_=> .fail
 | .get k c,f=> .get k λv=>(c v).bind f| .set k v c,f=> .set k v (c.bind f)
 | .opt o c,f=> .opt o λx=>(c x).bind f| .br b c d,f=> .br b (c.bind f) (d.bind f)
inductive TD where
 |bool|int (k:IntKind)|str
 |sl (elem:Nat)|ptr (elem:Nat)
 |struct (fs:List (Nat×Nat))
 |arr (n elem:Nat)
 |map (key elem:Nat)
 |other
structure TI where
 size:Nat
 bytes:Nat
 td:TD
 ty:Option Ty
 zero:List V
def dW{α:Type} :List (Nat×α)->Nat->Option α
 |[],_=>none|(k,v)::r,n=>bif Nat.beq k n then some v else dW r n
structure FSpec where
 ps:List MG
 rs:List MG
 outs:List MG
 fn:bC ps->Option (bC (rs++outs))
structure Env where
 nt:Nat
 eqs:List (Nat×List Ty)
 tt:List (Nat×TI)
 gl:List (Nat×(t:Ty)×List t.den)
 fs:List (Nat×FSpec)
 om:List (Nat×M):=[]
 tk:d6a:=[]
 ms:List ((Nat×String)×Nat×Option Nat):=[]
 kp:d6a:=[]
 rc:d6a:=[]
 pl:List (Nat×Nat×Nat):=[]
abbrev ai:Nat:=1000000
abbrev CB:Nat:=1000000
abbrev Sl:Nat:=1000000000000
def Ty.castL{R:Type u}(a b:Ty)(xs:List a.den)(k:List b.den->R)(f:R):R:=if h:a=b then k (h▸xs)else f
def YL{R:Type u}(a b:Ty)(x:a.den)(k:b.den->R)(f:R):R:=if h:a=b then k (h▸x)else f
def flat:(t:Ty)->t.den->List V->List V
 | .bool,x,r=> .b x::r| .int k,n,r=> .i k n::r| .str,l,r=> .s l::r| .sl t,xs,r=> .sl t xs::r| .prod a b,x,r=>flat a x.1 (flat b x.2 r)| .unit,_,r=>r| .any _,_,r=> .undef::r| .ent _ _ a b,x,r=>flat a x.1 (flat b x.2 r)
def jT(vw:Option (Nat×Nat))(xs:List α):List α:=match vw with|none=>xs|some (lo,hi)=>oU xs lo hi
def NW:(m:M)->m.den->List V->List V
 | .dat t,x,r=>flat t x r| .pair a b,x,r=>NW a x.1 (NW b x.2 r)| .unit,_,r=>r|_,_,r=> .undef::r
def a8Q{R:Type u}(a b:M)(xs:List a.den)(k:List b.den->R)(f:R):R:=match h:M.beq a b with
 |true=>k (M.beq_eq h▸xs)|false=>f
def a6F{R:Type u}(m:M)(t:Ty)(xs:List m.den)(k:List t.den->R)(f:R):R:=
 if h:m.el=true/\m.ty=t then k (cast (congrArg List ((M.denEq m h.1).trans (congrArg Ty.den h.2))) xs)else f
def M.owned:M->List Ty
 | .own t=>[t]| .owns m=>m.ty::m.owned| .pair a b=>a.owned++b.owned|_=>[]
def a3F(ln:Ty->Bool):List Ty->Bool|[]=>true|t::r=>bif ln t then a3F ln r else false
def nO{α:Type}(ln:Ty->Bool):(t:Ty)->List V->(t.den->List V->Cmd α)->Cmd α
 | .bool,cs,K=>match cs with| .b x::r=>K x r|_=> .fail
 | .int k,cs,K=>match cs with| .i k' n::r=>(bif decide (k=k')then K n r else Cmd.fail)|_=> .fail
 | .str,cs,K=>match cs with| .s l::r=>K l r|_=> .fail
 | .prod a b,cs,K=>nO ln a cs λx r=>nO ln b r λy r' =>K (x,y) r'| .unit,cs,K=>K () cs
 | .any none,cs,K=>match cs with|_::r=>K () r|_=> .fail
 | .any (some k),cs,K=>match cs with| .i k' _::r=>bif decide (k=k')then K () r else Cmd.fail|_=> .fail
 | .ent ..,_,_=> .fail
 | .sl t,cs,K=>match cs with
  | .nl::r=>bif t.isEnt then .fail else K [] r| .sl t' xs::r=>Ty.castL t' t xs (λys=>K ys r) Cmd.fail
  | .own bx vw::r=> .get (ai+bx) λ
   | .barr t' xs=>Ty.castL t' t xs (λys=>bif ln t then K (jT vw ys) r else Cmd.set (ai+bx) (.bfrz t ys) (K (jT vw ys) r)) Cmd.fail| .bfrz t' xs=>Ty.castL t' t xs (λys=>K (jT vw ys) r) Cmd.fail| .barrs el xs none=>a6F el t xs (λys=>bif ln t&&a3F ln el.owned then K (jT vw ys) r else Cmd.set (ai+bx) (.bfrz t ys) (K (jT vw ys) r)) Cmd.fail|_=> .fail
  |_=> .fail
def DT:Ty->Bool:=λ_=>false
def a5b(t:Ty)(v:V)(K:List t.den->Cmd α):Cmd α:=match v with
 | .nl=>bif t.isEnt then .fail else K []| .ne _=>bif t.isEnt then .fail else K []| .sl t' xs=>Ty.castL t' t xs K Cmd.fail
 | .own bx vw=> .get (ai+bx) λ
  | .barr t' xs=>Ty.castL t' t xs (λys=>K (jT vw ys)) Cmd.fail| .bfrz t' xs=>Ty.castL t' t xs (λys=>K (jT vw ys)) Cmd.fail|_=> .fail
 |_=> .fail
def rpC(t:Ty)(v:V)(K:t.den->Cmd α):Cmd α:=match v with
 | .dp t' x 0=>YL t' t x K .fail
 | .ptr bx 0=> .get (ai+bx) λ
  | .bfc t' x=>YL t' t x K .fail
  | .bcells bs=>nO DT t bs λx q=>(match q with
   |[]=> .get (ai+bx) λ
    | .bcells _=>Cmd.set (ai+bx) (.bfc t x) (K x)|_=> .fail
   |_=> .fail)
  |_=> .fail
 |_=> .fail
def lpC(ln:Ty->Bool)(t:Ty)(v:V)(K:t.den->Cmd α):Cmd α:=match v with
 | .dp t' x 0=>YL t' t x K .fail
 | .ptr bx 0=> .get (ai+bx) λ
  | .bcells bs=>bif ln t then nO ln t bs λx q=>(match q with
   |[]=> .get (ai+bx) λ
    | .bcells _=>K x|_=> .fail
   |_=> .fail)else .fail
  |_=> .fail
 |_=> .fail
def Sv{α:Type} :(ts:List Ty)->List ((t:Ty)×t.den)->(WJ ts->Cmd α)->Cmd α
 |[],cs,K=>match cs with|[]=>K ()|_=> .fail
 |[t],cs,K=>match cs with|[⟨t',x⟩]=>YL t' t x K .fail|_=> .fail
 |t::t' ::r,cs,K=>match cs with
  |⟨u,x⟩::cs=>YL u t x (λx=>Sv (t' ::r) cs λy=>K (x,y)) .fail|[]=> .fail
def WI:(ts:List Ty)->WJ ts->List ((t:Ty)×t.den)
 |[],_=>[]|[t],x=>[⟨t,x⟩]|t::t' ::r,x=>⟨t,x.1⟩::WI (t' ::r) x.2
def sbC(te:Nat)(c:V)(K:d5X->Cmd α):Cmd α:=match c with
 | .nl=>K []
 | .own b none=> .get (ai+b) λ
  | .brow te' xs=>bif Nat.beq te' te then Cmd.set (ai+b) .dead (K xs)else .fail|_=> .fail
 |_=> .fail
def exM{α:Type}(ln:Ty->Bool):(m:M)->List V->(m.den->List V->Cmd α)->Cmd α
 | .dat t,cs,K=>nO ln t cs K
 | .own t,cs,K=>match cs with
  | .nl::r=>bif t.isEnt then .fail else K [] r
  | .own bx vw::r=> .get (ai+bx) λ
   | .barr t' xs=>Ty.castL t' t xs (λys=>Cmd.set (ai+bx) .dead (K (jT vw ys) r)) Cmd.fail|_=> .fail
  |_=> .fail
 | .pair a b,cs,K=>exM DT a cs λx r=>exM DT b r λy r' =>K (x,y) r'| .unit,cs,K=>K () cs
 | .box m,cs,K=>match cs with
  | .ptr bx 0::r=> .get (ai+bx) λ
   | .bcells bs=>Cmd.set (ai+bx) .dead (exM DT m bs λx q=>match q with|[]=>K x r|_=> .fail)|_=> .fail
  |_=> .fail
 | .owns m,cs,K=>match cs with
  | .nl::r=>bif m.el then K [] r else .fail
  | .own bx none::r=> .get (ai+bx) λ
   | .barrs m' xs none=>a8Q m' m xs (λys=>Cmd.set (ai+bx) .dead (K ys r)) Cmd.fail|_=> .fail
  |_=> .fail
 | .ownb t,cs,K=>match cs with
  | .nl::r=>bif t.isEnt then .fail else K [] r
  | .own bx none::r=> .get (ai+bx) λ
   | .barr t' xs=>Ty.castL t' t xs (λys=>Cmd.set (ai+bx) (.gone t) (K ys r)) Cmd.fail|_=> .fail
  |_=> .fail
 | .rp t,cs,K=>match cs with
  |v::r=>rpC t v λx=>K x r|_=> .fail
 | .fn f ts,cs,K=>match cs with
  | .clos g caps::r=>bif Nat.beq g f then Sv ts caps λx=>K x r else .fail
  | .fnv g::r=>bif Nat.beq g f then Sv ts [] λx=>K x r else .fail|_=> .fail
 | .ifc t m,cs,K=>match cs with
  | .ifc t' v::r=>bif Nat.beq t' t then exM DT m [v] λx q=>(match q with|[]=>K x r|_=> .fail)else .fail|_=> .fail
 | .cell (some none),cs,K=>match cs with
  | .nl::r=>K () r|_=> .fail
 | .cell (some (some b)),cs,K=>match cs with
  | .ne true::r=>bif b then K () r else .fail| .ne false::r=>bif b then .fail else K () r|_=> .fail
 | .cell none,cs,K=>match cs with
  |_::r=>K () r|_=> .fail
 | .fr t,cs,K=>match cs with
  | .nl::r=>bif t.isEnt then .fail else K [] r
  | .own bx none::r=> .get (ai+bx) λ
   | .barr t' xs=>Ty.castL t' t xs (λys=>Cmd.set (ai+bx) (.bfrz t ys) (K ys r)) Cmd.fail| .bfrz t' xs=>Ty.castL t' t xs (λys=>K ys r) Cmd.fail|_=> .fail
  |_=> .fail
 | .sit,cs,K=>match cs with
  | .ptr bx 0::r=> .get (ai+bx) λ
   | .biter l p=>Cmd.set (ai+bx) .dead (K (l,p) r)|_=> .fail
  |_=> .fail
 | .lp t,cs,K=>match cs with
  |v::r=>lpC ln t v λx=>K x r|_=> .fail
 | .dv ..,cs,K=>match cs with
  |_::r=>K () r|_=> .fail
 | .sbx tb te,cs,K=>match cs with
  | .ptr bx 0::r=> .get (ai+bx) λ
   | .bsb tb' c=>bif Nat.beq tb' tb then(sbC te c λys=>Cmd.set (ai+bx) .dead (K ys r))else .fail|_=> .fail
  |_=> .fail
def cellsOf(v:V):List V:=match v with| .agg cs=>cs|v=>[v]
def yj(n:Nat)(v:V)(K:Cmd α):Cmd α:=.get (ai+n) λ
 | .undef=> .set (ai+n) v K|_=> .fail
def emM{α:Type} :(m:M)->m.den->Nat->List V->(List V->Nat->Cmd α)->Cmd α
 | .dat t,x,n,r,K=>K (flat t x r) n| .own t,xs,n,r,K=>yj n (.barr t xs) (K (.own n none::r) (n+1))
 | .pair a b,x,n,r,K=>emM b x.2 n r λr' n' =>emM a x.1 n' r' K| .unit,_,n,r,K=>K r n
 | .box m,x,n,r,K=>emM m x (n+1) [] λcs n' =>yj n (.bcells cs) (K (.ptr n 0::r) n')| .owns m,xs,n,r,K=>yj n (.barrs m xs none) (.set (ai+(Sl+n)) (.blen (o9 xs) m.size) (K (.own n none::r) (n+1)))| .ownb t,xs,n,r,K=>yj n (.barr t xs) (K (.own n none::r) (n+1))| .rp t,x,n,r,K=>K (.dp t x 0::r) n| .fn f ts,x,n,r,K=>K (.clos f (WI ts x)::r) n
 | .ifc t m,x,n,r,K=>emM m x n [] λcs n' =>match cs with|[c]=>K (.ifc t c::r) n'|_=> .fail
 | .cell (some none),_,n,r,K=>K (.nl::r) n| .cell (some (some b)),_,n,r,K=>K (.ne b::r) n| .cell none,_,n,r,K=>K (.undef::r) n| .fr t,xs,n,r,K=>yj n (.bfrz t xs) (K (.own n none::r) (n+1))| .sit,x,n,r,K=>yj n (.biter x.1 x.2) (K (.ptr n 0::r) (n+1))| .lp t,x,n,r,K=>K (.dp t x 0::r) n| .dv ..,_,n,r,K=>K (.undef::r) n| .sbx tb te,xs,n,r,K=>yj (n+1) (.brow te xs) (yj n (.bsb tb (.own (n+1) none)) (K (.ptr n 0::r) (n+2)))
structure Sig where
 ms:List (Nat×MG)
 als:List (Nat×Nat)
@[reducible] def sF (s:Sig):Type:=bC (s.ms.map (·.2))
def YM(ag:Bool)(v:V)(K:List V->Cmd α):Cmd α:=match ag,v with
 |true,.agg cs=>K cs|true,_=> .fail|false,.agg _=> .fail|false,.tup _=> .fail|false,.undef=> .fail|false,.un=> .fail|false,v=>K [v]
def KF(v:V)(K:List V->Cmd α):Cmd α:=match v with
 | .agg cs=>K cs| .tup _=> .fail| .undef=> .fail| .un=> .fail|v=>K [v]
def M.isDat:M->Bool| .dat _=>true| .lp _=>true|_=>false
def Ze(ln:Ty->Bool)(m:MG)(v:V)(K:m.2.den->Cmd α):Cmd α:=
 YM m.1 v λcs=>exM ln m.2 cs λx q=>match q with|[]=>K x|_=> .fail
def RF{α:Type}(ln:Ty->Bool):(ms:List MG)->List V->(bC ms->Cmd α)->Cmd α
 |[],vs,K=>match vs with|[]=>K ()|_=> .fail
 |[m],vs,K=>match vs with
  |[v]=>Ze ln m v K|_=> .fail
 |m::m' ::r,vs,K=>match vs with
  |v::vs=>bif m.2.isDat then RF ln (m' ::r) vs λy=>Ze ln m v λx=>K (x,y)
   else Ze ln m v λx=>RF ln (m' ::r) vs λy=>K (x,y)
  |[]=> .fail
def a2i{α:Type} :d6a->(List V->Cmd α)->Cmd α
 |[],K=>K []
 |s::r,K=>bif Nat.blt s ai then .get s λv=>a2i r λvs=>K (v::vs)else .fail
def b9T:V->V->Bool
 | .own a none,.own b none=>Nat.beq a b|_,_=>false
def b7z{α:Type} :List (Nat×Nat)->Cmd α->Cmd α
 |[],K=>K
 |(n,k)::r,K=>bif Nat.blt n ai&&Nat.blt k ai then .get n λv=> .get k λu=>bif b9T v u then b7z r K else .fail else .fail
def b2U(s:Sig):Cmd (sF s):=b7z s.als (a2i (s.ms.map (·.1)) λvs=>RF DT (s.ms.map (·.2)) vs .ret)
def mkV(ag:Bool)(cs:List V):V:=match ag,cs with|true,cs=> .agg cs|false,[v]=>v|false,_=> .undef
def RD{α:Type} :(ms:List MG)->bC ms->Nat->(List V->Nat->Cmd α)->Cmd α
 |[],_,n,K=>K [] n
 |[m],x,n,K=>emM m.2 x n [] λcs n' =>K [mkV m.1 cs] n'
 |m::m' ::r,x,n,K=>emM m.2 x.1 n [] λcs n' =>RD (m' ::r) x.2 n' λvs n'' =>K (mkV m.1 cs::vs) n''
def QW:d6a->List V->Cmd Unit->Cmd Unit
 |[],[],K=>K|n::ns,v::vs,K=>bif Nat.blt n ai then .set n v (QW ns vs K)else .fail|_,_,_=> .fail
def a3d:List (Nat×Nat)->Cmd Unit
 |[]=> .ret ()
 |(n,k)::r=>bif Nat.blt n ai&&Nat.blt k ai then .get k λv=> .set n v (a3d r)else .fail
def b2K(s:Sig)(x:sF s)(nb lim:Nat):Cmd Unit:=
 RD (s.ms.map (·.2)) x nb λvs n=>bif Nat.ble n lim then QW (s.ms.map (·.1)) vs (a3d s.als)else .fail
def a6u:Value->V
 | .bool b=> .b b| .int k n=> .i k n| .string s=> .s s.data.toList| .slice none 0 0=> .nl|_=> .undef
def ru(x:Operand)(K:V->Cmd α):Cmd α:=
 match x with
 | .tmp t=>bif Nat.blt t ai then .get t K else .fail| .const v=>K (a6u v)| .global g=>K (.glob g)| .func f=>K (.fnv f)
def UD{α:Type} :List Operand->(List V->Cmd α)->Cmd α
 |[],K=>K []
 |x::r,K=>ru x λv=>UD r λvs=>K (v::vs)
def YZ(n:Nat)(cs:List V):Option (List V):=match n,cs with
 |0,cs=>some cs|n+1,_::cs=>YZ n cs|_+1,[]=>none
def a5Z{R:Type u}(n:Nat)(cs:List V)(K:List V->R)(f:R):R:=match n,cs with
 |0,_=>K []|n+1,c::cs=>a5Z n cs (λr=>K (c::r)) f|_+1,[]=>f
def XZ{R:Type u}(off n:Nat)(cs:List V)(K:List V->R)(f:R):R:=match YZ off cs with|some r=>a5Z n r K f|none=>f
def UH{R:Type u}(off:Nat)(vs cs:List V)(K:List V->R)(f:R):R:=match off,vs,cs with
 |0,[],cs=>K cs|0,v::vs,_::cs=>UH 0 vs cs (λr=>K (v::r)) f|n+1,vs,c::cs=>UH n vs cs (λr=>K (c::r)) f|_,_,[]=>f
def Iy:Operand->Bool
 | .const (.int _ n)=>decide (n=0)|_=>true
def LD:Operand->Bool
 | .const (.int _ n)=>decide (n<0)|_=>true
def eq1:V->V->d6b
 | .b x,.b y=>some (jG x y)| .i j x,.i k y=>bif decide (j=k)then some (x8 x y)else none| .s x,.s y=>some (seq x y)|_,_=>none
def Du:List V->List V->d6b
 |[],[]=>some true
 |a::r,b::q=>match eq1 a b with
  |none=>none
  |some e=>match r,q with
   |[],[]=>some e|_,_=>(match Du r q with|some e' =>some (U6 e e')|none=>none)
 |_,_=>none
def Em:List Ty->List V->Bool
 |[],[]=>true| .bool::ts,.b _::cs=>Em ts cs| .int k::ts,.i k' _::cs=>decide (k=k')&&Em ts cs| .str::ts,.s _::cs=>Em ts cs|_,_=>false
def IY(n:Nat):d6a->Bool|[]=>false|k::r=>bif Nat.beq k n then true else IY n r
def b3z(E:Env)(t:Nat)(op:BinOp)(b:Bool)(K:V->Cmd α):Cmd α:=
 match dW E.tt t with
 |some i=>match i.td,op with
  | .sl _,.eql=>K (.b b)| .sl _,.neq=>K (.b (D6 b))|_,_=> .fail
 |none=> .fail
def OB(E:Env)(t:Nat)(op:BinOp)(yc:Operand)(x y:V)(K:V->Cmd α):Cmd α:=
 match x,y with
 | .i k a,.i k' b=>
  match op with
  | .shl=>bif LD yc then Cmd.opt (Zp k a b) λr=>K (.i k r)else K (.i k (b3h k a b))
  | .shr=>bif LD yc then Cmd.opt (Zq k a b) λr=>K (.i k r)else K (.i k (uP k a b))|_=>
  bif decide (k=k')then
   match op with
   | .add=>K (.i k (x9 k a b))| .sub=>K (.i k (H9 k a b))| .mul=>K (.i k (Z4 k a b))
   | .quo=>bif Iy yc then Cmd.opt (qC k a b) λr=>K (.i k r)else K (.i k (eH k a b))
   | .rem=>bif Iy yc then Cmd.opt (Au a b) λr=>K (.i k r)else K (.i k (eU a b))| .and=>K (.i k (a4p k a b))| .or=>K (.i k (ior k a b))| .xor=>K (.i k (b3i k a b))| .andNot=>K (.i k (a9f k a b))| .eql=>K (.b (x8 a b))| .neq=>K (.b (D6 (x8 a b)))| .lss=>K (.b (D8 a b))| .leq=>K (.b (J6 a b))| .gtr=>K (.b (D8 b a))| .geq=>K (.b (J6 b a))|_=> .fail
  else .fail
 | .s a,.s b=>
  match op with
  | .add=>Cmd.opt (wR a b) λr=>K (.s r)| .eql=>K (.b (seq a b))| .neq=>K (.b (D6 (seq a b)))| .lss=>K (.b (slt a b))|_=> .fail
 | .b a,.b b=>
  match dW E.tt t with
  |some i=>match i.td,op with
   | .bool,.eql=>K (.b (jG a b))| .bool,.neq=>K (.b (D6 (jG a b)))|_,_=> .fail
  |none=> .fail
 | .agg xs,.agg ys=>
  match dW E.eqs t with
  |some sh=>bif Em sh xs&&Em sh ys then(match op,Du xs ys with
   | .eql,some e=>K (.b e)| .neq,some e=>K (.b (D6 e))
   |_,_=> .fail)else .fail
  |none=> .fail
 | .nl,.nl=>b3z E t op true K| .ne b,.nl=>b3z E t op b K| .sl u xs,.nl=>bif u.isEnt then .fail else .br (x8 (o9 xs) 0) .fail (b3z E t op false K)|_,_=> .fail
def unC(op:UnOp)(x:V)(K:V->Cmd α):Cmd α:=
 match op,x with
 | .neg,.i k a=>K (.i k (H9 k 0 a))| .xor,.i k a=>K (.i k (b3i k (bif k.signed then -1 else k.max) a))| .not,.b a=>K (.b (D6 a))|_,_=> .fail
def a1p(E:Env)(t:Nat):Bool:=bif Nat.blt t E.nt then !(IY t E.kp)else false
def fF(E:Env)(d:Option Tmp)(v:V):Cmd Unit:=match d with|some t=>bif a1p E t then .set t v (.ret ())else .fail|none=> .ret ()
def O7(q:Nat)(d:Option Tmp):Nat:=match d with|some t=>CB*q+64*t|none=>CB*q+999936
def tiC(E:Env)(t:Nat)(K:TI->Cmd α):Cmd α:=match dW E.tt t with|some i=>K i|none=> .fail
def dA:TD->Bool| .struct _| .arr _ _=>true|_=>false
def RI(E:Env)(t:Nat)(p:V)(K:V->Cmd α):Cmd α:=
 tiC E t λi=>match p with
 | .ptr bx off=> .get (ai+bx) λ
  | .bcells cs=>XZ off i.size cs (λr=>K (mkV (dA i.td) r)) Cmd.fail| .bfc u x=>XZ off i.size (flat u x []) (λr=>K (mkV (dA i.td) r)) Cmd.fail|_=> .fail
 | .ep bx idx off=> .get (ai+bx) λ
  | .barr u xs=>Cmd.opt (P7 xs idx) λx=>XZ off i.size (flat u x []) (λr=>K (mkV (dA i.td) r)) Cmd.fail
  | .bfrz u xs=>Cmd.opt (P7 xs idx) λx=>XZ off i.size (flat u x []) (λr=>K (mkV (dA i.td) r)) Cmd.fail
  | .barrs m xs _=>Cmd.opt (P7 xs idx) λx=>XZ off i.size (NW m x []) (λr=>K (mkV (dA i.td) r)) Cmd.fail|_=> .fail
 | .dp u x off=>XZ off i.size (flat u x []) (λr=>K (mkV (dA i.td) r)) Cmd.fail|_=> .fail
def ZV{R:Type u} :(m:M)->Nat->m.den->(V->R)->R->R
 | .own t,off,xs,K,f=>bif Nat.beq off 0 then K (.barr t xs)else f| .owns m,off,xs,K,f=>bif Nat.beq off 0 then K (.barrs m xs none)else f| .pair a b,off,x,K,f=>bif Nat.blt off a.size then ZV a off x.1 K f else ZV b (off -a.size) x.2 K f|_,_,_,_,f=>f
def a2q{R:Type u} :(m:M)->Nat->V->m.den->(m.den->R)->R->R
 | .own t,off,v,_,K,f=>bif Nat.beq off 0 then(match v with| .barr t' ys=>Ty.castL t' t ys K f| .nl=>bif t.isEnt then f else K []|_=>f)else f| .owns m,off,v,_,K,f=>bif Nat.beq off 0 then(match v with| .barrs m' ys none=>a8Q m' m ys K f| .nl=>K []|_=>f)else f| .pair a b,off,v,x,K,f=>bif Nat.blt off a.size then a2q a off v x.1 (λy=>K (y,x.2)) f else a2q b (off -a.size) v x.2 (λy=>K (x.1,y)) f|_,_,_,_,_,f=>f
def b0v{α:Type} :(m:M)->Nat->List V->m.den->(m.den->Cmd α)->Cmd α
 | .dat t,off,vs,x,K=>bif t.flat then UH off vs (flat t x []) (λr=>nO DT t r λy q=>match q with|[]=>K y|_=> .fail) .fail else .fail| .pair a b,off,vs,x,K=>bif Nat.blt off a.size then b0v a off vs x.1 (λy=>K (y,x.2))else b0v b (off -a.size) vs x.2 (λy=>K (x.1,y))|_,_,_,_,_=> .fail
def M.ownAt:M->Nat->Bool
 | .own _,off=>Nat.beq off 0| .owns _,off=>Nat.beq off 0| .pair a b,off=>bif Nat.blt off a.size then a.ownAt off else b.ownAt (off -a.size)|_,_=>false
def a2k(h:Option (Nat×Nat×Option Nat))(idx off:Nat):Bool:=match h with|none=>true|some (i,o,_)=>bif Nat.beq o off then Rj i idx else false
def b9v(E:Env)(d:Option Tmp)(nm t:Nat)(p:V)(K:V->Cmd α):Cmd α:=
 match p with
 | .ep bx idx off=> .get (ai+bx) λ
  | .barrs m xs none=>bif m.ownAt off then tiC E t λi=>(bif Nat.beq i.size 1&&!dA i.td then
     (bif IY (match d with|some d=>d|none=>ai) E.tk then
      Cmd.opt (P7 xs idx) λx=>ZV m off x (λv=>Cmd.set (ai+bx) (.barrs m xs (some (idx,off,none))) (yj nm v (Cmd.set (ai+bx) (.barrs m xs (some (idx,off,some nm))) (K (.own nm none))))) .fail
     else nO DT (.sl m.ty) [.own bx none] λ_ _=>RI E t p K)else .fail)
    else RI E t p K
  | .barrs m xs (some (i,o,some n))=>bif m.ownAt off then tiC E t λj=>(bif Nat.beq j.size 1&&!dA j.td then
     .br (a2k (some (i,o,some n)) idx off) (K (.own n none)) .fail else .fail)
    else RI E t p K
  |_=>RI E t p K
 |_=>RI E t p K
def b9u:V->Bool| .barr ..=>true| .barrs _ _ none=>true|_=>false
def a1X(bx:Nat)(K:Cmd α):Cmd α:=.get (ai+bx) λ
 | .barrs _ _ (some (_,_,some n))=> .get (ai+n) λw=>bif b9u w then Cmd.set (ai+n) .dead (.get (ai+bx) λ
  | .barrs m xs (some (i,o,some _))=>Cmd.opt (P7 xs i) λx=>a2q m o w x (λy=>Cmd.set (ai+bx) (.barrs m (aW xs i y) none) K) .fail
  |_=> .fail)else .fail
 |_=>K
def Vw{α:Type} :List V->Cmd α->Cmd α
 |[],K=>K
 |v::r,K=>match v with
  | .own bx none=>a1X bx (Vw r K)|_=>Vw r K
def OJ{α:Type} :List V->Cmd α->Cmd α
 |[],K=>K
 |v::r,K=>match v with
  | .own bx none=>a1X bx (OJ r K)
  | .ptr bx 0=> .get (ai+bx) λ
   | .bcells cs=>Vw cs (OJ r K)|_=>OJ r K
  | .agg cs=>Vw cs (OJ r K)|_=>OJ r K
def a3s(bx idx off:Nat)(m:M)(xs:List m.den)(hole:Option (Nat×Nat×Option Nat))(v:V)(K:Cmd Unit):Cmd Unit:=
 .br (a2k hole idx off) (Cmd.opt (P7 xs idx) λx=>a2q m off v x (λy=>Cmd.set (ai+bx) (.barrs m (aW xs idx y) none) K) .fail) .fail
def b6Z(E:Env)(t:Nat)(p v:V):Cmd Unit:=
 tiC E t λi=>match p with
 | .ptr bx off=> .get (ai+bx) λ
  | .bcells cs=>KF v λvs=>bif Nat.beq vs.length i.size then UH off vs cs (λr=>Cmd.set (ai+bx) (.bcells r) (.ret ())) Cmd.fail else .fail|_=> .fail
 | .ep bx idx off=> .get (ai+bx) λ
  | .barr u xs=>Cmd.opt (P7 xs idx) λx=>KF v λvs=>bif Nat.beq vs.length i.size then UH off vs (flat u x []) (λr=>
    nO DT u r λy q=>match q with
     |[]=> .get (ai+bx) λ
      | .barr u' xs' =>Ty.castL u' u xs' (λxs' =>Cmd.set (ai+bx) (.barr u (aW xs' idx y)) (.ret ())) Cmd.fail|_=> .fail
     |_=> .fail) Cmd.fail else .fail
  | .barrs m xs hole=>bif m.ownAt off&&Nat.beq i.size 1&&!dA i.td then(match v with
    | .nl=>a3s bx idx off m xs hole .nl (.ret ())
    | .own b2 none=> .get (ai+b2) λw=>bif b9u w then Cmd.set (ai+b2) .dead (.get (ai+bx) λ
     | .barrs m xs hole=>a3s bx idx off m xs hole w (.ret ())
     |_=> .fail)else .fail
    |_=> .fail)
   else match hole with
    |none=>KF v λvs=>bif Nat.beq vs.length i.size then Cmd.opt (P7 xs idx) λx=>b0v m off vs x λy=>Cmd.set (ai+bx) (.barrs m (aW xs idx y) none) (.ret ())else .fail|some _=> .fail
  |_=> .fail
 |_=> .fail
def szB(sz:Nat)(u:Ty):Bool:=bif u.isEnt then false else Nat.beq sz u.size
def OW(E:Env)(t f:Nat):Option (Nat×Nat×Bool):=
 match dW E.tt t with
 |some i=>match i.td with
  | .struct fs=>match fs[f]? with
   |some (ft,off)=>match dW E.tt ft with|some j=>bif Nat.beq j.size 0 then none else some (off,j.size,dA j.td)|none=>none
   |none=>none
  |_=>none
 |none=>none
def a4y(vw:Option (Nat×Nat)):Nat:=match vw with|none=>0|some (lo,_)=>lo
def c0J(vw:Option (Nat×Nat))(n:Nat):Nat:=match vw with|none=>n|some (lo,_)=>lo+n
theorem b7N(vw:Option (Nat×Nat))(n:Nat):c0J vw n=a4y vw+n:=by cases vw<;>simp[c0J,a4y]
def ML(E:Env)(t:Nat):Option (Bool×Nat×Nat):=
 match dW E.tt t with
 |some i=>match i.td with
  | .sl e=>match dW E.tt e with|some j=>some (false,0,j.size)|none=>none
  | .arr n e=>match dW E.tt e with|some j=>some (true,n,j.size)|none=>none
  |_=>none
 |none=>none
def Zo(E:Env)(t:Nat)(x ix:V)(K:V->Cmd α):Cmd α:=
 match ix,ML E t with
 | .i _ n,some (false,_,sz)=>match x with
  | .sl u xs=>bif szB sz u then Cmd.opt (G8 xs n) λy=>K (.dp u y 0)else .fail
  | .own bx vw=> .get (ai+(Sl+bx)) λ
   | .blen ln sz' =>(match vw with|none=>bif Nat.beq sz sz' then .br (inb n ln) (K (.ep bx (U8 n) 0)) .fail else .fail|_=> .fail)
   |_=> .get (ai+bx) λ
   | .barr u xs=>bif szB sz u then Cmd.opt (G8 (jT vw xs) n) λ_=>K (.ep bx (c0J vw (U8 n)) 0)else .fail
   | .bfrz u xs=>bif szB sz u then Cmd.opt (G8 (jT vw xs) n) λy=>K (.dp u y 0)else .fail| .barrs m xs _=>(match vw with|none=>bif Nat.beq sz m.size then Cmd.opt (G8 xs n) λ_=>K (.ep bx (U8 n) 0)else .fail|_=> .fail)|_=> .fail
  |_=> .fail
 | .i _ n,some (true,l,sz)=>match x with
  | .glob g=>match dW E.gl g with
   |some ⟨u,xs⟩=>bif Nat.beq sz u.size&&Nat.beq l xs.length then Cmd.opt (G8 xs n) λy=>K (.dp u y 0)else .fail|none=> .fail
  | .ptr bx off=> .br (inb n l) (K (.ptr bx (off+U8 n*sz))) .fail|_=> .fail
 |_,_=> .fail
def c5X(td:TD)(x:V)(K:V->Cmd α):Cmd α:=
 match td,x with
 | .str,.s l=>K (.i .i64 (o9 l))| .sl _,.sl t xs=>bif t.isEnt then .fail else K (.i .i64 (o9 xs))| .map ..,.sl t xs=>bif t.isEnt then K (.i .i64 (o9 xs))else .fail
 | .map ..,.own bx none=> .get (ai+bx) λ
  | .barr t xs=>bif t.isEnt then K (.i .i64 (o9 xs))else .fail| .bfrz t xs=>bif t.isEnt then K (.i .i64 (o9 xs))else .fail|_=> .fail
 | .sl _,.nl=>K (.i .i64 0)
 | .sl _,.own bx vw=> .get (ai+(Sl+bx)) λ
  | .blen ln _=>(match vw with|none=>K (.i .i64 ln)|_=> .fail)
  |_=> .get (ai+bx) λ
  | .barr t xs=>bif t.isEnt then .fail else K (.i .i64 (o9 (jT vw xs)))| .bfrz t xs=>bif t.isEnt then .fail else K (.i .i64 (o9 (jT vw xs)))| .barrs _ xs _=>(match vw with|none=>K (.i .i64 (o9 xs))|_=> .fail)|_=> .fail
 |_,_=> .fail
def EG(d:Int):Option V->d6c
 |none=>some d|some (.i _ n)=>some n|some _=>none
def WB(E:Env)(t:Nat)(x:V)(lo hi:Option V)(K:V->Cmd α):Cmd α:=
 match x with
 | .s l=>tiC E t λi=>match i.td,EG 0 lo,EG (o9 l) hi with
  | .str,some a,some b=>Cmd.opt (FX l a b) λr=>K (.s r)|_,_,_=> .fail
 | .sl u l=>match ML E t,EG 0 lo,EG (o9 l) hi with
  |some (false,_,sz),some a,some b=>bif szB sz u then Cmd.opt (FX l a b) λr=>K (.sl u r)else .fail|_,_,_=> .fail
 | .own bx none=> .get (ai+bx) λ
  | .barr u xs=>match ML E t,EG 0 lo,EG (o9 xs) hi with
   |some (false,_,sz),some a,some b=>bif szB sz u then .br (pq a b (o9 xs)) (K (.own bx (some (U8 a,U8 b)))) .fail else .fail|_,_,_=> .fail
  | .bfrz u xs=>match ML E t,EG 0 lo,EG (o9 xs) hi with
   |some (false,_,sz),some a,some b=>bif szB sz u then .br (pq a b (o9 xs)) (K (.own bx (some (U8 a,U8 b)))) .fail else .fail|_,_,_=> .fail
  |_=> .fail
 |_=> .fail
def a6b{α:Type}(u:Ty):Nat->List V->(List u.den->Cmd α)->Cmd α
 |0,cs,K=>match cs with|[]=>K []|_=> .fail
 |n+1,cs,K=>nO DT u cs λx r=>a6b u n r λxs=>K (x::xs)
def F_(E:Env)(nm t bx:Nat)(K:V->Cmd Unit):Cmd Unit:=tiC E t λi=>match i.td with
 | .arr n e=>tiC E e λj=>(match j.ty with
  |some u=>bif u.flat then .get (ai+bx) λ
   | .bcells cs=>a6b u n cs λxs=>Cmd.set (ai+bx) .dead (yj nm (.barr u xs) (K (.own nm none)))|_=> .fail
   else .fail
  |none=> .fail)
 |_=> .fail
def Gv(E:Env)(t:Nat):Option (Nat×Ty):=
 match dW E.tt t with
 |some i=>match i.td with
  | .sl e=>match dW E.tt e with
   |some j=>match j.ty with|some u=>bif (Nat.beq u.size j.size&&Nat.ble j.bytes 65536&&!u.isEnt)then some (e,u)else none|none=>none
   |none=>none
  |_=>none
 |none=>none
def Yd(nm:Nat)(u:Ty)(x:V)(ys:List u.den)(K:V->Cmd Unit):Cmd Unit:=
 match x with
 | .nl=>Cmd.opt (bz [] ys) λzs=>yj nm (.barr u zs) (K (.own nm none))
 | .own bx vw=> .get (ai+bx) λ
  | .barr u' xs=>Ty.castL u' u xs (λxs=>Cmd.opt (bz (jT vw xs) ys) λzs=>Cmd.set (ai+bx) .dead (yj nm (.barr u zs) (K (.own nm none)))) Cmd.fail|_=> .fail
 |_=> .fail
def b9r(E:Env)(t:Nat)(x y:V)(K:V->Cmd Unit):Cmd Unit:=
 match Gv E t with
 |none=> .fail
 |some (_,u)=>match dW E.om t with
  |none=>a5b u y λys=>(match x with
   | .own bx none=> .get (ai+bx) λ
    | .barr u' xs=>Ty.castL u' u xs (λxs=>Cmd.set (ai+bx) (.barr u (RG xs ys)) (K (.i .i64 (qj (o9 xs) (o9 ys))))) Cmd.fail|_=> .fail
   |_=> .fail)
  |some _=> .fail
def a8L(E:Env)(nm:Nat)(t:Nat)(x:V)(l:d5X)(K:V->Cmd Unit):Cmd Unit:=
 match Gv E t with
 |some (_,.int .u8)=>(match dW E.om t with|none=>Yd nm (.int .u8) x (Pi l) K|some _=> .fail)|_=> .fail
def b2F(E:Env)(nm:Nat)(t:Nat)(l:d5X)(K:V->Cmd Unit):Cmd Unit:=
 match Gv E t with
 |some (e,.int .u8)=>tiC E e λk=>(match k.td with
  | .int .u8=>yj nm (.barr (.int .u8) (Pi l)) (K (.own nm none))
  |_=> .fail)
 |_=> .fail
def a8K(E:Env)(nm:Nat)(t:Nat)(x y:V)(K:V->Cmd Unit):Cmd Unit:=
 match Gv E t with
 |none=> .fail
 |some (_,u)=>match dW E.om t with
  |none=>a5b u y λys=>Yd nm u x ys K
  |some m=>bif Nat.beq m.size u.size then exM DT (.owns m) [y] λys _=>exM DT (.owns m) [x] λxs _=>Cmd.opt (bz xs ys) λzs=>yj nm (.barrs m zs none) (K (.own nm none))else .fail
def BV{α:Type}(u:Ty):List (Nat×V)->Nat->Nat->(List u.den->Cmd α)->Cmd α
 |[],_,0,K=>K []
 |(i,v)::r,n,m+1,K=>bif Nat.beq i n then KF v λcs=>nO DT u cs λx q=>match q with|[]=>BV u r (n+1) m λxs=>K (x::xs)|_=> .fail else .fail
 |_,_,_,_=> .fail
def yO{α:Type}(m:M):List (Nat×V)->Nat->Nat->(List m.den->Cmd α)->Cmd α
 |[],_,0,K=>K []
 |(i,v)::r,n,k+1,K=>bif Nat.beq i n then KF v λcs=>exM DT m cs λx q=>match q with|[]=>yO m r (n+1) k λxs=>K (x::xs)|_=> .fail else .fail
 |_,_,_,_=> .fail
def a8F(E:Env):List (Nat×Nat)->Bool
 |[]=>true
 |(t,_)::r=>match dW E.tt t with|some _=>a8F E r|none=>false
def Gj{α:Type}(E:Env)(t:Nat):List (Nat×V)->List V->(List V->Cmd α)->Cmd α
 |[],cs,K=>K cs
 |(f,v)::r,cs,K=>match OW E t f with
  |some (off,n,_)=>KF v λvs=>bif Nat.beq vs.length n then UH off vs cs (λcs' =>Gj E t r cs' K) .fail else .fail|none=> .fail
def OA{α:Type}(sz:Nat):List (Nat×V)->List V->(List V->Cmd α)->Cmd α
 |[],cs,K=>K cs
 |(i,v)::r,cs,K=>KF v λvs=>bif Nat.beq vs.length sz then UH (i*sz) vs cs (λcs' =>OA sz r cs' K) .fail else .fail
def aF{α:Type} :List MG->List V->List V->Cmd α->Cmd α
 |(_,.box _)::ms,.ptr bx _::vs,.agg cs::os,K=> .get (ai+bx) λ
  | .dead=>Cmd.set (ai+bx) (.bcells cs) (aF ms vs os K)|_=> .fail
 |(_,.box _)::_,_,_,_=> .fail
 |(_,.ifc _ (.box _))::ms,.ifc _ (.ptr bx _)::vs,.agg cs::os,K=> .get (ai+bx) λ
  | .dead=>Cmd.set (ai+bx) (.bcells cs) (aF ms vs os K)|_=> .fail
 |(_,.ifc _ (.box _))::_,_,_,_=> .fail
 |(_,.ownb _)::ms,.own bx none::vs,.own nm none::os,K=> .get (ai+nm) λ
  | .barr u xs=>Cmd.set (ai+nm) .dead (.get (ai+bx) λ
   | .gone t=>Ty.castL u t xs (λxs=>Cmd.set (ai+bx) (.barr t xs) (aF ms vs os K)) .fail
   |_=> .fail)
  |_=> .fail
 |(_,.ownb _)::ms,.nl::vs,.own nm none::os,K=>Cmd.set (ai+nm) .dead (aF ms vs os K)|(_,.ownb _)::_,_,_,_=> .fail
 |(_,.sbx _ _)::ms,.ptr bx _::vs,.ptr nm _::os,K=> .get (ai+nm) λ
  | .bsb tb c=>Cmd.set (ai+nm) .dead (.get (ai+bx) λ
   | .dead=>Cmd.set (ai+bx) (.bsb tb c) (aF ms vs os K)
   |_=> .fail)
  |_=> .fail
 |(_,.sbx _ _)::_,_,_,_=> .fail|(_,.sit)::_,_,_,_=> .fail|_::ms,_::vs,os,K=>aF ms vs os K|[],[],[],K=>K|_,_,_,_=> .fail
def Ty.occ(t:Ty):Ty->Bool
 | .sl u=>decide (t=u) || Ty.occ t u| .prod a b=>Ty.occ t a || Ty.occ t b| .ent _ _ a b=>Ty.occ t a || Ty.occ t b|_=>false
def Xm(t:Ty):List Ty->Bool|[]=>false|u::r=>decide (t=u) || Ty.occ t u || Xm t r
def M.occ(t:Ty):M->Bool
 | .dat u=>Ty.occ t u| .own u=>Ty.occ t u| .pair a b=>a.occ t || b.occ t| .unit=>false| .box m=>m.occ t| .owns m=>m.occ t| .ownb u=>Ty.occ t u| .rp u=>decide (t=u) || Ty.occ t u| .fn _ ts=>Xm t ts| .ifc _ m=>m.occ t| .cell _=>false| .fr u=>decide (t=u) || Ty.occ t u| .sbx _ _=>false| .sit=>false| .lp u=>decide (t=u) || Ty.occ t u| .dv ..=>false
def NZ(t:Ty):List MG->Bool|[]=>false|m::r=>m.2.occ t || NZ t r
def a2r(s:FSpec):Ty->Bool:=λt=> !(NZ t s.rs || NZ t s.outs)
def NL:Nat->List V->Option (List V×List V)
 |0,vs=>some ([],vs)
 |n+1,v::vs=>match NL n vs with|some (a,b)=>some (v::a,b)|none=>none
 |_+1,[]=>none
def KE:List V->Bool|[]=>false| .tup _::_=>true|_::r=>KE r
def b8o:List V->V|[v]=>v|vs=> .tup vs
def SC:List MG->List V->Bool
 |(_,.fn g _)::ms,.clos f _::vs=>Nat.beq f g&&SC ms vs|(_,.fn g _)::ms,.fnv f::vs=>Nat.beq f g&&SC ms vs|(_,.ifc t _)::ms,.ifc t' _::vs=>Nat.beq t t' &&SC ms vs|(_,.dv _ _ _ fo)::ms,v::vs=>(match v with| .ep _ _ o=>Nat.beq o fo|_=>false)&&SC ms vs|_::ms,_::vs=>SC ms vs|_,_=>true
def a5c:List (Nat×FSpec)->Nat->List V->Option FSpec
 |[],_,_=>none|(g,s)::r,f,vs=>bif Nat.beq g f&&SC s.ps vs then some s else a5c r f vs
def a9k(sz fo:Nat)(c:V)(K:V->Cmd α):Cmd α:=match c with
 | .sl u xs=>bif szB sz u then Cmd.opt (G8 xs (H9 .i64 (o9 xs) 1)) λy=>K (.dp u y fo)else .fail
 | .own bx none=> .get (ai+(Sl+bx)) λ
  | .blen ln sz' =>bif Nat.beq sz sz' then .br (inb (H9 .i64 ln 1) ln) (K (.ep bx (U8 (H9 .i64 ln 1)) fo)) .fail else .fail
  |_=> .get (ai+bx) λ
   | .barr u xs=>bif szB sz u then Cmd.opt (G8 xs (H9 .i64 (o9 xs) 1)) λ_=>K (.ep bx (U8 (H9 .i64 (o9 xs) 1)) fo)else .fail
   | .bfrz u xs=>bif szB sz u then Cmd.opt (G8 xs (H9 .i64 (o9 xs) 1)) λy=>K (.dp u y fo)else .fail
   | .barrs m xs _=>bif Nat.beq sz m.size then Cmd.opt (G8 xs (H9 .i64 (o9 xs) 1)) λ_=>K (.ep bx (U8 (H9 .i64 (o9 xs) 1)) fo)else .fail|_=> .fail
 |_=> .fail
def a5a(off sz fo:Nat)(v:V)(K:V->Cmd α):Cmd α:=match v with
 | .ptr bx o=> .get (ai+bx) λ
  | .bcells cs=>XZ (o+off) 1 cs (λr=>match r with|[c]=>a9k sz fo c K|_=> .fail) .fail|_=> .fail
 | .dp u x o=>XZ (o+off) 1 (flat u x []) (λr=>match r with|[c]=>a9k sz fo c K|_=> .fail) .fail|_=> .fail
def c5W(a b:V)(K:Cmd α):Cmd α:=match a,b with
 | .ep n i o,.ep n' i' o' =>bif Nat.beq n n' &&Nat.beq o o' then .br (Rj i i') K .fail else .fail|_,_=> .fail
def b7Y:List V->Nat->V
 |[],_=> .un|v::_,0=>v|_::r,n+1=>b7Y r n
def dvC{α:Type}(all:List V):List MG->List V->Cmd α->Cmd α
 |(_,.dv k off sz fo)::ms,v::vs,K=>a5a off sz fo (b7Y all k) λr=>c5W r v (dvC all ms vs K)|_::ms,_::vs,K=>dvC all ms vs K|[],[],K=>K|_,_,_=> .fail
def a0J(E:Env)(q:Nat)(d:Option Tmp)(f:Nat)(vs:List V):Cmd Unit:=
 match a5c E.fs f vs with
 |none=> .fail|some s=>dvC vs s.ps vs<|
  RF (a2r s) s.ps vs λx=>Cmd.opt (s.fn x) λr=>
   RD (s.rs++s.outs) r (O7 q d) λws n' =>bif Nat.ble n' (O7 q d+64)then(match NL s.rs.length ws with
    |some (a,o)=>bif KE a then .fail else aF s.ps vs o (fF E d (b8o a))
    |none=> .fail)else .fail
def yP{α:Type} :List MG->List V->(List ((t:Ty)×t.den)->Cmd α)->Cmd α
 |(_,.rp t)::ms,v::vs,K=>rpC t v λx=>yP ms vs λcs=>K (⟨t,x⟩::cs)|[],[],K=>K []|_,_,_=> .fail
def c5V(c:(t:Ty)×t.den):V:=.dp c.1 c.2 0
def ZF:List ((Nat×String)×Nat×Option Nat)->Nat->String->Option (Nat×Option Nat)
 |[],_,_=>none|((t,n),r)::l,u,m=>bif Nat.beq t u&&(n==m)then some r else ZF l u m
def Ty.leaves:Ty->List Ty
 | .prod a b=>a.leaves++b.leaves| .unit=>[]|t=>[t]
def Wx:List Ty->List Ty->Bool
 |[],[]=>true|a::r,b::q=>bif Ty.beq a b then Wx r q else false|_,_=>false
def a4r(E:Env)(ke:Nat)(td:TD)(k:Ty):Bool:=
 match td,k with
 | .bool,.bool=>true| .int i,.int j=>decide (i=j)| .str,.str=>true| .struct _,k=>bif k.flat then(match dW E.eqs ke with|some sh=>Wx sh k.leaves|none=>false)else false|_,_=>false
structure MT where
 ke:Nat
 el:Nat
 ka:Bool
 va:Bool
 k:Ty
 v:Ty
abbrev MT.ent(m:MT):Ty:=.ent m.ka m.va m.k m.v
def Um(E:Env)(t:Nat):Option MT:=
 match dW E.tt t with
 |some i=>match i.td with
  | .map ke el=>match dW E.tt ke,dW E.tt el with
   |some a,some b=>(match a.ty,b.ty with
    |some k,some v=>bif a4r E ke a.td k&&k.flat then some ⟨ke,el,dA a.td,dA b.td,k,v⟩else none
    |_,_=>none)
   |_,_=>none
  |_=>none
 |none=>none
def b2G(ag:Bool)(t:Ty)(v:V)(K:t.den->Cmd α):Cmd α:=
 YM ag v λcs=>nO DT t cs λx q=>match q with|[]=>K x|_=> .fail
def b3X(u:Ty)(v:V)(K:List u.den->Cmd α):Cmd α:=
 match v with
 | .sl t xs=>Ty.castL t u xs K .fail
 | .own bx none=> .get (ai+bx) λ
  | .barr t xs=>Ty.castL t u xs K .fail| .bfrz t xs=>Ty.castL t u xs K .fail|_=> .fail
 |_=> .fail
def Po(E:Env)(nm t:Nat)(K:V->Cmd Unit):Cmd Unit:=
 match Um E t with
 |some m=>yj nm (.barr m.ent []) (K (.own nm none))|none=> .fail
def a9n(E:Env)(t:Nat)(ok:Bool)(x ix:V)(K:V->Cmd Unit):Cmd Unit:=
 match Um E t with
 |some m=>b2G m.ka m.k ix λkey=>b3X m.ent x λes=>
   bif ok then K (.tup [mkV m.va (flat m.v (sW (keq m.k) es key m.v.zero) []),.b (Tc (keq m.k) es key)])
   else K (mkV m.va (flat m.v (sW (keq m.k) es key m.v.zero) []))
 |none=> .fail
def a3w(E:Env)(t:Nat)(x ix y:V):Cmd Unit:=
 match Um E t with
 |some m=>b2G m.ka m.k ix λkey=>b2G m.va m.v y λz=>match x with
  | .own bx none=> .get (ai+bx) λ
   | .barr u xs=>Ty.castL u m.ent xs (λes=>Cmd.set (ai+bx) (.barr m.ent (Gy (keq m.k) es key z)) (.ret ())) .fail|_=> .fail
  |_=> .fail
 |none=> .fail
def Xl:M->List V->Bool
 | .dat _,_=>true| .unit,_=>true
 | .own t,cs=>match cs with| .nl::_=> !t.isEnt|_=>false
 | .owns _,cs=>match cs with| .nl::_=>true|_=>false
 | .pair a b,cs=>match YZ a.size cs with|some r=>bif Xl a cs then Xl b r else false|none=>false
 |_,_=>false
def b0e(E:Env)(t:Nat)(m:M):Bool:=
 match Gv E t with
 |some (e,_)=>match dW E.tt e with|some j=>bif Nat.beq j.zero.length j.size then Xl m j.zero else false|none=>false
 |none=>false
def C_:Operand->Operand->Bool
 | .tmp a,.tmp b=>Nat.beq a b|_,_=>false
def c5T(t:Nat)(zs:List V):V:=match zs with
 |[.npt,.nl]=> .bsb t .nl|zs=> .bcells zs
def bF(E:Env)(q:Nat)(o:Oper):Cmd Unit:=
 match o.op with
 | .move x| .assign x=>ru x λv=>fF E o.dst v
 | .pick c a b=>ru c λ
  | .b t=>bif t then ru a λva=>fF E o.dst va else ru b λvb=>fF E o.dst vb|_=> .fail
 | .alloc t=>tiC E t λi=>bif Nat.beq i.zero.length i.size then yj (O7 q o.dst) (c5T t i.zero) (fF E o.dst (.ptr (O7 q o.dst) 0))else .fail
 | .box _ x=>ru x λv=>KF v λcs=>yj (O7 q o.dst) (.bcells cs) (fF E o.dst (.ptr (O7 q o.dst) 0))
 | .build t ps=>tiC E t λi=>match i.td with
  | .struct fs=>bif a8F E fs&&Nat.beq i.zero.length i.size then(UD (ps.toList.map (·.2)) λvs=>
    Gj E t ((ps.toList.map (·.1)).zip vs) i.zero (λcs=>fF E o.dst (.agg cs)))else .fail
  | .arr _ e=>tiC E e λj=>bif Nat.beq i.zero.length i.size then(UD (ps.toList.map (·.2)) λvs=>
    OA j.size ((ps.toList.map (·.1)).zip vs) i.zero (λcs=>fF E o.dst (.agg cs)))else .fail
  |_=> .fail
 | .buildSlice t n ps=>match Gv E t with
  |some (_,u)=>bif Nat.ble (n*u.size) 16777216 then(UD (ps.toList.map (·.2)) λvs=>match dW E.om t with
    |none=>BV u ((ps.toList.map (·.1)).zip vs) 0 n λxs=>yj (O7 q o.dst) (.barr u xs) (fF E o.dst (.own (O7 q o.dst) none))
    |some m=>bif Nat.beq m.size u.size&&m.el then yO m ((ps.toList.map (·.1)).zip vs) 0 n λxs=>yj (O7 q o.dst) (.barrs m xs none) (fF E o.dst (.own (O7 q o.dst) none))else .fail)else .fail
  |none=> .fail
 | .load t x=>ru x λp=>b9v E o.dst (O7 q o.dst) t p λv=>fF E o.dst v
 | .store t x y=>match o.dst with|none=>ru x λp=>ru y λv=>b6Z E t p v|some _=> .fail
 | .binOp op t x y _=>ru x λa=>ru y λb=>OB E t op y a b λv=>fF E o.dst v
 | .unOp op _ x=>ru x λa=>unC op a λv=>fF E o.dst v
 | .convert src t x=>ru x λa=>tiC E src λj=>tiC E t λi=>match a,i.td with
  | .i _ n,.int k=>fF E o.dst (.i k (wrap k n))| .s l,.str=>fF E o.dst (.s l)| .s l,.sl _=>(match j.td with| .str=>b2F E (O7 q o.dst) t l λv=>fF E o.dst v|_=> .fail)
  |_,.str=>(match j.td with
   | .sl e=>tiC E e λk=>(match k.td with
    | .int .u8=>a5b (.int .u8) a λxs=>fF E o.dst (.s (b0p xs))
    |_=> .fail)
   |_=> .fail)
  |_,_=> .fail
 | .makeSlice t l c=>match dW E.om t with
  |some m=>(match Gv E t with
   |some (_,u)=>ru l λ
    | .i _ n=>bif C_ l c&&Nat.beq m.size u.size&&b0e E t m then(if h:m.el=true/\m.ty=u then Cmd.opt (qo n (m.zero h.1)) λxs=>yj (O7 q o.dst) (.barrs m xs none) (.set (ai+(Sl+O7 q o.dst)) (.blen (o9 xs) m.size) (fF E o.dst (.own (O7 q o.dst) none)))else .fail)else .fail|_=> .fail
   |none=> .fail)
  |none=>match Gv E t with
  |some (_,u)=>ru l λ
   | .i _ n=>bif C_ l c then
     Cmd.opt (qo n u.zero) λxs=>yj (O7 q o.dst) (.barr u xs) (fF E o.dst (.own (O7 q o.dst) none))
    else ru c λ
     | .i _ k=>Cmd.br (pq n k 1073741824) (Cmd.opt (qo n u.zero) λxs=>yj (O7 q o.dst) (.barr u xs) (fF E o.dst (.own (O7 q o.dst) none))) .fail|_=> .fail
   |_=> .fail
  |none=> .fail
 | .slice t x lo hi none=>ru x λv=>UD (lo.toList++hi.toList) λbs=>
   match lo,hi,bs with
   |none,none,[]=>(match v with
    | .ptr bx 0=>F_ E (O7 q o.dst) t bx λr=>fF E o.dst r
    |_=>WB E t v none none λr=>fF E o.dst r)
   |some _,none,[a]=>WB E t v (some a) none λr=>fF E o.dst r
   |none,some _,[b]=>WB E t v none (some b) λr=>fF E o.dst r
   |some _,some _,[a,b]=>WB E t v (some a) (some b) λr=>fF E o.dst r|_,_,_=> .fail
 | .fieldAddr t x f=>ru x λp=>match OW E t f with
  |some (off,_,_)=>match p with
   | .ptr bx o' =>fF E o.dst (.ptr bx (o' +off))| .ep bx ix o' =>fF E o.dst (.ep bx ix (o' +off))| .dp u y o' =>fF E o.dst (.dp u y (o' +off))|_=> .fail
  |none=> .fail
 | .field t x f=>ru x λp=>match OW E t f with
  |some (off,n,ag)=>YM true p λps=>XZ off n ps (λcs=>fF E o.dst (mkV ag cs)) Cmd.fail|none=> .fail
 | .indexAddr t x ix=>ru x λv=>ru ix λn=>Zo E t v n λr=>fF E o.dst r
 | .index t x ix=>ru x λv=>ru ix λn=>tiC E t λi=>match i.td,v,n with
  | .str,.s l,.i _ k=>Cmd.opt (sat l k) λc=>fF E o.dst (.i .u8 c)|_,_,_=> .fail
 | .extract x n=>ru x λ
  | .tup vs=>match vs[n]? with|some v=>fF E o.dst v|none=> .fail
  |_=> .fail
 | .nilCheck x=>ru x λv=>match v with
  | .ptr ..| .ep ..| .dp ..| .glob _=>fF E o.dst v|_=> .fail
 | .call c=>UD c.args.toList λvs=>match c.callee with
  | .builtin .len=>(match c.argTypes.toList,vs with
   |t::_,[x]=>tiC E t λi=>c5X i.td x λv=>fF E o.dst v
   |_,_=> .fail)
  | .builtin .append=>(match c.argTypes.toList,vs with
   |[t,t'],[x,y]=>bif Nat.beq t t' then a8K E (O7 q o.dst) t x y λv=>fF E o.dst v else(match y with
    | .s l=>tiC E t' λi=>(match i.td with| .str=>a8L E (O7 q o.dst) t x l λv=>fF E o.dst v|_=> .fail)
    |_=> .fail)
   |_,_=> .fail)
  | .builtin .copy=>(match c.argTypes.toList,vs with
   |[t,t'],[x,y]=>bif Nat.beq t t' then b9r E t x y λv=>fF E o.dst v else .fail
   |_,_=> .fail)
  | .builtin .min=>(match vs with|[.i k a,.i k' b]=>bif decide (k=k')then fF E o.dst (.i k (qj a b))else .fail|_=> .fail)| .builtin .max=>(match vs with|[.i k a,.i k' b]=>bif decide (k=k')then fF E o.dst (.i k (nT a b))else .fail|_=> .fail)
  | .value (.func f)=>(match dW E.pl f with
   |some (off,sz)=>bif Nat.beq sz 0 then .fail else(match vs with|[v]=>a5a off sz 0 v λr=>fF E o.dst r|_=> .fail)
   |none=>a0J E q o.dst f vs)
  | .value x=>ru x λ
   | .clos f caps=>a0J E q o.dst f (vs++caps.map c5V)|_=> .fail
  | .invoke x n=>ru x λ
   | .ifc t v=>(match ZF E.ms t n with
    |some (f,none)=>a0J E q o.dst f (v::vs)
    |some (f,some e)=>RI E e v λr=>a0J E q o.dst f (r::vs)
    |none=> .fail)
   |_=> .fail
  |_=> .fail
 | .makeFunc (.func f) first caps=>bif Nat.beq first.size 0 then(match dW E.pl f with
  |some (n,z)=>bif Nat.beq z 0&&Nat.beq caps.size n then fF E o.dst (.idl f n)else .fail
  |none=>(match dW E.fs f with
   |some s=>UD caps.toList λvs=>yP (s.ps.drop (s.ps.length -vs.length)) vs λcs=>fF E o.dst (.clos f cs)
   |none=> .fail))else .fail
 | .defer c=>bif Nat.beq c.args.size 0 then(match o.dst,c.callee with
  |none,.value x=>ru x λ
   | .idl f n=>(match dW E.pl f with
    |some (k,z)=>bif Nat.beq z 0&&Nat.beq n k then fF E none .undef else .fail
    |none=> .fail)
   |_=> .fail
  |_,_=> .fail)else .fail
 | .makeInterface t x=>tiC E t λi=>(match i.td with
  | .bool| .int _| .str| .ptr _=>ru x λv=>(match v with
   | .b ..| .i ..| .s ..| .ptr ..=>fF E o.dst (.ifc t v)
   |_=> .fail)
  |_=> .fail)
 | .typeAssert x _ t ok=>tiC E t λi=>(match i.td with
  | .other=> .fail
  |_=>ru x λ
   | .ifc t' v=>bif Nat.beq t' t then fF E o.dst (bif ok then .tup [v,.b true]else v)else .fail
   |_=> .fail)
 | .makeMap t r=>(match r with
  |none=>Po E (O7 q o.dst) t λv=>fF E o.dst v
  |some h=>ru h λ
   | .i _ _=>Po E (O7 q o.dst) t λv=>fF E o.dst v
   |_=> .fail)
 | .range t x=>ru x λv=>tiC E t λi=>match i.td,v with
  | .str,.s l=>yj (O7 q o.dst) (.biter l 0) (fF E o.dst (.ptr (O7 q o.dst) 0))|_,_=> .fail
 | .next x isS=>bif isS then(ru x λ
   | .ptr bx 0=> .get (ai+bx) λ
    | .biter l p=> .br (D8 p (o9 l)) (Cmd.set (ai+bx) (.biter l (b6Y l p)) (fF E o.dst (.tup [.b true,.i .i64 p,.i .i32 (c0f l p)]))) (fF E o.dst (.tup [.b false]))|_=> .fail
   |_=> .fail)else .fail
 | .lookup t x ix ok=>ru x λm=>ru ix λk=>a9n E t ok m k λv=>fF E o.dst v
 | .mapUpdate t x ix y| .insert t x ix y=>match o.dst with|none=>ru x λm=>ru ix λk=>ru y λv=>a3w E t m k v|some _=> .fail
 |_=> .fail
def pX(E:Env)(q:Nat)(ops:List Oper)(o:Oper):Cmd Unit:=
 match o.guard with
 |none=>bF E q o
 |some (j,want)=>match ops[j]? with
  |some p=>match p.dst with
   |some t=>bif Nat.blt t ai then(.get t λ
    | .b y=>bif (bif want then y else !y)then bF E q o else fF E o.dst .un| .un=>fF E o.dst .un
    |_=> .fail)else .fail
   |none=> .fail
  |none=> .fail
def Yi(t:Nat)(s:St)(K:St->Option R):Option R:=
 (gq s t).force λ
  | .b y=>l7 y (K (.kv t (.b true)::s)) (K (.kv t (.b false)::s))| .un=>K s|_=>none
def b9q(ops:List Oper)(o:Oper):Option Nat:=
 match o.guard with
 |some (j,_)=>match ops[j]? with|some p=>p.dst|none=>none
 |none=>match o.op with| .pick (.tmp t) _ _=>some t|_=>none
abbrev Trs:=List Tr
def TB{R:Type}(E:Env)(q:Nat)(all:List Oper):List Oper->St->Trs->(St->Trs->Option R)->Option R
 |[],s,t,K=>K s t
 |o::r,s,t,K=>match b9q all o with
  |none=>(pX E q all o).runK s ([],[]) λ_ s' tr=>TB E q all r s' (tr::t) K
  |some p=>Yi p s λs=>(pX E q all o).runK s ([],[]) λ_ s' tr=>TB E q all r s' (tr::t) K
def Qa:d6a->d6a->Bool
 |[],[]=>true|a::r,b::q=>bif Nat.beq a b then Qa r q else false|_,_=>false
def qE(o:Oper):Bool:=match o.op with| .call ..=>true|_=>false
def a2g(E:Env)(o:Oper):Bool:=!qE o&&(match o.dst with|some d=>IY d E.rc|none=>false)
def b2S(E:Env)(all:List Oper)(i:Nat):Bool:=match all[i]? with|some o=>a2g E o|none=>false
def a1U(all:List Oper)(i:Nat):Bool:=match all[i]? with|some o=>qE o|none=>false
def b7p(a b:V)(K:Option R):Option R:=
 a.force λa=>b.force λb=>match a with
  | .i k n=>(match b with| .i k' n' =>bif decide (k=k')then l7 (x8 n n') K none else none|_=>none)| .sl t xs=>(match b with| .sl u ys=>Ty.castL u t ys (λys=>l7 (deq (.sl t) xs ys) K none) none|_=>none)| .b x=>(match b with| .b y=>l7 (jG x y) K none|_=>none)| .s x=>(match b with| .s y=>l7 (seq x y) K none|_=>none)|_=>none
abbrev b0i:=List (Oper×Tr×V)
def a1x{R:Type}(E:Env)(q:Nat)(all:List Oper)(s:St):b0i->Option R->Option R
 |[],K=>K
 |(o,tr,v)::p,K=>(pX E q all o).runK s ([],[]) λ_ s2 tr2=>match o.dst with
  |some d=>bif Qa tr.1 tr2.1&&Qa tr.2 tr2.2&&Qa tr2.2 [d]then b7p v (gq s2 d) (a1x E q all s p K)else none|none=>none
def ZY(E:Env)(o:Oper)(s:St)(tr:Tr)(p:b0i):b0i:=
 bif a2g E o then(match o.dst with|some d=>(o,tr,gq s d)::p|none=>p)else p
def Ei{R:Type}(E:Env)(q:Nat)(all:List Oper):List Oper->St->Trs->b0i->(St->Trs->Option R)->Option R
 |[],s,t,_,K=>K s t
 |o::r,s,t,p,K=>match b9q all o with
  |none=>(pX E q all o).runK s ([],[]) λ_ s' tr=>bif qE o then a1x E q all s' p (Ei E q all r s' (tr::t) p K)else Ei E q all r s' (tr::t) (ZY E o s' tr p) K
  |some g=>Yi g s λs=>(pX E q all o).runK s ([],[]) λ_ s' tr=>bif qE o then a1x E q all s' p (Ei E q all r s' (tr::t) p K)else Ei E q all r s' (tr::t) (ZY E o s' tr p) K
def XR(a b:d6a):Bool:=match a with|[]=>true|k::r=>bif IY k b then false else XR r b
def a7e(ordered:Bool)(x y:Tr):Bool:=bif ordered then true else(XR x.2 y.1&&XR x.2 y.2&&XR x.1 y.2)
def Yh(mask:Nat)(y:Tr):Trs->Nat->Bool
 |[],_=>true|x::r,i=>a7e (Nat.testBit mask (i -1)) x y&&Yh mask y r (i -1)
def ZR:d6a->Trs->Bool
 |m::ms,y::r=>Yh m y r r.length&&ZR ms r|[],[]=>true|_,_=>false
def a9u(mask:Nat)(x:Tr):List (Nat×Tr)->Bool
 |[]=>true|(m,z)::r=>(Nat.testBit mask m || XR x.1 z.2)&&a9u mask x r
def a9C(ordered ex:Bool)(mask:Nat)(x y:Tr)(mids:List (Nat×Tr)):Bool:=
 bif ordered then true else(XR x.2 y.1&&XR x.2 y.2&&(bif XR x.1 y.2 then true else(ex&&XR x.2 x.1&&a9u mask x mids)))
def Uy(E:Env)(all:List Oper)(mask:Nat)(y:Tr)(cy:Bool):Trs->Nat->List (Nat×Tr)->Bool
 |[],_,_=>true|x::r,i,mids=>a9C (Nat.testBit mask (i -1)) (cy&&b2S E all (i -1)) mask x y mids&&Uy E all mask y cy r (i -1) ((i -1,x)::mids)
def UA(E:Env)(all:List Oper):d6a->Trs->Bool
 |m::ms,y::r=>Uy E all m y (a1U all r.length) r r.length []&&UA E all ms r|[],[]=>true|_,_=>false
inductive Flow (ρ:Type) where
 |nm|ex (id:Nat)|rt (r:ρ)
def Rz(acc:d6a)(n:Nat):List Edge->Nat->Option Nat
 |[],m=>some m
 |e::r,m=>match e.ground with
  | .textOnly _=>Rz acc n r m| .gcOnly _=>Rz acc n r m|_=>bif Nat.blt e.on n then Rz acc n r (m ||| 2^e.on ||| acc.getD (n -1 -e.on) 0)else none
def a2F:List Oper->Nat->d6a->Option d6a
 |[],_,acc=>some acc
 |o::r,n,acc=>match Rz acc n o.after.toList 0 with
  |some m=>a2F r (n+1) (m::acc)|none=>none
def Tq(md:Region.Mode)(done:d6a):List Edge->Bool
 |[]=>true|e::r=>bif (!Region.binds md e || IY e.on done)then Tq md done r else false
def yT(md:Region.Mode)(done:d6a):List Oper->Nat->Option Nat
 |[],_=>none|o::r,n=>bif IY n done then yT md done r (n+1)else bif Tq md done o.after.toList then some n else yT md done r (n+1)
def a8E:Nat->d6a->Bool
 |0,_=>true|n+1,d=>IY n d&&a8E n d
def a3u(md:Region.Mode)(ops:List Oper):Nat->d6a->Bool
 |0,d=>a8E ops.length d
 |k+1,done=>match yT md done ops 0 with|some n=>a3u md ops k (n::done)|none=>false
def VS:List Edge->Bool
 |[]=>true
 |e::r=>match e.ground with| .textOnly _=>false| .gcOnly _=>false|_=>VS r
def Jd:List Oper->Bool|[]=>true|o::r=>bif VS o.after.toList then Jd r else false
def b2I(ops:List Oper)(t:Trs):Bool:=
 match a2F ops 0 []with
 |some ms=>bif ZR ms t then(bif Jd ops then true else a3u .text ops ops.length []&&a3u .gc ops ops.length [])else false|none=>false
def a8W(E:Env)(ops:List Oper)(t:Trs):Bool:=
 match a2F ops 0 []with
 |some ms=>bif UA E ops ms t then(bif Jd ops then true else a3u .text ops ops.length []&&a3u .gc ops ops.length [])else false|none=>false
abbrev Rgs:=List (Nat×Nat)
inductive Ann where
 |leaf
 |seq (a b:Ann)|cond (a b:Ann)|blk (a:Ann)
 |loop (rs:Rgs) (hd:Sig) (xid:Nat) (xs:Sig) (body:Ann)
 |loopR (rs:Rgs) (hd:Sig) (xid:Nat) (xs:Sig) (body:Ann)
 |join (rs:Rgs) (nm:Sig) (inner:Ann)
 |joinR (rs:Rgs) (nm:Sig) (inner:Ann)
structure Ret where
 rs:List (ResultVar×MG)
 outs:List (Nat×MG)
@[reducible] def Ret.den (r:Ret):Type:=bC (r.rs.map (·.2)++r.outs.map (·.2))
def Wn{α:Type}(E:Env):List ResultVar->(List V->Cmd α)->Cmd α
 |[],K=>K []| .tmp t::r,K=>bif Nat.blt t ai then(.get t λv=>Wn E r λvs=>K (v::vs))else .fail| .cell a t::r,K=>bif Nat.blt a ai then(.get a λp=>RI E t p λv=>Wn E r λvs=>K (v::vs))else .fail
def VR{α:Type} :d6a->(List V->Cmd α)->Cmd α
 |[],K=>K []
 |n::r,K=>bif Nat.blt n ai then .get n λv=>(match v with
  | .ptr bx 0=> .get (ai+bx) λ
   | .bcells cs=>Cmd.set (ai+bx) .dead (VR r λvs=>K (.agg cs::vs))|_=> .fail
  | .ifc _ u=>(match u with
   | .ptr bx 0=> .get (ai+bx) λ
    | .bcells cs=>Cmd.set (ai+bx) .dead (VR r λvs=>K (.agg cs::vs))|_=> .fail
   |_=> .fail)
  | .own bx none=>VR r λvs=>K (.own bx none::vs)
  |_=> .fail)else .fail
def b8s(E:Env)(r:Ret):Cmd r.den:=
 Wn E (r.rs.map (·.1)) λvs=>VR (r.outs.map (·.1)) λws=>OJ (vs++ws) (RF DT (r.rs.map (·.2)++r.outs.map (·.2)) (vs++ws) .ret)
def Ann.l:Ann->Ann| .seq a _=>a| .cond a _=>a| .blk a=>a|_=> .leaf
def Ann.r:Ann->Ann| .seq _ b=>b| .cond _ b=>b|_=> .leaf
def Cc:Code->Nat
 | .region ..=>2| .seq x y=>1+Cc x+Cc y| .cond _ x y=>1+Cc x+Cc y| .block _ x=>1+Cc x| .loop x=>3+Cc x|_=>1
abbrev Den(ρ:Type):=Nat->Ann->St->Rgs->(R:Type)->(Flow ρ->St->Rgs->Option R)->Option R
def b0L(lo hi:Nat):Rgs->Bool|[]=>false|(a,b)::r=>bif Nat.ble a lo&&Nat.ble hi b then true else b0L lo hi r
def YT(lim:Nat)(rs:Rgs):Rgs->Bool|[]=>true|(a,b)::w=>bif Nat.ble lim a || b0L a b rs then YT lim rs w else false
def Ui(ks:d6a)(w:Rgs):Rgs:=match ks with|[]=>w|k::r=>(k,k+1)::Ui r w
def IW(rs:Rgs)(s:St):St:=match rs with|[]=>s|(a,b)::r=> .mask a b::IW r s
def RH(q:Nat)(sg:Sig)(rs:Rgs)(s:St)(w:Rgs)(K:sF sg->Option R):Option R:=
 (b2U sg).runK s ([],[]) λx _ tr=>bif YT (ai+CB*q) rs (Ui tr.2 w)then K x else none
def enter(q:Nat)(sg:Sig)(rs:Rgs)(s:St)(x:sF sg)(K:St->Rgs->Option R):Option R:=
 (b2K sg x (CB*q) (CB*q+CB)).runK (IW rs s) ([],[]) λ_ s' tr=>K s' (Ui tr.2 rs)
def YB(a b:Rgs):Rgs:=match a with|[]=>b|x::r=>x::YB r b
def Oj(core:Den ρ):Den ρ:=λq a s w R K=>
 match a with
 | .join rs nm a=>o5 (core (q+1) a s [] (sF nm) λfl s' w' =>match fl with
   | .nm=>RH q nm rs s' w' some
   |_=>none) λx=>enter q nm rs s x λs' w' =>K .nm s' (YB w' w)
 | .joinR rs nm a=>o5 (core (q+1) a s [] (sF nm⊕ρ) λfl s' w' =>match fl with
   | .nm=>RH q nm rs s' w' λx=>some (Sum.inl x)| .rt r=>some (Sum.inr r)
   |_=>none) λo=>V5 o (λx=>enter q nm rs s x λs' w' =>K .nm s' (YB w' w)) (λr=>K (.rt r) [] [])
 |a=>core (q+1) a s w R K
def b4S(core:Den ρ)(q:Nat)(rs:Rgs)(hd:Sig)(xid:Nat)(xs:Sig)(a:Ann)(s:St)(x:sF hd):Option (sF hd⊕sF xs):=
 enter q hd rs s x λs w=>core (q+2) a s w (sF hd⊕sF xs) λfl s' w' =>match fl with
  | .nm=>RH q hd rs s' w' λx=>some (Sum.inl x)
  | .ex id=>bif Nat.beq id xid then RH q xs rs s' w' λy=>some (Sum.inr y)else none| .rt _=>none
def b4T(core:Den ρ)(q:Nat)(rs:Rgs)(hd:Sig)(xid:Nat)(xs:Sig)(a:Ann)(s:St)(x:sF hd):Option (Out (sF hd) (sF xs) ρ):=
 enter q hd rs s x λs w=>core (q+2) a s w (Out (sF hd) (sF xs) ρ) λfl s' w' =>match fl with
  | .nm=>RH q hd rs s' w' λx=>some (.nx x)
  | .ex id=>bif Nat.beq id xid then RH q xs rs s' w' λy=>some (.ex y)else none| .rt r=>some (.rt r)
def a4A(core:Den ρ):Den ρ:=λq a s w R K=>
 match a with
 | .loop rs hd xid xs a=>RH q hd rs s [] λx0=>
  o5 (Y8 (λx=>b4S core q rs hd xid xs a s x) x0) λy=>enter (q+1) xs rs s y λs' w' =>K (.ex xid) s' (YB w' w)
 | .loopR rs hd xid xs a=>RH q hd rs s [] λx0=>
  o5 (U0 (λx=>b4T core q rs hd xid xs a s x) x0) λo=>V5 o (λy=>enter (q+1) xs rs s y λs' w' =>K (.ex xid) s' (YB w' w)) (λr=>K (.rt r) [] [])
 |_=>none
def GM(t:Trs)(w:Rgs):Rgs:=match t with|[]=>w|x::r=>Ui x.2 (GM r w)
def a2R(E:Env)(q:Nat)(ops:Array Oper)(draw:Bool)(s:St)(w:Rgs)(K:St->Rgs->Option R):Option R:=
 match E.rc with
 |[]=>TB E q ops.toList ops.toList s [] λs' t=>
  bif draw then(bif b2I ops.toList t then K s' (GM t w)else none)else K s' (GM t w)
 |_::_=>Ei E q ops.toList ops.toList s [] [] λs' t=>
  bif draw then(bif a8W E ops.toList t then K s' (GM t w)else none)else K s' (GM t w)
def den(E:Env)(rt:Ret):Code->Den rt.den
 | .skip=>Oj λ_ _ s w _ K=>K .nm s w
 | .label _=>Oj λ_ _ s w _ K=>K .nm s w
 | .region _ ops draw=>Oj λq _ s w _ K=>a2R E q ops draw s w λs' w' =>K .nm s' w'
 | .seq x y=>Oj λq a s w R K=>den E rt x q a.l s w R λfl s' w' =>match fl with
   | .nm=>den E rt y (q+Cc x) a.r s' w' R K| .ex id=>K (.ex id) s' w'| .rt r=>K (.rt r) s' w'
 | .cond c x y=>Oj λq a s w R K=>(ru c λv=>Cmd.ret v:Cmd V).runK s ([],[]) λv s' _=>match v with
   | .b t=>l7 t (den E rt x q a.l s' w R K) (den E rt y (q+Cc x) a.r s' w R K)|_=>none
 | .block id x=>Oj λq a s w R K=>den E rt x q a.l s w R λfl s' w' =>match fl with
   | .nm=>K .nm s' w'| .ex j=>bif Nat.beq j id then K .nm s' w' else K (.ex j) s' w'| .rt r=>K (.rt r) s' w'
 | .loop x=>Oj (a4A λq a s w R K=>den E rt x q a s w R K)
 | .exit id=>Oj λ_ _ s w _ K=>K (.ex id) s w
 | .ret=>Oj λ_ _ s _ _ K=>(b8s E rt).runK s ([],[]) λr _ _=>K (.rt r) [] []
 |_=>λ_ _ _ _ _ _=>none
def mW:List MG->Nat->d6a
 |[],_=>[]|(_,.box _)::ms,n=>n::mW ms (n+1)|(_,.ifc _ (.box _))::ms,n=>n::mW ms (n+1)|(_,.ownb _)::ms,n=>n::mW ms (n+1)|_::ms,n=>mW ms (n+1)
def b7b:d6a->d6a->Bool
 |[],_=>true|a::r,b=>bif IY a b then b7b r b else false
def b7U:List MG->Bool
 |[]=>true|(_,.sbx _ _)::_=>false|(_,.sit)::_=>false|_::r=>b7U r
def a6y:List MG->Nat->Cmd Unit->Cmd Unit
 |[],_,K=>K
 |(_,.dv k off sz fo)::ms,n,K=>bif Nat.blt k ai&&Nat.blt n ai then .get k λv=>a5a off sz fo v λr=> .set n r (a6y ms (n+1) K)else .fail|_::ms,n,K=>a6y ms (n+1) K
def b7F(E:Env)(ps:List MG)(rt:Ret)(body:Code)(a:Ann)(x:bC ps):Option rt.den:=
 bif Nat.ble ps.length E.nt&&Qa (rt.outs.map (·.1)) (mW ps 0)&&b7b (rt.outs.map (·.1)) E.kp&&b7U ps then
 (RD ps x 0 λvs n=>bif Nat.ble n CB then QW (List.range vs.length) vs (a6y ps 0 (.ret ()))else .fail).runK [] ([],[]) λ_ s _=>
  den E rt body 1 a s [] rt.den λfl s' _=>match fl with
   | .rt r=>some r
   | .nm=>(b8s E rt).runK s' ([],[]) λr _ _=>some r| .ex _=>none
 else none
end Go.GP
namespace Go.GP
open RowKit
def fD(h:Array Obj)(blk off n:Nat):Option d5Z:=
 match h[blk]? with
 |some (.cells c _ _)=>if off+n<=c.size then some ((c.toList.drop off).take n)else none|_=>none
variable {h:Array Obj}{h':Array Obj}{blk:Nat}
theorem uH(e:h'[blk]? =h[blk]?)(off n:Nat):fD h' blk off n=fD h blk off n:=by simp[fD,e]
variable {n:Nat}{off:Nat}{es:d5Z}
theorem rF(e:fD h blk off n=some es):es.length=n:=by
 unfold fD at e;split at e
 .split at e
  .cases e;simp;omega
  .cases e
 .cases e
theorem lJ{c:Array Value}{T:TypeId}{f:Nat×Nat}(hb:h[blk]? =some (.cells c T f))(off n:Nat)(hn:off+n<=c.size):
  fD h blk off n=some ((c.toList.drop off).take n):=by simp[fD,hb,hn]
theorem uI(e:fD h blk off n=some es):
  ∃c T f,h[blk]? =some (.cells c T f)/\off+n<=c.size/\es=(c.toList.drop off).take n:=by
 unfold fD at e;split at e
 .rename_i c T f hb;split at e
  .cases e;exact⟨c,T,f,hb,by assumption,rfl⟩
  .cases e
 .cases e
theorem Cm(e:fD h blk off n=some es)(a k:Nat)(hk:a+k<=n):
  fD h blk (off+a) k=some ((es.drop a).take k):=by
 obtain⟨c,T,f,hb,hn,rfl⟩:=uI e;rw[lJ hb _ _ l9];congr 1;rw[jm,iG,Z9];congr 1;omega
def vT(ag:Bool)(v:Value):d5Z:=match ag with
 |true=>v.cells.toList|false=>[v]
def gok(ag:Bool)(v:Value):Prop:=match ag with
 |true=>∃arr,v= .agg arr|false=>v.oneCell' =true
def Dq(t:Ty)(e:MapEntry):d5Z:=match t with
 | .ent ka va _ _=>vT ka e.key++vT va e.val|_=>[]
def TV(t:Ty)(e:MapEntry):Prop:=match t with
 | .ent ka va k v=>gok ka e.key/\gok va e.val/\(vT ka e.key).length=k.size|_=>False
def c5M:Option IntKind->Value->Prop
 |none,_=>True|some k,v=>∃n,v= .int k n
def mJ(h:Array Obj)(ok:Nat->Ty->Prop):(t:Ty)->t.den->d5Z->Prop
 | .ent _ _ a b,x,cs=>∃c d,cs=c++d/\mJ h ok a x.1 c/\mJ h ok b x.2 d| .bool,x,cs=>cs=[.bool x]| .int k,n,cs=>cs=[.int k n]| .str,l,cs=>cs=[.string ⟨l.toArray⟩]| .prod a b,x,cs=>∃c d,cs=c++d/\mJ h ok a x.1 c/\mJ h ok b x.2 d| .unit,_,cs=>cs=[]| .any o,_,cs=>∃v,cs=[v]/\v.oneCell' =true/\c5M o v
 | .sl t,xs,cs=>(t.isEnt=false/\∃a cap,cs=[.slice a xs.length cap]/\xs.length<=cap/\
   ∀i x,xs[i]? =some x->∃blk off es,a=some ⟨blk,off,none⟩/\ok blk t/\fD h blk (off+i*t.size) t.size=some es/\mJ h ok t x es)\/
   (t.isEnt=true/\∃mv,cs=[.map mv]/\(mv=none->xs=[])/\∀blk,mv=some blk->ok blk t/\∃(es:Array MapEntry) (ck:Nat),h[blk]? =some (.map es ck)/\es.size=(xs:List t.den).length/\
    ∀(i:Nat) (x:t.den),(xs:List t.den)[i]? =some x->∃e:MapEntry,es[i]? =some e/\TV t e/\mJ h ok t x (Dq t e))
variable {t:Ty}{xs:List t.den}{ok:Nat->Ty->Prop}
theorem Eg{cs:d5Z}(ht:t.isEnt=false):mJ h ok (.sl t) xs cs↔∃a cap,cs=[.slice a xs.length cap]/\xs.length<=cap/\
   ∀i x,xs[i]? =some x->∃blk off es,a=some ⟨blk,off,none⟩/\ok blk t/\fD h blk (off+i*t.size) t.size=some es/\mJ h ok t x es:=by
 constructor
 .rintro(h|h)
  .exact h.2
  .rw[ht]at h;cases h.1
 .exact λh=> .inl ⟨ht,h⟩
theorem a7y{cs:d5Z}(ht:t.isEnt=true):mJ h ok (.sl t) xs cs↔∃mv,cs=[.map mv]/\(mv=none->xs=[])/\∀blk,mv=some blk->ok blk t/\∃(es:Array MapEntry) (ck:Nat),h[blk]? =some (.map es ck)/\es.size=(xs:List t.den).length/\
    ∀(i:Nat) (x:t.den),(xs:List t.den)[i]? =some x->∃e:MapEntry,es[i]? =some e/\TV t e/\mJ h ok t x (Dq t e):=by
 constructor
 .rintro(h|h)
  .rw[ht]at h;cases h.1
  .exact h.2
 .exact λh=> .inr ⟨ht,h⟩
theorem gm{h:Array Obj}{ok:Nat->Ty->Prop} :∀{t:Ty} {x:t.den} {cs:d5Z},mJ h ok t x cs->cs.length=t.size
 | .bool,_,_,e=>by simp[mJ]at e;simp[e,Ty.size]| .int _,_,_,e=>by simp[mJ]at e;simp[e,Ty.size]| .str,_,_,e=>by simp[mJ]at e;simp[e,Ty.size]| .unit,_,_,e=>by simp[mJ]at e;simp[e,Ty.size]| .any _,_,_,e=>by obtain⟨v,rfl,_⟩:=e;rfl
 | .prod a b,_,_,e=>by obtain⟨c,d,rfl,h1,h2⟩:=e;simp[gm h1,gm h2,Ty.size]
 | .ent _ _ a b,_,_,e=>by obtain⟨c,d,rfl,h1,h2⟩:=e;simp[gm h1,gm h2,Ty.size]
 | .sl t,_,_,e=>by rcases e with⟨_,a,cap,rfl,_⟩|⟨_,mv,rfl,_⟩<;>simp[Ty.size]
theorem gp{h h' :Array Obj}{ok ok' :Nat->Ty->Prop}(hok:∀b t,ok b t->ok' b t)(hh:∀b t,ok b t->h'[b]? =h[b]?):
  ∀{t:Ty} {x:t.den} {cs:d5Z},mJ h ok t x cs->mJ h' ok' t x cs
 | .bool,_,_,e=>e| .int _,_,_,e=>e| .str,_,_,e=>e| .unit,_,_,e=>e| .any _,_,_,e=>e| .prod a b,_,_,e=>by obtain⟨c,d,rfl,h1,h2⟩:=e;exact⟨c,d,rfl,gp hok hh h1,gp hok hh h2⟩
 | .ent _ _ a b,_,_,e=>by obtain⟨c,d,rfl,h1,h2⟩:=e;exact⟨c,d,rfl,gp hok hh h1,gp hok hh h2⟩
 | .sl t,xs,_,e=>by
  rcases e with⟨ht,a,cap,rfl,hc,hx⟩|⟨ht,mv,rfl,hn,hx⟩
  .refine .inl ⟨ht,a,cap,rfl,hc,λi x hi=>?_⟩;obtain⟨blk,off,es,ha,hb,he,hr⟩:=hx i x hi;exact⟨blk,off,es,ha,hok _ _ hb,by rw[uH (hh _ _ hb)];exact he,gp hok hh hr⟩
  .refine .inr ⟨ht,mv,rfl,hn,λblk hb=>?_⟩;obtain⟨ho,es,ck,he,hs,hi⟩:=hx blk hb;refine⟨hok _ _ ho,es,ck,by rw[hh _ _ ho];exact he,hs,λi x hx=>?_⟩;obtain⟨e,h1,h2,h3⟩:=hi i x hx;exact⟨e,h1,h2,gp hok hh h3⟩
theorem Bj{h h' :Array Obj}{ok ok' :Nat->Ty->Prop} :∀{t:Ty} {x:t.den} {cs:d5Z},t.flat=true->mJ h ok t x cs->mJ h' ok' t x cs
 | .bool,_,_,_,e=>e| .int _,_,_,_,e=>e| .str,_,_,_,e=>e| .unit,_,_,_,e=>e| .prod a b,_,_,f,e=>by simp[Ty.flat]at f;obtain⟨c,d,rfl,h1,h2⟩:=e;exact⟨c,d,rfl,Bj f.1 h1,Bj f.2 h2⟩
 | .sl t,xs,_,f,e=>by simp[Ty.flat]at f| .ent ..,xs,_,f,e=>by simp[Ty.flat]at f| .any _,xs,_,f,e=>by simp[Ty.flat]at f
theorem zq{h:Array Obj}{ok:Nat->Ty->Prop} :∀{t:Ty} {x:t.den} {cs:d5Z},mJ h ok t x cs->∀v∈cs,v.oneCell' =true
 | .bool,_,_,e=>by simp[mJ]at e;subst e;simp[Value.oneCell']| .int _,_,_,e=>by simp[mJ]at e;subst e;simp[Value.oneCell']| .str,_,_,e=>by simp[mJ]at e;subst e;simp[Value.oneCell']| .unit,_,_,e=>by simp[mJ]at e;subst e;simp| .any _,_,_,e=>by obtain⟨v,rfl,h,_⟩:=e;simp[h]
 | .prod a b,_,_,e=>by
  obtain⟨c,d,rfl,h1,h2⟩:=e;intro v hv;rcases F7.1 hv with hv|hv
  .exact zq h1 v hv
  .exact zq h2 v hv
 | .ent _ _ a b,_,_,e=>by
  obtain⟨c,d,rfl,h1,h2⟩:=e;intro v hv;rcases F7.1 hv with hv|hv
  .exact zq h1 v hv
  .exact zq h2 v hv
 | .sl t,xs,_,e=>by rcases e with⟨_,a,cap,rfl,_⟩|⟨_,mv,rfl,_⟩<;>simp[Value.oneCell']
theorem yH{h:Array Obj}{ok ok' :Nat->Ty->Prop} :∀{t:Ty} {x:t.den} {cs:d5Z},(∀b u,ok b u->Ty.occ u t=true->ok' b u)->mJ h ok t x cs->mJ h ok' t x cs
 | .bool,_,_,_,e=>e| .int _,_,_,_,e=>e| .str,_,_,_,e=>e| .unit,_,_,_,e=>e| .any _,_,_,_,e=>e| .prod a b,_,_,f,e=>by obtain⟨c,d,rfl,h1,h2⟩:=e;exact⟨c,d,rfl,yH (λb u h k=>f b u h (by simp[Ty.occ,k])) h1,yH (λb u h k=>f b u h (by simp[Ty.occ,k])) h2⟩
 | .ent _ _ a b,_,_,f,e=>by obtain⟨c,d,rfl,h1,h2⟩:=e;exact⟨c,d,rfl,yH (λb u h k=>f b u h (by simp[Ty.occ,k])) h1,yH (λb u h k=>f b u h (by simp[Ty.occ,k])) h2⟩
 | .sl t,xs,_,f,e=>by
  rcases e with⟨ht,a,cap,rfl,hc,hx⟩|⟨ht,mv,rfl,hn,hx⟩
  .refine .inl ⟨ht,a,cap,rfl,hc,λi x hi=>?_⟩;obtain⟨blk,off,es,ha,hb,he,hr⟩:=hx i x hi;exact⟨blk,off,es,ha,f _ _ hb (by simp[Ty.occ]),he,yH (λb u h k=>f b u h (by simp[Ty.occ,k])) hr⟩
  .refine .inr ⟨ht,mv,rfl,hn,λblk hb=>?_⟩;obtain⟨ho,es,ck,he,hs,hi⟩:=hx blk hb;refine⟨f _ _ ho (by simp[Ty.occ]),es,ck,he,hs,λi x hx=>?_⟩;obtain⟨e,h1,h2,h3⟩:=hi i x hx;exact⟨e,h1,h2,yH (λb u h k=>f b u h (by simp[Ty.occ,k])) h3⟩
inductive Loc where
 |nil|arr (blk off len cap sz:Nat)|st (blk:Nat)|mp (blk:Nat)
structure Mp where
 loc:Nat->Option Loc
 kid:Nat->d6a
instance:CoeFun Mp (λ_=>Nat->Option Loc):=⟨Mp.loc⟩
def nom:Mp:=⟨λ_=>none,λ_=>[]⟩
structure Cx where
 h:Array Obj
 ok:Nat->Ty->Prop
 m:Mp
def Loc.view:Loc->Option (Nat×Nat)->Value->Prop
 | .nil,none,v=>v= .slice none 0 0| .nil,some (lo,hi),v=>lo=0/\hi=0/\v= .slice none 0 0| .arr blk off len cap _,none,v=>v= .slice (some ⟨blk,off,none⟩) len cap| .arr blk off len cap sz,some (lo,hi),v=>lo<=hi/\hi<=len/\v= .slice (some (if cap=lo then⟨blk,off,none⟩else⟨blk,off+lo*sz,none⟩)) (hi -lo) (cap -lo)| .st _,_,_=>False| .mp b,none,v=>v= .map (some b)| .mp _,some _,_=>False
def Loc.blks:Loc->d6a
 | .nil=>[]| .arr b _ _ _ _=>[b]| .st b=>[b]| .mp b=>[b]
def a2c(h:Array Obj)(ok:Nat->Ty->Prop)(t:Ty)(x:t.den)(o:Nat)(v:Value):Prop:=
 ∃blk off es,v= .pointer (some ⟨blk,off+o,none⟩)/\ok blk t/\fD h blk off t.size=some es/\mJ h ok t x es
def IK(h:Array Obj)(ok:Nat->Ty->Prop):List ((t:Ty)×t.den)->d5Z->Prop
 |[],vs=>vs=[]|c::cs,vs=>∃v r,vs=v::r/\a2c h ok c.1 c.2 0 v/\IK h ok cs r
def xP(C:Cx):V->Value->Prop
 | .undef,_=>True| .un,v=>v=Go.undef| .b x,v=>v= .bool x| .i k n,v=>v= .int k n| .s l,v=>v= .string ⟨l.toArray⟩| .nl,v=>v= .slice none 0 0| .npt,v=>v= .pointer none| .ne b,v=>∃a c,v= .slice a 0 c/\a.isNone=b| .sl t xs,v=>mJ C.h C.ok (.sl t) xs [v]| .own bx vw,v=>∃loc,C.m bx=some loc/\loc.view vw v| .ptr bx o,v=>∃blk,C.m bx=some (.st blk)/\v= .pointer (some ⟨blk,o,none⟩)| .ep bx ix o,v=>∃blk off len cap sz,C.m bx=some (.arr blk off len cap sz)/\ix<len/\v= .pointer (some ⟨blk,off+ix*sz+o,none⟩)| .dp t x o,v=>a2c C.h C.ok t x o v| .glob g,v=>v= .pointer (some ⟨g,0,none⟩)| .fnv f,v=>v= .func (.func f) #[] #[]| .idl f n,v=>∃cap:Array Value,v= .func (.func f) #[] cap/\cap.size=n| .clos f caps,v=>∃vs,v= .func (.func f) #[] vs/\IK C.h C.ok caps vs.toList| .ifc t c,v=>∃u,v= .iface t u/\u.oneCell' =true/\xP C c u|_,_=>False
def ig(C:Cx):List V->d5Z->Prop
 |[],vs=>vs=[]|c::cs,vs=>∃v r,vs=v::r/\xP C c v/\v.oneCell' =true/\ig C cs r
def p_(C:Cx):V->Value->Prop
 | .agg cs,v=>∃arr,v= .agg arr/\ig C cs arr.toList|c,v=>xP C c v
def a2V(C:Cx):List V->d5Z->Prop
 |[],vs=>vs=[]|c::cs,vs=>∃v r,vs=v::r/\p_ C c v/\a2V C cs r
def mD(C:Cx):V->Value->Prop
 | .tup cs,v=>∃arr,v= .tuple arr/\a2V C cs arr.toList|c,v=>p_ C c v
def fzo(t:Ty)(n:Nat)(f:Nat×Nat):Prop:=f=(0,0)\/(t= .int .u8/\f=(n,n+1))
theorem fzo.of{f:Nat×Nat}(h:fzo t n f):f=(0,0)\/f=(n,n+1):=h.elim .inl λh=> .inr h.2
def arrOk(C:Cx)(t:Ty)(xs:List t.den):Loc->Prop
 | .nil=>xs=[]/\t.isEnt=false| .arr blk off len cap sz=>t.isEnt=false/\sz=t.size/\len=xs.length/\len<=cap/\∃c T f,C.h[blk]? =some (.cells c T f)/\fzo t c.size f/\off+cap*sz<=c.size/\
   ∀i x,xs[i]? =some x->∃es,fD C.h blk (off+i*sz) sz=some es/\mJ C.h C.ok t x es
 | .st _=>False| .mp blk=>t.isEnt=true/\∃(es:Array MapEntry) (ck:Nat),C.h[blk]? =some (.map es ck)/\es.size=xs.length/\
   ∀(i:Nat) (x:t.den),(xs:List t.den)[i]? =some x->∃e:MapEntry,es[i]? =some e/\TV t e/\mJ C.h C.ok t x (Dq t e)
def Gs{α:Type}(h:Array Obj)(sz:Nat)(R:Nat->α->d5Z->d6a->Prop)(xs:List α)(Os:List d6a):Loc->Prop
 | .nil=>xs=[]/\Os=[]| .arr blk off len cap sz' =>sz' =sz/\len=xs.length/\len<=cap/\Os.length=xs.length/\∃c T,h[blk]? =some (.cells c T (0,0))/\off+cap*sz<=c.size/\
   ∀i x,xs[i]? =some x->∃es O,Os[i]? =some O/\fD h blk (off+i*sz) sz=some es/\R i x es O
 | .st _=>False| .mp _=>False
def a5w(h:Array Obj)(te:Nat)(xs:d5X):Loc->Prop
 | .nil=>xs=[]
 | .arr g off len cap sz=>off=0/\sz=1/\len=xs.length/\len<=cap/\cap<=maxLen/\∃cur fz,h[g]? =some (.cells cur te fz)/\fz.2<=len/\cur.size=cap/\cur.toList.take len=xs.map λc=>Value.int .u8 (c.toNat:Int)| .st _=>False| .mp _=>False
variable {l:Loc}
theorem x_{te:Nat}{xs:d5X}(hh:∀b∈l.blks,h'[b]? =h[b]?)(hr:a5w h te xs l):a5w h' te xs l:=by
 cases l with
 |nil=>exact hr|st b=>exact hr|mp b=>exact hr|arr g off len cap sz=>obtain⟨h1,h2,h3,h4,h5,cur,fz,h6,h7⟩:=hr;exact⟨h1,h2,h3,h4,h5,cur,fz,by rw[hh g (by simp[Loc.blks])];exact h6,h7⟩
def qW(h:Array Obj)(ok:Nat->Ty->Prop):(m:M)->Option Nat->m.den->d5Z->d6a->Prop
 | .dat t,_,x,cs,O=>mJ h ok t x cs/\O=[]| .own t,ho,xs,cs,O=>∃v,cs=[v]/\v.oneCell' =true/\(match ho with|some 0=>O=[]|_=>∃l,l.view none v/\arrOk ⟨h,ok,nom⟩ t xs l/\O=l.blks)| .pair a b,ho,x,cs,O=>∃c d O1 O2,cs=c++d/\O=O1++O2/\qW h ok a (match ho with|some o=>if o<a.size then some o else none|none=>none) x.1 c O1/\
   qW h ok b (match ho with|some o=>if o<a.size then none else some (o -a.size)|none=>none) x.2 d O2
 | .unit,_,_,cs,O=>cs=[]/\O=[]| .box m,_,x,cs,O=>∃blk arr T O',cs=[.pointer (some ⟨blk,0,none⟩)]/\h[blk]? =some (.cells arr T (0,0))/\qW h ok m none x arr.toList O' /\O=blk::O'| .owns m,ho,xs,cs,O=>∃v,cs=[v]/\v.oneCell' =true/\(match ho with|some 0=>O=[]|_=>m.el=true/\∃l Os,l.view none v/\Gs h m.size (λ_ x es O=>qW h ok m none x es O) xs Os l/\O=l.blks++Os.flatten)| .ownb t,_,xs,cs,O=>∃l v,cs=[v]/\l.view none v/\arrOk ⟨h,ok,nom⟩ t xs l/\O=l.blks| .rp t,_,x,cs,O=>∃v,cs=[v]/\a2c h ok t x 0 v/\O=[]| .fn f ts,_,x,cs,O=>∃vs,cs=[.func (.func f) #[] vs]/\IK h ok (WI ts x) vs.toList/\O=[]| .ifc t m,_,x,cs,O=>∃u,cs=[.iface t u]/\qW h ok m none x [u] O| .lp t,_,x,cs,O=>∃v,cs=[v]/\a2c h ok t x 0 v/\O=[]| .dv ..,_,x,cs,O=>∃v,cs=[v]/\v.oneCell' =true/\O=[]| .cell b,_,x,cs,O=>∃v,cs=[v]/\v.oneCell' =true/\(b=some none->v= .slice none 0 0)/\(∀b',b=some (some b')->∃a c,v= .slice a 0 c/\a.isNone=b')/\O=[]| .fr t,_,xs,cs,O=>∃l v,cs=[v]/\l.view none v/\arrOk ⟨h,ok,nom⟩ t xs l/\(∀b∈l.blks,ok b t)/\O=[]| .sit,_,x,cs,O=>∃blk s q,cs=[.pointer (some ⟨blk,0,none⟩)]/\h[blk]? =some (.stringIter s q)/\s.data.toList=x.1/\x.2=((q:Nat):Int)/\O=[blk]| .sbx tb te,_,xs,cs,O=>∃blk a v l,cs=[.pointer (some ⟨blk,0,none⟩)]/\h[blk]? =some (.cells #[a,v] tb (0,0))/\(a= .pointer none\/a= .pointer (some ⟨blk,0,none⟩))/\l.view none v/\a5w h te xs l/\O=blk::l.blks
def a0j(hole:Option (Nat×Nat×Option Nat))(i:Nat):Option Nat:=match hole with|some (j,o,_)=>if i=j then some o else none|none=>none
def Zn(C:Cx)(sz:Nat)(l:Loc):Option (Nat×Nat×Option Nat)->Prop
 |none=>True|some (_,_,none)=>True|some (i,o,some n)=>∃blk off len cap u l',l= .arr blk off len cap sz/\fD C.h blk (off+i*sz+o) 1=some [u]/\C.m n=some l' /\l'.view none u
def a8N(C:Cx)(m:M)(xs:List m.den)(hole:Option (Nat×Nat×Option Nat))(Os:List d6a)(l:Loc):Prop:=
 Gs C.h m.size (λi x es O=>qW C.h C.ok m (a0j hole i) x es O) xs Os l/\Zn C m.size l hole
def Ig(C:Cx)(n:Nat):V->Prop
 | .bcells cs=>∃blk arr T,C.m n=some (.st blk)/\C.h[blk]? =some (.cells arr T (0,0))/\ig C cs arr.toList| .biter l p=>∃blk s q,C.m n=some (.st blk)/\C.h[blk]? =some (.stringIter s q)/\s.data.toList=l/\p=((q:Nat):Int)| .bsb tb c=>∃blk a v,C.m n=some (.st blk)/\C.h[blk]? =some (.cells #[a,v] tb (0,0))/\(a= .pointer none\/a= .pointer (some ⟨blk,0,none⟩))/\xP C c v| .brow te xs=>∃loc,C.m n=some loc/\a5w C.h te xs loc| .barr t xs=>∃loc,C.m n=some loc/\arrOk C t xs loc| .bfrz t xs=>∃loc,C.m n=some loc/\arrOk C t xs loc/\(∀blk,blk∈loc.blks->C.ok blk t)| .barrs m xs hole=>m.el=true/\∃loc Os,C.m n=some loc/\a8N C m xs hole Os loc/\C.m.kid n=Os.flatten| .bfc t x=>∃blk es,C.m n=some (.st blk)/\C.ok blk t/\fD C.h blk 0 t.size=some es/\mJ C.h C.ok t x es| .gone t=>∃l,C.m n=some l/\∀blk off len cap sz,l= .arr blk off len cap sz->sz=t.size| .blen ln sz=>∃k l,n=Sl+k/\C.m k=some l/\(match l with| .arr _ _ len _ sz' =>ln=(len:Int)/\sz=sz'| .nil=>ln=0| .st _=>False| .mp _=>False)|_=>True
def V9(m:Mp)(n:Nat):V->d6a
 | .bcells _=>match m n with|some (.st blk)=>[blk]|_=>[]
 | .biter _ _=>match m n with|some (.st blk)=>[blk]|_=>[]
 | .bsb _ _=>match m n with|some (.st blk)=>[blk]|_=>[]
 | .brow _ _=>match m n with|some (.arr blk _ _ _ _)=>[blk]|_=>[]
 | .barr _ _=>match m n with|some (.arr blk _ _ _ _)=>[blk]|some (.mp blk)=>[blk]|_=>[]
 | .barrs _ _ _=>(match m n with|some (.arr blk _ _ _ _)=>[blk]|_=>[])++m.kid n|_=>[]
def b8f:V->List Ty
 | .barr t _=>[t]| .barrs m _ _=>m.ty::m.owned|_=>[]
def b3S(v:V)(t:Ty):Prop:=match v with
 | .bcells _=>True|v=>t∈b8f v
structure Cx.le (C D:Cx):Prop where
 ok:∀b t,C.ok b t->D.ok b t
 h:∀b t,C.ok b t->D.h[b]? =C.h[b]?
 m:∀n l,C.m n=some l->D.m n=some l
theorem Cx.le.refl(C:Cx):C.le C:=⟨λ_ _ h=>h,λ_ _ _=>rfl,λ_ _ h=>h⟩
theorem Cx.le.trans{A B C:Cx}(h:A.le B)(k:B.le C):A.le C:=
 ⟨λb t x=>k.ok _ _ (h.ok _ _ x),λb t x=>(k.h _ _ (h.ok _ _ x)).trans (h.h _ _ x),λn l x=>k.m _ _ (h.m _ _ x)⟩
variable {v:Value}{ok':Nat->Ty->Prop}
theorem Iu(hok:∀b t,ok b t->ok' b t)(hh:∀b t,ok b t->h'[b]? =h[b]?){x:t.den}{o:Nat}(hr:a2c h ok t x o v):a2c h' ok' t x o v:=by obtain⟨b,o',es,hv,hb,hc,hp⟩:=hr;exact⟨b,o',es,hv,hok _ _ hb,by rw[uH (hh _ _ hb)];exact hc,gp hok hh hp⟩
theorem OE{h h' :Array Obj}{ok ok' :Nat->Ty->Prop}(hok:∀b t,ok b t->ok' b t)(hh:∀b t,ok b t->h'[b]? =h[b]?):∀{cs:List ((t:Ty)×t.den)} {vs:d5Z},IK h ok cs vs->IK h' ok' cs vs
 |[],_,hr=>hr|_::_,_,⟨v,r,e,h1,h2⟩=>⟨v,r,e,Iu hok hh h1,OE hok hh h2⟩
variable {C:Cx}{D:Cx}
theorem a2U(h:C.le D):∀{c:V} {v:Value},xP C c v->xP D c v:=by
 intro c;induction c using V.rec (motive_2:=λ_=>True)<;>try trivial
 all_goals
  intro v hr;simp only[xP]at hr ⊢
  try exact hr
 case sl t xs=>exact gp h.ok h.h hr
 case own bx vw=>obtain⟨l,hm,hv⟩:=hr;exact⟨l,h.m _ _ hm,hv⟩
 case ptr bx o=>obtain⟨b,hm,hv⟩:=hr;exact⟨b,h.m _ _ hm,hv⟩
 case ep bx ix o=>obtain⟨b,o',l,c,s,hm,hv⟩:=hr;exact⟨b,o',l,c,s,h.m _ _ hm,hv⟩
 case dp t x o=>exact Iu h.ok h.h hr
 case clos f caps=>obtain⟨vs,e,hc⟩:=hr;exact⟨vs,e,OE h.ok h.h hc⟩
 case ifc t c ih=>obtain⟨u,e,h1,hc⟩:=hr;exact⟨u,e,h1,ih hc⟩
theorem Ko{C D:Cx}(h:C.le D):∀{cs:List V} {vs:d5Z},ig C cs vs->ig D cs vs
 |[],_,hr=>hr|_::_,_,⟨v,r,e,h1,h2,h3⟩=>⟨v,r,e,a2U h h1,h2,Ko h h3⟩
theorem a9M(h:C.le D){c:V}(hr:p_ C c v):p_ D c v:=by
 cases c<;>simp only[p_]at hr ⊢<;>try exact a2U h hr
 case agg cs=>obtain⟨arr,e,hl⟩:=hr;exact⟨arr,e,Ko h hl⟩
theorem a9N{C D:Cx}(h:C.le D):∀{cs:List V} {vs:d5Z},a2V C cs vs->a2V D cs vs
 |[],_,hr=>hr|_::_,_,⟨v,r,e,h1,h3⟩=>⟨v,r,e,a9M h h1,a9N h h3⟩
theorem QQ(h:C.le D){c:V}(hr:mD C c v):mD D c v:=by
 cases c<;>simp only[mD]at hr ⊢<;>try exact a9M h hr
 case tup cs=>obtain⟨arr,e,hl⟩:=hr;exact⟨arr,e,a9N h hl⟩
theorem qf{m m' :Mp}(hok:∀b t,ok b t->ok' b t)(hh:∀b t,ok b t->h'[b]? =h[b]?)
  (hb:∀b∈l.blks,h'[b]? =h[b]?) (hr:arrOk ⟨h,ok,m⟩ t xs l):arrOk ⟨h',ok',m'⟩ t xs l:=by
 cases l with
 |nil=>exact hr|st b=>exact hr|mp blk=>have e:=hb blk (by simp[Loc.blks]);obtain⟨h1,es,ck,h2,h3,h4⟩:=hr;refine⟨h1,es,ck,by show h'[blk]? =_;rw[e];exact h2,h3,λi x hi=>?_⟩;obtain⟨en,a1,a2,a3⟩:=h4 i x hi;exact⟨en,a1,a2,gp hok hh a3⟩
 |arr blk off len cap sz=>have e:=hb blk (by simp[Loc.blks]);obtain⟨h0,h1,h2,h3,c,T,f,h4,hz,h5,h6⟩:=hr;refine⟨h0,h1,h2,h3,c,T,f,by show h'[blk]? =_;rw[e];exact h4,hz,h5,λi x hi=>?_⟩;obtain⟨es,he,hp⟩:=h6 i x hi;exact⟨es,by show fD h' _ _ _=_;rw[uH e];exact he,gp hok hh hp⟩
theorem a3L(h:C.le D)(hb:∀b∈l.blks,D.h[b]? =C.h[b]?)(hr:arrOk C t xs l):arrOk D t xs l:=
 qf h.ok h.h hb hr
theorem Jz{α:Type}{sz:Nat}{R R' :Nat->α->d5Z->d6a->Prop}{xs:List α}{Os:List d6a}(hb:∀b∈l.blks,h'[b]? =h[b]?)
  (hR:∀i x es O,O∈Os->R i x es O->R' i x es O) (hr:Gs h sz R xs Os l):Gs h' sz R' xs Os l:=by
 cases l with
 |nil=>exact hr|st b=>exact hr|mp b=>exact hr|arr blk off len cap sz=>have e:=hb blk (by simp[Loc.blks]);obtain⟨h1,h2,h3,h7,c,T,h4,h5,h6⟩:=hr;refine⟨h1,h2,h3,h7,c,T,by rw[e];exact h4,h5,λi x hi=>?_⟩;obtain⟨es,O,hO,he,hp⟩:=h6 i x hi;exact⟨es,O,hO,by rw[uH e];exact he,hR _ _ _ _ (iZ hO) hp⟩
theorem kZ{h h' :Array Obj}{ok ok' :Nat->Ty->Prop}(hok:∀b t,ok b t->ok' b t)(hh:∀b t,ok b t->h'[b]? =h[b]?):
  ∀{m:M} {ho:Option Nat} {x:m.den} {cs:d5Z} {O:d6a},(∀b∈O,h'[b]? =h[b]?)->qW h ok m ho x cs O->qW h' ok' m ho x cs O
 | .dat t,_,_,_,_,_,e=>⟨gp hok hh e.1,e.2⟩| .own t,ho,_,_,O,hb,⟨v,e,h1,ha⟩=>by
  refine⟨v,e,h1,?_⟩;split at ha
  .exact ha
  .obtain⟨l,hv,ha,ho⟩:=ha;exact⟨l,hv,qf hok hh (by subst ho;exact hb) ha,ho⟩
 | .pair a b,_,_,_,_,hb,⟨c,d,O1,O2,e,eo,h1,h2⟩=>by subst eo;exact⟨c,d,O1,O2,e,rfl,kZ hok hh (λb h=>hb b (by simp[h])) h1,kZ hok hh (λb h=>hb b (by simp[h])) h2⟩| .unit,_,_,_,_,_,e=>e| .box m,_,_,_,_,hb,⟨blk,arr,T,O',e,hh',hr,eo⟩=>by subst eo;exact⟨blk,arr,T,O',e,by rw[hb blk A7];exact hh',kZ hok hh (λb h=>hb b (by simp[h])) hr,rfl⟩| .owns m,ho,_,_,O,hb,⟨v,e,h1,ha⟩=>by
  refine⟨v,e,h1,?_⟩;split at ha
  .exact ha
  .obtain⟨he,l,Os,hv,ha,ho⟩:=ha;subst ho;exact⟨he,l,Os,hv,Jz (λb h=>hb b (by simp[h])) (λi x es O hO hr=>kZ hok hh (λb h=>hb b (by simp only[F7,eQ];exact .inr ⟨O,hO,h⟩)) hr) ha,rfl⟩
 | .ownb t,_,_,_,_,hb,⟨l,v,e,hv,ha,ho⟩=>⟨l,v,e,hv,qf hok hh (by subst ho;exact hb) ha,ho⟩| .rp t,_,_,_,_,_,⟨v,e,h1,h2⟩=>⟨v,e,Iu hok hh h1,h2⟩| .fn f ts,_,_,_,_,_,⟨vs,e,h1,h2⟩=>⟨vs,e,OE hok hh h1,h2⟩| .lp t,_,_,_,_,_,⟨v,e,h1,h2⟩=>⟨v,e,Iu hok hh h1,h2⟩| .dv ..,_,_,_,_,_,h=>h| .ifc t m,_,_,_,_,hb,⟨u,e,h1⟩=>⟨u,e,kZ hok hh hb h1⟩| .cell b,_,_,_,_,_,h=>h| .fr t,_,_,_,_,_,⟨l,v,e,hv,ha,hk,ho⟩=>⟨l,v,e,hv,qf hok hh (λb h=>hh _ _ (hk b h)) ha,λb h=>hok _ _ (hk b h),ho⟩| .sit,_,_,_,_,hb,⟨blk,s,q,e,hh',h2,h3,eo⟩=>by subst eo;exact⟨blk,s,q,e,by rw[hb blk A7];exact hh',h2,h3,rfl⟩| .sbx tb te,_,_,_,_,hb,⟨blk,a,v,l,e,hh',h2,h3,h4,eo⟩=>by subst eo;exact⟨blk,a,v,l,e,by rw[hb blk A7];exact hh',h2,h3,x_ (λb h=>hb b (by simp[h])) h4,rfl⟩
theorem Yj(h:C.le D){v:V}(hk:D.m.kid n=C.m.kid n)(hb:∀b∈V9 C.m n v,D.h[b]? =C.h[b]?)(hr:Ig C n v):Ig D n v:=by
 cases v<;>simp only[Ig]at hr ⊢
 case bcells cs=>obtain⟨blk,arr,T,hm,hh,hl⟩:=hr;exact⟨blk,arr,T,h.m _ _ hm,by rw[hb blk (by simp[V9,hm])];exact hh,Ko h hl⟩
 case biter l p=>obtain⟨blk,s,q,hm,hh,h2,h3⟩:=hr;exact⟨blk,s,q,h.m _ _ hm,by rw[hb blk (by simp[V9,hm])];exact hh,h2,h3⟩
 case bsb tb c=>obtain⟨blk,a,v,hm,hh,h2,h3⟩:=hr;exact⟨blk,a,v,h.m _ _ hm,by rw[hb blk (by simp[V9,hm])];exact hh,h2,a2U h h3⟩
 case brow te xs=>
  obtain⟨l,hm,ha⟩:=hr;refine⟨l,h.m _ _ hm,x_ (λb hbl=>hb b ?_) ha⟩;cases l<;>simp[Loc.blks]at hbl
  .subst hbl;simp[V9,hm]
  .cases ha
  .cases ha
 case barr t xs=>
  obtain⟨l,hm,ha⟩:=hr;refine⟨l,h.m _ _ hm,a3L h ?_ ha⟩;intro b hbl;refine hb b ?_;cases l<;>simp[Loc.blks]at hbl
  .subst hbl;simp[V9,hm]
  .cases ha
  .subst hbl;simp[V9,hm]
 case bfrz t xs=>obtain⟨l,hm,ha,hok⟩:=hr;refine⟨l,h.m _ _ hm,a3L h ?_ ha,λblk e=>h.ok _ _ (hok _ e)⟩;intro b hbl;exact h.h _ _ (hok _ hbl)
 case barrs m xs hole=>
  obtain⟨he,l,Os,hm,ha,ho⟩:=hr;obtain⟨ha,hh⟩:=ha;refine⟨he,l,Os,h.m _ _ hm,⟨Jz ?_ ?_ ha,?_⟩,hk.trans ho⟩
  .intro b hbl;refine hb b ?_;cases l<;>simp[Loc.blks]at hbl
   .subst hbl;simp[V9,hm]
   .cases ha
   .cases ha
  .intro i x es O hO hr;refine kZ h.ok h.h (λb hbO=>hb b ?_) hr;simp only[V9,F7];right;rw[ho];exact eQ.2 ⟨O,hO,hbO⟩
  .rcases hole with _|⟨i,o,_|k⟩
   .trivial
   .trivial
   .obtain⟨blk,off,len,cap,u,l',rfl,h1,h2,h3⟩:=hh;exact⟨blk,off,len,cap,u,l',rfl,by rw[uH (hb blk (by simp[V9,hm]))];exact h1,h.m _ _ h2,h3⟩
 case bfc t x=>obtain⟨blk,es,hm,hok,he,hr⟩:=hr;exact⟨blk,es,h.m _ _ hm,h.ok _ _ hok,by rw[uH (h.h _ _ hok)];exact he,gp h.ok h.h hr⟩
 case gone t=>obtain⟨l,hm,hs⟩:=hr;exact⟨l,h.m _ _ hm,hs⟩
 case blen ln sz=>obtain⟨k,l,e,hm,hs⟩:=hr;exact⟨k,l,e,h.m _ _ hm,hs⟩
theorem kS{C:Cx} :∀{cs:List V} {vs:d5Z},ig C cs vs->cs.length=vs.length
 |[],_,h=>by simp[ig]at h;simp[h]|_::_,_,⟨v,r,e,_,_,h3⟩=>by subst e;simp[kS h3]
theorem zo{C:Cx} :∀{a:List V} {va:d5Z} {b:List V} {vb:d5Z},ig C a va->ig C b vb->ig C (a++b) (va++vb)
 |[],_,_,_,h,k=>by simp[ig]at h;subst h;exact k|_::_,_,_,_,⟨v,r,e,h1,h2,h3⟩,k=>by subst e;exact⟨v,r++_,rfl,h1,h2,zo h3 k⟩
theorem UO{C:Cx} :∀{cs:List V} {vs:d5Z},ig C cs vs->∀v∈vs,v.oneCell' =true
 |[],_,h=>by simp[ig]at h;simp[h]|_::_,_,⟨v,r,e,_,h2,h3⟩=>by
  subst e;intro u hu;rcases D5.1 hu with rfl|hu
  .exact h2
  .exact UO h3 u hu
theorem wM{C:Cx} :∀(n:Nat) {cs:List V} {vs:d5Z},ig C cs vs->ig C (cs.drop n) (vs.drop n)
 |0,_,_,h=>by simpa using h|n+1,[],_,h=>by simp[ig]at h;subst h;simp[ig]|n+1,_::_,_,⟨v,r,e,_,_,h3⟩=>by subst e;simpa using wM n h3
theorem yf{C:Cx} :∀(n:Nat) {cs:List V} {vs:d5Z},ig C cs vs->ig C (cs.take n) (vs.take n)
 |0,_,_,h=>by simp[ig]|n+1,[],_,h=>by simp[ig]at h;subst h;simp[ig]|n+1,_::_,_,⟨v,r,e,h1,h2,h3⟩=>by subst e;exact⟨v,r.take n,A7,h1,h2,yf n h3⟩
theorem nC:∀(t:Ty) (x:t.den) (r:List V),flat t x r=flat t x []++r
 | .bool,_,_=>rfl| .int _,_,_=>rfl| .str,_,_=>rfl| .sl _,_,_=>rfl| .unit,_,_=>rfl| .any _,_,_=>rfl| .prod a b,x,r=>by simp only[flat];rw[nC a x.1 (flat b x.2 r),nC b x.2 r,nC a x.1 (flat b x.2 [])];simp| .ent _ _ a b,x,r=>by simp only[flat];rw[nC a x.1 (flat b x.2 r),nC b x.2 r,nC a x.1 (flat b x.2 [])];simp
theorem rD{C:Cx} :∀{t:Ty} {x:t.den} {cs:d5Z},mJ C.h C.ok t x cs->ig C (flat t x []) cs
 | .bool,x,_,h=>by simp[mJ]at h;subst h;exact⟨_,_,rfl,rfl,rfl,rfl⟩| .int _,x,_,h=>by simp[mJ]at h;subst h;exact⟨_,_,rfl,rfl,rfl,rfl⟩| .str,x,_,h=>by simp[mJ]at h;subst h;exact⟨_,_,rfl,rfl,rfl,rfl⟩| .unit,_,_,h=>by simp[mJ]at h;subst h;rfl| .any _,_,_,h=>by obtain⟨v,rfl,h1,_⟩:=h;exact⟨v,[],rfl,trivial,h1,rfl⟩
 | .sl t,xs,_,h=>by have h' :=h;rcases h with⟨_,a,cap,rfl,_⟩|⟨_,mv,rfl,_⟩<;>exact⟨_,_,rfl,h',rfl,rfl⟩
 | .ent _ _ a b,x,_,h=>by obtain⟨c,d,rfl,h1,h2⟩:=h;simp only[flat];rw[nC a];exact zo (rD h1) (rD h2)
 | .prod a b,x,_,h=>by obtain⟨c,d,rfl,h1,h2⟩:=h;simp only[flat];rw[nC a];exact zo (rD h1) (rD h2)
theorem oM:∀(t:Ty) (x:t.den),(flat t x []).length=t.size
 | .bool,_=>rfl| .int _,_=>rfl| .str,_=>rfl| .sl _,_=>rfl| .unit,_=>rfl| .any _,_=>rfl| .prod a b,x=>by simp only[flat,Ty.size];rw[nC a,E5,oM a x.1,oM b x.2]| .ent _ _ a b,x=>by simp only[flat,Ty.size];rw[nC a,E5,oM a x.1,oM b x.2]
theorem qp{vw:Option (Nat×Nat)}(ha:arrOk C t xs l)(hv:l.view vw v)
  (hok:∀b t,C.ok b t->ok' b t) (hb:∀blk,blk∈l.blks->ok' blk t):mJ C.h ok' (.sl t) (jT vw xs) [v]:=by
 cases l with
 |st b=>cases ha|mp b=>
  obtain⟨h0,es,ck,h1,h2,h3⟩:=ha;cases vw with
  |some p=>cases hv|none=>simp only[Loc.view]at hv;subst hv;refine .inr ⟨h0,some b,rfl,(λh=>nomatch h),λblk e=>?_⟩;cases e;refine⟨hb b (by simp[Loc.blks]),es,ck,h1,h2,λi x hi=>?_⟩;obtain⟨en,a1,a2,a3⟩:=h3 i x hi;exact⟨en,a1,a2,gp hok (λ_ _ _=>rfl) a3⟩
 |nil=>
  obtain⟨ha,h0⟩:=ha;subst ha;cases vw with
  |none=>simp only[Loc.view]at hv;subst hv;exact .inl ⟨h0,none,0,rfl,F5 _,λi x hi=>by simp[jT]at hi⟩|some p=>obtain⟨lo,hi⟩:=p;obtain⟨rfl,rfl,rfl⟩:=hv;exact .inl ⟨h0,none,0,by simp[jT,oU],by simp[jT,oU],λi x hi=>by simp[jT,oU]at hi⟩
 |arr blk off len cap sz=>
  obtain⟨h0,rfl,rfl,hc,c,T,f,hh,hz,hs,hx⟩:=ha;have hbk:=hb blk (by simp[Loc.blks]);cases vw with
  |none=>simp only[Loc.view]at hv;subst hv;refine .inl ⟨h0,_,cap,rfl,hc,λi x hi=>?_⟩;obtain⟨es,he,hr⟩:=hx i x hi;exact⟨blk,off,es,rfl,hbk,he,gp hok (λ_ _ _=>rfl) hr⟩
  |some p=>
   obtain⟨lo,hi⟩:=p;obtain⟨h1,h2,rfl⟩:=hv;have hl:(jT (some (lo,hi)) xs).length=hi -lo:=by simp[jT,oU];omega
   refine .inl ⟨h0,_,cap -lo,by rw[hl],by rw[hl];omega,λi x hix=>?_⟩;have hi' :i<hi -lo:=by rw[←hl];exact(X0.1 hix).1
   have hx' :xs[lo+i]? =some x:=by
    simp only[jT,oU,P5,X6]at hix;split at hix
    .exact hix
    .cases hix
   obtain⟨es,he,hr⟩:=hx _ x hx';have hne:cap≠lo:=l9;refine⟨blk,off+lo*t.size,es,by simp[hne],hbk,?_,gp hok (λ_ _ _=>rfl) hr⟩;rw[←he];congr 1;rw[J4];omega
end Go.GP
namespace Go.GP
abbrev Sm:=Nat->V
def upd(S:Sm)(k:Nat)(v:V):Sm:=λn=>if n=k then v else S n
@[simp] theorem lZ (S:Sm) (k:Nat) (v:V):upd S k v k=v:=by simp[upd]
theorem bV(S:Sm){k n:Nat}(v:V)(h:n≠k):upd S k v n=S n:=by simp[upd,h]
variable {α:Type}
def Cmd.eval :Cmd α->Sm->Tr->Option (α×Sm×Tr)
 | .ret x,S,t=>some (x,S,t)| .fail,_,_=>none| .get k c,S,t=>(c (S k)).eval S (k::t.1,t.2)| .set k v c,S,t=>c.eval (upd S k v) (t.1,k::t.2)
 | .opt o c,S,t=>match o with|some x=>(c x).eval S t|none=>none
 | .br b c d,S,t=>if b=true then c.eval S t else d.eval S t
def Cmd.post :Cmd α->Sm->(α->Sm->Prop)->Prop
 | .ret x,S,Q=>Q x S| .fail,_,_=>True| .get k c,S,Q=>(c (S k)).post S Q| .set k v c,S,Q=>c.post (upd S k v) Q| .opt o c,S,Q=>∀x,o=some x->(c x).post S Q| .br b c d,S,Q=>(b=true->c.post S Q)/\(b=false->d.post S Q)
theorem wC{α:Type}{Q:α->Sm->Prop} :∀{c:Cmd α} {S S' :Sm} {t t' :Tr} {x:α},c.post S Q->c.eval S t=some (x,S',t')->Q x S'
 | .ret x,_,_,_,_,_,h,e=>by simp[Cmd.eval]at e;obtain⟨rfl,rfl,rfl⟩:=e;exact h
 | .fail,_,_,_,_,_,h,e=>by simp[Cmd.eval]at e| .get k c,_,_,_,_,_,h,e=>wC (c:=c _) h e| .set k v c,_,_,_,_,_,h,e=>wC (c:=c) h e| .opt o c,_,_,_,_,_,h,e=>by
  cases o with
  |none=>simp[Cmd.eval]at e|some x=>exact wC (c:=c x) (h x rfl) e
 | .br b c d,_,_,_,_,_,h,e=>by
  cases b
  .exact wC (c:=d) (h.2 rfl) (by simpa[Cmd.eval]using e)
  .exact wC (c:=c) (h.1 rfl) (by simpa[Cmd.eval]using e)
theorem EZ{α:Type}{Q Q' :α->Sm->Prop}(hq:∀x S,Q x S->Q' x S):∀{c:Cmd α} {S:Sm},c.post S Q->c.post S Q'
 | .ret x,_,h=>hq _ _ h| .fail,_,_=>trivial| .get k c,_,h=>EZ hq (c:=c _) h| .set k v c,_,h=>EZ hq (c:=c) h
 | .opt o c,_,h=>λx e=>EZ hq (c:=c x) (h x e)| .br b c d,_,h=>⟨λe=>EZ hq (c:=c) (h.1 e),λe=>EZ hq (c:=d) (h.2 e)⟩
theorem Lu{R:Type} :∀(v:V) (K:V->R),v.force K=K v:=by
 intro v;induction v using V.rec (motive_2:=λ_=>True)<;>try trivial
 all_goals intro K
 all_goals try rfl
 case i k n=>cases k<;>rfl
 case own bx vw=>cases vw<;>rfl
 case barrs m xs h=>rcases h with _|⟨p,q,_|r⟩<;>rfl
 case ifc t v ih=>simp only[V.force];rw[ih]
 case bsb tb c ih=>simp only[V.force];rw[ih]
theorem a0T{R:Type} :∀(l:List V) (K:List V->R),VF l K=K l
 |[],_=>rfl|v::r,K=>by simp[VF,Lu,a0T r]
theorem b0E{R:Type}(v:V)(K:V->R):v.force2 K=K v:=by unfold V.force2;rw[Lu];cases v<;>simp[a0T]
theorem a9m(k:Nat)(v:V)(s:St):gq (.kv k v::s)=upd (gq s) k v:=by
 funext n;simp only[gq,upd];by_cases h:n=k
 .subst h;simp
 .have:Nat.beq k n=false:=by
   cases hb:Nat.beq k n with
   |false=>rfl|true=>exact absurd (iD hb).symm h
  simp[h,this]
theorem Jb{α β:Type}{o:Option α}{f:α->Option β}{r:β}(h:o5 o f=some r):∃x,o=some x/\f x=some r:=by
 cases o with
 |none=>simp[o5]at h|some x=>exact⟨x,rfl,h⟩
theorem rE{α R:Type} :∀{c:Cmd α} {s:St} {t:Tr} {K:α->St->Tr->Option R} {r:R},c.runK s t K=some r->
  ∃x s' t',c.eval (gq s) t=some (x,gq s',t')/\K x s' t' =some r
 | .ret x,s,t,K,r,h=>⟨x,s,t,rfl,h⟩| .fail,_,_,_,_,h=>by simp[Cmd.runK]at h| .get k c,s,t,K,r,h=>by simp only[Cmd.runK,Lu]at h;exact rE (c:=c _) h| .set k v c,s,t,K,r,h=>by simp only[Cmd.runK,b0E]at h;obtain⟨x,s',t',e,hk⟩:=rE (c:=c) h;exact⟨x,s',t',by simpa[Cmd.eval,a9m]using e,hk⟩
 | .opt o c,s,t,K,r,h=>by simp only[Cmd.runK]at h;obtain⟨y,rfl,h⟩:=Jb h;exact rE (c:=c y) h
 | .br b c d,s,t,K,r,h=>by
  simp only[Cmd.runK]at h;cases b
  .obtain⟨x,s',t',e,hk⟩:=rE (c:=d) (show d.runK s t K=some r from h);exact⟨x,s',t',by simpa[Cmd.eval]using e,hk⟩
  .obtain⟨x,s',t',e,hk⟩:=rE (c:=c) (show c.runK s t K=some r from h);exact⟨x,s',t',by simpa[Cmd.eval]using e,hk⟩
theorem EK{α:Type} :∀{c:Cmd α} {S S' :Sm} {t t' :Tr} {x:α},c.eval S t=some (x,S',t')->(∀k∈t.1,k∈t'.1)/\(∀k∈t.2,k∈t'.2)
 | .ret x,_,_,_,_,_,e=>by simp[Cmd.eval]at e;obtain⟨rfl,rfl,rfl⟩:=e;exact⟨λ_ h=>h,λ_ h=>h⟩
 | .fail,_,_,_,_,_,e=>by simp[Cmd.eval]at e| .get k c,_,_,_,_,_,e=>by have h:=EK (c:=c _) e;exact⟨λn hn=>h.1 n (by simp[hn]),h.2⟩| .set k v c,_,_,_,_,_,e=>by have h:=EK (c:=c) e;exact⟨h.1,λn hn=>h.2 n (by simp[hn])⟩| .opt o c,_,_,_,_,_,e=>by
  cases o with
  |none=>simp[Cmd.eval]at e|some x=>exact EK (c:=c x) e
 | .br b c d,_,_,_,_,_,e=>by
  cases b
  .exact EK (c:=d) (by simpa[Cmd.eval]using e)
  .exact EK (c:=c) (by simpa[Cmd.eval]using e)
theorem BZ{α:Type} :∀{c:Cmd α} {S S' :Sm} {t t' :Tr} {x:α},c.eval S t=some (x,S',t')->∀T:Sm,(∀k∈t'.1,T k=S k)->
  ∃T',c.eval T t=some (x,T',t')/\(∀k,T k=S k->T' k=S' k)/\(∀k,k∉t'.2->T' k=T k)/\(∀k,k∈t'.2->k∉t.2->T' k=S' k)
 | .ret x,_,_,_,_,_,e,T,hT=>by simp[Cmd.eval]at e;obtain⟨rfl,rfl,rfl⟩:=e;exact⟨T,rfl,λk h=>h,λ_ _=>rfl,λk h1 h2=>absurd h1 h2⟩
 | .fail,_,_,_,_,_,e,_,_=>by simp[Cmd.eval]at e| .get k c,S,_,t,t',_,e,T,hT=>by have hk:T k=S k:=hT k ((EK (c:=c _) e).1 k A7);obtain⟨T',h1,h2,h3,h4⟩:=BZ (c:=c _) e T hT;exact⟨T',by simpa[Cmd.eval,hk]using h1,h2,h3,h4⟩
 | .set k v c,S,_,t,t',_,e,T,hT=>by
  obtain⟨T',h1,h2,h3,h4⟩:=BZ (c:=c) e (upd T k v) (λn hn=>by
   by_cases h:n=k
   .subst h;simp
   .rw[bV _ _ h,bV _ _ h];exact hT n hn)
  have hkin:k∈t'.2:=(EK (c:=c) e).2 k A7;refine⟨T',h1,λn hn=>h2 n ?_,λn hn=>?_,λn hn hn' =>?_⟩
  .by_cases h:n=k
   .subst h;simp
   .rw[bV _ _ h,bV _ _ h];exact hn
  .have:n≠k:=λh=>hn (h▸hkin);rw[h3 n hn,bV _ _ this]
  .by_cases h:n=k
   .subst h;exact h2 n A7
   .exact h4 n hn (by simp[h,hn'])
 | .opt o c,_,_,_,_,_,e,T,hT=>by
  cases o with
  |none=>simp[Cmd.eval]at e|some x=>exact BZ (c:=c x) e T hT
 | .br b c d,_,_,_,_,_,e,T,hT=>by
  cases b
  .obtain⟨T',h1,h2⟩:=BZ (c:=d) (by simpa[Cmd.eval]using e) T hT;exact⟨T',by simpa[Cmd.eval]using h1,h2⟩
  .obtain⟨T',h1,h2⟩:=BZ (c:=c) (by simpa[Cmd.eval]using e) T hT;exact⟨T',by simpa[Cmd.eval]using h1,h2⟩
theorem MQ{c:Cmd α}{S S' :Sm}{t t' :Tr}{x:α}(e:c.eval S t=some (x,S',t'))(k:Nat)(h:k∉t'.2):S' k=S k:=by obtain⟨T',h1,_,h3,_⟩:=BZ e S (λ_ _=>rfl);rw[e]at h1;simp at h1;rw[h1];exact h3 k h
section draws
variable {n:Nat} {c:Nat->Cmd Unit} {S:Nat->Sm} {T:Nat->Tr}
def SD(S:Nat->Sm)(T:Nat->Tr)(D:d6a):Nat->Sm
 |0=>S 0
 |m+1=>λk=>if m∈D/\k∈(T m).2 then S (m+1) k else SD S T D m k
theorem Qo(hs:∀i,i<n->(c i).eval (S i) ([],[])=some ((),S (i+1),T i))(D:d6a)(k:Nat):
  ∀m,m<=n->(∀j,j<m->k∈(T j).2->j∈D)->SD S T D m k=S m k
 |0,_,_=>rfl|m+1,hm,h=>by
  have ih:=Qo hs D k m l9 (λj hj=>h j l9);simp only[SD];by_cases hk:k∈(T m).2
  .rw[if_pos ⟨h m l9 hk,hk⟩]
  .rw[if_neg (λx=>hk x.2),ih,MQ (hs m l9) k hk]
theorem Yw(D:d6a)(k i:Nat):∀m,i<=m->(∀j,i<=j->j<m->k∈(T j).2->j∉D)->SD S T D m k=SD S T D i k
 |m,hm,h=>by
  induction m with
  |zero=>have:i=0:=l9;subst this;rfl|succ m ih=>
   by_cases e:i=m+1
   .subst e;rfl
   .simp only[SD];rw[if_neg (λx=>h m l9 l9 x.2 x.1)];exact ih l9 (λj h1 h2=>h j h1 l9)
theorem a8C(D:d6a)(i k:Nat)(hk:k∉(T i).2):∀m,SD S T (i::D) m k=SD S T D m k
 |0=>rfl|m+1=>by
  simp only[SD,a8C D i k hk m];by_cases e:m=i
  .subst e;simp[hk]
  .simp[D5,e]
theorem b2l(hs:∀i,i<n->(c i).eval (S i) ([],[])=some ((),S (i+1),T i)){D:d6a}(hD:∀i,i<n->i∈D):SD S T D n=S n:=by funext k;exact Qo hs D k n l9 (λj hj _=>hD j hj)
theorem c0k(n:Nat):SD S T [] n=S 0:=by
 induction n with
 |zero=>rfl|succ m ih=>funext k;simp[SD,ih]
end draws
end Go.GP
namespace Go.GP
def a3C(P:Program)(d:Deferred):Prop:=∃fv cap f args,d.target= .fn fv cap/\(∀w:World,(invoke d.target d.args).run P w= .ok (.enter f args) w)/\
 ∀w,CallsD P f args .returning w λe u' w' =>(∃v,e= .returned v)/\u' = .returning/\w' =w
def c5u(P:Program)(f n:Nat):Prop:=∀cap:Array Value,cap.size=n->a3C P { target:=.fn (.func f) cap,args:=#[] }
theorem Pj{P:Program}{fn:Func}{tmps:Array Value}{R:Ending->World->Prop}{w:World}(h:∃v,(results fn tmps).run P w= .ok v w/\R (.returned v) w):∀(ds:List Deferred),(∀d∈ds,a3C P d)->Leaves P fn tmps R ds .returning w
 |[],_=>h
 |d::ds,hd=>by obtain⟨fv,cap,f,args,ht,hi,hc⟩:=hd d A7;refine⟨A7,fv,cap,f,args,ht,hi w,(hc w).mono ?_⟩;rintro e u' w' ⟨⟨v,rfl⟩,rfl,rfl⟩;exact Pj h ds λx hx=>hd x (by simp[hx])
structure Fx where
 P:Program
 E:Env
 w0:World
 O:d6a
 ok0:Nat->Ty->Prop
 tm0:Array Value
structure Frame' (w0 w:World) (O:d6a):Prop where
 os:w.os=w0.os
 tape:w.tape=w0.tape
 output:w.output=w0.output
 size:w0.heap.size<=w.heap.size
 block:∀b,b<w0.heap.size->b∉O->w.heap[b]? =w0.heap[b]?
theorem Frame'.refl(w:World)(O:d6a):Frame' w w O:=⟨rfl,rfl,rfl,F5 _,λ_ _ _=>rfl⟩
def b9m(h:Array Obj)(g n:Nat):Prop:=∃c T f,h[g]? =some (.cells c T f)/\c.size=n
def TF(C:Cx)(g:Nat)(t:Ty)(xs:List t.den):Prop:=
 C.ok g t/\b9m C.h g (xs.length*t.size)/\∀i x,xs[i]? =some x->∃es,fD C.h g (i*t.size) t.size=some es/\mJ C.h C.ok t x es
theorem TF.le{C D:Cx}(h:C.le D){g:Nat}{t:Ty}{xs:List t.den}(k:TF C g t xs):TF D g t xs:=by obtain⟨h1,h3,h2⟩:=k;refine⟨h.ok _ _ h1,by unfold b9m at h3 ⊢;rw[h.h _ _ h1];exact h3,λi x hi=>?_⟩;obtain⟨es,he,hr⟩:=h2 i x hi;exact⟨es,by rw[uH (h.h _ _ h1)];exact he,gp h.ok h.h hr⟩
structure Rel (X:Fx) (cl ch:Nat) (S:Sm) (m:Mp) (ok:Nat->Ty->Prop) (a:Act) (w:World):Prop where
 size:a.tmps.size=X.E.nt
 nodef:∀d∈a.defers,a3C X.P d
 slot:∀n,n<ai->mD ⟨w.heap,ok,m⟩ (S n) (a.tmps.getD n Go.undef)
 box:∀n,Ig ⟨w.heap,ok,m⟩ n (S (ai+n))
 inj:∀n n' b,b∈V9 m n (S (ai+n))->b∈V9 m n' (S (ai+n'))->n=n'
 nd:∀n,(V9 m n (S (ai+n))).Nodup
 sep:∀n b,b∈V9 m n (S (ai+n))->(∀t,¬ok b t)/\b<w.heap.size/\(X.w0.heap.size<=b\/b∈X.O)
 okLt:∀b t,ok b t->b<w.heap.size
 okIn:∀b t,X.ok0 b t->ok b t
 okOut:∀b t,ok b t->X.ok0 b t\/X.w0.heap.size<=b\/b∈X.O
 frame:Frame' X.w0 w X.O
 fresh:∀n,cl<=n->S (ai+n)= .undef->m n=none
 strict:∀n,ch<=n->m n=none
 gl:∀g u,dW X.E.gl g=some u->TF ⟨w.heap,ok,m⟩ g u.1 u.2
 kept:∀n∈X.E.kp,a.tmps.getD n Go.undef=X.tm0.getD n Go.undef
def oz(m:Mp)(n:Nat)(l:Loc)(ks:d6a):Mp:=⟨λk=>if k=n then some l else m k,λk=>if k=n then ks else m.kid k⟩
@[simp] theorem aQ (m:Mp) (n:Nat) (l:Loc) (ks:d6a):oz m n l ks n=some l:=by simp[oz]
variable {n:Nat}{k:Nat}
theorem jS(m:Mp)(l:Loc)(ks:d6a)(h:k≠n):oz m n l ks k=m k:=by simp[oz,h]
@[simp] theorem d5t (m:Mp) (n:Nat) (l:Loc) (ks:d6a):(oz m n l ks).kid n=ks:=by simp[oz]
theorem WL(m:Mp)(l:Loc)(ks:d6a)(h:k≠n):(oz m n l ks).kid k=m.kid k:=by simp[oz,h]
def Io(m:Mp)(n:Nat)(ks:d6a):Mp:=⟨m.loc,λk=>if k=n then ks else m.kid k⟩
@[simp] theorem d4b (m:Mp) (n k:Nat) (ks:d6a):Io m n ks k=m k:=rfl
@[simp] theorem d4a (m:Mp) (n:Nat) (ks:d6a):(Io m n ks).kid n=ks:=by simp[Io]
theorem a1E(m:Mp)(ks:d6a)(h:k≠n):(Io m n ks).kid k=m.kid k:=by simp[Io,h]
theorem Aq(m:Mp)(n:Nat):Io m n (m.kid n)=m:=by
 cases m with|mk l k=>
 simp only[Io,Mp.mk.injEq,true_and];funext j;split
 .rename_i e;rw[e]
 .rfl
variable {v:V}
theorem Nc{m m' :Mp}(h:m' n=m n)(k:m'.kid n=m.kid n):V9 m' n v=V9 m n v:=by cases v<;>simp only[V9,h,k]
variable {d:Nat}
theorem a0i{tmps:Array Value}(h:d<tmps.size)(x e:Value):(tmps.setIfInBounds d x).getD d e=x:=by simp[Array.getD,h]
theorem OZ{tmps:Array Value}(h:n≠d)(x e:Value):(tmps.setIfInBounds d x).getD n e=tmps.getD n e:=by simp only[af];rw[mi];simp[Ne.symm h]
structure Tk (X:Fx) (S:Sm) (m:Mp) (ok:Nat->Ty->Prop) (w:World) (T:d6a):Prop where
 nodup:T.Nodup
 free:∀b∈T,(∀t,¬ok b t)/\b<w.heap.size/\(X.w0.heap.size<=b\/b∈X.O)/\∀n,b∉V9 m n (S (ai+n))
theorem Tk.nil{X:Fx}{S:Sm}{m:Mp}{ok:Nat->Ty->Prop}{w:World} :Tk X S m ok w []:=⟨fJ,λb h=>by cases h⟩
def okW(ok:Nat->Ty->Prop)(bs:d6a)(Ts:List Ty):Nat->Ty->Prop:=λb t=>ok b t\/(b∈bs/\t∈Ts)
variable {w':World}{bs:d6a}
section
variable {X:Fx} {cl ch:Nat} {S:Sm} {m:Mp} {ok:Nat->Ty->Prop} {a:Act} {w:World} {T:d6a}
theorem Tk.perm{T T' :d6a}(h:Tk X S m ok w T)(p:T.Perm T'):Tk X S m ok w T' :=
 ⟨p.nodup_iff.1 h.nodup,λb hb=>h.free b (p.mem_iff.2 hb)⟩
theorem ZC{n:Nat} :∀{l:d6a},IY n l=false->n∉l
 |[],_,h=>by cases h|k::r,hb,h=>by
  unfold IY at hb;cases hk:Nat.beq k n<;>rw[hk]at hb
  .rcases D5.1 h with e|h
   .subst e;rw[show Nat.beq n n=true from Nat.beq_refl n]at hk;cases hk
   .exact ZC hb h
  .cases hb
theorem a1l{n:Nat} :∀{l:d6a},IY n l=true->n∈l
 |[],h=>by cases h|k::r,hb=>by
  unfold IY at hb;cases hk:Nat.beq k n<;>rw[hk]at hb
  .exact Y2 _ (a1l hb)
  .have:=iD hk;subst this;exact jD
theorem EY{E:Env}{t:Nat}(h:a1p E t=true):t<E.nt/\t∉E.kp:=by
 unfold a1p at h;cases hb:Nat.blt t E.nt<;>rw[hb]at h
 .cases h
 .simp only[cond_true,dP]at h;exact⟨by rw[iI]at hb;exact hb,ZC h⟩
theorem Rel.put(R:Rel X cl ch S m ok a w)(hnt:X.E.nt<=ai){x:Value}(hd:a1p X.E d=true)(hv:mD ⟨w.heap,ok,m⟩ v x):
  Rel X cl ch (upd S d v) m ok (a.put (some d) x) w:=by
 obtain⟨hd,hkp⟩:=EY hd;have hb:∀n,upd S d v (ai+n)=S (ai+n):=λn=>bV _ _ l9;have hkept:∀n∈X.E.kp,(a.put (some d) x).tmps.getD n Go.undef=X.tm0.getD n Go.undef:=λn hn=>by have e:n≠d:=λe=>hkp (e▸hn);simp only[Act.put];rw[OZ e];exact R.kept n hn
 refine { R with size:=(by simp[Act.put,R.size]),nodef:=(by simpa[Act.put]using R.nodef),slot:=λn hn=>?_,box:=λn=>(by rw[hb];exact R.box n),inj:=λn n' b=>(by rw[hb,hb];exact R.inj n n' b),nd:=λn=>(by rw[hb];exact R.nd n),sep:=λn b=>(by rw[hb];exact R.sep n b),fresh:=λn h1 h2=>R.fresh n h1 (by rwa[hb]at h2),kept:=hkept };by_cases e:n=d
 .subst e;simp only[lZ,Act.put];rw[a0i (by rw[R.size];exact hd)];exact hv
 .rw[bV _ _ e];simp only[Act.put];rw[OZ e];exact R.slot n hn
theorem Rel.slotV(R:Rel X cl ch S m ok a w)(hd:d<ai)(hv:mD ⟨w.heap,ok,m⟩ v (a.tmps.getD d Go.undef)):
  Rel X cl ch (upd S d v) m ok a w:=by
 have hb:∀n,upd S d v (ai+n)=S (ai+n):=λn=>bV _ _ l9;refine { R with slot:=λn hn=>?_,box:=λn=>(by rw[hb];exact R.box n),inj:=λn n' b=>(by rw[hb,hb];exact R.inj n n' b),nd:=λn=>(by rw[hb];exact R.nd n),sep:=λn b=>(by rw[hb];exact R.sep n b),fresh:=λn h1 h2=>R.fresh n h1 (by rwa[hb]at h2) };by_cases e:n=d
 .subst e;simp only[lZ];exact hv
 .rw[bV _ _ e];exact R.slot n hn
theorem Rel.world(R:Rel X cl ch S m ok a w){ok' :Nat->Ty->Prop}(hos:w'.os=w.os)(htp:w'.tape=w.tape)(hout:w'.output=w.output)(hsz:w.heap.size<=w'.heap.size)
  (hkeep:∀b,b<w.heap.size->((∃t,ok b t)\/(∃n,b∈V9 m n (S (ai+n)))\/¬(X.w0.heap.size<=b\/b∈X.O))->w'.heap[b]? =w.heap[b]?)
  (hok:∀b t,ok b t->ok' b t) (hok' :∀b t,ok' b t->b<w'.heap.size/\(ok b t\/((X.w0.heap.size<=b\/b∈X.O)/\∀n,b∉V9 m n (S (ai+n))))):
  Rel X cl ch S m ok' a w' :=by
 have hle:Cx.le ⟨w.heap,ok,m⟩ ⟨w'.heap,ok',m⟩:=⟨hok,λb t hb=>hkeep b (R.okLt b t hb) (.inl ⟨t,hb⟩),λ_ _ h=>h⟩;refine { kept:=R.kept,size:=R.size,nodef:=R.nodef,inj:=R.inj,nd:=R.nd,fresh:=R.fresh,strict:=R.strict,slot:=λn hn=>QQ hle (R.slot n hn),box:=λn=>Yj hle rfl (λb hb=>hkeep b (R.sep n b hb).2.1 (.inr (.inl ⟨n,hb⟩))) (R.box n),sep:=λn b hb=>?_,okLt:=λb t hb=>(hok' b t hb).1,okIn:=λb t hb=>hok b t (R.okIn b t hb),okOut:=λb t hb=>?_,frame:=?_,gl:=λg u hg=>TF.le hle (R.gl g u hg) }
 .obtain⟨h1,h2,h3⟩:=R.sep n b hb;refine⟨λt h=>?_,l9,h3⟩;rcases(hok' b t h).2 with h|⟨_,h⟩
  .exact h1 t h
  .exact h n hb
 .rcases(hok' b t hb).2 with h|⟨h,_⟩
  .exact R.okOut b t h
  .exact .inr h
 .obtain⟨f1,f2,f3,f4,f5⟩:=R.frame;refine⟨hos.trans f1,htp.trans f2,hout.trans f3,l9,λb hb hO=>?_⟩;rw[hkeep b l9 (.inr (.inr (by simp[hO];omega)))];exact f5 b hb hO
theorem Rel.same(R:Rel X cl ch S m ok a w)(hos:w'.os=w.os)(htp:w'.tape=w.tape)(hout:w'.output=w.output)(hh:w'.heap=w.heap):Rel X cl ch S m ok a w' :=by refine R.world hos htp hout (by rw[hh];exact F5 _) (λb _ _=>by rw[hh]) (λ_ _ h=>h) (λb t h=>⟨by rw[hh];exact R.okLt b t h,.inl h⟩)
theorem CX{n k b:Nat}(hv:V9 m n v=[])(h:b∈V9 m k (upd S (ai+n) v (ai+k))):k≠n/\b∈V9 m k (S (ai+k)):=by
 by_cases e:k=n
 .subst e;rw[lZ,hv]at h;cases h
 .rw[bV _ _ l9]at h;exact⟨e,h⟩
theorem Rel.killV(R:Rel X cl ch S m ok a w)(n:Nat)(hv:v≠.undef)(hw:V9 m n v=[])(hB:Ig ⟨w.heap,ok,m⟩ n v):Rel X cl ch (upd S (ai+n) v) m ok a w:=by
 have ho:∀k b,b∈V9 m k (upd S (ai+n) v (ai+k))->k≠n/\b∈V9 m k (S (ai+k)):=λk b h=>CX hw h;refine { R with slot:=λk hk=>(by rw[bV _ _ l9];exact R.slot k hk),box:=λk=>?_,inj:=λk k' b h h' =>R.inj k k' b (ho _ _ h).2 (ho _ _ h').2,nd:=λk=>?_,sep:=λk b h=>R.sep k b (ho _ _ h).2,fresh:=λk h1 h2=>?_ }
 .by_cases e:k=n
  .subst e;rw[lZ];exact hB
  .rw[bV _ _ l9];exact R.box k
 .by_cases e:k=n
  .subst e;rw[lZ,hw];exact fJ
  .rw[bV _ _ l9];exact R.nd k
 .by_cases e:k=n
  .subst e;rw[lZ]at h2;exact absurd h2 hv
  .rw[bV _ _ l9]at h2;exact R.fresh k h1 h2
theorem Rel.kill(R:Rel X cl ch S m ok a w)(n:Nat):Rel X cl ch (upd S (ai+n) .dead) m ok a w:=R.killV n A7 rfl trivial
theorem Tk.killV(R:Rel X cl ch S m ok a w)(h:Tk X S m ok w T)(n:Nat)(hw:V9 m n v=[])(hbs:∀b,b∈bs->b∈V9 m n (S (ai+n)))(hnd:bs.Nodup):
  Tk X (upd S (ai+n) v) m ok w (T++bs):=by
 refine⟨L6.2 ⟨h.nodup,hnd,λx hx y hy e=>?_⟩,λb hb=>?_⟩
 .subst e;exact(h.free x hx).2.2.2 n (hbs x hy)
 .rcases F7.1 hb with hb|hb
  .obtain⟨h1,h2,h3,h4⟩:=h.free b hb;exact⟨h1,h2,h3,λk e=>h4 k (CX hw e).2⟩
  .obtain⟨h1,h2,h3⟩:=R.sep n b (hbs b hb);exact⟨h1,h2,h3,λk e=>(CX hw e).1 (R.inj k n b (CX hw e).2 (hbs b hb))⟩
theorem Rel.mark(R:Rel X cl ch S m ok a w){md:M}{xs:List md.den}(hS:S (ai+n)= .barrs md xs none):Rel X cl ch (upd S (ai+(Sl+n)) (.blen (o9 xs) md.size)) m ok a w:=by
 refine R.killV (Sl+n) A7 rfl ?_;have hb:=R.box n;rw[hS]at hb;obtain⟨_,l,Os,hm,⟨ha,hho⟩,_⟩:=hb;refine⟨n,l,rfl,hm,?_⟩;cases l with
 |nil=>obtain⟨rfl,_⟩:=ha;rfl
 |st b=>cases ha|mp b=>cases ha|arr blk off len cap sz=>exact⟨by rw[ha.2.1];rfl,ha.1.symm⟩
theorem Tk.kill(R:Rel X cl ch S m ok a w)(h:Tk X S m ok w T)(n:Nat)(hbs:∀b,b∈bs->b∈V9 m n (S (ai+n)))(hnd:bs.Nodup):
  Tk X (upd S (ai+n) .dead) m ok w (T++bs):=h.killV R n rfl hbs hnd
theorem Rel.lay(R:Rel X cl ch S m ok a w){l:Loc}{ks:d6a}(hn:S (ai+n)= .undef)(hcl:cl<=n)(hch:n<ch)(hv:v≠.undef)
  (hos:w'.os=w.os) (htp:w'.tape=w.tape) (hout:w'.output=w.output) (hsz:w.heap.size<=w'.heap.size)
  (hkeep:∀b,b<w.heap.size->b∉V9 (oz m n l ks) n v->w'.heap[b]? =w.heap[b]?)
  (hnd:(V9 (oz m n l ks) n v).Nodup)
  (hfree:∀b∈V9 (oz m n l ks) n v,(∀t,¬ok b t)/\b<w'.heap.size/\(X.w0.heap.size<=b\/b∈X.O)/\∀k,b∉V9 m k (S (ai+k)))
  (hB:Ig ⟨w'.heap,ok,oz m n l ks⟩ n v):Rel X cl ch (upd S (ai+n) v) (oz m n l ks) ok a w' :=by
 have hm:m n=none:=R.fresh n hcl hn;have hR:Rel X cl ch S m ok a w' :=by
  refine R.world hos htp hout hsz (λb hb h=>?_) (λ_ _ h=>h) (λb t h=>⟨by have:=R.okLt b t h;omega,.inl h⟩);refine hkeep b hb (λe=>?_);obtain⟨h1,h2,h3,h4⟩:=hfree b e;rcases h with⟨t,h⟩|⟨k,h⟩|h
  .exact h1 t h
  .exact h4 k h
  .exact h h3
 have hle:Cx.le ⟨w'.heap,ok,m⟩ ⟨w'.heap,ok,oz m n l ks⟩:=⟨λ_ _ h=>h,λ_ _ _=>rfl,λk x h=>by
  by_cases e:k=n
  .subst e;simp[hm]at h
  .show oz m n l ks k=some x;rw[jS _ _ _ e];exact h⟩
 have hob:∀k,k≠n->V9 (oz m n l ks) k (upd S (ai+n) v (ai+k))=V9 m k (S (ai+k)):=λk e=>by rw[bV _ _ l9];exact Nc (jS _ _ _ e) (WL _ _ _ e)
 have hobn:V9 (oz m n l ks) n (upd S (ai+n) v (ai+n))=V9 (oz m n l ks) n v:=by rw[lZ]
 refine { kept:=hR.kept,size:=hR.size,nodef:=hR.nodef,okLt:=hR.okLt,okIn:=hR.okIn,okOut:=hR.okOut,frame:=hR.frame,slot:=λk hk=>(by rw[bV _ _ l9];exact QQ hle (hR.slot k hk)),box:=λk=>?_,inj:=λk k' b h h' =>?_,nd:=λk=>?_,sep:=λk b h=>?_,fresh:=λk h1 h2=>?_,strict:=λk h=>?_,gl:=λg u hg=>TF.le hle (hR.gl g u hg) }
 .by_cases e:k=n
  .subst e;rw[lZ];exact hB
  .rw[bV _ _ l9];refine Yj hle (WL _ _ _ e) (λb hb=>rfl) (hR.box k)
 .by_cases e:k=n
  .by_cases e' :k' =n
   .rw[e,e']
   .subst e;rw[hobn]at h;rw[hob k' e']at h';exact absurd h' ((hfree b h).2.2.2 k')
  .by_cases e' :k' =n
   .subst e';rw[hobn]at h';rw[hob k e]at h;exact absurd h ((hfree b h').2.2.2 k)
   .rw[hob k e]at h;rw[hob k' e']at h';exact R.inj k k' b h h'
 .by_cases e:k=n
  .subst e;rw[hobn];exact hnd
  .rw[hob k e];exact R.nd k
 .by_cases e:k=n
  .subst e;rw[hobn]at h;obtain⟨h1,h2,h3,_⟩:=hfree b h;exact⟨h1,h2,h3⟩
  .rw[hob k e]at h;exact hR.sep k b h
 .by_cases e:k=n
  .subst e;rw[lZ]at h2;exact absurd h2 hv
  .rw[bV _ _ l9]at h2;rw[jS _ _ _ e];exact R.fresh k h1 h2
 .have e:k≠n:=l9;rw[jS _ _ _ e];exact R.strict k h
theorem Rel.modK(R:Rel X cl ch S m ok a w)(hT:Tk X S m ok w T){ks:d6a}(hv:v≠.undef)
  (hnd:(V9 (Io m n ks) n v).Nodup) (hsub:∀b∈V9 (Io m n ks) n v,b∈V9 m n (S (ai+n))\/b∈T)
  (hos:w'.os=w.os) (htp:w'.tape=w.tape) (hout:w'.output=w.output) (hsz:w'.heap.size=w.heap.size)
  (hkeep:∀b,b∉V9 m n (S (ai+n))->w'.heap[b]? =w.heap[b]?) (hB:Ig ⟨w'.heap,ok,Io m n ks⟩ n v)
  {T' :d6a} (hnd' :T'.Nodup) (hT' :∀b∈T',(b∈V9 m n (S (ai+n))\/b∈T)/\b∉V9 (Io m n ks) n v):
  Rel X cl ch (upd S (ai+n) v) (Io m n ks) ok a w' /\Tk X (upd S (ai+n) v) (Io m n ks) ok w' T' :=by
 have hsep:∀b,b∈V9 m n (S (ai+n))\/b∈T->(∀t,¬ok b t)/\b<w.heap.size/\(X.w0.heap.size<=b\/b∈X.O)/\∀k,k≠n->b∉V9 m k (S (ai+k)):=λb h=>by
  rcases h with h|h
  .obtain⟨h1,h2,h3⟩:=R.sep n b h;exact⟨h1,h2,h3,λk e h' =>e (R.inj k n b h' h)⟩
  .obtain⟨h1,h2,h3,h4⟩:=hT.free b h;exact⟨h1,h2,h3,λk _=>h4 k⟩
 have hle:Cx.le ⟨w.heap,ok,m⟩ ⟨w'.heap,ok,Io m n ks⟩:=⟨λ_ _ h=>h,λb t hb=>hkeep b (λe=>(R.sep n b e).1 t hb),λ_ _ h=>h⟩;have hob:∀k,k≠n->V9 (Io m n ks) k (upd S (ai+n) v (ai+k))=V9 m k (S (ai+k)):=λk e=>by rw[bV _ _ l9];exact Nc rfl (a1E _ _ e)
 have hobn:V9 (Io m n ks) n (upd S (ai+n) v (ai+n))=V9 (Io m n ks) n v:=by rw[lZ]
 refine⟨?_,hnd',λb hb=>?_⟩
 .refine { kept:=R.kept,size:=R.size,nodef:=R.nodef,okLt:=λb t hb=>(by rw[hsz];exact R.okLt b t hb),okIn:=R.okIn,okOut:=R.okOut,strict:=R.strict,slot:=λk hk=>(by rw[bV _ _ l9];exact QQ hle (R.slot k hk)),box:=λk=>?_,inj:=λk k' b h h' =>?_,nd:=λk=>?_,sep:=λk b h=>?_,fresh:=λk h1 h2=>?_,frame:=?_,gl:=λg u hg=>TF.le hle (R.gl g u hg) }
  .by_cases e:k=n
   .subst e;rw[lZ];exact hB
   .rw[bV _ _ l9];refine Yj hle (a1E _ _ e) (λb hb=>hkeep b (λe' =>e (R.inj k n b hb e'))) (R.box k)
  .by_cases e:k=n
   .by_cases e' :k' =n
    .rw[e,e']
    .subst e;rw[hobn]at h;rw[hob k' e']at h';exact absurd h' ((hsep b (hsub b h)).2.2.2 k' e')
   .by_cases e' :k' =n
    .subst e';rw[hobn]at h';rw[hob k e]at h;exact absurd h ((hsep b (hsub b h')).2.2.2 k e)
    .rw[hob k e]at h;rw[hob k' e']at h';exact R.inj k k' b h h'
  .by_cases e:k=n
   .subst e;rw[hobn];exact hnd
   .rw[hob k e];exact R.nd k
  .by_cases e:k=n
   .subst e;rw[hobn]at h;obtain⟨h1,h2,h3,_⟩:=hsep b (hsub b h);exact⟨h1,by rw[hsz];exact h2,h3⟩
   .rw[hob k e]at h;obtain⟨h1,h2,h3⟩:=R.sep k b h;exact⟨h1,by rw[hsz];exact h2,h3⟩
  .obtain⟨f1,f2,f3,f4,f5⟩:=R.frame;refine⟨hos.trans f1,htp.trans f2,hout.trans f3,by rw[hsz];exact f4,λb hb hO=>?_⟩;rw[hkeep b (λe=>?_)]
   .exact f5 b hb hO
   .rcases(R.sep n b e).2.2 with h|h
    .omega
    .exact hO h
  .by_cases e:k=n
   .subst e;rw[lZ]at h2;exact absurd h2 hv
   .rw[bV _ _ l9]at h2;exact R.fresh k h1 h2
 .obtain⟨h0,h0'⟩:=hT' b hb;obtain⟨h1,h2,h3,h4⟩:=hsep b h0;refine⟨h1,by rw[hsz];exact h2,h3,λk h=>?_⟩;by_cases e:k=n
  .subst e;rw[hobn]at h;exact h0' h
  .rw[hob k e]at h;exact h4 k e h
theorem Rel.mod(R:Rel X cl ch S m ok a w)(ho:V9 m n v=V9 m n (S (ai+n)))(hv:v≠.undef)
  (hos:w'.os=w.os) (htp:w'.tape=w.tape) (hout:w'.output=w.output) (hsz:w'.heap.size=w.heap.size)
  (hkeep:∀b,b∉V9 m n (S (ai+n))->w'.heap[b]? =w.heap[b]?) (hB:Ig ⟨w'.heap,ok,m⟩ n v):Rel X cl ch (upd S (ai+n) v) m ok a w' :=by
 have h:=R.modK (T:=[]) Tk.nil (n:=n) (v:=v) (ks:=m.kid n) (w' :=w') (T' :=[]) hv (by rw[Aq,ho];exact R.nd n) (by rw[Aq,ho];exact λb h=> .inl h) hos htp hout hsz hkeep (by rw[Aq];exact hB) fJ (λb h=>by cases h);rw[Aq]at h;exact h.1
theorem Rel.widen(R:Rel X cl ch S m ok a w)(hv:v≠.undef)(ho:V9 m n v=[]){Ts:List Ty}(hbs:∀b∈bs,b∈V9 m n (S (ai+n)))
  (hB:Ig ⟨w.heap,okW ok bs Ts,m⟩ n v):Rel X cl ch (upd S (ai+n) v) m (okW ok bs Ts) a w:=by
 have hmono:∀b t,ok b t->okW ok bs Ts b t:=λb t h=> .inl h;have hob:∀k b,b∈V9 m k (upd S (ai+n) v (ai+k))->k≠n/\b∈V9 m k (S (ai+k)):=λk b h=>CX ho h;have hle:Cx.le ⟨w.heap,ok,m⟩ ⟨w.heap,okW ok bs Ts,m⟩:=⟨hmono,λ_ _ _=>rfl,λ_ _ h=>h⟩;refine { kept:=R.kept,size:=R.size,nodef:=R.nodef,strict:=R.strict,frame:=R.frame,okIn:=λb t h=>hmono b t (R.okIn b t h),slot:=λk hk=>(by rw[bV _ _ l9];exact QQ hle (R.slot k hk)),box:=λk=>?_,inj:=λk k' b h h' =>R.inj k k' b (hob _ _ h).2 (hob _ _ h').2,nd:=λk=>?_,sep:=λk b h=>?_,okLt:=λb t h=>?_,okOut:=λb t h=>?_,fresh:=λk h1 h2=>?_,gl:=λg u hg=>TF.le hle (R.gl g u hg) }
 .by_cases e:k=n
  .subst e;rw[lZ];exact hB
  .rw[bV _ _ l9];exact Yj hle rfl (λb hb=>rfl) (R.box k)
 .by_cases e:k=n
  .subst e;rw[lZ,ho];exact fJ
  .rw[bV _ _ l9];exact R.nd k
 .obtain⟨e,h⟩:=hob k b h;obtain⟨h1,h2,h3⟩:=R.sep k b h;refine⟨λt h' =>?_,h2,h3⟩;rcases h' with h'|⟨h',_⟩
  .exact h1 t h'
  .exact e (R.inj k n b h (hbs b h'))
 .rcases h with h|⟨h,_⟩
  .exact R.okLt b t h
  .exact(R.sep n b (hbs b h)).2.1
 .rcases h with h|⟨h,_⟩
  .exact R.okOut b t h
  .exact .inr (R.sep n b (hbs b h)).2.2
 .by_cases e:k=n
  .subst e;rw[lZ]at h2;exact absurd h2 hv
  .rw[bV _ _ l9]at h2;exact R.fresh k h1 h2
theorem Tk.widen(h:Tk X S m ok w T)(ho:V9 m n v=[]){Ts:List Ty}(hbs:∀b∈bs,b∈V9 m n (S (ai+n))):
  Tk X (upd S (ai+n) v) m (okW ok bs Ts) w T:=by
 refine⟨h.nodup,λb hb=>?_⟩;obtain⟨h1,h2,h3,h4⟩:=h.free b hb;refine⟨λt e=>?_,h2,h3,λk e=>h4 k (CX ho e).2⟩;rcases e with e|⟨e,_⟩
 .exact h1 t e
 .exact h4 n (hbs b e)
theorem Rel.backV(R:Rel X cl ch S m ok a w){O1 B:d6a}(hv:v≠.undef)(hT:Tk X S m ok w (O1++B))(ho:V9 m n v=O1)(hB:Ig ⟨w.heap,ok,m⟩ n v):
  Rel X cl ch (upd S (ai+n) v) m ok a w/\Tk X (upd S (ai+n) v) m ok w B:=by
 have hnd:=L6.1 hT.nodup;have h:=R.modK hT (n:=n) (v:=v) (ks:=m.kid n) (w' :=w) (T' :=B) hv (by rw[Aq,ho];exact hnd.1) (by rw[Aq,ho];exact λb h=> .inr (by simp[h])) rfl rfl rfl rfl (λ_ _=>rfl) (by rw[Aq];exact hB) hnd.2.1
  (λb hb=>⟨.inr (by simp[hb]),by rw[Aq,ho];exact λh=>hnd.2.2 b h b hb rfl⟩)
 rw[Aq]at h;exact h
end
end Go.GP
namespace Go.GP
def NT:Loc->Option (Nat×Nat)->Loc
 | .arr blk off len cap sz,some (lo,hi)=>if cap=lo then .arr blk off 0 0 sz else .arr blk (off+lo*sz) (hi -lo) (cap -lo) sz|l,_=>l
variable {v:Value}{t:Ty}{l:Loc}
theorem MH{C:Cx}{xs:List t.den}{vw:Option (Nat×Nat)}(ha:arrOk C t xs l)(hv:l.view vw v):
  arrOk C t (jT vw xs) (NT l vw)/\(NT l vw).view none v/\(NT l vw).blks=l.blks:=by
 cases l with
 |st b=>cases ha|mp b=>
  cases vw with
  |none=>exact⟨ha,hv,rfl⟩|some p=>cases hv
 |nil=>
  obtain⟨ha,h0⟩:=ha;subst ha;cases vw with
  |none=>exact⟨⟨rfl,h0⟩,hv,rfl⟩|some p=>obtain⟨lo,hi⟩:=p;obtain⟨rfl,rfl,rfl⟩:=hv;exact⟨⟨rfl,h0⟩,rfl,rfl⟩
 |arr blk off len cap sz=>
  cases vw with
  |none=>exact⟨ha,hv,rfl⟩|some p=>
   obtain⟨lo,hi⟩:=p;obtain⟨h0,rfl,rfl,hc,c,T,f,hh,hz,hs,hx⟩:=ha;obtain⟨h1,h2,rfl⟩:=hv;have hl:(jT (some (lo,hi)) xs).length=hi -lo:=by simp[jT,oU];omega
   by_cases e:cap=lo
   .subst e;have e2:hi=cap:=l9;subst e2;simp only[NT,if_true,Loc.view,dI];refine⟨⟨h0,rfl,by rw[hl];omega,F5 _,c,T,f,hh,hz,?_,λi x hi=>?_⟩,trivial,rfl⟩
    .have:=bU (hi*t.size);omega
    .have:i<0:=by
      have:=(X0.1 hi).1;rw[hl]at this;omega
     omega
   .simp only[NT,e,if_false,Loc.view];refine⟨⟨h0,rfl,by rw[hl],l9,c,T,f,hh,hz,?_,λi x hix=>?_⟩,trivial,rfl⟩
    .have:off+lo*t.size+(cap -lo)*t.size=off+cap*t.size:=by
      rw[iq,←J4];congr 2;omega
     rw[this];exact hs
    .have hi' :i<hi -lo:=by rw[←hl];exact(X0.1 hix).1
     have hx' :xs[lo+i]? =some x:=by
      simp only[jT,oU,P5,X6]at hix;split at hix
      .exact hix
      .cases hix
     obtain⟨es,he,hr⟩:=hx _ x hx';refine⟨es,?_,hr⟩;rw[←he];congr 1;rw[J4];omega
def We(ag:Bool)(v:Value)(cs:d5Z):Prop:=match ag with
 |true=>∃arr,v= .agg arr/\arr.toList=cs|false=>cs=[v]
def xA(h:Array Obj)(ok:Nat->Ty->Prop):(ms:List MG)->bC ms->d5Z->d6a->Prop
 |[],_,vs,O=>vs=[]/\O=[]|[m],x,vs,O=>∃v cs,vs=[v]/\We m.1 v cs/\qW h ok m.2 none x cs O|m::m' ::r,x,vs,O=>∃v cs vs' O1 O2,vs=v::vs' /\O=O1++O2/\We m.1 v cs/\qW h ok m.2 none x.1 cs O1/\xA h ok (m' ::r) x.2 vs' O2
theorem pI{vw:Option (Nat×Nat)}(h:l.view vw v):v.oneCell' =true:=by
 cases l<;>rcases vw with _|⟨lo,hi⟩<;>simp only[Loc.view]at h
 .subst h;rfl
 .obtain⟨_,_,rfl⟩:=h;rfl
 .subst h;rfl
 .obtain⟨_,_,rfl⟩:=h;rfl
 .subst h;rfl
variable {h:Array Obj}
theorem OQ{ok:Nat->Ty->Prop}{x:t.den}{o:Nat}(k:a2c h ok t x o v):v.oneCell' =true:=by obtain⟨_,_,_,rfl,_⟩:=k;rfl
variable {α:Type}{ok':Nat->Ty->Prop}{cs:d5Z}{O:d6a}
section
variable {h:Array Obj} {ok:Nat->Ty->Prop}
theorem Bi{xs:List t.den} :qW h ok (.own t) none xs cs O↔∃l v,cs=[v]/\l.view none v/\arrOk ⟨h,ok,nom⟩ t xs l/\O=l.blks:=by
 constructor
 .rintro⟨v,e,_,l,hv,ha,ho⟩;exact⟨l,v,e,hv,ha,ho⟩
 .rintro⟨l,v,e,hv,ha,ho⟩;exact⟨v,e,pI hv,l,hv,ha,ho⟩
theorem Df{m:M}{xs:List m.den} :qW h ok (.owns m) none xs cs O↔m.el=true/\∃l v Os,cs=[v]/\l.view none v/\
  Gs h m.size (λ_ x es O=>qW h ok m none x es O) xs Os l/\O=l.blks++Os.flatten:=by
 constructor
 .rintro⟨v,e,_,he,l,Os,hv,ha,ho⟩;exact⟨he,l,v,Os,e,hv,ha,ho⟩
 .rintro⟨he,l,v,Os,e,hv,ha,ho⟩;exact⟨v,e,pI hv,he,l,Os,hv,ha,ho⟩
theorem b1B{a b:M}{x:a.den×b.den} :qW h ok (.pair a b) none x cs O↔∃c d O1 O2,cs=c++d/\O=O1++O2/\qW h ok a none x.1 c O1/\qW h ok b none x.2 d O2:=Iff.rfl
theorem qJ:∀{m:M} {ho:Option Nat} {x:m.den} {cs:d5Z} {O:d6a},qW h ok m ho x cs O->∀v∈cs,v.oneCell' =true
 | .dat t,_,_,_,_,e=>zq e.1| .own t,_,_,_,_,⟨v,e,hv,_⟩=>by subst e;simp[hv]| .owns t,_,_,_,_,⟨v,e,hv,_⟩=>by subst e;simp[hv]| .ownb t,_,_,_,_,⟨l,v,e,hv,_⟩=>by subst e;simp[pI hv]| .pair a b,_,_,_,_,⟨c,d,_,_,e,_,h1,h2⟩=>by
  subst e;intro v hv;rcases F7.1 hv with hv|hv
  .exact qJ h1 v hv
  .exact qJ h2 v hv
 | .unit,_,_,_,_,⟨e,_⟩=>by subst e;simp| .box m,_,_,_,_,⟨_,_,_,_,e,_⟩=>by subst e;simp[Value.oneCell']| .rp t,_,_,_,_,⟨v,e,hv,_⟩=>by subst e;simp[OQ hv]| .fn f ts,_,_,_,_,⟨vs,e,_⟩=>by subst e;simp[Value.oneCell']| .ifc t m,_,_,_,_,⟨u,e,_⟩=>by subst e;simp[Value.oneCell']| .cell _,_,_,_,_,⟨v,e,h,_⟩=>by subst e;simp[h]| .fr t,_,_,_,_,⟨l,v,e,hv,_⟩=>by subst e;simp[pI hv]| .lp t,_,_,_,_,⟨v,e,hv,_⟩=>by subst e;simp[OQ hv]| .dv ..,_,_,_,_,⟨v,e,h,_⟩=>by subst e;simp[h]| .sit,_,_,_,_,⟨blk,a,v,e,_⟩=>by subst e;simp[Value.oneCell']| .sbx tb te,_,_,_,_,⟨blk,a,v,l,e,_⟩=>by subst e;simp[Value.oneCell']
theorem Vu{α β α' β' :Type}(ea:α=α')(eb:β=β')(e:(α×β)=(α' ×β'))(x:α×β):cast e x=(cast ea x.1,cast eb x.2):=by subst ea;subst eb;rfl
theorem M.ty_size:∀{m:M},m.el=true->m.ty.size=m.size
 | .dat _,_=>rfl| .own _,_=>rfl| .owns _,_=>rfl| .unit,_=>rfl| .pair a b,h=>by
  have h' :a.el=true/\b.el=true:=by simpa[M.el]using h
  simp[M.ty,Ty.size,M.size,M.ty_size h'.1,M.ty_size h'.2]
 | .box _,h=>by simp[M.el]at h| .ownb _,h=>by simp[M.el]at h| .rp _,h=>by simp[M.el]at h| .fn _ _,h=>by simp[M.el]at h| .ifc _ _,h=>by simp[M.el]at h| .cell _,h=>by simp[M.el]at h| .fr _,h=>by simp[M.el]at h| .sbx _ _,h=>by simp[M.el]at h| .lp _,h=>by simp[M.el]at h| .dv ..,h=>by simp[M.el]at h| .sit,h=>by simp[M.el]at h
theorem bZ:∀{m:M} {ho:Option Nat} {x:m.den} {cs:d5Z} {O:d6a},qW h ok m ho x cs O->cs.length=m.size
 | .dat t,_,_,_,_,e=>gm e.1| .own t,_,_,_,_,⟨v,e,hv,_⟩=>by subst e;rfl| .owns t,_,_,_,_,⟨v,e,hv,_⟩=>by subst e;rfl| .ownb t,_,_,_,_,⟨l,v,e,hv,_⟩=>by subst e;rfl| .pair a b,_,_,_,_,⟨c,d,_,_,e,_,h1,h2⟩=>by subst e;simp[bZ h1,bZ h2,M.size]| .unit,_,_,_,_,⟨e,_⟩=>by subst e;rfl| .box m,_,_,_,_,⟨_,_,_,_,e,_⟩=>by subst e;rfl| .rp t,_,_,_,_,⟨v,e,hv,_⟩=>by subst e;rfl| .fn f ts,_,_,_,_,⟨vs,e,_⟩=>by subst e;rfl| .ifc t m,_,_,_,_,⟨u,e,_⟩=>by subst e;rfl| .cell _,_,_,_,_,⟨v,e,_⟩=>by subst e;rfl| .fr t,_,_,_,_,⟨l,v,e,hv,_⟩=>by subst e;rfl| .lp t,_,_,_,_,⟨v,e,_⟩=>by subst e;rfl| .dv ..,_,_,_,_,⟨v,e,_⟩=>by subst e;rfl| .sit,_,_,_,_,⟨blk,a,v,e,_⟩=>by subst e;rfl| .sbx tb te,_,_,_,_,⟨blk,a,v,l,e,_⟩=>by subst e;rfl
theorem a3M{sz:Nat}{mp:Mp}(h0:t.isEnt=false)(e:α=t.den)(e' :List α=List t.den)(hs:t.size=sz){R:Nat->α->d5Z->d6a->Prop}{xs:List α}{Os:List d6a}
  (hR:∀i x es O,O∈Os->R i x es O->mJ h ok' t (cast e x) es) (ha:Gs h sz R xs Os l):arrOk ⟨h,ok',mp⟩ t (cast e' xs) l:=by
 subst e;simp only[cast_eq]at hR ⊢;cases l with
 |nil=>exact⟨ha.1,h0⟩|st b=>exact ha|mp b=>exact ha.elim|arr blk off len cap sz' =>obtain⟨h1,h2,h3,h7,c,T,h4,h5,h6⟩:=ha;refine⟨h0,by rw[hs];exact h1,h2,h3,c,T,_,h4,.inl rfl,by rw[h1];exact h5,λi x hi=>?_⟩;obtain⟨es,O,hO,hc,hr⟩:=h6 i x hi;exact⟨es,by rw[h1];exact hc,hR i x es O (iZ hO) hr⟩
theorem M.ty_ent:∀{m:M},m.el=true->m.ty.isEnt=false
 | .dat t,h=>by simpa[M.el,M.ty]using h| .own _,_=>rfl| .owns _,_=>rfl| .unit,_=>rfl| .pair _ _,_=>rfl| .box _,h=>by simp[M.el]at h| .ownb _,h=>by simp[M.el]at h| .rp _,h=>by simp[M.el]at h| .fn _ _,h=>by simp[M.el]at h| .ifc _ _,h=>by simp[M.el]at h| .cell _,h=>by simp[M.el]at h| .fr _,h=>by simp[M.el]at h| .sbx _ _,h=>by simp[M.el]at h| .lp _,h=>by simp[M.el]at h| .dv ..,h=>by simp[M.el]at h| .sit,h=>by simp[M.el]at h
theorem UQ{ok' :Nat->Ty->Prop}(hok:∀b t,ok b t->ok' b t):∀{m:M} (he:m.el=true) {x:m.den} {cs:d5Z} {O:d6a},(∀b∈O,∀t∈m.owned,ok' b t)->qW h ok m none x cs O->mJ h ok' m.ty (cast (M.denEq m he) x) cs
 | .dat t,_,_,_,_,_,e=>gp hok (λ_ _ _=>rfl) e.1| .unit,_,_,_,_,_,e=>e.1| .own t,he,xs,_,_,hO,e=>by obtain⟨l,v,rfl,hv,ha,rfl⟩:=Bi.1 e;exact qp (C:=⟨h,ok,nom⟩) (vw:=none) ha hv hok (λblk hb=>hO blk hb t (by simp[M.owned]))
 | .pair a b,he,x,_,_,hO,e=>by
  obtain⟨c,d,O1,O2,rfl,rfl,h1,h2⟩:=e;have h' :a.el=true/\b.el=true:=by simpa[M.el]using he
  have e:cast (M.denEq (.pair a b) he) x=(cast (M.denEq a h'.1) x.1,cast (M.denEq b h'.2) x.2):=Vu _ _ _ _;refine⟨c,d,rfl,?_,?_⟩
  .rw[e];exact UQ hok h'.1 (λb hb t ht=>hO b (by simp[hb]) t (by simp[M.owned,ht])) h1
  .rw[e];exact UQ hok h'.2 (λb hb t ht=>hO b (by simp[hb]) t (by simp[M.owned,ht])) h2
 | .owns m,he,xs,_,_,hO,e=>by
  obtain⟨_,l,v,Os,rfl,hv,ha,rfl⟩:=Df.1 e;have he' :m.el=true:=he;have hA:arrOk ⟨h,ok',nom⟩ m.ty (cast (congrArg List (M.denEq m he')) xs) l:=a3M (M.ty_ent he') (M.denEq m he') _ (M.ty_size he') (λi x es O hOi hr=>UQ hok he' (λb hb t ht=>hO b (by simp only[F7,eQ];exact .inr ⟨O,hOi,hb⟩) t (by simp[M.owned,ht])) hr) ha
  exact qp (C:=⟨h,ok',nom⟩) (t:=m.ty) (vw:=none) hA hv (λ_ _ h=>h) (λblk hb=>hO blk (by simp[hb]) m.ty (by simp[M.owned]))
 | .box _,h,_,_,_,_,_=>by simp[M.el]at h| .ownb _,h,_,_,_,_,_=>by simp[M.el]at h| .rp _,h,_,_,_,_,_=>by simp[M.el]at h| .fn _ _,h,_,_,_,_,_=>by simp[M.el]at h| .ifc _ _,h,_,_,_,_,_=>by simp[M.el]at h| .cell _,h,_,_,_,_,_=>by simp[M.el]at h| .fr _,h,_,_,_,_,_=>by simp[M.el]at h| .sbx _ _,h,_,_,_,_,_=>by simp[M.el]at h| .lp _,h,_,_,_,_,_=>by simp[M.el]at h| .dv ..,h,_,_,_,_,_=>by simp[M.el]at h| .sit,h,_,_,_,_,_=>by simp[M.el]at h
theorem Ru{m:M}{mp:Mp}(he:m.el=true)(hok:∀b t,ok b t->ok' b t){xs:List m.den}{Os:List d6a}(hO:∀b∈Os.flatten,∀t∈m.owned,ok' b t)
  (ha:Gs h m.size (λ_ x es O=>qW h ok m none x es O) xs Os l):arrOk ⟨h,ok',mp⟩ m.ty (cast (congrArg List (M.denEq m he)) xs) l:=
 a3M (M.ty_ent he) (M.denEq m he) _ (M.ty_size he) (λi x es O hOi hr=>UQ hok he (λb hb t ht=>hO b (eQ.2 ⟨O,hOi,hb⟩) t ht) hr) ha
end
theorem Xz{h h' :Array Obj}{ok ok' :Nat->Ty->Prop}(hok:∀b t,ok b t->ok' b t)(hh:∀b t,ok b t->h'[b]? =h[b]?):
  ∀{ms:List MG} {x:bC ms} {vs:d5Z} {O:d6a},(∀b∈O,h'[b]? =h[b]?)->xA h ok ms x vs O->xA h' ok' ms x vs O
 |[],_,_,_,_,e=>e|[m],_,_,_,hb,⟨v,cs,e,hg,hr⟩=>⟨v,cs,e,hg,kZ hok hh hb hr⟩|m::m' ::r,_,_,_,hb,⟨v,cs,vs',O1,O2,e,eo,hg,h1,h2⟩=>by subst eo;exact⟨v,cs,vs',O1,O2,e,rfl,hg,kZ hok hh (λb h=>hb b (by simp[h])) h1,Xz hok hh (λb h=>hb b (by simp[h])) h2⟩
variable {Q:α->Sm->Prop}{c:V}
section
variable {X:Fx} {cl ch:Nat} {S:Sm} {m:Mp} {ok:Nat->Ty->Prop} {a:Act} {w:World} {T:d6a}
theorem gG{p q:Ty}{xs:List p.den}{k:List q.den->Cmd α}{S:Sm}
  (h:∀e:p=q,(k (e▸xs)).post S Q):(Ty.castL p q xs k .fail).post S Q:=by
 unfold Ty.castL;split
 .rename_i e;exact h e
 .trivial
theorem dL{b:Bool}{c:Cmd α}{S:Sm}(h:b=true->c.post S Q):(bif b then c else Cmd.fail).post S Q:=by
 cases b
 .trivial
 .exact h rfl
theorem IL{p q:Ty}{x:p.den}{k:q.den->Cmd α}{S:Sm}
  (h:∀e:p=q,(k (e▸x)).post S Q):(YL p q x k .fail).post S Q:=by
 unfold YL;split
 .rename_i e;exact h e
 .trivial
theorem YK{p q:M}{xs:List p.den}{k:List q.den->Cmd α}{S:Sm}
  (h:∀e:p=q,(k (e▸xs)).post S Q):(a8Q p q xs k .fail).post S Q:=by
 unfold a8Q;split
 .rename_i e;exact h (M.beq_eq e)
 .trivial
theorem a4b{p:M}{xs:List p.den}{k:List t.den->Cmd α}{S:Sm}
  (h:∀(e:p.el=true) (e' :p.ty=t),(k (e' ▸cast (congrArg List (M.denEq p e)) xs)).post S Q):(a6F p t xs k .fail).post S Q:=by
 unfold a6F;split
 .rename_i e;obtain⟨e,rfl⟩:=e;exact h e rfl
 .trivial
theorem Nz{ok ok' :Nat->Ty->Prop}{m:Mp}(k:∀b t,ok b t->ok' b t){cs:List V}{vs:d5Z}(hr:ig ⟨h,ok,m⟩ cs vs):ig ⟨h,ok',m⟩ cs vs:=
 Ko (C:=⟨h,ok,m⟩) (D:=⟨h,ok',m⟩) ⟨k,λ_ _ _=>rfl,λ_ _ h=>h⟩ hr
theorem QR{ok ok' :Nat->Ty->Prop}{m:Mp}(k:∀b t,ok b t->ok' b t)(hr:mD ⟨h,ok,m⟩ c v):mD ⟨h,ok',m⟩ c v:=
 QQ (C:=⟨h,ok,m⟩) (D:=⟨h,ok',m⟩) ⟨k,λ_ _ _=>rfl,λ_ _ h=>h⟩ hr
theorem Jc{bs:d6a}{Ts:List Ty} :∀b t,ok b t->okW ok bs Ts b t:=λ_ _ h=> .inl h
def okL(ln:Ty->Bool)(S:Sm)(m:Mp)(ok:Nat->Ty->Prop):Nat->Ty->Prop:=λb t=>ok b t\/(ln t=true/\∃n,b∈V9 m n (S (ai+n))/\b3S (S (ai+n)) t)
theorem a7d:okL DT S m ok=ok:=by funext b t;simp[okL,DT]
theorem a1q{ln:Ty->Bool}{n:Nat}{v:V}(hv:V9 m n v=[]){Ts:List Ty}{bs:d6a}(hbs:V9 m n (S (ai+n)) ⊆ bs)(hTs:∀t,b3S (S (ai+n)) t->t∈Ts):
  ∀b t,okL ln S m ok b t->okL ln (upd S (ai+n) v) m (okW ok bs Ts) b t:=by
 intro b t h;rcases h with h|⟨hl,k,hk,ht⟩
 .exact .inl (.inl h)
 .by_cases e:k=n
  .subst e;exact .inl (.inr ⟨hbs hk,hTs _ ht⟩)
  .exact .inr ⟨hl,k,by rw[bV _ _ l9];exact⟨hk,ht⟩⟩
def bu(S S' :Sm):Prop:=∀n,n<ai->S' n=S n
theorem bu.refl(S:Sm):bu S S:=λ_ _=>rfl
theorem bu.trans{A B C:Sm}(h:bu A B)(k:bu B C):bu A C:=λn hn=>(k n hn).trans (h n hn)
theorem bu.box(S:Sm)(n:Nat)(v:V):bu S (upd S (ai+n) v):=λk hk=>bV _ _ l9
theorem a0E{ln:Ty->Bool} :∀{ts:List Ty},a3F ln ts=true->∀t∈ts,ln t=true
 |[],_,_,h=>by cases h|u::r,e,t,h=>by
  unfold a3F at e;cases hl:ln u with
  |false=>rw[hl]at e;cases e|true=>
   rw[hl]at e;rcases D5.1 h with rfl|h
   .exact hl
   .exact a0E e t h
theorem Gp{α:Type}{Q:α->Sm->Prop}(ln:Ty->Bool):∀(t:Ty) {cs:List V} {K:t.den->List V->Cmd α} {S:Sm} {ok:Nat->Ty->Prop} {vs:d5Z} (R:Rel X cl ch S m ok a w) (hT:Tk X S m ok w T)
  (hL:ig ⟨w.heap,ok,m⟩ cs vs)
  (hK:∀S' ok' x r us us',Rel X cl ch S' m ok' a w->Tk X S' m ok' w T->(∀b t,ok b t->ok' b t)->(∀b t,okL ln S m ok b t->okL ln S' m ok' b t)->bu S S' ->vs=us++us' ->mJ w.heap (okL ln S' m ok') t x us->ig ⟨w.heap,ok',m⟩ r us' ->(K x r).post S' Q),
  (nO ln t cs K).post S Q
 | .bool,cs,K,S,ok,vs,R,hT,hL,hK=>by
  unfold nO;split
  .obtain⟨v,r,rfl,h1,_,h3⟩:=hL;exact hK _ _ _ _ [v] r R hT (λ_ _ h=>h) (λ_ _ h=>h) (bu.refl _) rfl (by simp only[xP]at h1;simp[mJ,h1]) h3
  .trivial
 | .int k,cs,K,S,ok,vs,R,hT,hL,hK=>by
  unfold nO;split
  .rename_i k' n r0;obtain⟨v,r,rfl,h1,_,h3⟩:=hL;by_cases e:k=k'
   .subst e;simp only[decide_true,cond_true];exact hK _ _ _ _ [v] r R hT (λ_ _ h=>h) (λ_ _ h=>h) (bu.refl _) rfl (by simp only[xP]at h1;simp[mJ,h1]) h3
   .simp only[e,decide_false,cond_false];trivial
  .trivial
 | .str,cs,K,S,ok,vs,R,hT,hL,hK=>by
  unfold nO;split
  .obtain⟨v,r,rfl,h1,_,h3⟩:=hL;exact hK _ _ _ _ [v] r R hT (λ_ _ h=>h) (λ_ _ h=>h) (bu.refl _) rfl (by simp only[xP]at h1;simp[mJ,h1]) h3
  .trivial
 | .unit,cs,K,S,ok,vs,R,hT,hL,hK=>by unfold nO;exact hK _ _ _ _ [] vs R hT (λ_ _ h=>h) (λ_ _ h=>h) (bu.refl _) rfl rfl hL| .any none,cs,K,S,ok,vs,R,hT,hL,hK=>by
  unfold nO;split
  .obtain⟨v,r,rfl,h1,h2,h3⟩:=hL;exact hK _ _ _ _ [v] r R hT (λ_ _ h=>h) (λ_ _ h=>h) (bu.refl _) rfl ⟨v,rfl,h2,trivial⟩ h3
  .trivial
 | .any (some k),cs,K,S,ok,vs,R,hT,hL,hK=>by
  unfold nO;split
  .rename_i k' n r0;obtain⟨v,r,rfl,h1,h2,h3⟩:=hL;by_cases e:k=k'
   .subst e;simp only[decide_true,cond_true];exact hK _ _ _ _ [v] r R hT (λ_ _ h=>h) (λ_ _ h=>h) (bu.refl _) rfl ⟨v,rfl,h2,n,h1⟩ h3
   .simp only[e,decide_false,cond_false];trivial
  .trivial
 | .prod p q,cs,K,S,ok,vs,R,hT,hL,hK=>by unfold nO;refine Gp ln p R hT hL λS1 ok1 x r us us' R1 T1 k1 g1 s1 e1 h1 l1=>?_;refine Gp ln q R1 T1 l1 λS2 ok2 y r' vs2 vs2' R2 T2 k2 g2 s2 e2 h2 l2=>?_;subst e1;subst e2;exact hK _ _ _ _ (us++vs2) vs2' R2 T2 (λb t h=>k2 b t (k1 b t h)) (λb t h=>g2 b t (g1 b t h)) (s1.trans s2) A7 ⟨us,vs2,rfl,gp g2 (λ_ _ _=>rfl) h1,h2⟩ l2| .ent ..,cs,K,S,ok,vs,R,hT,hL,hK=>by unfold nO;trivial| .sl t,cs,K,S,ok,vs,R,hT,hL,hK=>by
  unfold nO;split
  .obtain⟨v,r,rfl,h1,_,h3⟩:=hL;simp only[xP]at h1;subst h1;cases ht:t.isEnt
   .exact hK _ _ _ _ [_] r R hT (λ_ _ h=>h) (λ_ _ h=>h) (bu.refl _) rfl (.inl ⟨ht,none,0,rfl,F5 _,λi x hi=>by simp at hi⟩) h3
   .trivial
  .rename_i t' xs r0;obtain⟨v,r,rfl,h1,_,h3⟩:=hL;refine gG λe=>?_;subst e;exact hK _ _ _ _ [v] r R hT (λ_ _ h=>h) (λ_ _ h=>h) (bu.refl _) rfl (gp (λ_ _ h=> .inl h) (λ_ _ _=>rfl) h1) h3
  .rename_i bx vw r0;obtain⟨v,r,rfl,h1,_,h3⟩:=hL;obtain⟨l,hm,hv⟩:=h1;show Cmd.post (match S (ai+bx)with| .barr t' xs=>_| .bfrz t' xs=>_| .barrs el xs none=>_|_=>_) S Q;have hb:=R.box bx;split
   .rename_i t' xs hS;rw[hS]at hb;obtain⟨l',hm',ha⟩:=hb;simp only at hm hm';rw[hm]at hm';cases hm';refine gG λe=>?_;subst e;have hob:V9 m bx (S (ai+bx))=l.blks:=by
     rw[hS];cases l<;>first|(simp[V9,hm,Loc.blks];done)|cases ha
    cases hl:ln t'
    .simp only[cond_false];show Cmd.post _ (upd S (ai+bx) (.bfrz t' xs)) Q;have hbs:∀b∈l.blks,b∈V9 m bx (S (ai+bx)):=λb h=>by rw[hob];exact h
     refine hK _ (okW ok l.blks [t']) _ _ [v] r (R.widen A7 rfl hbs ?_) (hT.widen rfl hbs) Jc (a1q rfl (by rw[hob];exact λ_ h=>h) (by rw[hS];exact λ_ h=>h)) (bu.box _ _ _) rfl ?_ (Nz Jc h3)
     .exact⟨l,hm,qf Jc (λ_ _ _=>rfl) (λ_ _=>rfl) ha,λblk hb=> .inr ⟨hb,A7⟩⟩
     .exact qp (C:=⟨w.heap,ok,m⟩) ha hv (λb t h=> .inl (.inl h)) (λblk hb=> .inl (.inr ⟨hb,A7⟩))
    .simp only[cond_true];refine hK _ _ _ _ [v] r R hT (λ_ _ h=>h) (λ_ _ h=>h) (bu.refl _) rfl ?_ h3;refine qp (C:=⟨w.heap,ok,m⟩) ha hv (λb t h=> .inl h) (λblk hb=> .inr ⟨hl,bx,?_,by rw[hS];simp[b3S,b8f]⟩);rw[hob];exact hb
   .rename_i t' xs hS;rw[hS]at hb;obtain⟨l',hm',ha,hok⟩:=hb;simp only at hm hm';rw[hm]at hm';cases hm';refine gG λe=>?_;subst e;exact hK _ _ _ _ [v] r R hT (λ_ _ h=>h) (λ_ _ h=>h) (bu.refl _) rfl (qp (C:=⟨w.heap,ok,m⟩) ha hv (λ_ _ h=> .inl h) (λblk e=> .inl (hok _ e))) h3
   .rename_i md xs hS;rw[hS]at hb;obtain⟨hel,l',Os,hm',⟨ha,hho⟩,hk⟩:=hb;simp only at hm hm' hk;rw[hm]at hm';cases hm';refine a4b λe e' =>?_;subst e';have hob:V9 m bx (S (ai+bx))=l.blks++Os.flatten:=by
     rw[hS];simp only[V9];rw[hk];cases l<;>first|(simp[hm,Loc.blks];done)|cases ha
    simp only;cases hl:(ln md.ty&&a3F ln md.owned)
    .simp only[cond_false];show Cmd.post _ (upd S (ai+bx) (.bfrz md.ty _)) Q;have hbs:∀b∈l.blks++Os.flatten,b∈V9 m bx (S (ai+bx)):=λb h=>by rw[hob];exact h
     have ha' :arrOk ⟨w.heap,okW ok (l.blks++Os.flatten) (md.ty::md.owned),m⟩ md.ty (cast (congrArg List (M.denEq md e)) xs) l:=
      Ru e Jc (λb hb t ht=> .inr ⟨by simp[hb],by simp[ht]⟩) ha
     refine hK _ (okW ok (l.blks++Os.flatten) (md.ty::md.owned)) _ _ [v] r (R.widen A7 rfl hbs ?_) (hT.widen rfl hbs) Jc (a1q rfl (by rw[hob];exact λ_ h=>h) (by rw[hS];exact λ_ h=>h)) (bu.box _ _ _) rfl ?_ (Nz Jc h3)
     .exact⟨l,hm,ha',λblk hb=> .inr ⟨by simp[hb],A7⟩⟩
     .exact qp (C:=⟨w.heap,okW ok (l.blks++Os.flatten) (md.ty::md.owned),m⟩) ha' hv (λb t h=> .inl h) (λblk hb=> .inl (.inr ⟨by simp[hb],A7⟩))
    .simp only[cond_true];simp only[A8]at hl;have ha' :arrOk ⟨w.heap,okL ln S m ok,m⟩ md.ty (cast (congrArg List (M.denEq md e)) xs) l:=
      Ru e (λb t h=> .inl h) (λb hb t ht=> .inr ⟨a0E hl.2 t ht,bx,by rw[hob];simp[hb],by rw[hS];simp[b3S,b8f,ht]⟩) ha
     refine hK _ _ _ _ [v] r R hT (λ_ _ h=>h) (λ_ _ h=>h) (bu.refl _) rfl ?_ h3;refine qp (C:=⟨w.heap,okL ln S m ok,m⟩) ha' hv (λb t h=>h) (λblk hb=> .inr ⟨hl.1,bx,?_,by rw[hS];simp[b3S,b8f]⟩);rw[hob];simp[hb]
   .trivial
  .trivial
theorem IC(t:Ty){cs:List V}{K:t.den->List V->Cmd α}{S:Sm}{ok:Nat->Ty->Prop}{vs:d5Z}(R:Rel X cl ch S m ok a w)(hT:Tk X S m ok w T)
  (hL:ig ⟨w.heap,ok,m⟩ cs vs)
  (hK:∀S' ok' x r us us',Rel X cl ch S' m ok' a w->Tk X S' m ok' w T->(∀b t,ok b t->ok' b t)->bu S S' ->vs=us++us' ->mJ w.heap ok' t x us->ig ⟨w.heap,ok',m⟩ r us' ->(K x r).post S' Q):
  (nO DT t cs K).post S Q:=
 Gp DT t R hT hL λS' ok' x r us us' R' T' k g s e h l=>hK S' ok' x r us us' R' T' k s e (by rw[a7d]at h;exact h) l
theorem Loc.blks_nodup(l:Loc):l.blks.Nodup:=by cases l<;>simp[Loc.blks]
theorem a5x(t:Ty){K:t.den->Cmd α}{S:Sm}{ok:Nat->Ty->Prop}(R:Rel X cl ch S m ok a w)(hT:Tk X S m ok w T)
  (hv:xP ⟨w.heap,ok,m⟩ c v)
  (hK:∀S' ok' x,Rel X cl ch S' m ok' a w->Tk X S' m ok' w T->(∀b t,ok b t->ok' b t)->bu S S' ->a2c w.heap ok' t x 0 v->(K x).post S' Q):(rpC t c K).post S Q:=by
 unfold rpC;split
 .refine IL λe=>?_;subst e;exact hK _ _ _ R hT (λ_ _ h=>h) (bu.refl _) hv
 .rename_i bx;obtain⟨blk,hm,rfl⟩:=hv;show Cmd.post (match S (ai+bx)with| .bfc t' x=>_| .bcells bs=>_|_=>_) S Q;have hb:=R.box bx;split
  .rename_i t' x hS;rw[hS]at hb;obtain⟨blk',es,hm',hok,hc,hr⟩:=hb;simp only at hm hm';rw[hm]at hm';cases hm';refine IL λe=>?_;subst e;exact hK _ _ _ R hT (λ_ _ h=>h) (bu.refl _) ⟨blk,0,es,rfl,hok,hc,hr⟩
  .rename_i bs hS;rw[hS]at hb;obtain⟨blk',arr,Ty',hm',hh,hl⟩:=hb;simp only at hm hm';rw[hm]at hm';cases hm';refine IC t R hT hl λS1 ok1 x q us us' R1 T1 k1 s1 e1 h1 l1=>?_;cases q with
   |cons c q=>trivial|nil=>
    simp only[ig]at l1;subst l1;simp only[G5]at e1;show Cmd.post (match S1 (ai+bx)with| .bcells _=>_|_=>_) S1 Q;split
    .rename_i bs' hS';show Cmd.post _ (upd S1 (ai+bx) (.bfc t x)) Q;have hbs:∀b∈[blk],b∈V9 m bx (S1 (ai+bx)):=λb h=>by rw[hS'];simp at h;subst h;simp[V9,hm]
     have hce:fD w.heap blk 0 t.size=some us:=by rw[lJ hh 0 t.size (by have:=gm h1;rw[←e1]at this;simp at this;omega)];rw[e1,←gm h1];simp
     have hr:=gp (Jc (bs:=[blk]) (Ts:=[t])) (λ_ _ _=>rfl) h1;refine hK _ (okW ok1 [blk] [t]) _ (R1.widen A7 rfl hbs ?_) (T1.widen rfl hbs) (λb t h=> .inl (k1 b t h)) (s1.trans (bu.box _ _ _)) ?_
     .exact⟨blk,us,hm,.inr ⟨A7,A7⟩,hce,hr⟩
     .exact⟨blk,0,us,rfl,.inr ⟨A7,A7⟩,hce,hr⟩
    .trivial
  .trivial
 .trivial
theorem a4B(ln:Ty->Bool)(t:Ty){K:t.den->Cmd α}{S:Sm}{ok:Nat->Ty->Prop}(R:Rel X cl ch S m ok a w)(hT:Tk X S m ok w T)
  (hv:xP ⟨w.heap,ok,m⟩ c v)
  (hK:∀S' ok' x,Rel X cl ch S' m ok' a w->Tk X S' m ok' w T->(∀b t,ok b t->ok' b t)->(∀b t,okL ln S m ok b t->okL ln S' m ok' b t)->bu S S' ->a2c w.heap (okL ln S' m ok') t x 0 v->(K x).post S' Q):(lpC ln t c K).post S Q:=by
 unfold lpC;split
 .refine IL λe=>?_;subst e;exact hK _ _ _ R hT (λ_ _ h=>h) (λ_ _ h=>h) (bu.refl _) (Iu (λ_ _ h=> .inl h) (λ_ _ _=>rfl) hv)
 .rename_i bx;obtain⟨blk,hm,rfl⟩:=hv;show Cmd.post (match S (ai+bx)with| .bcells bs=>_|_=>_) S Q;have hb:=R.box bx;split
  .rename_i bs hS;rw[hS]at hb;obtain⟨blk',arr,Ty',hm',hh,hl⟩:=hb;simp only at hm hm';rw[hm]at hm';cases hm';cases hlt:ln t
   .trivial
   simp only[cond_true];refine Gp ln t R hT hl λS1 ok1 x q us us' R1 T1 k1 g1 s1 e1 h1 l1=>?_;cases q with
   |cons c q=>trivial|nil=>
    simp only[ig]at l1;subst l1;simp only[G5]at e1;show Cmd.post (match S1 (ai+bx)with| .bcells _=>_|_=>_) S1 Q;split
    .rename_i bs' hS';have hce:fD w.heap blk 0 t.size=some us:=by
      rw[lJ hh 0 t.size (by have:=gm h1;rw[←e1]at this;simp at this;omega)];rw[e1,←gm h1];simp
     exact hK _ _ _ R1 T1 k1 g1 s1 ⟨blk,0,us,rfl,.inr ⟨hlt,bx,by rw[hS'];simp[V9,hm],by rw[hS'];trivial⟩,hce,h1⟩
    .trivial
  .trivial
 .trivial
theorem OG{α:Type}{Q:α->Sm->Prop}{h:Array Obj}{ok:Nat->Ty->Prop} :∀(ts:List Ty) {cs:List ((t:Ty)×t.den)} {vs:d5Z} {K:WJ ts->Cmd α} {S:Sm}
  (hc:IK h ok cs vs) (hK:∀x,IK h ok (WI ts x) vs->(K x).post S Q),(Sv ts cs K).post S Q
 |[],cs,vs,K,S,hc,hK=>by
  unfold Sv;split
  .exact hK _ hc
  .trivial
 |[t],cs,vs,K,S,hc,hK=>by
  unfold Sv;split
  .refine IL λe=>?_;subst e;exact hK _ hc
  .trivial
 |t::t' ::r,cs,vs,K,S,hc,hK=>by
  unfold Sv;split
  .obtain⟨v,vs',rfl,h1,h2⟩:=hc;refine IL λe=>?_;subst e;exact OG (t' ::r) h2 λy hy=>hK _ ⟨v,vs',rfl,h1,hy⟩
  .trivial
theorem b5E{te:Nat}{K:d5X->Cmd α}{S:Sm}{ok:Nat->Ty->Prop}{T:d6a}(R:Rel X cl ch S m ok a w)(hT:Tk X S m ok w T)(hv:xP ⟨w.heap,ok,m⟩ c v)
  (hK:∀S' ys l,Rel X cl ch S' m ok a w->Tk X S' m ok w (T++l.blks)->bu S S' ->(∀n,(∀t xs,S (ai+n)≠.brow t xs)->S' (ai+n)=S (ai+n))->l.view none v->a5w w.heap te ys l->(K ys).post S' Q):(sbC te c K).post S Q:=by
 unfold sbC;split
 .exact hK S [] .nil R (by simpa[Loc.blks]using hT) (bu.refl _) (λ_ _=>rfl) hv rfl
 .rename_i b;obtain⟨l,hm,hvw⟩:=hv;show Cmd.post (match S (ai+b)with| .brow te' xs=>_|_=>_) S Q;have hb:=R.box b;split
  .rename_i t' xs hS;rw[hS]at hb;obtain⟨l',hm',ha⟩:=hb;simp only at hm hm';rw[hm]at hm';cases hm';cases he:Nat.beq t' te
   .trivial
   have e:=iD he;subst e;show Cmd.post _ (upd S (ai+b) .dead) Q;refine hK _ xs l (R.kill b) (hT.kill R b (λb' hb' =>?_) (Loc.blks_nodup l)) (bu.box _ _ _) (λn hn=>?_) hvw ha
   .cases l with
    |nil=>simp[Loc.blks]at hb'|st _=>cases ha|arr blk off len cap sz=>simp[Loc.blks]at hb';subst hb';simp[V9,hS,hm]|mp blk=>cases ha
   .by_cases en:n=b
    .subst en;exact absurd hS (hn _ _)
    .rw[bV _ _ l9]
  .trivial
 .trivial
theorem IQ{α:Type}{Q:α->Sm->Prop} :∀(md:M) {cs:List V} {K:md.den->List V->Cmd α} {S:Sm} {ok:Nat->Ty->Prop} {vs:d5Z} {T:d6a} (R:Rel X cl ch S m ok a w) (hT:Tk X S m ok w T)
  (hL:ig ⟨w.heap,ok,m⟩ cs vs)
  (hK:∀S' ok' x r us us' O,Rel X cl ch S' m ok' a w->Tk X S' m ok' w (T++O)->(∀b t,ok b t->ok' b t)->bu S S' ->vs=us++us' ->qW w.heap ok' md none x us O->ig ⟨w.heap,ok',m⟩ r us' ->(K x r).post S' Q),
  (exM DT md cs K).post S Q
 | .dat t,cs,K,S,ok,vs,T,R,hT,hL,hK=>by unfold exM;exact IC t R hT hL λS' ok' x r us us' R' T' k s e h l=>hK S' ok' x r us us' [] R' (by simpa using T') k s e ⟨h,rfl⟩ l| .own t,cs,K,S,ok,vs,T,R,hT,hL,hK=>by
  unfold exM;split
  .obtain⟨v,r,rfl,h1,_,h3⟩:=hL;simp only[xP]at h1;subst h1;cases ht:t.isEnt
   .exact hK _ _ _ _ [_] r [] R (by simpa using hT) (λ_ _ h=>h) (bu.refl _) rfl (Bi.2 ⟨.nil,_,rfl,rfl,⟨rfl,ht⟩,rfl⟩) h3
   .trivial
  .rename_i bx vw r0;obtain⟨v,r,rfl,h1,_,h3⟩:=hL;obtain⟨l,hm,hv⟩:=h1;show Cmd.post (match S (ai+bx)with| .barr t' xs=>_|_=>_) S Q;have hb:=R.box bx;split
   .rename_i t' xs hS;rw[hS]at hb;obtain⟨l',hm',ha⟩:=hb;simp only at hm hm';rw[hm]at hm';cases hm';refine gG λe=>?_;subst e;obtain⟨a1,a2,a3⟩:=MH (C:=⟨w.heap,ok,m⟩) ha hv;show Cmd.post _ (upd S (ai+bx) .dead) Q;refine hK _ ok _ _ [v] r (NT l vw).blks (R.kill bx) ?_ (λ_ _ h=>h) (bu.box _ _ _) rfl (Bi.2 ⟨_,v,rfl,a2,qf (λ_ _ h=>h) (λ_ _ _=>rfl) (λ_ _=>rfl) a1,rfl⟩) h3;rw[a3];refine hT.kill R bx (λb hb=>?_) (Loc.blks_nodup l);cases l with
    |nil=>simp[Loc.blks]at hb|st _=>cases ha|arr blk off len cap sz=>simp[Loc.blks]at hb;subst hb;simp[V9,hS,hm]|mp blk=>simp[Loc.blks]at hb;subst hb;simp[V9,hS,hm]
   .trivial
  .trivial
 | .ownb t,cs,K,S,ok,vs,T,R,hT,hL,hK=>by
  unfold exM;split
  .obtain⟨v,r,rfl,h1,_,h3⟩:=hL;simp only[xP]at h1;subst h1;cases ht:t.isEnt
   .exact hK _ _ _ _ [_] r [] R (by simpa using hT) (λ_ _ h=>h) (bu.refl _) rfl ⟨.nil,_,rfl,rfl,⟨rfl,ht⟩,rfl⟩ h3
   .trivial
  .rename_i bx r0;obtain⟨v,r,rfl,h1,_,h3⟩:=hL;obtain⟨l,hm,hv⟩:=h1;show Cmd.post (match S (ai+bx)with| .barr t' xs=>_|_=>_) S Q;have hb:=R.box bx;split
   .rename_i t' xs hS;rw[hS]at hb;obtain⟨l',hm',ha⟩:=hb;simp only at hm hm';rw[hm]at hm';cases hm';refine gG λe=>?_;subst e;show Cmd.post _ (upd S (ai+bx) (.gone t')) Q;refine hK _ ok _ _ [v] r l.blks (R.killV bx A7 rfl ⟨l,hm,λblk off len cap sz e=>by subst e;exact ha.2.1⟩) ?_ (λ_ _ h=>h) (bu.box _ _ _) rfl ⟨l,v,rfl,hv,qf (λ_ _ h=>h) (λ_ _ _=>rfl) (λ_ _=>rfl) ha,rfl⟩ h3;refine hT.killV R bx rfl (λb hb=>?_) (Loc.blks_nodup l);cases l with
    |nil=>simp[Loc.blks]at hb|st _=>cases ha|arr blk off len cap sz=>simp[Loc.blks]at hb;subst hb;simp[V9,hS,hm]|mp blk=>simp[Loc.blks]at hb;subst hb;simp[V9,hS,hm]
   .trivial
  .trivial
 | .owns md,cs,K,S,ok,vs,T,R,hT,hL,hK=>by
  unfold exM;split
  .obtain⟨v,r,rfl,h1,_,h3⟩:=hL;simp only[xP]at h1;subst h1;refine dL λhe=>?_;exact hK _ _ _ _ [_] r [] R (by simpa using hT) (λ_ _ h=>h) (bu.refl _) rfl (Df.2 ⟨he,.nil,_,[],rfl,rfl,⟨rfl,rfl⟩,rfl⟩) h3
  .rename_i bx r0;obtain⟨v,r,rfl,h1,_,h3⟩:=hL;obtain⟨l,hm,hv⟩:=h1;show Cmd.post (match S (ai+bx)with| .barrs m' xs none=>_|_=>_) S Q;have hb:=R.box bx;split
   .rename_i md' xs hS;rw[hS]at hb;obtain⟨hel,l',Os,hm',⟨ha,hho⟩,hk⟩:=hb;simp only at hm hm' hk;rw[hm]at hm';cases hm';refine YK λe=>?_;subst e;have hob:V9 m bx (S (ai+bx))=l.blks++Os.flatten:=by
     rw[hS];simp only[V9];rw[hk];cases l<;>first|(simp[hm,Loc.blks];done)|cases ha
    show Cmd.post _ (upd S (ai+bx) .dead) Q;refine hK _ ok _ _ [v] r (l.blks++Os.flatten) (R.kill bx) ?_ (λ_ _ h=>h) (bu.box _ _ _) rfl (Df.2 ⟨hel,l,v,Os,rfl,hv,ha,rfl⟩) h3;refine hT.kill R bx (λb hb=>by rw[hob];exact hb) (by rw[←hob];exact R.nd bx)
   .trivial
  .trivial
 | .unit,cs,K,S,ok,vs,T,R,hT,hL,hK=>by unfold exM;exact hK _ _ _ _ [] vs [] R (by simpa using hT) (λ_ _ h=>h) (bu.refl _) rfl ⟨rfl,rfl⟩ hL
 | .pair p q,cs,K,S,ok,vs,T,R,hT,hL,hK=>by unfold exM;refine IQ p R hT hL λS1 ok1 x r us us' O1 R1 T1 k1 s1 e1 h1 l1=>?_;refine IQ q R1 T1 l1 λS2 ok2 y r' vs2 vs2' O2 R2 T2 k2 s2 e2 h2 l2=>?_;subst e1;subst e2;exact hK _ _ _ _ (us++vs2) vs2' (O1++O2) R2 (by simpa using T2) (λb t h=>k2 b t (k1 b t h)) (s1.trans s2) A7 ⟨us,vs2,O1,O2,rfl,rfl,kZ k2 (λ_ _ _=>rfl) (λ_ _=>rfl) h1,h2⟩ l2| .box md,cs,K,S,ok,vs,T,R,hT,hL,hK=>by
  unfold exM;split
  .rename_i bx r0;obtain⟨v,r,rfl,h1,_,h3⟩:=hL;obtain⟨blk,hm,hv⟩:=h1;show Cmd.post (match S (ai+bx)with| .bcells bs=>_|_=>_) S Q;have hb:=R.box bx;split
   .rename_i bs hS;rw[hS]at hb;obtain⟨blk',arr,Ty',hm',hh,hl⟩:=hb;simp only at hm hm' hv;rw[hm]at hm';cases hm';subst hv;show Cmd.post _ (upd S (ai+bx) .dead) Q;have hT1:Tk X (upd S (ai+bx) .dead) m ok w (T++[blk]):=hT.kill R bx (λb hb=>by simp at hb;subst hb;simp[V9,hS,hm]) A7;refine IQ md (R.kill bx) hT1 hl λS1 ok1 x q us us' O R1 T1 k1 s1 e1 h1 l1=>?_;cases q with
    |nil=>simp only[ig]at l1;subst l1;simp only[G5]at e1;refine hK _ _ _ _ [_] r (blk::O) R1 (by simpa using T1) k1 ((bu.box _ _ _).trans s1) rfl ⟨blk,arr,Ty',O,rfl,hh,by rw[e1];exact h1,rfl⟩ (Nz k1 h3)|cons c q=>trivial
   .trivial
  .trivial
 | .rp t,cs,K,S,ok,vs,T,R,hT,hL,hK=>by
  unfold exM;split
  .obtain⟨v,r,rfl,h1,_,h3⟩:=hL;refine a5x t R hT h1 λS1 ok1 x R1 T1 k1 s1 h1=>?_;exact hK _ _ _ _ [v] r [] R1 (by simpa using T1) k1 s1 rfl ⟨v,rfl,h1,rfl⟩ (Nz k1 h3)
  .trivial
 | .fn f ts,cs,K,S,ok,vs,T,R,hT,hL,hK=>by
  unfold exM;split
  .rename_i g caps r0;obtain⟨v,r,rfl,⟨us,rfl,hc⟩,_,h3⟩:=hL;cases hb:Nat.beq g f
   .trivial
   .simp only[cond_true];have e:=iD hb;subst e;exact OG ts hc λx hx=>hK _ _ _ _ [_] r [] R (by simpa using hT) (λ_ _ h=>h) (bu.refl _) rfl ⟨us,rfl,hx,rfl⟩ h3
  .rename_i g r0;obtain⟨v,r,rfl,h1,_,h3⟩:=hL;have h1:v= .func (.func g) #[] #[]:=h1;subst h1;cases hb:Nat.beq g f
   .trivial
   .simp only[cond_true];have e:=iD hb;subst e;exact OG (cs:=[]) (vs:=[]) ts rfl λx hx=>hK _ _ _ _ [_] r [] R (by simpa using hT) (λ_ _ h=>h) (bu.refl _) rfl ⟨#[],rfl,hx,rfl⟩ h3
  .trivial
 | .ifc t md,cs,K,S,ok,vs,T,R,hT,hL,hK=>by
  unfold exM;split
  .rename_i t' c r0;obtain⟨v,r,rfl,⟨u,rfl,hu,hc⟩,_,h3⟩:=hL;cases hb:Nat.beq t' t
   .trivial
   .simp only[cond_true];have e:=iD hb;subst e;refine IQ md (vs:=[u]) R hT ⟨u,[],rfl,hc,hu,rfl⟩ λS1 ok1 x q us us' O R1 T1 k1 s1 e1 h1 l1=>?_;cases q with
    |cons c q=>trivial|nil=>simp only[ig]at l1;subst l1;simp only[G5]at e1;subst e1;exact hK _ _ _ _ [_] r O R1 T1 k1 s1 rfl ⟨u,rfl,h1⟩ (Nz k1 h3)
  .trivial
 | .cell (some none),cs,K,S,ok,vs,T,R,hT,hL,hK=>by
  unfold exM;split
  .obtain⟨v,r,rfl,h1,h2,h3⟩:=hL;exact hK _ _ _ _ [v] r [] R (by simpa using hT) (λ_ _ h=>h) (bu.refl _) rfl ⟨v,rfl,h2,λ_=>h1,(λ_ h=>nomatch h),rfl⟩ h3
  .trivial
 | .cell (some (some b)),cs,K,S,ok,vs,T,R,hT,hL,hK=>by
  unfold exM;split
  .obtain⟨v,r,rfl,h1,h2,h3⟩:=hL;cases b
   .trivial
   .exact hK _ _ _ _ [v] r [] R (by simpa using hT) (λ_ _ h=>h) (bu.refl _) rfl ⟨v,rfl,h2,(λh=>nomatch h),(λb' h=>by cases h;exact h1),rfl⟩ h3
  .obtain⟨v,r,rfl,h1,h2,h3⟩:=hL;cases b
   .exact hK _ _ _ _ [v] r [] R (by simpa using hT) (λ_ _ h=>h) (bu.refl _) rfl ⟨v,rfl,h2,(λh=>nomatch h),(λb' h=>by cases h;exact h1),rfl⟩ h3
   .trivial
  .trivial
 | .cell none,cs,K,S,ok,vs,T,R,hT,hL,hK=>by
  unfold exM;split
  .obtain⟨v,r,rfl,h1,h2,h3⟩:=hL;exact hK _ _ _ _ [v] r [] R (by simpa using hT) (λ_ _ h=>h) (bu.refl _) rfl ⟨v,rfl,h2,(λh=>nomatch h),(λ_ h=>nomatch h),rfl⟩ h3
  .trivial
 | .fr t,cs,K,S,ok,vs,T,R,hT,hL,hK=>by
  unfold exM;split
  .obtain⟨v,r,rfl,h1,_,h3⟩:=hL;simp only[xP]at h1;subst h1;cases ht:t.isEnt
   .exact hK _ _ _ _ [_] r [] R (by simpa using hT) (λ_ _ h=>h) (bu.refl _) rfl ⟨.nil,_,rfl,rfl,⟨rfl,ht⟩,(λb h=>by cases h),rfl⟩ h3
   .trivial
  .rename_i bx r0;obtain⟨v,r,rfl,h1,_,h3⟩:=hL;obtain⟨l,hm,hv⟩:=h1;show Cmd.post (match S (ai+bx)with| .barr t' xs=>_| .bfrz t' xs=>_|_=>_) S Q;have hb:=R.box bx;split
   .rename_i t' xs hS;rw[hS]at hb;obtain⟨l',hm',ha⟩:=hb;simp only at hm hm';rw[hm]at hm';cases hm';refine gG λe=>?_;subst e;have hob:V9 m bx (S (ai+bx))=l.blks:=by
     rw[hS];cases l<;>first|(simp[V9,hm,Loc.blks];done)|cases ha
    show Cmd.post _ (upd S (ai+bx) (.bfrz t' xs)) Q;have hbs:∀b∈l.blks,b∈V9 m bx (S (ai+bx)):=λb h=>by rw[hob];exact h
    have ha' :arrOk ⟨w.heap,okW ok l.blks [t'],nom⟩ t' xs l:=qf (m:=m) Jc (λ_ _ _=>rfl) (λ_ _=>rfl) ha;exact hK _ (okW ok l.blks [t']) _ _ [v] r [] (R.widen A7 rfl hbs ⟨l,hm,qf Jc (λ_ _ _=>rfl) (λ_ _=>rfl) ha,λblk hb=> .inr ⟨hb,A7⟩⟩) (by simpa using hT.widen rfl hbs) Jc (bu.box _ _ _) rfl ⟨l,v,rfl,hv,ha',λb hb=> .inr ⟨hb,A7⟩,rfl⟩ (Nz Jc h3)
   .rename_i t' xs hS;rw[hS]at hb;obtain⟨l',hm',ha,hk⟩:=hb;simp only at hm hm';rw[hm]at hm';cases hm';refine gG λe=>?_;subst e;exact hK _ ok _ _ [v] r [] R (by simpa using hT) (λ_ _ h=>h) (bu.refl _) rfl ⟨l,v,rfl,hv,qf (m:=m) (λ_ _ h=>h) (λ_ _ _=>rfl) (λ_ _=>rfl) ha,hk,rfl⟩ h3
   .trivial
  .trivial
 | .lp t,cs,K,S,ok,vs,T,R,hT,hL,hK=>by
  unfold exM;split
  .obtain⟨v,r,rfl,h1,_,h3⟩:=hL;refine a4B DT t R hT h1 λS1 ok1 x R1 T1 k1 g1 s1 h1=>?_;rw[a7d]at h1;exact hK _ _ _ _ [v] r [] R1 (by simpa using T1) k1 s1 rfl ⟨v,rfl,h1,rfl⟩ (Nz k1 h3)
  .trivial
 | .dv ..,cs,K,S,ok,vs,T,R,hT,hL,hK=>by
  unfold exM;split
  .obtain⟨v,r,rfl,h1,h2,h3⟩:=hL;exact hK _ _ _ _ [v] r [] R (by simpa using hT) (λ_ _ h=>h) (bu.refl _) rfl ⟨v,rfl,h2,rfl⟩ h3
  .trivial
 | .sit,cs,K,S,ok,vs,T,R,hT,hL,hK=>by
  unfold exM;split
  .rename_i bx r0;obtain⟨v,r,rfl,h1,_,h3⟩:=hL;obtain⟨blk,hm,rfl⟩:=h1;have hb:=R.box bx;show Cmd.post (match S (ai+bx)with| .biter l p=>_|_=>_) S Q;split
   .rename_i l p hS;rw[hS]at hb;obtain⟨blk',s,q,hm',hh,g1,g2⟩:=hb;simp only at hm hm';rw[hm]at hm';cases hm';show Cmd.post _ (upd S (ai+bx) .dead) Q;have T2:=hT.kill R bx (bs:=[blk]) (λb hb=>by rw[hS];simpa[V9,hm]using hb) A7;exact hK _ ok (l,p) _ _ r [blk] (R.kill bx) T2 (λ_ _ h=>h) (bu.box _ _ _) rfl ⟨blk,s,q,rfl,hh,g1,g2,rfl⟩ h3
   .trivial
  .trivial
 | .sbx tb te,cs,K,S,ok,vs,T,R,hT,hL,hK=>by
  unfold exM;split
  .rename_i bx r0;obtain⟨v,r,rfl,h1,_,h3⟩:=hL;obtain⟨blk,hm,rfl⟩:=h1;have hb:=R.box bx;show Cmd.post (match S (ai+bx)with| .bsb tb' c=>_|_=>_) S Q;split
   .rename_i tb' c hS;rw[hS]at hb;obtain⟨blk',a0,v0,hm',hh,hs,g2⟩:=hb;simp only at hm hm';rw[hm]at hm';cases hm';cases he:Nat.beq tb' tb
    .trivial
    have e:=iD he;subst e;simp only[cond_true];refine b5E R hT g2 λS1 ys l R1 T1 s1 n1 hv1 ha1=>?_;show Cmd.post _ (upd S1 (ai+bx) .dead) Q;have T2:=T1.kill R1 bx (bs:=[blk]) (λb hb=>by rw[n1 bx (λ_ _=>by rw[hS];simp),hS];simpa[V9,hm]using hb) A7;refine hK _ ok ys _ _ r (blk::l.blks) (R1.kill bx) (T2.perm ?_) (λ_ _ h=>h) (s1.trans (bu.box _ _ _)) rfl ⟨blk,a0,v0,l,rfl,hh,hs,hv1,ha1,rfl⟩ h3;rw[F8];exact rQ _ jO
   .trivial
  .trivial
end
end Go.GP
namespace Go.GP
def iW(C:Cx):List V->d5Z->Prop
 |[],vs=>vs=[]|c::cs,vs=>∃v r,vs=v::r/\mD C c v/\iW C cs r
theorem PQ{h:Array Obj}{ok ok' :Nat->Ty->Prop}{m:Mp}(k:∀b t,ok b t->ok' b t):∀{cs:List V} {vs:d5Z},iW ⟨h,ok,m⟩ cs vs->iW ⟨h,ok',m⟩ cs vs
 |[],_,e=>e|_::_,_,⟨v,r,e,h1,h2⟩=>⟨v,r,e,QR k h1,PQ k h2⟩
theorem a9P{h:Array Obj}{ok:Nat->Ty->Prop}{m m' :Mp}(k:∀n l,m n=some l->m' n=some l):∀{cs:List V} {vs:d5Z},iW ⟨h,ok,m⟩ cs vs->iW ⟨h,ok,m'⟩ cs vs
 |[],_,e=>e|_::_,_,⟨v,r,e,h1,h2⟩=>⟨v,r,e,QQ (C:=⟨h,ok,m⟩) (D:=⟨h,ok,m'⟩) ⟨λ_ _ h=>h,λ_ _ _=>rfl,k⟩ h1,a9P k h2⟩
theorem GH{h:Array Obj}{ok:Nat->Ty->Prop}{m m' :Mp}(k:∀n l,m n=some l->m' n=some l){cs:List V}{vs:d5Z}(hr:ig ⟨h,ok,m⟩ cs vs):ig ⟨h,ok,m'⟩ cs vs:=
 Ko (C:=⟨h,ok,m⟩) (D:=⟨h,ok,m'⟩) ⟨λ_ _ h=>h,λ_ _ _=>rfl,k⟩ hr
variable {C:Cx}
theorem a5q{c:V}{v:Value}(h1:c≠.undef)(h2:c≠.un)(h:xP C c v):v.oneCell' =true:=by
 cases c<;>simp only[xP]at h<;>try (subst h;rfl)
 case ne=>obtain⟨_,_,rfl,_⟩:=h;rfl
 .exact absurd rfl h1
 .exact absurd rfl h2
 .rcases h with⟨_,a,cap,e,_⟩|⟨_,mv,e,_⟩<;>(simp at e;subst e;rfl)
 .obtain⟨l,_,hv⟩:=h;exact pI hv
 .obtain⟨b,_,rfl⟩:=h;rfl
 .obtain⟨_,_,_,_,_,_,_,rfl⟩:=h;rfl
 .exact OQ h
 all_goals first|exact h.elim|(obtain⟨_,rfl,_⟩:=h;rfl)|(obtain⟨_,_,rfl⟩:=h;rfl)
theorem Ih{c:V}{v:Value}(h:xP C c v):mD C c v:=by
 cases c<;>simp only[xP]at h<;>try exact h
 all_goals exact h.elim
variable {α:Type}{v:V}{Q:α->Sm->Prop}{x:Value}{ln:Ty->Bool}
section
variable {X:Fx} {cl ch:Nat} {S:Sm} {m:Mp} {ok:Nat->Ty->Prop} {a:Act} {w:World} {T:d6a}
theorem FP{ag:Bool}{K:List V->Cmd α}{S:Sm}(hv:mD C v x)
  (hK:∀cs us,We ag x us->ig C cs us->(K cs).post S Q):(YM ag v K).post S Q:=by
 unfold YM;split<;>try trivial
 .obtain⟨arr,rfl,hl⟩:=hv;exact hK _ _ ⟨arr,rfl,rfl⟩ hl
 .rename_i h1 h2 h3 h4;have hc:xP C v x:=by cases v<;>first|exact hv|exact absurd rfl (h1 _)|exact absurd rfl (h2 _)
  exact hK [v] [x] rfl ⟨x,[],rfl,hc,a5q (λe=>h3 e) (λe=>h4 e) hc,rfl⟩
theorem wS{K:List V->Cmd α}{S:Sm}(hv:mD C v x)
  (hK:∀cs,ig C cs x.cells.toList->(K cs).post S Q):(KF v K).post S Q:=by
 unfold KF;split<;>try trivial
 .obtain⟨arr,rfl,hl⟩:=hv;exact hK _ hl
 .rename_i h1 h2 h3 h4;have hc:xP C v x:=by cases v<;>first|exact hv|exact absurd rfl (h1 _)|exact absurd rfl (h2 _)
  have h1' :=a5q (λe=>h3 e) (λe=>h4 e) hc;have e:x.cells.toList=[x]:=by cases x<;>simp[Value.cells]<;>simp[Value.oneCell']at h1'
  refine hK [v] ?_;rw[e];exact⟨x,[],rfl,hc,h1',rfl⟩
theorem a4e{md:MG}{K:md.2.den->Cmd α}(R:Rel X cl ch S m ok a w)(hT:Tk X S m ok w T)(hv:mD ⟨w.heap,ok,m⟩ v x)
  (hK:∀S' ok' y cs O,Rel X cl ch S' m ok' a w->Tk X S' m ok' w (T++O)->(∀b t,ok b t->ok' b t)->bu S S' ->We md.1 x cs->qW w.heap ok' md.2 none y cs O->(K y).post S' Q):
  (Ze DT md v K).post S Q:=by
 refine FP hv λcs us hg hl=>?_;refine IQ md.2 R hT hl λS1 ok1 y r us1 us' O R1 T1 k1 s1 e1 h1 l1=>?_;cases r with
 |cons c q=>trivial|nil=>simp only[ig]at l1;subst l1;simp only[G5]at e1;subst e1;exact hK _ _ _ _ _ R1 T1 k1 s1 hg h1
theorem b2T{md:M}(hd:md.isDat=false)(cs:List V)(K:md.den->List V->Cmd α):exM ln md cs K=exM DT md cs K:=by cases md<;>first|rfl|(simp[M.isDat]at hd;done)|(rename_i b;cases b<;>first|rfl|(rename_i b;cases b<;>rfl))
theorem a0O{md:MG}(hd:md.2.isDat=true){K:md.2.den->Cmd α}(R:Rel X cl ch S m ok a w)(hT:Tk X S m ok w T)(hv:mD ⟨w.heap,ok,m⟩ v x)
  (hK:∀S' ok' y cs,Rel X cl ch S' m ok' a w->Tk X S' m ok' w T->(∀b t,ok b t->ok' b t)->(∀b t,okL ln S m ok b t->okL ln S' m ok' b t)->bu S S' ->We md.1 x cs->qW w.heap (okL ln S' m ok') md.2 none y cs []->(K y).post S' Q):
  (Ze ln md v K).post S Q:=by
 obtain⟨ag,mm⟩:=md;cases mm<;>simp[M.isDat]at hd
 case dat t=>
  refine FP hv λcs us hg hl=>?_;dsimp only;unfold exM;refine Gp ln _ R hT hl λS1 ok1 y r us1 us' R1 T1 k1 g1 s1 e1 h1 l1=>?_;cases r with
  |cons c q=>trivial|nil=>simp only[ig]at l1;subst l1;simp only[G5]at e1;subst e1;exact hK _ _ _ _ R1 T1 k1 g1 s1 hg ⟨h1,rfl⟩
 case lp t=>
  refine FP hv λcs us hg hl=>?_;dsimp only;unfold exM;cases cs with
  |nil=>trivial|cons c q=>
   obtain⟨u,r',rfl,h1,h2,h3⟩:=hl;refine a4B ln t R hT h1 λS1 ok1 y R1 T1 k1 g1 s1 d1=>?_;cases q with
   |cons c q=>trivial|nil=>simp only[ig]at h3;subst h3;exact hK _ _ _ _ R1 T1 k1 g1 s1 hg ⟨u,rfl,d1,rfl⟩
theorem c0N :∀b t,ok b t->okL ln S m ok b t:=λ_ _ h=> .inl h
theorem MR{α:Type}{Q:α->Sm->Prop}{ln:Ty->Bool} :∀(ms:List MG) {vs:List V} {xs:d5Z} {K:bC ms->Cmd α} {S:Sm} {ok:Nat->Ty->Prop} {T:d6a} (R:Rel X cl ch S m ok a w) (hT:Tk X S m ok w T)
  (hv:iW ⟨w.heap,ok,m⟩ vs xs)
  (hK:∀S' ok' y O,Rel X cl ch S' m ok' a w->Tk X S' m ok' w (T++O)->(∀b t,ok b t->ok' b t)->bu S S' ->xA w.heap (okL ln S' m ok') ms y xs O->(K y).post S' Q),
  (RF ln ms vs K).post S Q
 |[],vs,xs,K,S,ok,T,R,hT,hv,hK=>by
  unfold RF;split
  .simp only[iW]at hv;subst hv;exact hK _ _ _ [] R (by simpa using hT) (λ_ _ h=>h) (bu.refl _) ⟨rfl,rfl⟩
  .trivial
 |[md],vs,xs,K,S,ok,T,R,hT,hv,hK=>by
  unfold RF;split
  .obtain⟨x,r,rfl,h1,h2⟩:=hv;simp only[iW]at h2;subst h2;cases hd:md.2.isDat
   .unfold Ze;simp only[b2T hd];exact a4e R hT h1 λS' ok' y cs O R' T' k s g h=>hK _ _ _ O R' T' k s ⟨x,cs,rfl,g,kZ c0N (λ_ _ _=>rfl) (λ_ _=>rfl) h⟩
   .exact a0O hd R hT h1 λS' ok' y cs R' T' k g s hg h=>hK _ _ _ [] R' (by simpa using T') k s ⟨x,cs,rfl,hg,h⟩
  .trivial
 |md::md' ::r,vs,xs,K,S,ok,T,R,hT,hv,hK=>by
  unfold RF;split
  .obtain⟨x,xr,rfl,h1,h2⟩:=hv;cases hd:md.2.isDat
   .simp only[cond_false];unfold Ze;simp only[b2T hd];refine a4e R hT h1 λS1 ok1 y cs O R1 T1 k1 s1 g1 h1' =>?_;refine MR (md' ::r) R1 T1 (PQ k1 h2) λS2 ok2 z O2 R2 T2 k2 s2 h2' =>?_;exact hK _ _ _ (O++O2) R2 (by simpa using T2) (λb t h=>k2 b t (k1 b t h)) (s1.trans s2) ⟨x,cs,xr,O,O2,rfl,rfl,g1,kZ (λb t h=> .inl (k2 b t h)) (λ_ _ _=>rfl) (λ_ _=>rfl) h1',h2'⟩
   .simp only[cond_true];refine MR (md' ::r) R hT h2 λS2 ok2 z O2 R2 T2 k2 s2 h2' =>?_;refine a0O hd R2 T2 (QR k2 h1) λS1 ok1 y cs R1 T1 k1 g1 s1 hg h1' =>?_;exact hK _ _ _ ([]++O2) R1 (by simpa using T1) (λb t h=>k1 b t (k2 b t h)) (s2.trans s1) ⟨x,cs,xr,[],O2,rfl,rfl,hg,h1',Xz g1 (λ_ _ _=>rfl) (λ_ _=>rfl) h2'⟩
  .trivial
theorem a4d(ms:List MG){vs:List V}{xs:d5Z}{K:bC ms->Cmd α}{S:Sm}{ok:Nat->Ty->Prop}{T:d6a}(R:Rel X cl ch S m ok a w)(hT:Tk X S m ok w T)
  (hv:iW ⟨w.heap,ok,m⟩ vs xs)
  (hK:∀S' ok' y O,Rel X cl ch S' m ok' a w->Tk X S' m ok' w (T++O)->(∀b t,ok b t->ok' b t)->bu S S' ->xA w.heap ok' ms y xs O->(K y).post S' Q):
  (RF DT ms vs K).post S Q:=
 MR ms R hT hv λS' ok' y O R' T' k s h=>hK S' ok' y O R' T' k s (by rw[a7d]at h;exact h)
theorem WY{α:Type}{Q:α->Sm->Prop}{tmps:Array Value}{C:Cx} :∀(ns:d6a) {K:List V->Cmd α} {S:Sm} (hs:∀n,n<ai->mD C (S n) (tmps.getD n Go.undef))
  (hK:∀vs,iW C vs (ns.map λn=>tmps.getD n Go.undef)->(K vs).post S Q),(a2i ns K).post S Q
 |[],K,S,hs,hK=>hK [] rfl|n::ns,K,S,hs,hK=>by
  unfold a2i;cases hb:Nat.blt n ai
  .trivial
  .simp only[cond_true];show Cmd.post _ S Q;refine WY ns hs λvs hvs=>?_;exact hK _ ⟨_,_,rfl,hs n (by rw[iI]at hb;exact hb),hvs⟩
def a6j(h:Array Obj)(ok:Nat->Ty->Prop)(sg:Sig)(x:sF sg)(tmps:Array Value)(O:d6a):Prop:=
 xA h ok (sg.ms.map (·.2)) x ((sg.ms.map (·.1)).map λn=>tmps.getD n Go.undef) O/\∀p∈sg.als,tmps.getD p.1 Go.undef=tmps.getD p.2 Go.undef
theorem b5D{v u:V}{x y:Value}(h:b9T v u=true)(hv:mD C v x)(hu:mD C u y):x=y:=by
 cases v<;>try (cases h;done)
 case own a vw=>
 cases u<;>try (cases vw<;>cases h;done)
 case own b vu=>
 cases vw<;>cases vu<;>try (cases h;done)
 have:=iD (show Nat.beq a b=true from h);subst this;obtain⟨l,hm,h1⟩:=hv;obtain⟨l',hm',h2⟩:=hu;rw[hm]at hm';cases hm';cases l with
 |nil=>exact(show x=_ from h1).trans (show y=_ from h2).symm|st b=>cases h1|mp b=>exact(show x=_ from h1).trans (show y=_ from h2).symm|arr blk off len cap sz=>exact(show x=_ from h1).trans (show y=_ from h2).symm
theorem a0F{α:Type}{Q:α->Sm->Prop}{tmps:Array Value}{C:Cx} :∀(als:List (Nat×Nat)) {K:Cmd α} {S:Sm} (hs:∀n,n<ai->mD C (S n) (tmps.getD n Go.undef))
  (hK:(∀p∈als,tmps.getD p.1 Go.undef=tmps.getD p.2 Go.undef)->K.post S Q),(b7z als K).post S Q
 |[],K,S,hs,hK=>hK (λp hp=>by cases hp)|(n,k)::r,K,S,hs,hK=>by
  unfold b7z;refine dL λhb=>?_;simp only[A8]at hb;show Cmd.post _ S Q;refine dL λhv=>a0F r hs λh=>hK λp hp=>?_;rcases D5.1 hp with rfl|hp
  .have h1:=hb.1;have h2:=hb.2;rw[iI]at h1 h2;exact b5D hv (hs n h1) (hs k h2)
  .exact h p hp
theorem a6H{sg:Sig}{Q:sF sg->Sm->Prop}(R:Rel X cl ch S m ok a w)
  (hK:∀S' ok' y O,Rel X cl ch S' m ok' a w->Tk X S' m ok' w O->(∀b t,ok b t->ok' b t)->bu S S' ->
   a6j w.heap ok' sg y a.tmps O->Q y S'):(b2U sg).post S Q:=by
 unfold b2U;refine a0F _ R.slot λhals=>WY _ R.slot λvs hvs=>?_;refine a4d (T:=[]) _ R Tk.nil hvs λS' ok' y O R' T' k s h=>?_;exact hK S' ok' y O R' T' k s ⟨h,hals⟩
theorem Rel.chmono(R:Rel X cl ch S m ok a w){ch' :Nat}(h:ch<=ch'):Rel X cl ch' S m ok a w:={ R with strict:=λn hn=>R.strict n l9 }
theorem tV{n:Nat}{K:Cmd α}(hK:S (ai+n)= .undef->K.post (upd S (ai+n) v) Q):(yj n v K).post S Q:=by
 unfold yj;show Cmd.post (match S (ai+n)with| .undef=>_|_=>_) S Q;split
 .rename_i h;exact hK h
 .trivial
theorem Rel.adopt(R:Rel X cl ch S m ok a w){n:Nat}{l:Loc}{ks:d6a}{O:d6a}(hn:S (ai+n)= .undef)(hcl:cl<=n)(hv:v≠.undef)
  (hT:Tk X S m ok w (O++T)) (ho:∀b∈V9 (oz m n l ks) n v,b∈O) (hnd:(V9 (oz m n l ks) n v).Nodup) (hB:Ig ⟨w.heap,ok,oz m n l ks⟩ n v):
  Rel X cl (max ch (n+1)) (upd S (ai+n) v) (oz m n l ks) ok a w/\Tk X (upd S (ai+n) v) (oz m n l ks) ok w T/\(∀k l',m k=some l' ->oz m n l ks k=some l'):=by
 have hm:m n=none:=R.fresh n hcl hn;refine⟨(R.chmono (ed ch (n+1))).lay hn hcl l9 hv rfl rfl rfl (F5 _) (λ_ _ _=>rfl) hnd (λb hb=>hT.free b (by simp[ho b hb])) hB,⟨?_,λb hb=>?_⟩,λk l' h=>?_⟩
 .exact(L6.1 hT.nodup).2.1
 .obtain⟨h1,h2,h3,h4⟩:=hT.free b (by simp[hb]);refine⟨h1,h2,h3,λk e=>?_⟩;by_cases ek:k=n
  .subst ek;rw[lZ]at e;exact(L6.1 hT.nodup).2.2 b (ho b e) b hb rfl
  .rw[bV _ _ l9]at e;refine h4 k ?_;rw[←Nc (m:=m) (jS m l ks ek) (WL m l ks ek)];exact e
 .by_cases ek:k=n
  .subst ek;simp[hm]at h
  .rw[jS _ _ _ ek];exact h
theorem Lc{h:Array Obj}{ok:Nat->Ty->Prop}{m m' :Mp}{t:Ty}{xs:List t.den}{l:Loc}(hr:arrOk ⟨h,ok,m⟩ t xs l):arrOk ⟨h,ok,m'⟩ t xs l:=by cases l<;>exact hr
theorem b1Q{S:Sm}{k:Nat}{c:Cmd α}(h:c.post (upd S k v) Q):(Cmd.set k v c).post S Q:=h
theorem Lj{α:Type}{Q:α->Sm->Prop} :∀(md:M) {x:md.den} {n:Nat} {r:List V} {K:List V->Nat->Cmd α} {S:Sm} {m:Mp} {ch:Nat} {us us' :d5Z} {O T:d6a}
  (R:Rel X cl ch S m ok a w) (hcl:cl<=n) (hT:Tk X S m ok w (O++T)) (h:qW w.heap ok md none x us O) (hL:ig ⟨w.heap,ok,m⟩ r us')
  (hK:∀S' m' cs n' ch',Rel X cl ch' S' m' ok a w->ch' <=max ch n' ->Tk X S' m' ok w T->(∀k l,m k=some l->m' k=some l)->bu S S' ->ig ⟨w.heap,ok,m'⟩ cs (us++us')->n<=n' ->(K cs n').post S' Q),
  (emM md x n r K).post S Q
 | .dat t,x,n,r,K,S,m,ch,us,us',O,T,R,hcl,hT,h,hL,hK=>by unfold emM;obtain⟨hr,rfl⟩:=h;refine hK S m _ n ch R (ed _ _) (by simpa using hT) (λ_ _ h=>h) (bu.refl _) ?_ (F5 _);rw[nC];exact zo (rD (C:=⟨w.heap,ok,m⟩) hr) hL
 | .own t,x,n,r,K,S,m,ch,us,us',O,T,R,hcl,hT,h,hL,hK=>by
  unfold emM;obtain⟨l,v,rfl,hv,ha,rfl⟩:=Bi.1 h;refine tV λhn=>?_;have hob:V9 (oz m n l []) n (.barr t x)=l.blks:=by cases l<;>first|(simp[V9,Loc.blks];done)|cases ha
  obtain⟨R',T',k'⟩:=R.adopt (l:=l) (ks:=[]) (v:=.barr t x) hn hcl A7 hT (λb hb=>by rw[hob]at hb;exact hb) (by rw[hob];exact Loc.blks_nodup l) ⟨l,aQ _ _ _ _,Lc ha⟩;exact hK _ _ _ _ _ R' l9 T' k' (bu.box _ _ _) ⟨v,us',rfl,⟨l,aQ _ _ _ _,hv⟩,pI hv,GH k' hL⟩ l9
 | .ownb t,x,n,r,K,S,m,ch,us,us',O,T,R,hcl,hT,h,hL,hK=>by
  unfold emM;obtain⟨l,v,rfl,hv,ha,rfl⟩:=h;refine tV λhn=>?_;have hob:V9 (oz m n l []) n (.barr t x)=l.blks:=by cases l<;>first|(simp[V9,Loc.blks];done)|cases ha
  obtain⟨R',T',k'⟩:=R.adopt (l:=l) (ks:=[]) (v:=.barr t x) hn hcl A7 hT (λb hb=>by rw[hob]at hb;exact hb) (by rw[hob];exact Loc.blks_nodup l) ⟨l,aQ _ _ _ _,Lc ha⟩;exact hK _ _ _ _ _ R' l9 T' k' (bu.box _ _ _) ⟨v,us',rfl,⟨l,aQ _ _ _ _,hv⟩,pI hv,GH k' hL⟩ l9
 | .owns md,x,n,r,K,S,m,ch,us,us',O,T,R,hcl,hT,h,hL,hK=>by
  unfold emM;obtain⟨hw,l,v,Os,rfl,hv,ha,rfl⟩:=Df.1 h;refine tV λhn=>?_;have hob:V9 (oz m n l Os.flatten) n (.barrs md x none)=l.blks++Os.flatten:=by cases l<;>first|(simp[V9,Loc.blks];done)|cases ha
  obtain⟨R',T',k'⟩:=R.adopt (l:=l) (ks:=Os.flatten) (v:=.barrs md x none) hn hcl A7 hT (λb hb=>by rw[hob]at hb;exact hb) (by rw[hob];exact(L6.1 hT.nodup).1)
   ⟨hw,l,Os,aQ _ _ _ _,⟨ha,trivial⟩,A7⟩
  refine b1Q ?_;have T2:=T'.killV R' (Sl+n) (v:=.blen (o9 x) md.size) rfl (bs:=[]) (λb h=>by cases h) fJ;rw[G5]at T2;exact hK _ _ _ _ _ (R'.mark (lZ _ _ _)) l9 T2 k' ((bu.box _ _ _).trans (bu.box _ _ _)) ⟨v,us',rfl,⟨l,aQ _ _ _ _,hv⟩,pI hv,GH k' hL⟩ l9
 | .pair p q,x,n,r,K,S,m,ch,us,us',O,T,R,hcl,hT,h,hL,hK=>by
  unfold emM;obtain⟨c,d,O1,O2,rfl,rfl,h1,h2⟩:=b1B.1 h;have hT1:Tk X S m ok w (O2++(O1++T)):=hT.perm (by rw[F8];exact(List.perm_append_comm_assoc _ _ _))
  refine Lj q R hcl hT1 h2 hL λS1 m1 cs1 n1 ch1 R1 c1 T1 k1 s1 l1 e1=>?_;refine Lj p R1 l9 T1 h1 l1 λS2 m2 cs2 n2 ch2 R2 c2 T2 k2 s2 l2 e2=>?_;exact hK _ _ _ _ _ R2 l9 T2 (λk l h=>k2 k l (k1 k l h)) (s1.trans s2) (by simpa using l2) l9
 | .unit,x,n,r,K,S,m,ch,us,us',O,T,R,hcl,hT,h,hL,hK=>by unfold emM;obtain⟨rfl,rfl⟩:=h;exact hK S m _ n ch R (ed _ _) (by simpa using hT) (λ_ _ h=>h) (bu.refl _) (by simpa using hL) (F5 _)
 | .box md,x,n,r,K,S,m,ch,us,us',O,T,R,hcl,hT,h,hL,hK=>by
  unfold emM;obtain⟨blk,arr,Tt,O',rfl,hh,hr,rfl⟩:=h;have hT1:Tk X S m ok w (O' ++([blk]++T)):=hT.perm (by simpa using List.perm_middle.symm);refine Lj md (r:=[]) (us' :=[]) R l9 hT1 hr rfl λS1 m1 cs1 n1 ch1 R1 c1 T1 k1 s1 l1 e1=>?_;refine tV λhn=>?_;obtain⟨R',T',k'⟩:=R1.adopt (l:=.st blk) (ks:=[]) (v:=.bcells cs1) hn hcl A7 T1 (λb hb=>by
   simp only[V9,aQ]at hb;simp at hb;simp[hb]) (by simp[V9]) ⟨blk,arr,Tt,aQ _ _ _ _,hh,GH (λk l (h:m1 k=some l)=>by
    by_cases ek:k=n
    .subst ek;have:=R1.fresh k hcl hn;rw[this]at h;cases h
    .rw[jS _ _ _ ek];exact h) (by simpa using l1)⟩
  refine hK _ _ _ _ _ R' l9 T' (λk l h=>k' k l (k1 k l h)) (s1.trans (bu.box _ _ _)) ⟨_,us',rfl,⟨blk,aQ _ _ _ _,rfl⟩,rfl,GH k' (GH k1 hL)⟩ l9
 | .rp t,x,n,r,K,S,m,ch,us,us',O,T,R,hcl,hT,h,hL,hK=>by unfold emM;obtain⟨v,rfl,hv,rfl⟩:=h;exact hK S m _ n ch R (ed _ _) (by simpa using hT) (λ_ _ h=>h) (bu.refl _) ⟨v,us',rfl,hv,OQ hv,hL⟩ (F5 _)
 | .fn f ts,x,n,r,K,S,m,ch,us,us',O,T,R,hcl,hT,h,hL,hK=>by unfold emM;obtain⟨vs,rfl,hv,rfl⟩:=h;exact hK S m _ n ch R (ed _ _) (by simpa using hT) (λ_ _ h=>h) (bu.refl _) ⟨_,us',rfl,⟨vs,rfl,hv⟩,rfl,hL⟩ (F5 _)
 | .ifc t md,x,n,r,K,S,m,ch,us,us',O,T,R,hcl,hT,h,hL,hK=>by
  unfold emM;obtain⟨u,rfl,h1⟩:=h;refine Lj md (r:=[]) (us' :=[]) R hcl hT h1 rfl λS1 m1 cs1 n1 ch1 R1 c1 T1 k1 s1 l1 e1=>?_;split
  .rename_i c;obtain⟨v',r',e,h1',h2',h3'⟩:=l1;simp only[G5,ae,H8,I4]at e;obtain⟨rfl,rfl⟩:=e;exact hK _ _ _ _ _ R1 c1 T1 k1 s1 ⟨_,us',rfl,⟨u,rfl,h2',h1'⟩,rfl,GH k1 hL⟩ e1
  .trivial
 | .cell (some none),x,n,r,K,S,m,ch,us,us',O,T,R,hcl,hT,h,hL,hK=>by unfold emM;obtain⟨v,rfl,hv,h2,h4,rfl⟩:=h;exact hK S m _ n ch R (ed _ _) (by simpa using hT) (λ_ _ h=>h) (bu.refl _) ⟨v,us',rfl,h2 rfl,hv,hL⟩ (F5 _)
 | .cell (some (some b)),x,n,r,K,S,m,ch,us,us',O,T,R,hcl,hT,h,hL,hK=>by unfold emM;obtain⟨v,rfl,hv,h2,h4,rfl⟩:=h;exact hK S m _ n ch R (ed _ _) (by simpa using hT) (λ_ _ h=>h) (bu.refl _) ⟨v,us',rfl,h4 _ rfl,hv,hL⟩ (F5 _)
 | .cell none,x,n,r,K,S,m,ch,us,us',O,T,R,hcl,hT,h,hL,hK=>by unfold emM;obtain⟨v,rfl,hv,h2,h4,rfl⟩:=h;exact hK S m _ n ch R (ed _ _) (by simpa using hT) (λ_ _ h=>h) (bu.refl _) ⟨v,us',rfl,trivial,hv,hL⟩ (F5 _)
 | .lp t,x,n,r,K,S,m,ch,us,us',O,T,R,hcl,hT,h,hL,hK=>by unfold emM;obtain⟨v,rfl,hv,rfl⟩:=h;exact hK S m _ n ch R (ed _ _) (by simpa using hT) (λ_ _ h=>h) (bu.refl _) ⟨v,us',rfl,hv,OQ hv,hL⟩ (F5 _)
 | .dv ..,x,n,r,K,S,m,ch,us,us',O,T,R,hcl,hT,h,hL,hK=>by unfold emM;obtain⟨v,rfl,hv,rfl⟩:=h;exact hK S m _ n ch R (ed _ _) (by simpa using hT) (λ_ _ h=>h) (bu.refl _) ⟨v,us',rfl,trivial,hv,hL⟩ (F5 _)
 | .sit,x,n,r,K,S,m,ch,us,us',O,T,R,hcl,hT,h,hL,hK=>by
  unfold emM;obtain⟨blk,s,q,rfl,hh,h2,h3,rfl⟩:=h;refine tV λhn=>?_;obtain⟨R2,T2,k2⟩:=R.adopt (n:=n) (l:=.st blk) (ks:=[]) (v:=.biter x.1 x.2) hn hcl A7 hT (λb hb=>by simp only[V9,aQ]at hb;simp at hb;simp[hb]) (by simp[V9]) ⟨blk,s,q,aQ _ _ _ _,hh,h2,h3⟩
  exact hK _ _ _ _ _ R2 l9 T2 k2 (bu.box _ _ _) ⟨_,us',rfl,⟨blk,aQ _ _ _ _,rfl⟩,rfl,GH k2 hL⟩ l9
 | .sbx tb te,x,n,r,K,S,m,ch,us,us',O,T,R,hcl,hT,h,hL,hK=>by
  unfold emM;obtain⟨blk,a0,v,l,rfl,hh,hs,hv,ha,rfl⟩:=h;have hT1:Tk X S m ok w (l.blks++([blk]++T)):=hT.perm (by simpa using List.perm_middle.symm);refine tV λhn1=>?_;have hob:V9 (oz m (n+1) l []) (n+1) (.brow te x)=l.blks:=by cases l<;>first|(simp[V9,Loc.blks];done)|cases ha
  obtain⟨R1,T1,k1⟩:=R.adopt (n:=n+1) (l:=l) (ks:=[]) (v:=.brow te x) hn1 l9 A7 hT1 (λb hb=>by rw[hob]at hb;exact hb) (by rw[hob];exact Loc.blks_nodup l) ⟨l,aQ _ _ _ _,ha⟩;refine tV λhn=>?_;obtain⟨R2,T2,k2⟩:=R1.adopt (n:=n) (l:=.st blk) (ks:=[]) (v:=.bsb tb (.own (n+1) none)) hn hcl A7 T1 (λb hb=>by simp only[V9,aQ]at hb;simp at hb;simp[hb]) (by simp[V9]) ⟨blk,a0,v,aQ _ _ _ _,hh,hs,⟨l,(by rw[jS _ _ _ l9];exact aQ _ _ _ _),hv⟩⟩
  refine hK _ _ _ _ _ R2 l9 T2 (λk l h=>k2 k l (k1 k l h)) ((bu.box _ _ _).trans (bu.box _ _ _)) ⟨_,us',rfl,⟨blk,aQ _ _ _ _,rfl⟩,rfl,GH k2 (GH k1 hL)⟩ l9
 | .fr t,x,n,r,K,S,m,ch,us,us',O,T,R,hcl,hT,h,hL,hK=>by unfold emM;obtain⟨l,v,rfl,hv,ha,hk,rfl⟩:=h;refine tV λhn=>?_;obtain⟨R',T',k'⟩:=R.adopt (l:=l) (ks:=[]) (v:=.bfrz t x) hn hcl A7 hT (λb hb=>by cases hb) fJ ⟨l,aQ _ _ _ _,Lc ha,hk⟩;exact hK _ _ _ _ _ R' l9 T' k' (bu.box _ _ _) ⟨v,us',rfl,⟨l,aQ _ _ _ _,hv⟩,pI hv,GH k' hL⟩ l9
theorem UR{ag:Bool}{cs:List V}{us:d5Z}(hg:We ag x us)(hl:ig C cs us):mD C (mkV ag cs) x:=by
 cases ag
 .simp only[We]at hg;subst hg;cases cs with
  |nil=>simp[ig]at hl|cons c r=>
   obtain⟨v,r',e,h1,h2,h3⟩:=hl;simp at e;obtain⟨rfl,rfl⟩:=e;cases r with
   |nil=>exact Ih h1|cons d r=>obtain⟨_,_,e,_⟩:=h3;cases e
 .obtain⟨arr,rfl,rfl⟩:=hg;exact⟨arr,rfl,hl⟩
theorem MN{α:Type}{Q:α->Sm->Prop} :∀(ms:List MG) {x:bC ms} {n:Nat} {K:List V->Nat->Cmd α} {S:Sm} {m:Mp} {ch:Nat} {xs:d5Z} {O T:d6a}
  (R:Rel X cl ch S m ok a w) (hcl:cl<=n) (hT:Tk X S m ok w (O++T)) (h:xA w.heap ok ms x xs O)
  (hK:∀S' m' vs n' ch',Rel X cl ch' S' m' ok a w->ch' <=max ch n' ->Tk X S' m' ok w T->(∀k l,m k=some l->m' k=some l)->bu S S' ->iW ⟨w.heap,ok,m'⟩ vs xs->n<=n' ->(K vs n').post S' Q),
  (RD ms x n K).post S Q
 |[],x,n,K,S,m,ch,xs,O,T,R,hcl,hT,h,hK=>by unfold RD;obtain⟨rfl,rfl⟩:=h;exact hK S m [] n ch R (ed _ _) (by simpa using hT) (λ_ _ h=>h) (bu.refl _) rfl (F5 _)
 |[md],x,n,K,S,m,ch,xs,O,T,R,hcl,hT,h,hK=>by unfold RD;obtain⟨v,cs,rfl,hg,hr⟩:=h;refine Lj md.2 (us' :=[]) R hcl hT hr rfl λS1 m1 cs1 n1 ch1 R1 c1 T1 k1 s1 l1 e1=>?_;exact hK _ _ _ _ _ R1 c1 T1 k1 s1 ⟨v,[],rfl,UR hg (by simpa using l1),rfl⟩ e1
 |md::md' ::r,x,n,K,S,m,ch,xs,O,T,R,hcl,hT,h,hK=>by unfold RD;obtain⟨v,cs,vs',O1,O2,rfl,rfl,hg,h1,h2⟩:=h;refine Lj md.2 (us' :=[]) R hcl (by simpa using hT) h1 rfl λS1 m1 cs1 n1 ch1 R1 c1 T1 k1 s1 l1 e1=>?_;refine MN (md' ::r) R1 l9 T1 h2 λS2 m2 vs2 n2 ch2 R2 c2 T2 k2 s2 l2 e2=>?_;exact hK _ _ _ _ _ R2 l9 T2 (λk l h=>k2 k l (k1 k l h)) (s1.trans s2) ⟨v,vs',rfl,UR hg (GH k2 (by simpa using l1)),l2⟩ l9
theorem NK{Q:Unit->Sm->Prop} :∀(ns:d6a) {vs:List V} {S:Sm} {K:Cmd Unit} (R:Rel X cl ch S m ok a w) (hv:iW ⟨w.heap,ok,m⟩ vs (ns.map λn=>a.tmps.getD n Go.undef))
  (hK:∀S',Rel X cl ch S' m ok a w->K.post S' Q),(QW ns vs K).post S Q
 |[],vs,S,K,R,hv,hK=>by
  simp only[uo]at hv;cases vs with
  |nil=>exact hK S R|cons _ _=>obtain⟨_,_,e,_⟩:=hv;cases e
 |n::ns,vs,S,K,R,hv,hK=>by
  cases vs with
  |nil=>trivial
  |cons v vs=>obtain⟨x,r,e,h1,h2⟩:=hv;simp only[je,I4]at e;obtain⟨rfl,rfl⟩:=e;unfold QW;refine dL λhb=>?_;show Cmd.post _ (upd S n v) Q;exact NK ns (R.slotV (by rw[iI]at hb;exact hb) h1) h2 hK
theorem XG{Q:Unit->Sm->Prop} :∀(als:List (Nat×Nat)) {S:Sm} (R:Rel X cl ch S m ok a w) (h:∀p∈als,a.tmps.getD p.1 Go.undef=a.tmps.getD p.2 Go.undef)
  (hK:∀S',Rel X cl ch S' m ok a w->Q () S'),(a3d als).post S Q
 |[],S,R,h,hK=>hK S R
 |(n,k)::r,S,R,h,hK=>by unfold a3d;refine dL λhb=>?_;simp only[A8]at hb;have h1:=hb.1;have h2:=hb.2;rw[iI]at h1 h2;show Cmd.post _ (upd S n (S k)) Q;refine XG r (R.slotV h1 ?_) (λp hp=>h p (Y2 _ hp)) hK;rw[h (n,k) jD];exact R.slot k h2
theorem a6C{sg:Sig}{x:sF sg}{nb lim:Nat}{Q:Unit->Sm->Prop}{O:d6a}(R:Rel X cl ch S m ok a w)(hcl:cl<=nb)(hT:Tk X S m ok w O)
  (h:a6j w.heap ok sg x a.tmps O)
  (hK:∀S' m',Rel X cl (max ch lim) S' m' ok a w->(∀k l,m k=some l->m' k=some l)->Q () S'):(b2K sg x nb lim).post S Q:=by
 unfold b2K;refine MN (T:=[]) _ R hcl (by simpa using hT) h.1 λS1 m1 vs n1 ch1 R1 c1 T1 k1 s1 l1 e1=>?_;cases hb:Nat.ble n1 lim
 .trivial
 .simp only[cond_true];have:n1<=lim:=Y4 hb;exact NK _ (R1.chmono (ch' :=max ch lim) l9) l1 λS' R' =>XG _ R' h.2 λS'' R'' =>hK S'' m1 R'' k1
end
end Go.GP
namespace Go.GP
def b7j(P:Program)(t:TypeId):TD->Prop
 | .bool=>P.underlying t=some .bool| .int k=>P.underlying t=some (.int k)| .str=>P.underlying t=some .string| .sl e=>P.underlying t=some (.slice e)| .ptr e=>P.underlying t=some (.pointer e)| .struct fs=>∃fields,P.underlying t=some (.struct fields)/\fields.toList.map (λf=>(f.type,f.offset))=fs| .arr n e=>P.underlying t=some (.array n e)| .map k e=>P.underlying t=some (.map k e)| .other=>∃d,P.underlying t=some d/\(match d with| .struct _| .array _ _=>False|_=>True)
structure TiOk (P:Program) (t:TypeId) (i:TI):Prop where
 info:∃inf,P.info? t=some inf/\inf.size=i.size/\inf.bytes=i.bytes/\
  (i.zero.length=i.size->∃z,inf.zero=some z/\ig ⟨#[],λ_ _=>False,nom⟩ i.zero z.cells.toList)/\
  (∀u,i.ty=some u->u.size=i.size/\∃z,inf.zero=some z/\mJ #[] (λ_ _=>False) u u.zero z.cells.toList)
 td:b7j P t i.td
 one:dA i.td=false->i.size=1
 agg:∀inf z,P.info? t=some inf->inf.zero=some z->(dA i.td=true->∃arr,z= .agg arr)/\(dA i.td=false->z.oneCell' =true)
def a6i(n:Nat)(v:Value)(rs:d5Z):Prop:=rs.length=n/\v=(match rs with|[x]=>x|l=> .tuple l.toArray)
def Aw(h:Array Obj):List MG->d5Z->d5Z->d6a->Prop
 |[],[],os,B=>os=[]/\B=[]|(_,.box _)::ms,v::vs,os,B=>∃b arr T os' B',v= .pointer (some ⟨b,0,none⟩)/\h[b]? =some (.cells arr T (0,0))/\os= .agg arr::os' /\B=b::B' /\Aw h ms vs os' B'|(_,.ifc _ (.box _))::ms,v::vs,os,B=>∃t b arr T os' B',v= .iface t (.pointer (some ⟨b,0,none⟩))/\h[b]? =some (.cells arr T (0,0))/\os= .agg arr::os' /\B=b::B' /\Aw h ms vs os' B'|(_,.ownb _)::ms,v::vs,os,B=>∃os',os=v::os' /\Aw h ms vs os' B|(_,.sbx _ _)::ms,v::vs,os,B=>∃os',os=v::os' /\Aw h ms vs os' B|_::ms,_::vs,os,B=>Aw h ms vs os B|_,_,_,_=>False
def Vm(h:Array Obj)(x:Value)(off sz fo:Nat)(y:Value):Prop:=∃blk o b bo n c,x= .pointer (some ⟨blk,o,none⟩)/\fD h blk (o+off) 1=some [.slice (some ⟨b,bo,none⟩) n c]/\
 0<=H9 .i64 (n:Int) 1/\H9 .i64 (n:Int) 1<(n:Int)/\y= .pointer (some ⟨b,bo+(H9 .i64 (n:Int) 1).toNat*sz+fo,none⟩)
theorem Vm.det{h:Array Obj}{x y z:Value}{off sz fo:Nat}(h1:Vm h x off sz fo y)(h2:Vm h x off sz fo z):y=z:=by obtain⟨blk,o,b,bo,n,c,rfl,e,_,_,rfl⟩:=h1;obtain⟨blk',o',b',bo',n',c',e1,e',_,_,rfl⟩:=h2;simp only[oH,F9,jL,and_true]at e1;obtain⟨rfl,rfl⟩:=e1;rw[e]at e';simp only[F9,I4,Value.slice.injEq,jL,and_true]at e';obtain⟨⟨rfl,rfl⟩,rfl,rfl⟩:=e';rfl
def b0h(h:Array Obj)(all:d5Z):List MG->d5Z->Prop
 |(_,.dv k off sz fo)::ms,v::vs=>(∃p,all[k]? =some p/\Vm h p off sz fo v)/\b0h h all ms vs|_::ms,_::vs=>b0h h all ms vs|_,_=>True
def a8A(P:Program)(f:FuncId)(off sz:Nat):Prop:=(∃fn,P.funcs[f]? =some fn/\fn.body.isSome=true/\(fn.name== "runtime.NumGoroutine")=false)/\
 ∀(w:World) (x y:Value),Vm w.heap x off sz 0 y->Calls P f #[x] w λe w' =>e= .returned y/\∃n,w' =w.drewN n
def PlP(P:Program)(f:FuncId)(off sz:Nat):Prop:=match sz with|0=>c5u P f off|_+1=>a8A P f off sz
theorem PlP.snd{P:Program}{f:FuncId}{off sz:Nat}(h:PlP P f off sz)(hz:Nat.beq sz 0=false):a8A P f off sz:=by
 cases sz with
 |zero=>cases hz|succ n=>exact h
def dB(P:Program)(gl:List (Nat×(t:Ty)×List t.den))(f:FuncId)(s:FSpec):Prop:=
 ∀(w:World) (ok:Nat->Ty->Prop) (O:d6a) (vals:d5Z) (x:bC s.ps) (r:bC (s.rs++s.outs)),
  (∀b t,ok b t->b<w.heap.size)->O.Nodup->(∀b∈O,(∀t,¬ok b t)/\b<w.heap.size)->(∀g u,dW gl g=some u->TF ⟨w.heap,ok,nom⟩ g u.1 u.2)->
  xA w.heap ok s.ps x vals O->b0h w.heap vals s.ps vals->s.fn x=some r->
  Calls P f vals.toArray w λe w' =>∃v ok' O' rs os B,e= .returned v/\Frame' w w' O/\(∀b t,ok b t->ok' b t)/\(∀b t,ok' b t->b<w'.heap.size/\(ok b t\/w.heap.size<=b\/b∈O))/\
   (O' ++B).Nodup/\(∀b∈O' ++B,(∀t,¬ok' b t)/\b<w'.heap.size/\(w.heap.size<=b\/b∈O))/\
   a6i s.rs.length v rs/\Aw w'.heap s.ps vals os B/\xA w'.heap ok' (s.rs++s.outs) r (rs++os) O'
def kG:List Ty->d5Z->Prop
 |[],vs=>vs=[]| .bool::ts,vs=>∃b r,vs= .bool b::r/\kG ts r| .int k::ts,vs=>∃b r,vs= .int k b::r/\kG ts r| .str::ts,vs=>∃b r,vs= .string b::r/\kG ts r|_::_,_=>False
def b2g(P:Program)(t:TypeId)(sh:List Ty):Prop:=
 ∀(w:World) (C:Cx) (cs ds:List V) (xs ys:Array Value) (e:Bool) (op:BinOp) (x y:Operand),Em sh cs=true->Em sh ds=true->ig C cs xs.toList->ig C ds ys.toList->Du cs ds=some e->
  (op= .eql\/op= .neq)->(do eqGuard op t x y (.agg xs) (.agg ys);binOp op t (.agg xs) (.agg ys):Sem Value).run P w= .ok (.bool (if op= .eql then e else !e)) w
def a3D(P:Program)(t:TypeId)(sh:List Ty):Prop:=
 (∃fs,P.underlying t=some (.struct fs))/\∀(w:World) (xs:Array Value),kG sh xs.toList->(∀em,(Instr.checkKey em 10000 t (.agg xs)).run P w= .ok () w)/\
  ∀ys:Array Value,kG sh ys.toList->∃r,(Op.equal t (.agg xs) (.agg ys)).run P w= .ok r w/\(r=true↔xs.toList=ys.toList)
def Qn(P:Program)(t:TypeId)(sh:List Ty):Prop:=b2g P t sh/\a3D P t sh
def IG(P:Program)(t:Nat)(n:String)(f:Nat)(d:Option Nat):Prop:=
 ∀(v:Value) (w:World),match d with
  |none=>(method (P.types.size+Made.depth) t v n).run P w= .ok (f,v) w
  |some e=>∀ad,v= .pointer (some ad)->(method (P.types.size+Made.depth) t v n).run P w=((loadVar e ad).run P w).andThen λu w' => .ok (f,u) w'
structure FxOk (X:Fx):Prop where
 nt:64*X.E.nt<=999936
 tt:∀t i,dW X.E.tt t=some i->TiOk X.P t i
 fs:∀p∈X.E.fs,dB X.P X.E.gl p.1 p.2
 eqs:∀t sh,dW X.E.eqs t=some sh->Qn X.P t sh
 ms:∀p∈X.E.ms,IG X.P p.1.1 p.1.2 p.2.1 p.2.2
 fn:∀p∈X.E.fs,∃fn,X.P.funcs[p.1]? =some fn/\fn.body.isSome=true/\(fn.name== "runtime.NumGoroutine")=false
 pl:∀p∈X.E.pl,PlP X.P p.1 p.2.1 p.2.2
theorem FxOk.ntB{X:Fx}(H:FxOk X):X.E.nt<=ai:=by have:=H.nt;show X.E.nt<=1000000;omega
def jr(X:Fx)(cl ch:Nat)(o:Oper)(a:Act)(w:World)(m:Mp)(ok:Nat->Ty->Prop)(S' :Sm):Prop:=
 ∀(next:Act->World->Prop) (Q:Exit->Act->World->Prop),
  (∀m' ok' a' w',Rel X cl ch S' m' ok' a' w' ->(∀k l,m k=some l->m' k=some l)->(∀b t,ok b t->ok' b t)->next a' w')->o.wp X.P a w next Q
theorem LW{α:Type}{ι:Sort _}{Q:ι->α->Sm->Prop} :∀{c:Cmd α} {S:Sm},(∀i,c.post S (Q i))->c.post S (λx S' =>∀i,Q i x S')
 | .ret x,S,h=>λi=>h i| .fail,S,h=>trivial| .get k c,S,h=>LW (c:=c (S k)) h| .set k v c,S,h=>LW (c:=c) h
 | .opt o c,S,h=>λx e=>LW (c:=c x) λi=>h i x e| .br b c d,S,h=>⟨λe=>LW (c:=c) λi=>(h i).1 e,λe=>LW (c:=d) λi=>(h i).2 e⟩
variable {x:Operand}{k:IntKind}{y:Operand}{α:Type}{Q:α->Sm->Prop}{C:Cx}{v:Value}{op:BinOp}{t:TypeId}{yt:TypeId}
section
variable {X:Fx} {cl ch:Nat} {S:Sm} {m:Mp} {ok:Nat->Ty->Prop} {a:Act} {w:World} {o:Oper}
theorem dD{b:Bool}{c:Cmd α}{S:Sm}(h:b=true->c.post S Q):(bif b then c else Cmd.fail).post S Q:=by
 cases b
 .trivial
 .exact h rfl
theorem MJ{a b:Nat}(h:Nat.blt a b=true):a<b:=by rw[iI]at h;exact h
theorem uJ(H:FxOk X){S:Sm}{m0 m:Mp}{ok0 ok:Nat->Ty->Prop}{w0 w:World}{a:Act}(R:Rel X cl ch S m ok a w)(hm:∀k l,m0 k=some l->m k=some l)(hok:∀b t,ok0 b t->ok b t)
  {v:V} {x:Value} (hv:mD ⟨w.heap,ok,m⟩ v x) (run:(execOp a.eval o).run X.P w0= .ok (.value x) w):
  (fF X.E o.dst v).post S (λ_ S' =>jr X cl ch o a w0 m0 ok0 S'):=by
 unfold fF;cases hd:o.dst with
 |none=>
  intro next Q hn
  unfold Oper.wp;rw[run,Oper.upon_value,hd];exact hn m ok a w R hm hok
 |some d=>
  refine dD λhb=>?_;intro next Q hn
  unfold Oper.wp;rw[run,Oper.upon_value,hd];exact hn m ok _ w (R.put H.ntB hb hv) hm hok
theorem a6v(C:Cx)(v:Value):mD C (a6u v) v:=by unfold a6u;split<;>first|exact rfl|trivial
theorem aG(R:Rel X cl ch S m ok a w){K:V->Cmd α}(hK:∀v,mD ⟨w.heap,ok,m⟩ v (a.eval x)->(K v).post S Q):(ru x K).post S Q:=by
 unfold ru;cases x with
 |tmp t=>exact dD λhb=>hK (S t) (R.slot t (MJ hb))|const v=>exact hK _ (a6v _ v)|global g=>exact hK _ rfl|func f=>exact hK _ rfl
theorem mV{α:Type}{Q:α->Sm->Prop}(R:Rel X cl ch S m ok a w):∀(xs:List Operand) {K:List V->Cmd α} (hK:∀vs,iW ⟨w.heap,ok,m⟩ vs (xs.map a.eval)->(K vs).post S Q),(UD xs K).post S Q
 |[],K,hK=>hK [] rfl
 |x::r,K,hK=>by unfold UD;refine aG R λv hv=>?_;exact mV R r λvs hvs=>hK _ ⟨_,_,rfl,hv,hvs⟩
theorem aX(H:FxOk X)(R:Rel X cl ch S m ok a w){v:V}{x:Value}(hv:mD ⟨w.heap,ok,m⟩ v x)(run:(execOp a.eval o).run X.P w= .ok (.value x) w):
  (fF X.E o.dst v).post S (λ_ S' =>jr X cl ch o a w m ok S'):=uJ H R (λ_ _ h=>h) (λ_ _ h=>h) hv run
theorem Wh{x:Bool}(h:mD C (.b x) v):v= .bool x:=h
theorem wO{n:Int}(h:mD C (.i k n) v):v= .int k n:=h
theorem PP{l:d5X}(h:mD C (.s l) v):v= .string ⟨l.toArray⟩:=h
theorem a9E(H:FxOk X)(R:Rel X cl ch S m ok a w)(ho:o.op= .move x\/o.op= .assign x):(ru x λv=>fF X.E o.dst v).post S (λ_ S' =>jr X cl ch o a w m ok S'):=by refine aG R λv hv=>aX H R hv ?_;rcases ho with ho|ho<;>simp[execOp,ho]
theorem b8d(H:FxOk X)(R:Rel X cl ch S m ok a w){c x y:Operand}{q:Nat}(ho:o.op= .pick c x y):(bF X.E q o).post S (λ_ S' =>jr X cl ch o a w m ok S'):=by
 unfold bF;simp only[ho];refine aG R λv hv=>?_;split<;>try trivial
 rename_i t;have hc:=Wh hv;cases t
 .simp only[cond_false];refine aG R λv hv=>aX H R hv ?_;simp[execOp,ho,hc,asBool]
 .simp only[cond_true];refine aG R λv hv=>aX H R hv ?_;simp[execOp,ho,hc,asBool]
theorem fZ{α β:Type}{Q:α->Sm->Prop}{x:Option β}{c:β->Cmd α}{S:Sm}(h:∀y,x=some y->(c y).post S Q):(Cmd.opt x c).post S Q:=h
theorem b0d{yc:Operand}{a:Act}{b:Int}(h:Iy yc=false)(he:a.eval yc= .int k b):b≠0:=by
 unfold Iy at h;split at h
 .simp[Act.eval]at he;obtain⟨_,rfl⟩:=he;simpa using h
 .simp at h
theorem b3x{yc:Operand}{a:Act}{b:Int}(h:LD yc=false)(he:a.eval yc= .int k b):¬b<0:=by
 unfold LD at h;split at h
 .simp[Act.eval]at he;obtain⟨_,rfl⟩:=he;simpa using h
 .simp at h
theorem b1d(H:FxOk X)(R:Rel X cl ch S m ok a w)(ho:o.op= .binOp op t x y yt){k k' :IntKind}{p q:Int}
  (hx:a.eval x= .int k p) (hy:a.eval y= .int k' q):(OB X.E t op y (.i k p) (.i k' q) λv=>fF X.E o.dst v).post S (λ_ S' =>jr X cl ch o a w m ok S'):=by
 have run:∀v,(binOp op t (.int k p) (.int k' q)).run X.P w= .ok v w->(execOp a.eval o).run X.P w= .ok (.value v) w:=λv h=>by simp[execOp,ho,hx,hy,eqGuard_at_int,h]
 have fin:∀(v:V) (u:Value),mD ⟨w.heap,ok,m⟩ v u->(binOp op t (.int k p) (.int k' q)).run X.P w= .ok u w->(fF X.E o.dst v).post S (λ_ S' =>jr X cl ch o a w m ok S'):=
  λv u hv h=>aX H R hv (run u h)
 unfold OB;cases op<;>simp only[]
 case shl=>
  cases hn:LD y
  .simp only[cond_false];have h0:=b3x hn hy;exact fin _ _ rfl (by simp[binOp,Op.shift,h0,b3h])
  .simp only[cond_true];refine fZ λr hr=>?_;unfold Zp at hr;split at hr
   .cases hr
   .rename_i h0;cases hr;exact fin _ _ rfl (by simp[binOp,Op.shift,h0,b3h])
 case shr=>
  cases hn:LD y
  .simp only[cond_false];have h0:=b3x hn hy;exact fin _ _ rfl (by simp[binOp,Op.shift,h0,uP])
  .simp only[cond_true];refine fZ λr hr=>?_;unfold Zq at hr;split at hr
   .cases hr
   .rename_i h0;cases hr;exact fin _ _ rfl (by simp[binOp,Op.shift,h0,uP])
 all_goals
  refine dD λhk=>?_;have hk' :k=k' :=of_decide_eq_true hk;subst hk'
 case quo=>
  cases hz:Iy y
  .simp only[cond_false];have h0:=b0d hz hy;exact fin _ _ rfl (by simp[binOp,Op.intDiv,h0,eH])
  .simp only[cond_true];refine fZ λr hr=>?_;unfold qC at hr;split at hr
   .cases hr
   .rename_i h0;cases hr;exact fin _ _ rfl (by simp[binOp,Op.intDiv,h0])
 case rem=>
  cases hz:Iy y
  .simp only[cond_false];have h0:=b0d hz hy;exact fin _ _ rfl (by simp[binOp,Op.intDiv,h0,eU])
  .simp only[cond_true];refine fZ λr hr=>?_;unfold Au at hr;split at hr
   .cases hr
   .rename_i h0;cases hr;exact fin _ _ rfl (by simp[binOp,Op.intDiv,h0])
 case add=>exact fin _ _ rfl (by simp[binOp,Op.intArith,x9])
 case sub=>exact fin _ _ rfl (by simp[binOp,Op.intArith,H9])
 case mul=>exact fin _ _ rfl (by simp[binOp,Op.intArith,Z4])
 case and=>exact fin _ _ rfl (by simp[binOp,Op.intBits,a4p])
 case or=>exact fin _ _ rfl (by simp[binOp,Op.intBits,ior])
 case xor=>exact fin _ _ rfl (by simp[binOp,Op.intBits,b3i])
 case andNot=>exact fin _ _ rfl (by simp[binOp,Op.intBits,a9f])
 case eql=>exact fin _ _ rfl (by simp[binOp,Op.intCmp,x8];rfl)
 case neq=>exact fin _ _ rfl (by simp[binOp,Op.intCmp,x8,D6];rfl)
 case lss=>exact fin _ _ rfl (by simp[binOp,Op.intCmp,D8])
 case leq=>exact fin _ _ rfl (by simp[binOp,Op.intCmp,J6])
 case gtr=>exact fin _ _ rfl (by simp[binOp,Op.intCmp,D8])
 case geq=>exact fin _ _ rfl (by simp[binOp,Op.intCmp,J6])
theorem b1e(H:FxOk X)(R:Rel X cl ch S m ok a w)(ho:o.op= .binOp op t x y yt){p q:d5X}
  (hx:a.eval x= .string ⟨p.toArray⟩) (hy:a.eval y= .string ⟨q.toArray⟩):(OB X.E t op y (.s p) (.s q) λv=>fF X.E o.dst v).post S (λ_ S' =>jr X cl ch o a w m ok S'):=by
 have run:∀v,(Op.stringOp op ⟨p.toArray⟩ ⟨q.toArray⟩).run X.P w= .ok v w->(execOp a.eval o).run X.P w= .ok (.value v) w:=λv h=>by simp[execOp,ho,hx,hy,eqGuard_at_string,binOp,h]
 have fin:∀(v:V) (u:Value),mD ⟨w.heap,ok,m⟩ v u->(Op.stringOp op ⟨p.toArray⟩ ⟨q.toArray⟩).run X.P w= .ok u w->(fF X.E o.dst v).post S (λ_ S' =>jr X cl ch o a w m ok S'):=
  λv u hv h=>aX H R hv (run u h)
 unfold OB;cases op<;>simp only[]<;>try trivial
 case add=>
  refine fZ λr hr=>?_;unfold wR at hr;split at hr
  .rename_i hle;cases hr;have e:(⟨p.toArray⟩:ByteArray)++⟨q.toArray⟩=⟨(p++q).toArray⟩:=by
    apply ByteArray.ext;apply lC;simp[ByteArray.data_append]
   refine fin _ (.string ⟨(p++q).toArray⟩) rfl ?_;have hs:¬((9223372036854775807:Int)<(p.length:Int)+(q.length:Int)):=l9;simp[Op.stringOp,e,ByteArray.size,hs]
  .cases hr
 case eql=>exact fin _ _ rfl (by simp only[Op.stringOp,ByteArray.toList_mk,seq,Y7];rw[show(p==q)=decide (p=q) by rw[gK];simp])
 case neq=>exact fin _ _ rfl (by simp only[Op.stringOp,ByteArray.toList_mk,seq,D6,Y7];rw[show(p==q)=decide (p=q) by rw[gK];simp])
 case lss=>exact fin _ _ rfl (by simp[Op.stringOp,ByteArray.toList_mk,slt])
theorem a7h(H:FxOk X)(R:Rel X cl ch S m ok a w)(ho:o.op= .binOp op t x y yt){p q:Bool}
  (hx:a.eval x= .bool p) (hy:a.eval y= .bool q):(OB X.E t op y (.b p) (.b q) λv=>fF X.E o.dst v).post S (λ_ S' =>jr X cl ch o a w m ok S'):=by
 unfold OB;cases hi:dW X.E.tt t with
 |none=>trivial|some i=>
 have ht' :=(H.tt t i hi).td;simp only[];cases hd:i.td<;>try trivial
 rw[hd]at ht';have ht:X.P.underlying t=some .bool:=ht';have he' :∀d,(Op.equalIn (d+1) t (.bool p) (.bool q)).run X.P w= .ok (p==q) w:=λd=>by simp[Op.equalIn,run_underlying ht]
 have he:(Op.equal t (.bool p) (.bool q)).run X.P w= .ok (p==q) w:=he' 9999;have run:∀v,(binOp op t (.bool p) (.bool q)).run X.P w= .ok v w->(execOp a.eval o).run X.P w= .ok (.value v) w:=λv h=>by simp[execOp,ho,hx,hy,eqGuard_at_bool,h]
 have fin:∀(v:V) (u:Value),mD ⟨w.heap,ok,m⟩ v u->(binOp op t (.bool p) (.bool q)).run X.P w= .ok u w->(fF X.E o.dst v).post S (λ_ S' =>jr X cl ch o a w m ok S'):=
  λv u hv h=>aX H R hv (run u h)
 cases op<;>try trivial
 case eql=>exact fin _ _ rfl (by simp[binOp,he,jG])
 case neq=>exact fin _ _ rfl (by simp[binOp,he,jG,D6])
end
end Go.GP
namespace Go.GP
variable {x:Operand}{t:TypeId}{q:Nat}
section
variable {X:Fx} {cl ch:Nat} {S:Sm} {m:Mp} {ok:Nat->Ty->Prop} {a:Act} {w:World} {o:Oper}
theorem lX{α:Type}{Q:α->Sm->Prop}(H:FxOk X){t:Nat}{K:TI->Cmd α}(hK:∀i,TiOk X.P t i->(K i).post S Q):(tiC X.E t K).post S Q:=by
 unfold tiC;cases hi:dW X.E.tt t with
 |none=>trivial|some i=>exact hK i (H.tt t i hi)
theorem b1W{P:Program} :∀{d:TD},b7j P t d->∃e,P.underlying t=some e
 | .bool,h=>⟨_,h⟩| .int _,h=>⟨_,h⟩| .str,h=>⟨_,h⟩| .sl _,h=>⟨_,h⟩| .ptr _,h=>⟨_,h⟩| .struct _,⟨_,h,_⟩=>⟨_,h⟩| .arr _ _,h=>⟨_,h⟩| .map _ _,h=>⟨_,h⟩| .other,⟨_,h,_⟩=>⟨_,h⟩
theorem a2A(H:FxOk X)(R:Rel X cl ch S m ok a w){op:BinOp}{x y:Operand}{yt:TypeId}(ho:o.op= .binOp op t x y yt){ad:Option Addr}{n c:Nat}
  (hx:a.eval x= .slice ad n c) (hy:a.eval y= .slice none 0 0):(b3z X.E t op ad.isNone λv=>fF X.E o.dst v).post S (λ_ S' =>jr X cl ch o a w m ok S'):=by
 unfold b3z;cases hi:dW X.E.tt t with
 |none=>trivial|some i=>
 have ht' :=(H.tt t i hi).td;simp only[];cases hd:i.td<;>try trivial
 rename_i e;rw[hd]at ht';have ht:X.P.underlying t=some (.slice e):=ht';have he' :∀d,(Op.equalIn (d+1) t (.slice ad n c) (.slice none 0 0)).run X.P w= .ok ad.isNone w:=λd=>by cases ad<;>simp[Op.equalIn,run_underlying ht]
 have he:(Op.equal t (.slice ad n c) (.slice none 0 0)).run X.P w= .ok ad.isNone w:=he' 9999;have run:∀v,(binOp op t (.slice ad n c) (.slice none 0 0)).run X.P w= .ok v w->(execOp a.eval o).run X.P w= .ok (.value v) w:=λv h=>by simp[execOp,ho,hx,hy,eqGuard_at_slice,h]
 cases op<;>try trivial
 case eql=>exact aX H R (v:=.b ad.isNone) (x:=.bool ad.isNone) rfl (run _ (by simp[binOp,he]))
 case neq=>exact aX H R (v:=.b (D6 ad.isNone)) (x:=.bool (!ad.isNone)) rfl (run _ (by simp[binOp,he]))
theorem b3I(H:FxOk X)(R:Rel X cl ch S m ok a w){op:BinOp}{x y:Operand}{yt:TypeId}(ho:o.op= .binOp op t x y yt):
  (bF X.E q o).post S (λ_ S' =>jr X cl ch o a w m ok S'):=by
 unfold bF;simp only[ho];refine aG R λu hu=>aG R λv hv=>?_;cases u<;>try (unfold OB;trivial)
 case b p=>
  cases v<;>try (unfold OB;trivial)
  exact a7h H R ho (Wh hu) (Wh hv)
 case i k p=>
  cases v<;>try (unfold OB;trivial)
  exact b1d H R ho (wO hu) (wO hv)
 case s p=>
  cases v<;>try (unfold OB;trivial)
  exact b1e H R ho (PP hu) (PP hv)
 case nl=>
  cases v<;>try (unfold OB;trivial)
  exact a2A H R ho (ad:=none) (show a.eval x= .slice none 0 0 from hu) hv
 case ne=>
  cases v<;>try (unfold OB;trivial)
  obtain⟨ad,c,hx,hb⟩:=hu;subst hb;exact a2A H R ho (ad:=ad) hx hv
 case sl t' xs=>
  cases v<;>try (unfold OB;trivial)
  unfold OB;simp only[];cases ht:t'.isEnt
  .simp only[cond_false];obtain⟨ad,c,hx,hle,hx'⟩:=(Eg ht).1 (show mJ w.heap ok (.sl t') xs [a.eval x]from hu);cases xs with
   |nil=>exact⟨λ_=>trivial,λh=>by simp[x8,o9]at h⟩|cons z zs=>obtain⟨blk,off,es,rfl,_⟩:=hx' 0 z rfl;exact⟨λ_=>trivial,λ_=>a2A H R ho (ad:=some _) (by simpa using hx) hv⟩
  .trivial
 case agg cs=>
  cases v<;>try (unfold OB;trivial)
  case agg ds=>
  obtain⟨xs,hx,hl⟩:=hu;obtain⟨ys,hy,hl'⟩:=hv;unfold OB;simp only[];cases hq:dW X.E.eqs t with
  |none=>trivial|some sh=>
  simp only[];refine dD λhm=>?_;simp only[A8]at hm;have hE:=(H.eqs t sh hq).1;cases he:Du cs ds with
  |none=>cases op<;>trivial|some e=>
   cases op<;>try trivial
   case eql=>refine aX H R (v:=.b e) (x:=.bool e) rfl ?_;have h:=hE w _ cs ds xs ys e .eql x y hm.1 hm.2 hl hl' he (.inl rfl);simp only[execOp,ho,hx,hy];rw[H6,h];rfl
   case neq=>refine aX H R (v:=.b (D6 e)) (x:=.bool (!e)) rfl ?_;have h:=hE w _ cs ds xs ys e .neq x y hm.1 hm.2 hl hl' he (.inr rfl);simp only[execOp,ho,hx,hy];rw[H6,h];rfl
theorem b8e(H:FxOk X)(R:Rel X cl ch S m ok a w){op:UnOp}(ho:o.op= .unOp op t x):
  (bF X.E q o).post S (λ_ S' =>jr X cl ch o a w m ok S'):=by
 unfold bF;simp only[ho];refine aG R λu hu=>?_;cases u<;>cases op<;>try (unfold unC;trivial)
 case b.not p=>exact aX H R (v:=.b (D6 p)) (x:=.bool (!p)) rfl (by simp[execOp,ho,Wh hu,Op.unary])
 case i.neg k p=>exact aX H R (v:=.i k (H9 k 0 p)) (x:=.int k (k.wrap (0 -p))) rfl (by simp[execOp,ho,wO hu,Op.unary,Op.intArith])
 case i.xor k p=>exact aX H R (v:=.i k (b3i k (bif k.signed then -1 else k.max) p)) rfl (by simp only[execOp,ho,wO hu,Op.unary,Op.intBits,b3i];cases k.signed<;>simp)
theorem b3Y{α:Type}{Q:α->Sm->Prop}(R:Rel X cl ch S m ok a w){u:Ty}{y:V}{vy:Value}{K:List u.den->Cmd α}(hy:mD ⟨w.heap,ok,m⟩ y vy)
  (hK:∀xs,mJ w.heap (λ_ _=>True) (.sl u) xs [vy]->(K xs).post S Q):(a5b u y K).post S Q:=by
 unfold a5b;split<;>try trivial
 .have hv:vy= .slice none 0 0:=hy;subst hv;cases ht:u.isEnt
  .exact hK [] (.inl ⟨ht,none,0,rfl,F5 _,λi x hi=>by simp at hi⟩)
  .trivial
 .obtain⟨ad,c,rfl,_⟩:=(show ∃a c,vy=Value.slice a 0 c/\a.isNone=_ from hy);cases ht:u.isEnt
  .exact hK [] (.inl ⟨ht,ad,c,rfl,bU _,λi x hi=>by simp at hi⟩)
  .trivial
 .refine gG λe=>?_;subst e;exact hK _ (gp (λ_ _ _=>trivial) (λ_ _ _=>rfl) (show mJ w.heap ok (.sl _) _ [vy]from hy))
 .rename_i bx vw;obtain⟨l,hm,hv⟩:=hy;show Cmd.post (match S (ai+bx)with| .barr t' xs=>_| .bfrz t' xs=>_|_=>_) S Q;have hb:=R.box bx;split<;>try trivial
  .rename_i t' xs hS;rw[hS]at hb;obtain⟨l',hm',ha⟩:=hb;simp only at hm hm';rw[hm]at hm';cases hm';refine gG λe=>?_;subst e;exact hK _ (qp (C:=⟨w.heap,ok,m⟩) ha hv (λ_ _ _=>trivial) (λ_ _=>trivial))
  .rename_i t' xs hS;rw[hS]at hb;obtain⟨l',hm',ha,hok⟩:=hb;simp only at hm hm';rw[hm]at hm';cases hm';refine gG λe=>?_;subst e;exact hK _ (qp (C:=⟨w.heap,ok,m⟩) ha hv (λ_ _ _=>trivial) (λ_ _=>trivial))
theorem a4T(H:FxOk X)(R:Rel X cl ch S m ok a w){src t:TypeId}(ho:o.op= .convert src t x)
  (hB:∀l,a.eval x= .string ⟨l.toArray⟩->X.P.underlying src=some .string->(b2F X.E (O7 q o.dst) t l λv=>fF X.E o.dst v).post S (λ_ S' =>jr X cl ch o a w m ok S')):
  (bF X.E q o).post S (λ_ S' =>jr X cl ch o a w m ok S'):=by
 unfold bF;simp only[ho];refine aG R λu hu=>lX H λj hj=>lX H λi hi=>?_;obtain⟨e,he⟩:=b1W hj.td;have hd:=hi.td;split<;>try trivial
 .rename_i k' n k htd;rw[htd]at hd;exact aX H R (v:=.i k (wrap k n)) (x:=.int k (k.wrap n)) rfl (by simp[execOp,ho,wO hu,convert,run_underlying he,run_underlying (show X.P.underlying t=some (.int k)from hd),Conv.intToInt])
 .rename_i l htd;rw[htd]at hd;refine aX H R (v:=.s l) (x:=.string ⟨l.toArray⟩) rfl ?_;simp only[execOp,ho,PP hu,convert,H6,run_underlying he,run_underlying (show X.P.underlying t=some .string from hd),I5];cases e<;>simp
 .split<;>try trivial
  rename_i l _ _ _ hjd;have hjs:=hj.td;rw[hjd]at hjs;exact hB l (PP hu) hjs
 .rename_i hns htd;rw[htd]at hd;split<;>try trivial
  rename_i el hjd;have hjs:=hj.td;rw[hjd]at hjs;refine lX H λk hk=>?_;have hkd:=hk.td;split<;>try trivial
  rename_i hke;rw[hke]at hkd;refine b3Y R hu λxs hr=>?_;obtain⟨ad,cap,hv,hcap,hcells⟩:=(Eg rfl).1 hr;have hv:=(X8 hv).1;refine aX H R (v:=.s (b0p xs)) (x:=.string ⟨(b0p xs).toArray⟩) rfl ?_;have hh:(convert src t (a.eval x)).run X.P w= .ok (.string ⟨(b0p xs).toArray⟩) w:=by
   rw[hv];cases xs with
   |nil=>
    have:=run_convert_bytes_nil (P:=X.P) w src el hjs hkd 0 cap t hd;cases ad with
    |none=>exact this|some ad=>obtain⟨b,o,s⟩:=ad;rw[run_convert_bytes_string w src t el _ _ cap hjs hkd hd];simp[Conv.bytesToString,b0p];rfl
   |cons y ys=>
    obtain⟨blk,off,es,rfl,_,_,_⟩:=hcells 0 y rfl;have:=run_convert_bytes_arg (P:=X.P) w src el hjs hkd blk off (y::ys).length cap (y::ys) rfl (λi hi=>?_) t hd
    .exact this
    .obtain⟨blk2,off2,es2,e2,_,hc,hr2⟩:=hcells i _ (fH hi);simp only[F9,jL]at e2;obtain⟨rfl,rfl,_⟩:=e2;obtain⟨c,T,f,hb,hn,rfl⟩:=uI hc;have hr3:((c.toList.drop (off+i*1)).take 1)=[.int .u8 (y::ys)[i]]:=hr2;have h5:=congrArg (λl=>l[0]?) hr3;simp only[bD (show 0<1 by omega),P5,aB,ji,eX,aU]at h5;simp only[World.cell?,hb,h5,vZ];simp[List.getD,fH hi]
  simp only[execOp,ho];rw[H6,hh];rfl
theorem a7j(H:FxOk X)(R:Rel X cl ch S m ok a w){n:Nat}(ho:o.op= .extract x n):
  (bF X.E q o).post S (λ_ S' =>jr X cl ch o a w m ok S'):=by
 unfold bF;simp only[ho];refine aG R λu hu=>?_;cases u<;>try trivial
 case tup vs=>
 obtain⟨arr,hx,hl⟩:=hu;have key:∀(vs:List V) (us:d5Z) (n:Nat) (v:V),a2V ⟨w.heap,ok,m⟩ vs us->vs[n]? =some v->∃u,us[n]? =some u/\mD ⟨w.heap,ok,m⟩ v u:=by
  intro vs;induction vs with
  |nil=>intro us n v _ h;simp at h|cons c cs ih=>
   rintro us n v ⟨u,r,rfl,h1,h2⟩ h;cases n with
   |zero=>simp at h;subst h;refine⟨u,rfl,?_⟩;cases c<;>first|exact h1|exact h1.elim
   |succ n=>simpa using ih r n v h2 (by simpa using h)
 simp only[];split
 .rename_i v hv;obtain⟨u,hu,hr⟩:=key vs arr.toList n v hl hv;refine aX H R hr ?_;have:arr[n]? =some u:=by simpa using hu
  simp[execOp,ho,hx,Instr.extract,this]
 .trivial
theorem b3N(H:FxOk X)(R:Rel X cl ch S m ok a w){x ix:Operand}(ho:o.op= .index t x ix):
  (bF X.E q o).post S (λ_ S' =>jr X cl ch o a w m ok S'):=by
 unfold bF;simp only[ho];refine aG R λu hu=>aG R λv hv=>lX H λi hi=>?_;have hd:=hi.td;split<;>try trivial
 rename_i l k n htd;rw[htd]at hd;refine fZ λc hc=>?_;unfold sat at hc;split at hc
 .rename_i h0;cases hl:l[n.toNat]? with
  |none=>simp[hl]at hc|some b=>
   simp[hl]at hc;subst hc;refine aX H R (v:=.i .u8 b.toNat) (x:=.int .u8 b.toNat) rfl ?_;have e:(⟨l.toArray⟩:ByteArray)[n.toNat]? =some b:=by
    obtain⟨h1,h2⟩:=X0.1 hl;have hs:n.toNat<(⟨l.toArray⟩:ByteArray).size:=by simpa[ByteArray.size]using h1
    show decidableGetElem? _ _=_;unfold decidableGetElem?;rw[dif_pos hs,←h2];rfl
   simp[execOp,ho,PP hu,wO hv,Instr.index,asIntOf,run_underlying (show X.P.underlying t=some .string from hd),h0,e]
 .cases hc
theorem a4V(H:FxOk X)(R:Rel X cl ch S m ok a w)(ho:o.op= .nilCheck x):
  (bF X.E q o).post S (λ_ S' =>jr X cl ch o a w m ok S'):=by
 unfold bF;simp only[ho];refine aG R λu hu=>?_;cases u<;>try trivial
 case ptr bx f=>obtain⟨b,h1,h2⟩:=hu;exact aX H R (v:=.ptr bx f) ⟨b,h1,h2⟩ (by simp[execOp,ho,h2])
 case ep bx ix f=>obtain⟨_,_,_,_,_,h1,h2,h3⟩:=hu;exact aX H R (v:=.ep bx ix f) ⟨_,_,_,_,_,h1,h2,h3⟩ (by simp[execOp,ho,h3])
 case dp u y f=>obtain⟨_,_,_,h1,h2⟩:=hu;exact aX H R (v:=.dp u y f) ⟨_,_,_,h1,h2⟩ (by simp[execOp,ho,h1])
 case glob g=>exact aX H R (v:=.glob g) hu (by have hu:a.eval x=_:=hu;simp[execOp,ho,hu])
end
end Go.GP
namespace Go.GP
variable {n:Nat}{off:Nat}{blk:Nat}{es:d5Z}
theorem xI{w:World}(e:fD w.heap blk off n=some es){j:Nat}{v:Value}(h:es[j]? =some v):w.cell? ⟨blk,off+j,none⟩=some v:=by
 obtain⟨c,T,f,hb,hn,rfl⟩:=uI e;rw[cell_of_row w blk (off+j) c T f hb];have hj:j<n:=by have:=(X0.1 h).1;simp at this;omega
 rw[X6,if_pos hj,P5]at h;simpa using h
variable {t:TypeId}{P:Program}
theorem IB{d:TD}(h:b7j P t d)(w:World):(isAgg t).run P w= .ok (dA d) w:=by
 unfold isAgg;cases d<;>simp only[b7j]at h
 case struct fs=>obtain⟨fields,hu,_⟩:=h;rw[H6,run_underlying hu];rfl
 case other=>obtain⟨e,hu,hn⟩:=h;rw[H6,run_underlying hu];cases e<;>first|rfl|exact hn.elim
 all_goals (rw[H6,run_underlying h];rfl)
variable {i:TI}
theorem sD(h:TiOk P t i)(w:World):(sizeOf t).run P w= .ok i.size w:=by obtain⟨inf,h1,h2,_⟩:=h.info;simp[sizeOf,typeInfo,h1,h2]
def Ve(ag:Bool)(es:d5Z):Value:=match ag with|true=> .agg es.toArray|false=>es.headD Go.undef
theorem zu(hi:TiOk P t i)(w:World)(e:fD w.heap blk off i.size=some es):
  (loadVar t ⟨blk,off,none⟩).run P w= .ok (Ve (dA i.td) es) w:=by
 have hl:=rF e;unfold loadVar;rw[H6,IB hi.td];simp only[I5];cases ha:dA i.td
 .have h1:=hi.one ha;rw[h1]at hl;obtain⟨v,rfl⟩:∃v,es=[v]:=by
   cases es with
   |nil=>simp at hl
   |cons v r=>cases r with
    |nil=>exact⟨v,rfl⟩|cons _ _=>simp at hl
  have hc:=xI e (j:=0) (v:=v) rfl;simp only[aB]at hc;simp[hc,Ve]
 .have hc:=run_loadCells_list (P:=P) w ⟨blk,off,none⟩ es (λj v h=>by rw[iU];exact xI e h);rw[hl]at hc;simp[sD hi,hc,Ve]
variable {C:Cx}{cs:List V}
theorem Ff{ag:Bool}(h:ig C cs es)(h1:ag=false->es.length=1):mD C (mkV ag cs) (Ve ag es):=by
 refine UR (us:=es) ?_ h;cases ag
 .have:=h1 rfl;obtain⟨v,rfl⟩:∃v,es=[v]:=by
   cases es with
   |nil=>simp at this
   |cons v r=>cases r with
    |nil=>exact⟨v,rfl⟩|cons _ _=>simp at this
  rfl
 .exact⟨es.toArray,rfl,A7⟩
theorem Za:∀(n:Nat) (cs r:List V),YZ n cs=some r->n<=cs.length/\r=cs.drop n
 |0,cs,r,h=>by simp[YZ]at h;simp[h]|n+1,[],r,h=>by simp[YZ]at h|n+1,c::cs,r,h=>by obtain⟨h1,h2⟩:=Za n cs r (by simpa[YZ]using h);exact⟨by simp;omega,by simpa using h2⟩
theorem O_{α:Type}{Q:α->Sm->Prop}{S:Sm} :∀(n:Nat) (cs:List V) {K:List V->Cmd α} (hK:n<=cs.length->(K (cs.take n)).post S Q),(a5Z n cs K .fail).post S Q
 |0,cs,K,hK=>by simpa[a5Z]using hK (bU _)|n+1,[],K,hK=>trivial
 |n+1,c::cs,K,hK=>by unfold a5Z;exact O_ n cs λh=>by simpa using hK X5
variable {α:Type}{Q:α->Sm->Prop}
theorem Di{S:Sm}{K:List V->Cmd α}(hK:off+n<=cs.length->(K ((cs.drop off).take n)).post S Q):(XZ off n cs K .fail).post S Q:=by
 unfold XZ;split
 .rename_i r hr;obtain⟨h1,rfl⟩:=Za _ _ _ hr;refine O_ n _ λh=>hK ?_;simp at h;omega
 .trivial
def aY(off:Nat)(vs cs:List α):List α:=cs.take off++vs++cs.drop (off+vs.length)
theorem Fa{α:Type}{Q:α->Sm->Prop}{S:Sm} :∀(off:Nat) (vs cs:List V) {K:List V->Cmd α} (hK:off+vs.length<=cs.length->(K (aY off vs cs)).post S Q),(UH off vs cs K .fail).post S Q
 |0,[],cs,K,hK=>by have:=hK A7;cases cs<;>simpa[UH,aY]using this|0,v::vs,[],K,hK=>by simp[UH];trivial
 |0,v::vs,c::cs,K,hK=>by unfold UH;exact Fa 0 vs cs λh=>by simpa[aY]using hK (by simp at h ⊢;omega)|n+1,vs,[],K,hK=>by cases vs<;>simp[UH]<;>trivial|n+1,vs,c::cs,K,hK=>by
  have e:UH (n+1) vs (c::cs) K Cmd.fail=UH n vs cs (λr=>K (c::r)) Cmd.fail:=by cases vs<;>rfl
  rw[e];refine Fa n vs cs λh=>?_;have:=hK X5;have e2:n+1+vs.length=(n+vs.length)+1:=l9;simpa[aY,e2]using this
theorem Gh{vs cs:List V}{us xs:d5Z}(hv:ig C vs us)(hc:ig C cs xs):ig C (aY off vs cs) (aY off us xs):=by unfold aY;rw[←kS hv];exact zo (zo (yf off hc) hv) (wM _ hc)
theorem Ap{P:Program}(g o:Nat)(t:TypeId):∀(vs:d5Z) (i:Nat) (cur:Array Value) (f:Nat×Nat) (w:World),w.heap[g]? =some (.cells cur t f)->(f=(0,0)\/f=(cur.size,cur.size+1))->o+i+vs.length<=cur.size->(∀v∈vs,v.oneCell' =true)->
  (storeCells ⟨g,o,none⟩ vs i).run P w= .ok () (w.setRow g (cur.toList.take (o+i)++vs++cur.toList.drop (o+i+vs.length)).toArray)
 |[],i,cur,f,w,hg,_,_,_=>by simp only[storeCells,G5,dX,aB,iR,Array.toArray_toList];rw[setRow_self w g cur t f hg];rfl|v::rest,i,cur,f,w,hg,hf,hl,h1=>by
  have hi:o+i<cur.size:=by simp at hl;omega
  have hadd:(⟨g,o,none⟩:Addr).add i=⟨g,o+i,none⟩:=by unfold Addr.add;split<;>simp_all
  have hcell:w.cell? ⟨g,o+i,none⟩=some cur[o+i]:=by simp[World.cell?,hg,hi]
  have hfro:w.frozen? ⟨g,o+i,none⟩=false:=by rcases hf with rfl|rfl<;>simp[World.frozen?,hg];omega
  have hst:(store ((⟨g,o,none⟩:Addr).add i) v).run P w= .ok () (w.setRow g (cur.setIfInBounds (o+i) v)):=by rw[hadd,run_store P w _ v _ (h1 v A7),hcell];simp[hfro,setCell_eq_setRow w g (o+i) cur t f v hg]
  have ih:=Ap (P:=P) g o t rest (i+1) (cur.setIfInBounds (o+i) v) f (w.setRow g (cur.setIfInBounds (o+i) v)) (setRow_heap w g cur _ t _ hg) (by simpa using hf) (by simp at hl ⊢;omega) (λx hx=>h1 x (by simp[hx]));simp only[storeCells,H6,hst,I5,ih,setRow_setRow];congr 3;have e:=list_seg_step cur.toList (o+i) v rest (by simp at hl ⊢;omega);simpa[nK,iq]using e
theorem Ii(hi:TiOk P t i)(w:World){c:Array Value}{T:TypeId}{f:Nat×Nat}(hb:w.heap[blk]? =some (.cells c T f))(hf:f=(0,0)\/f=(c.size,c.size+1)){v:Value}
  (hs:v.cells.size=i.size) (ho:off+i.size<=c.size) (h1:∀u∈v.cells.toList,u.oneCell' =true):
  (storeVar t ⟨blk,off,none⟩ v).run P w= .ok () (w.setRow blk (aY off v.cells.toList c.toList).toArray):=by
 have h:=Ap (P:=P) blk off T v.cells.toList 0 c f w hb hf X5 h1;simp only[aB]at h;unfold storeVar;simp[sD hi,hs,h,aY]
variable {v:V}{l:Loc}{obj:Obj}{q:Nat}{ks:d6a}
section
variable {X:Fx} {cl ch:Nat} {S:Sm} {m:Mp} {ok:Nat->Ty->Prop} {a:Act} {w:World} {o:Oper}
theorem Rel.own_cells(R:Rel X cl ch S m ok a w)(h:S (ai+n)= .bcells cs):∃blk arr T,m n=some (.st blk)/\w.heap[blk]? =some (.cells arr T (0,0))/\ig ⟨w.heap,ok,m⟩ cs arr.toList:=by have:=R.box n;rw[h]at this;exact this
theorem Rel.own_arr(R:Rel X cl ch S m ok a w){t:Ty}{xs:List t.den}(h:S (ai+n)= .barr t xs):∃l,m n=some l/\arrOk ⟨w.heap,ok,m⟩ t xs l:=by have:=R.box n;rw[h]at this;exact this
theorem Rel.own_frz(R:Rel X cl ch S m ok a w){t:Ty}{xs:List t.den}(h:S (ai+n)= .bfrz t xs):∃l,m n=some l/\arrOk ⟨w.heap,ok,m⟩ t xs l/\(∀blk,blk∈l.blks->ok blk t):=by have:=R.box n;rw[h]at this;exact this
theorem Rel.own_barrs(R:Rel X cl ch S m ok a w){md:M}{xs:List md.den}{hole:Option (Nat×Nat×Option Nat)}(h:S (ai+n)= .barrs md xs hole):md.el=true/\∃l Os,m n=some l/\a8N ⟨w.heap,ok,m⟩ md xs hole Os l/\m.kid n=Os.flatten:=by have:=R.box n;rw[h]at this;exact this
theorem Rel.own_fc(R:Rel X cl ch S m ok a w){t:Ty}{x:t.den}(h:S (ai+n)= .bfc t x):∃blk es,m n=some (.st blk)/\ok blk t/\fD w.heap blk 0 t.size=some es/\mJ w.heap ok t x es:=by have:=R.box n;rw[h]at this;exact this
theorem Dx:∀(m:M) (x:m.den) (r:List V),NW m x r=NW m x []++r
 | .dat t,x,r=>nC t x r| .pair a b,x,r=>by simp only[NW];rw[Dx a x.1 (NW b x.2 r),Dx b x.2 r,Dx a x.1 (NW b x.2 [])];simp| .unit,_,_=>rfl| .own _,_,_=>rfl| .owns _,_,_=>rfl| .box _,_,_=>rfl| .ownb _,_,_=>rfl| .rp _,_,_=>rfl| .fn _ _,_,_=>rfl| .ifc _ _,_,_=>rfl| .cell _,_,_=>rfl| .fr _,_,_=>rfl| .sbx _ _,_,_=>rfl| .lp _,_,_=>rfl| .dv ..,_,_=>rfl| .sit,_,_=>rfl
theorem MV:∀(m:M) (x:m.den),(NW m x []).length=m.size
 | .dat t,x=>oM t x| .pair a b,x=>by simp only[NW,M.size];rw[Dx a,E5,MV a x.1,MV b x.2]| .unit,_=>rfl| .own _,_=>rfl| .owns _,_=>rfl| .box _,_=>rfl| .ownb _,_=>rfl| .rp _,_=>rfl| .fn _ _,_=>rfl| .ifc _ _,_=>rfl| .cell _,_=>rfl| .fr _,_=>rfl| .sbx _ _,_=>rfl| .lp _,_=>rfl| .dv ..,_=>rfl| .sit,_=>rfl
theorem ou{cs:d5Z}(h:cs.length=1)(h1:∀v∈cs,v.oneCell' =true):ig C [.undef] cs:=by
 match cs,h with
 |[v],_=>exact⟨v,[],rfl,trivial,h1 v A7,rfl⟩
theorem Tz{C:Cx} :∀{m:M} {ho:Option Nat} {x:m.den} {cs:d5Z} {O:d6a},qW C.h C.ok m ho x cs O->ig C (NW m x []) cs
 | .dat t,_,_,_,_,h=>rD h.1| .pair a b,_,x,_,_,h=>by obtain⟨c,d,O1,O2,rfl,rfl,h1,h2⟩:=h;simp only[NW];rw[Dx a];exact zo (Tz h1) (Tz h2)
 | .unit,_,_,_,_,h=>by obtain⟨rfl,_⟩:=h;rfl
 | .own _,_,_,_,_,h=>ou (bZ h) (qJ h)| .owns _,_,_,_,_,h=>ou (bZ h) (qJ h)| .box _,_,_,_,_,h=>ou (bZ h) (qJ h)| .ownb _,_,_,_,_,h=>ou (bZ h) (qJ h)| .rp _,_,_,_,_,h=>ou (bZ h) (qJ h)| .fn _ _,_,_,_,_,h=>ou (bZ h) (qJ h)| .ifc _ _,_,_,_,_,h=>ou (bZ h) (qJ h)| .cell _,_,_,_,_,h=>ou (bZ h) (qJ h)| .fr _,_,_,_,_,h=>ou (bZ h) (qJ h)| .sbx _ _,_,_,_,_,h=>ou (bZ h) (qJ h)| .lp _,_,_,_,_,h=>ou (bZ h) (qJ h)| .dv ..,_,_,_,_,h=>ou (bZ h) (qJ h)| .sit,_,_,_,_,h=>ou (bZ h) (qJ h)
theorem bf{S:Sm}{k:Nat}{c:V->Cmd α}(h:(c (S k)).post S Q):(Cmd.get k c).post S Q:=h
theorem jb{S:Sm}{k:Nat}{c:Cmd α}(h:c.post (upd S k v) Q):(Cmd.set k v c).post S Q:=h
theorem MZ(H:FxOk X)(R:Rel X cl ch S m ok a w){t:Nat}{p:V}{x:Value}(hp:mD ⟨w.heap,ok,m⟩ p x){K:V->Cmd α}
  (hK:∀v u ad,mD ⟨w.heap,ok,m⟩ v u->x= .pointer (some ad)->(loadVar t ad).run X.P w= .ok u w->(K v).post S Q):(RI X.E t p K).post S Q:=by
 unfold RI;refine lX H λi hi=>?_;cases p<;>try trivial
 case ptr bx off=>
  obtain⟨blk,hm,rfl⟩:=hp;refine bf ?_;split<;>try trivial
  .rename_i cs hS;obtain⟨blk',arr,T,hm',hh,hl⟩:=R.own_cells hS;simp only at hm;rw[hm]at hm';cases hm';refine Di λhle=>?_;have hlen:=kS hl;have e:=lJ hh off i.size (by simp at hlen;omega);refine hK _ _ _ (Ff (yf _ (wM _ hl)) (λha=>by have:=rF e;rw[hi.one ha]at this;rw[hi.one ha];exact this)) rfl ?_;exact zu hi w e
  .rename_i u y hS;obtain⟨blk',es,hm',hok,he,hr⟩:=R.own_fc hS;simp only at hm;rw[hm]at hm';cases hm';refine Di λhle=>?_;rw[oM]at hle;have e:=Cm he off i.size hle;rw[bP]at e;refine hK _ _ _ (Ff (yf _ (wM _ (rD (C:=⟨w.heap,ok,m⟩) hr))) (λha=>by have:=rF e;rw[hi.one ha]at this;rw[hi.one ha];exact this)) rfl ?_;exact zu hi w e
 case ep bx ix off=>
  obtain⟨blk,o',len,cap,sz,hm,hlt,rfl⟩:=hp;refine bf ?_;have key:∀{u:Ty} {xs:List u.den},arrOk ⟨w.heap,ok,m⟩ u xs (.arr blk o' len cap sz)->(Cmd.opt (P7 xs ix) λx=>XZ off i.size (flat u x []) (λr=>K (mkV (dA i.td) r)) Cmd.fail).post S Q:=by intro u xs ha;obtain⟨_,rfl,rfl,h3,c,T,f,hh,hz,hs,hx⟩:=ha;refine fZ λy hy=>?_;obtain⟨es,he,hr⟩:=hx ix y hy;refine Di λhle=>?_;rw[oM]at hle;have e:=Cm he off i.size hle;refine hK _ _ _ (Ff (yf _ (wM _ (rD (C:=⟨w.heap,ok,m⟩) hr))) (λha=>by have:=rF e;rw[hi.one ha]at this;rw[hi.one ha];exact this)) rfl ?_;exact zu hi w e
  split<;>try trivial
  .rename_i u xs hS;obtain⟨l,hm',ha⟩:=R.own_arr hS;simp only at hm;rw[hm]at hm';cases hm';exact key ha
  .rename_i u xs hS;obtain⟨l,hm',ha,_⟩:=R.own_frz hS;simp only at hm;rw[hm]at hm';cases hm';exact key ha
  .rename_i md xs hole hS;obtain⟨_,l,Os,hm',⟨ha,hho⟩,_⟩:=R.own_barrs hS;simp only at hm;rw[hm]at hm';cases hm';obtain⟨rfl,rfl,h3,h7,c,T,hh,hs,hx⟩:=ha;refine fZ λy hy=>?_;obtain⟨es,O,hO,he,hr⟩:=hx ix y hy;refine Di λhle=>?_;rw[MV]at hle;have e:=Cm he off i.size hle;refine hK _ _ _ (Ff (yf _ (wM _ (Tz (C:=⟨w.heap,ok,m⟩) hr))) (λha=>by have:=rF e;rw[hi.one ha]at this;rw[hi.one ha];exact this)) rfl ?_;exact zu hi w e
 case dp u y off=>obtain⟨blk,o',es,rfl,hb,he,hr⟩:=hp;refine Di λhle=>?_;rw[oM]at hle;have e:=Cm he off i.size hle;refine hK _ _ _ (Ff (yf _ (wM _ (rD (C:=⟨w.heap,ok,m⟩) hr))) (λha=>by have:=rF e;rw[hi.one ha]at this;rw[hi.one ha];exact this)) rfl ?_;exact zu hi w e
theorem AU(h:Array Obj)(o:Obj){b:Nat}(hb:b<h.size):(h.push o)[b]? =h[b]?:=by rw[Array.getElem?_push,if_neg l9]
theorem Rel.new(R:Rel X cl ch S m ok a w)(hn:S (ai+n)= .undef)(hcl:cl<=n)(hch:n<ch)(hv:v≠.undef)
  (hb:V9 (oz m n l ks) n v=[w.heap.size]) (hB:Ig ⟨(w.alloc obj).heap,ok,oz m n l ks⟩ n v):
  Rel X cl ch (upd S (ai+n) v) (oz m n l ks) ok a (w.alloc obj):=by
 refine R.lay hn hcl hch hv rfl rfl rfl A7 (λb hb' _=>AU _ _ hb') (by rw[hb];simp) (λb h=>?_) hB;rw[hb]at h;simp only[dh]at h;subst h;refine⟨λt h' =>rW _ (R.okLt _ t h'),A7,.inl R.frame.size,λk h' =>rW _ (R.sep k _ h').2.1⟩
theorem Rel.newK(R:Rel X cl ch S m ok a w){T:d6a}(hT:Tk X S m ok w T)(hn:S (ai+n)= .undef)(hcl:cl<=n)(hch:n<ch)(hv:v≠.undef)
  (hb:V9 (oz m n l ks) n v=w.heap.size::ks) (hnd:ks.Nodup) (hks:∀b∈ks,b∈T) (hB:Ig ⟨(w.alloc obj).heap,ok,oz m n l ks⟩ n v):
  Rel X cl ch (upd S (ai+n) v) (oz m n l ks) ok a (w.alloc obj):=by
 refine R.lay hn hcl hch hv rfl rfl rfl A7 (λb hb' _=>AU _ _ hb') (by rw[hb];exact gW.2 ⟨λh=>rW _ (hT.free _ (hks _ h)).2.1,hnd⟩) (λb h=>?_) hB;rw[hb]at h;rcases D5.1 h with rfl|h
 .exact⟨λt h' =>rW _ (R.okLt _ t h'),A7,.inl R.frame.size,λk h' =>rW _ (R.sep k _ h').2.1⟩
 .obtain⟨h1,h2,h3,h4⟩:=hT.free b (hks b h);exact⟨h1,by simp;omega,h3,h4⟩
theorem Rel.le_new(R:Rel X cl ch S m ok a w)(hn:S (ai+n)= .undef)(hcl:cl<=n):Cx.le ⟨w.heap,ok,m⟩ ⟨(w.alloc obj).heap,ok,oz m n l ks⟩:=
 ⟨λ_ _ h=>h,λb t hb=>AU _ _ (R.okLt b t hb),λk x h=>by
  by_cases e:k=n
  .subst e;have:=R.fresh k hcl hn;simp only at h;rw[this]at h;cases h
  .show oz m n l ks k=some x;rw[jS _ _ _ e];exact h⟩
theorem uG(H:FxOk X)(d:Option Tmp)(hd:∀t,d=some t->t<X.E.nt):CB*q<=O7 q d/\O7 q d+64<=CB*q+CB:=by
 have:=H.nt;cases d with
 |none=>simp only[O7];show 1000000*q<=1000000*q+999936/\1000000*q+999936+64<=1000000*q+1000000;omega|some t=>simp only[O7];have h2:LT.lt (α:=Nat) t X.E.nt:=hd t rfl;clear hd;generalize X.E.nt=n at*;revert this h2;generalize (t:Nat)=t';intro this h2;show 1000000*q<=1000000*q+64*t' /\1000000*q+64*t' +64<=1000000*q+1000000;omega
theorem LP(H:FxOk X)(R:Rel X (CB*q) (CB*q+CB) S m ok a w){vv:V}{x:Value}(hv:v≠.undef)
  (hb:V9 (oz m (O7 q o.dst) l []) (O7 q o.dst) v=[w.heap.size]) (hB:S (ai+O7 q o.dst)= .undef->CB*q<=O7 q o.dst->Ig ⟨(w.alloc obj).heap,ok,oz m (O7 q o.dst) l []⟩ (O7 q o.dst) v)
  (hx:mD ⟨(w.alloc obj).heap,ok,oz m (O7 q o.dst) l []⟩ vv x) (run:(execOp a.eval o).run X.P w= .ok (.value x) (w.alloc obj)):
  (yj (O7 q o.dst) v (fF X.E o.dst vv)).post S (λ_ S' =>jr X (CB*q) (CB*q+CB) o a w m ok S'):=by
 refine tV λhn=>?_;cases hd:o.dst with
 |none=>have hin:=uG H (q:=q) none (λt h=>by cases h);rw[hd]at hn hB hb hx;have R' :=R.new hn hin.1 l9 hv hb (hB hn hin.1);have:=uJ (o:=o) H R' (m0:=m) (ok0:=ok) (λk l' h=>(R.le_new (obj:=obj) hn hin.1).m k l' h) (λ_ _ h=>h) hx run;rw[hd]at this;exact this
 |some t=>unfold fF;refine dD λhb' =>?_;have hin:=uG H (q:=q) (some t) (λt' h=>by cases h;exact(EY hb').1);rw[hd]at hn hB hb hx;have R' :=R.new hn hin.1 l9 hv hb (hB hn hin.1);have:=uJ (o:=o) H R' (m0:=m) (ok0:=ok) (λk l' h=>(R.le_new (obj:=obj) hn hin.1).m k l' h) (λ_ _ h=>h) hx run;rw[hd]at this;unfold fF at this;simp only[hb',cond_true]at this;exact this
theorem Tv :∀{cs:List V} {vs:d5Z},ig ⟨#[],λ_ _=>False,nom⟩ cs vs->ig C cs vs:=by intro cs vs h;exact Ko (C:=⟨#[],λ_ _=>False,nom⟩) ⟨λ_ _ h=>h.elim,λ_ _ h=>h.elim,λ_ _ h=>by cases h⟩ h
theorem b3H(H:FxOk X)(R:Rel X (CB*q) (CB*q+CB) S m ok a w)(ho:o.op= .alloc t):(bF X.E q o).post S (λ_ S' =>jr X (CB*q) (CB*q+CB) o a w m ok S'):=by
 unfold bF;simp only[ho];refine lX H λi hi=>dD λhz=>?_;obtain⟨inf,h1,h2,h3,h4,h5⟩:=hi.info;obtain⟨z,hz1,hz2⟩:=h4 (iD hz);have hex:(execOp a.eval o).run X.P w= .ok (.value (.pointer (some ⟨w.heap.size,0,none⟩))) (w.alloc (.cells z.cells t)):=by simp[execOp,ho,Instr.alloc,zeroValue,typeInfo,h1,hz1,newVar,newRow]
 unfold c5T;split
 .rename_i hz0;rw[hz0]at hz2;obtain⟨a0,r1,e1,g1,_,v0,r2,rfl,g2,_,g3⟩:=hz2;simp only[ig]at g3;subst g3;refine LP (l:=.st w.heap.size) (obj:=.cells z.cells t) H R A7 (by simp[V9]) (λhn hc=>?_) ⟨w.heap.size,A7,rfl⟩ hex;refine⟨w.heap.size,a0,v0,A7,?_,.inl g1,g2⟩;have:=heap_alloc_new w (.cells z.cells t);rw[show z.cells=#[a0,v0]from Array.toList_inj.1 e1]at this ⊢;exact this
 .refine LP (l:=.st w.heap.size) (obj:=.cells z.cells t) H R A7 (by simp[V9]) (λhn hc=>?_) ⟨w.heap.size,A7,rfl⟩ hex;exact⟨w.heap.size,z.cells,t,A7,heap_alloc_new w _,Tv hz2⟩
theorem c0S(H:FxOk X)(R:Rel X (CB*q) (CB*q+CB) S m ok a w){x:Operand}(ho:o.op= .box t x):(bF X.E q o).post S (λ_ S' =>jr X (CB*q) (CB*q+CB) o a w m ok S'):=by
 unfold bF;simp only[ho];refine aG R λu hu=>wS hu λcs hcs=>?_;refine LP (l:=.st w.heap.size) (obj:=.cells (a.eval x).cells t) H R A7 (by simp[V9]) (λhn hc=>?_) ⟨w.heap.size,A7,rfl⟩ ?_
 .exact⟨w.heap.size,(a.eval x).cells,t,A7,heap_alloc_new w _,Ko (R.le_new hn hc) hcs⟩
 .simp[execOp,ho,Instr.box,newVar,newRow]
end
end Go.GP
namespace Go.GP
variable {α:Type}{us:List α}{L:List α}{p:Nat}
theorem uY(h:p+us.length<=L.length)(i:Nat):
  (aY p us L)[i]? =if i<p then L[i]? else if i<p+us.length then us[i -p]? else L[i]?:=by
 unfold aY;rw[F8];by_cases h1:i<p
 .rw[if_pos h1,O8 X5,X6,if_pos h1]
 .rw[if_neg h1,I7 X5];have e:(L.take p).length=p:=by simp;omega
  rw[e];by_cases h2:i<p+us.length
  .rw[if_pos h2,O8 l9]
  .rw[if_neg h2,I7 l9,P5];congr 1;omega
theorem yg(h:p+us.length<=L.length):(aY p us L).length=L.length:=by unfold aY;simp;omega
variable {b:Nat}{n:Nat}
theorem a8n(h:p+us.length<=L.length)(hd:b+n<=p\/p+us.length<=b):((aY p us L).drop b).take n=(L.drop b).take n:=by
 apply dR;intro i;rw[X6,X6];split
 .rw[P5,P5,uY h];rcases hd with hd|hd
  .rw[if_pos l9]
  .rw[if_neg l9,if_neg l9]
 .rfl
variable {off:Nat}
theorem QX(h:b+n<=L.length)(ho:off+us.length<=n):((aY (b+off) us L).drop b).take n=aY off us ((L.drop b).take n):=by
 have hl:((L.drop b).take n).length=n:=by simp;omega
 apply dR;intro i;rw[X6,uY (by rw[hl];exact ho)];by_cases hi:i<n
 .rw[if_pos hi,P5,uY l9,X6,if_pos hi,P5];by_cases h1:i<off
  .rw[if_pos l9,if_pos h1]
  .rw[if_neg l9,if_neg h1];by_cases h2:i<off+us.length
   .rw[if_pos l9,if_pos h2];congr 1;omega
   .rw[if_neg l9,if_neg h2]
 .rw[if_neg hi,if_neg l9,if_neg l9,X6,if_neg hi]
variable {blk:Nat}
theorem Qd{w:World}{c:Array Value}{T:TypeId}{f:Nat×Nat}(hb:w.heap[blk]? =some (.cells c T f))(L:d5Z)(off n:Nat)(h:off+n<=L.length):
  fD (w.setRow blk L.toArray).heap blk off n=some ((L.drop off).take n):=by
 rw[lJ (setRow_heap w blk c L.toArray T f hb) off n (by simpa using h)]
theorem b2y{a b:Nat}(h:a<b):Nat.blt a b=true:=by unfold Nat.blt;exact Nat.ble_eq_true_of_le h
theorem b2x{a b:Nat}(h:¬a<b):Nat.blt a b=false:=by
 cases e:Nat.blt a b
 .rfl
 .exact absurd (MJ e) h
theorem zO{α:Type} :∀{Os:List (List α)} {i:Nat} {O1 P O2:List α},Os[i]? =some (O1++P++O2)->Os.flatten.Perm ((Os.set i (O1++O2)).flatten++P)
 |[],i,_,_,_,h=>by simp at h|A::Os,0,O1,P,O2,h=>by simp at h;subst h;simp only[vX,List.flatten_cons,F8];refine rQ O1 ?_;have:=(jO (l₁:=P) (l₂:=O2++Os.flatten));simpa using this|A::Os,i+1,O1,P,O2,h=>by simp at h;simp only[List.set_cons_succ,List.flatten_cons,F8];exact rQ A (zO (by simpa using h))
variable {Op:d6a}{idx:Nat}{t:TypeId}{i:Nat}{k:Option Nat}{md:M}{xs:List md.den}{q:Nat}{x:Operand}{bx:Nat}
section
variable {X:Fx} {cl ch:Nat} {S:Sm} {m:Mp} {ok:Nat->Ty->Prop} {a:Act} {w:World} {o:Oper}
theorem c0V{h h' :Array Obj}{ok:Nat->Ty->Prop}{m:Mp}(k:∀b t,ok b t->h'[b]? =h[b]?){cs:List V}{vs:d5Z}(hr:ig ⟨h,ok,m⟩ cs vs):ig ⟨h',ok,m⟩ cs vs:=
 Ko (C:=⟨h,ok,m⟩) (D:=⟨h',ok,m⟩) ⟨λ_ _ h=>h,k,λ_ _ h=>h⟩ hr
theorem Tf{α:Type}{Q:α->Sm->Prop}{S:Sm}{h:Array Obj}{ok:Nat->Ty->Prop} :∀(md:M) (off:Nat) {x:md.den} {es:d5Z} {O:d6a} {K:V->Cmd α} (hr:qW h ok md none x es O)
  (hK:∀v l ks u O1 Op O2,O=O1++Op++O2->qW h ok md (some off) x es (O1++O2)->es[off]? =some u->l.view none u->
   (∀mp n,Ig ⟨h,ok,oz mp n l ks⟩ n v/\V9 (oz mp n l ks) n v=Op/\oz mp n l ks n=some l)->v≠.undef->(K v).post S Q),
  (ZV md off x K .fail).post S Q
 | .own t,off,x,es,O,K,hr,hK=>by unfold ZV;refine dD λhb=>?_;have:=iD hb;subst this;obtain⟨l,v,rfl,hv,ha,rfl⟩:=Bi.1 hr;refine hK _ l [] v [] l.blks [] A7 ⟨v,rfl,pI hv,rfl⟩ rfl hv (λmp n=>⟨⟨l,A7,Lc ha⟩,?_,A7⟩) A7;cases l<;>first|(simp[V9,Loc.blks];done)|cases ha
 | .owns md,off,x,es,O,K,hr,hK=>by unfold ZV;refine dD λhb=>?_;have:=iD hb;subst this;obtain⟨he,l,v,Os,rfl,hv,ha,rfl⟩:=Df.1 hr;refine hK _ l Os.flatten v [] (l.blks++Os.flatten) [] A7 ⟨v,rfl,pI hv,rfl⟩ rfl hv (λmp n=>⟨⟨he,l,Os,A7,⟨ha,trivial⟩,A7⟩,?_,A7⟩) A7;cases l<;>first|(simp[V9,Loc.blks];done)|cases ha
 | .pair p q,off,x,es,O,K,hr,hK=>by
  unfold ZV;obtain⟨c,d,O1,O2,rfl,rfl,h1,h2⟩:=hr;have hc:=bZ h1;by_cases hlt:off<p.size
  .have hb:Nat.blt off p.size=true:=b2y hlt;simp only[hb,cond_true];refine Tf p off h1 λv l ks u A Op B e1 e2 e3 e4 e5 e6=>?_;refine hK v l ks u A Op (B++O2) (by subst e1;simp) ⟨c,d,A++B,O2,rfl,A7,?_,?_⟩ (by rw[O8 (by rw[hc];exact hlt)];exact e3) e4 e5 e6
   .simp only[hlt,if_true];exact e2
   .simp only[hlt,if_true];exact h2
  .have hb:Nat.blt off p.size=false:=b2x hlt;simp only[hb,cond_false];refine Tf q (off -p.size) h2 λv l ks u A Op B e1 e2 e3 e4 e5 e6=>?_;refine hK v l ks u (O1++A) Op B (by subst e1;simp) ⟨c,d,O1,A++B,rfl,A7,?_,?_⟩ (by rw[I7 l9,hc];exact e3) e4 e5 e6
   .simp only[hlt,if_false];exact h1
   .simp only[hlt,if_false];exact e2
 | .dat _,_,_,_,_,_,_,_=>trivial| .unit,_,_,_,_,_,_,_=>trivial| .box _,_,_,_,_,_,_,_=>trivial| .ownb _,_,_,_,_,_,_,_=>trivial| .cell _,_,_,_,_,_,_,_=>trivial| .fr _,_,_,_,_,_,_,_=>trivial| .sbx _ _,_,_,_,_,_,_,_=>trivial| .lp _,_,_,_,_,_,_,_=>trivial| .dv ..,_,_,_,_,_,_,_=>trivial| .sit,_,_,_,_,_,_,_=>trivial| .rp _,_,_,_,_,_,_,_=>trivial| .fn _ _,_,_,_,_,_,_,_=>trivial| .ifc _ _,_,_,_,_,_,_,_=>trivial
def Yv(h:Array Obj)(ok:Nat->Ty->Prop)(v:V)(u:Value)(Op:d6a):Prop:=
 (v= .nl/\u= .slice none 0 0/\Op=[])\/(∃t ys l,v= .barr t ys/\l.view none u/\arrOk ⟨h,ok,nom⟩ t ys l/\Op=l.blks)\/
 (∃md ys l Os,v= .barrs md ys none/\md.el=true/\l.view none u/\Gs h md.size (λ_ x es O=>qW h ok md none x es O) ys Os l/\Op=l.blks++Os.flatten)
theorem Yv.one{h:Array Obj}{v:V}{u:Value}(k:Yv h ok v u Op):u.oneCell' =true:=by
 rcases k with⟨_,rfl,_⟩|⟨_,_,l,_,hv,_⟩|⟨_,_,l,_,_,_,hv,_⟩
 .rfl
 .exact pI hv
 .exact pI hv
theorem QD{α:Type}{Q:α->Sm->Prop}{S:Sm}{h:Array Obj}{ok:Nat->Ty->Prop}{v:V}{u:Value}{Op:d6a}(hp:Yv h ok v u Op):∀(md:M) (off:Nat) {ho:Option Nat} {x:md.den} {es:d5Z} {O:d6a} {K:md.den->Cmd α}
  (hr:qW h ok md ho x es O) (hh:ho=none\/ho=some off) (hel:md.el=true)
  (hK:∀y O1 Old O2,O=O1++Old++O2->qW h ok md none y (es.set off u) (O1++Op++O2)->off<es.length->(K y).post S Q),
  (a2q md off v x K .fail).post S Q
 | .own t,off,ho,x,es,O,K,hr,hh,hel,hK=>by
  unfold a2q;refine dD λhb=>?_;have:=iD hb;subst this;obtain⟨v0,rfl,_,_⟩:=hr;rcases hp with⟨rfl,rfl,rfl⟩|⟨t',ys,l,rfl,hv,ha,rfl⟩|⟨md',ys,l,Os,rfl,_,hv,ha,rfl⟩
  .have ht:t.isEnt=false:=by simpa[M.el]using hel
   simp only[ht,cond_false];exact hK [] [] O [] A7 ⟨_,rfl,rfl,.nil,rfl,⟨rfl,ht⟩,rfl⟩ A7
  .simp only;refine gG λe=>?_;subst e;exact hK _ [] O [] A7 ⟨u,rfl,pI hv,l,hv,ha,A7⟩ A7
  .trivial
 | .owns md,off,ho,x,es,O,K,hr,hh,hel,hK=>by
  unfold a2q;refine dD λhb=>?_;have:=iD hb;subst this;obtain⟨v0,rfl,_,_⟩:=hr;rcases hp with⟨rfl,rfl,rfl⟩|⟨t',ys,l,rfl,hv,ha,rfl⟩|⟨md',ys,l,Os,rfl,he,hv,ha,rfl⟩
  .exact hK [] [] O [] A7 ⟨_,rfl,rfl,by simpa[M.el]using hel,.nil,[],rfl,⟨rfl,rfl⟩,rfl⟩ A7
  .trivial
  .simp only;refine YK λe=>?_;subst e;exact hK _ [] O [] A7 ⟨u,rfl,pI hv,he,l,Os,hv,ha,A7⟩ A7
 | .pair p q,off,ho,x,es,O,K,hr,hh,hel,hK=>by
  unfold a2q;obtain⟨c,d,O1,O2,rfl,rfl,h1,h2⟩:=hr;have hc:=bZ h1;have hel' :p.el=true/\q.el=true:=by simpa[M.el]using hel
  by_cases hlt:off<p.size
  .have hb:Nat.blt off p.size=true:=b2y hlt;simp only[hb,cond_true];have h2' :qW h ok q none x.2 d O2:=by
    rcases hh with rfl|rfl
    .exact h2
    .simpa only[hlt,if_true]using h2
   refine QD hp p off h1 (by rcases hh with rfl|rfl<;>first|exact .inl rfl|(right;simp only[hlt,if_true])) hel'.1 λy A Old B e1 e2 e3=>?_;refine hK _ A Old (B++O2) (by subst e1;simp) ⟨c.set off u,d,A++Op++B,O2,?_,A7,e2,h2'⟩ X5;rw[List.set_append_left _ _ l9]
  .have hb:Nat.blt off p.size=false:=b2x hlt;simp only[hb,cond_false];have h1' :qW h ok p none x.1 c O1:=by
    rcases hh with rfl|rfl
    .exact h1
    .simpa only[hlt,if_false]using h1
   refine QD hp q (off -p.size) h2 (by rcases hh with rfl|rfl<;>first|exact .inl rfl|(right;simp only[hlt,if_false])) hel'.2 λy A Old B e1 e2 e3=>?_;refine hK _ (O1++A) Old B (by subst e1;simp) ⟨c,d.set (off -p.size) u,O1,A++Op++B,?_,A7,h1',e2⟩ X5;rw[jP _ _ l9,hc]
 | .dat _,_,_,_,_,_,_,_,_,_,_=>trivial| .unit,_,_,_,_,_,_,_,_,_,_=>trivial| .box _,_,_,_,_,_,_,_,_,_,_=>trivial| .ownb _,_,_,_,_,_,_,_,_,_,_=>trivial| .cell _,_,_,_,_,_,_,_,_,_,_=>trivial| .fr _,_,_,_,_,_,_,_,_,_,_=>trivial| .sbx _ _,_,_,_,_,_,_,_,_,_,_=>trivial| .lp _,_,_,_,_,_,_,_,_,_,_=>trivial| .dv ..,_,_,_,_,_,_,_,_,_,_=>trivial| .sit,_,_,_,_,_,_,_,_,_,_=>trivial| .rp _,_,_,_,_,_,_,_,_,_,_=>trivial| .fn _ _,_,_,_,_,_,_,_,_,_,_=>trivial| .ifc _ _,_,_,_,_,_,_,_,_,_,_=>trivial
theorem Kz{α:Type}{Q:α->Sm->Prop}{C:Cx}{ln:Ty->Bool} :∀(t:Ty) {cs:List V} {K:t.den->List V->Cmd α} {S:Sm} {vs:d5Z} (hf:t.flat=true) (hL:ig C cs vs)
  (hK:∀x r us us',vs=us++us' ->(∀h ok,mJ h ok t x us)->ig C r us' ->(K x r).post S Q),(nO ln t cs K).post S Q
 | .bool,cs,K,S,vs,hf,hL,hK=>by
  unfold nO;split
  .obtain⟨v,r,rfl,h1,_,h3⟩:=hL;exact hK _ _ [v] r rfl (λ_ _=>by simp only[xP]at h1;simp[mJ,h1]) h3
  .trivial
 | .int k,cs,K,S,vs,hf,hL,hK=>by
  unfold nO;split
  .obtain⟨v,r,rfl,h1,_,h3⟩:=hL;refine dL λe=>?_;have e:=of_decide_eq_true e;subst e;exact hK _ _ [v] r rfl (λ_ _=>by simp only[xP]at h1;simp[mJ,h1]) h3
  .trivial
 | .str,cs,K,S,vs,hf,hL,hK=>by
  unfold nO;split
  .obtain⟨v,r,rfl,h1,_,h3⟩:=hL;exact hK _ _ [v] r rfl (λ_ _=>by simp only[xP]at h1;simp[mJ,h1]) h3
  .trivial
 | .unit,cs,K,S,vs,hf,hL,hK=>by unfold nO;exact hK _ _ [] vs rfl (λ_ _=>rfl) hL
 | .prod p q,cs,K,S,vs,hf,hL,hK=>by unfold nO;simp[Ty.flat]at hf;refine Kz p hf.1 hL λx r us us' e1 h1 l1=>?_;refine Kz q hf.2 l1 λy r' vs2 vs2' e2 h2 l2=>?_;subst e1;subst e2;exact hK _ _ (us++vs2) vs2' A7 (λh ok=>⟨us,vs2,rfl,h1 h ok,h2 h ok⟩) l2| .sl t,cs,K,S,vs,hf,hL,hK=>by simp[Ty.flat]at hf
theorem a5U{us c d:List α}(h:off+us.length<=c.length):aY off us (c++d)=aY off us c++d:=by
 apply dR;intro i;have hs:=yg h;rw[uY X5];by_cases hi:i<c.length
 .rw[O8 hi,O8 (l₁:=aY off us c) (by rw[hs];exact hi),uY h]
 .rw[I7 l9,I7 (l₁:=aY off us c) (by rw[hs];omega),hs,if_neg l9,if_neg l9]
theorem a3q{us c d:List α}(h:(off -c.length)+us.length<=d.length)(h' :c.length<=off):aY off us (c++d)=c++aY (off -c.length) us d:=by
 apply dR;intro i;rw[uY X5];by_cases hi:i<c.length
 .rw[O8 hi,if_pos l9,O8 hi]
 .rw[I7 l9,I7 (l₂:=aY (off -c.length) us d) l9,uY h];by_cases h1:i<off
  .simp only[h1,if_true,show i -c.length<off -c.length by omega]
  .by_cases h2:i<off+us.length
   .simp only[h1,if_false,h2,if_true,show ¬(i -c.length<off -c.length) by omega,show i -c.length<off -c.length+us.length by omega];congr 1;omega
   .simp only[h1,if_false,h2,show ¬(i -c.length<off -c.length) by omega,show ¬(i -c.length<off -c.length+us.length) by omega]
theorem Vz{α:Type}{Q:α->Sm->Prop}{h:Array Obj}{ok:Nat->Ty->Prop}{m:Mp} :∀(md:M) (off:Nat) {ho:Option Nat} {x:md.den} {es us:d5Z} {vs:List V} {O:d6a} {K:md.den->Cmd α} {S:Sm}
  (hr:qW h ok md ho x es O) (hv:ig ⟨h,ok,m⟩ vs us)
  (hK:∀y,off+us.length<=es.length->qW h ok md ho y (aY off us es) O->(K y).post S Q),(b0v md off vs x K).post S Q
 | .dat t,off,ho,x,es,us,vs,O,K,S,hr,hv,hK=>by
  unfold b0v;refine dL λhf=>Fa _ _ _ λhle=>?_;rw[oM]at hle;obtain⟨hr,rfl⟩:=hr;have hl:=gm hr;have hlv:=kS hv;have hnew:=Gh (off:=off) hv (rD (C:=⟨h,ok,m⟩) hr);refine Kz t hf hnew λy q vs1 vs2 e1 h1 l1=>?_;cases q with
  |cons _ _=>trivial|nil=>
  simp only[ig]at l1;subst l1;simp only[G5]at e1;subst e1;exact hK y l9 ⟨h1 _ _,rfl⟩
 | .pair p q,off,ho,x,es,us,vs,O,K,S,hr,hv,hK=>by
  unfold b0v;obtain⟨c,d,O1,O2,rfl,rfl,h1,h2⟩:=hr;have hc:=bZ h1;by_cases hlt:off<p.size
  .have hb:Nat.blt off p.size=true:=b2y hlt;simp only[hb,cond_true];refine Vz p off h1 hv λy hle e2=>?_;exact hK _ X5 ⟨_,d,O1,O2,a5U hle,rfl,e2,h2⟩
  .have hb:Nat.blt off p.size=false:=b2x hlt;simp only[hb,cond_false];refine Vz q (off -p.size) h2 hv λy hle e2=>?_;refine hK _ X5 ⟨c,_,O1,O2,?_,rfl,h1,e2⟩;rw[a3q l9 l9,hc]
 | .own _,_,_,_,_,_,_,_,_,_,_,_,_=>trivial| .owns _,_,_,_,_,_,_,_,_,_,_,_,_=>trivial| .unit,_,_,_,_,_,_,_,_,_,_,_,_=>trivial| .box _,_,_,_,_,_,_,_,_,_,_,_,_=>trivial| .ownb _,_,_,_,_,_,_,_,_,_,_,_,_=>trivial| .cell _,_,_,_,_,_,_,_,_,_,_,_,_=>trivial| .fr _,_,_,_,_,_,_,_,_,_,_,_,_=>trivial| .sbx _ _,_,_,_,_,_,_,_,_,_,_,_,_=>trivial| .lp _,_,_,_,_,_,_,_,_,_,_,_,_=>trivial| .dv ..,_,_,_,_,_,_,_,_,_,_,_,_=>trivial| .sit,_,_,_,_,_,_,_,_,_,_,_,_=>trivial| .rp _,_,_,_,_,_,_,_,_,_,_,_,_=>trivial| .fn _ _,_,_,_,_,_,_,_,_,_,_,_,_=>trivial| .ifc _ _,_,_,_,_,_,_,_,_,_,_,_,_=>trivial
theorem a0W(i:Nat):a0j none i=none:=rfl
theorem SG{i o j:Nat}(h:j≠i):a0j (some (i,o,k)) j=none:=by simp[a0j,h]
theorem VG{i o:Nat} :a0j (some (i,o,k)) i=some o:=by simp[a0j]
theorem UN{C:Cx}{hole:Option (Nat×Nat×Option Nat)}{blk off len cap sz:Nat}{Os:List d6a}(he:md.el=true)(hm:C.m n=some (.arr blk off len cap sz))
  (ha:Gs C.h md.size (λi x es O=>qW C.h C.ok md (a0j hole i) x es O) xs Os (.arr blk off len cap sz)) (hk:C.m.kid n=Os.flatten) (hh:Zn C md.size (.arr blk off len cap sz) hole):Ig C n (.barrs md xs hole):=⟨he,_,Os,hm,⟨ha,hh⟩,hk⟩
theorem Pg{j o2 idx off:Nat}(h:a2k (some (j,o2,k)) idx off=true):j=idx/\o2=off:=by
 simp only[a2k]at h;cases hb:Nat.beq o2 off<;>rw[hb]at h
 .cases h
 .exact⟨iD h,iD hb⟩
theorem b0V(H:FxOk X){S1:Sm}{m1:Mp}{ok1:Nat->Ty->Prop}{w0:World}(R:Rel X (CB*q) (CB*q+CB) S1 m1 ok1 a w)(hT:Tk X S1 m1 ok1 w Op)
  (hm:∀k l,m k=some l->m1 k=some l) (hok:∀b t,ok b t->ok1 b t) {v:V} {l:Loc} {ks:d6a} {x:Value} (hv:v≠.undef)
  (ho:V9 (oz m1 (O7 q o.dst) l ks) (O7 q o.dst) v=Op) (hB:Ig ⟨w.heap,ok1,oz m1 (O7 q o.dst) l ks⟩ (O7 q o.dst) v)
  (hx:l.view none x) {bx idx off:Nat} {md:M} {xs:List md.den} (hS:S1 (ai+bx)= .barrs md xs (some (idx,off,none))) {blk o' len cap sz:Nat} (hmb:m1 bx=some (.arr blk o' len cap sz))
  (hc:fD w.heap blk (o' +idx*md.size+off) 1=some [x]) (hsz:sz=md.size)
  (run:(execOp a.eval o).run X.P w0= .ok (.value x) w):
  (yj (O7 q o.dst) v (Cmd.set (ai+bx) (.barrs md xs (some (idx,off,some (O7 q o.dst)))) (fF X.E o.dst (.own (O7 q o.dst) none)))).post S1 (λ_ S' =>jr X (CB*q) (CB*q+CB) o a w0 m ok S'):=by
 refine tV λhn=>?_;have key:∀n,n=O7 q o.dst->CB*q<=n->n<CB*q+CB->∃R2:Rel X (CB*q) (CB*q+CB) (upd (upd S1 (ai+n) v) (ai+bx) (.barrs md xs (some (idx,off,some n)))) (oz m1 n l ks) ok1 a w,∀k l',m k=some l' ->oz m1 n l ks k=some l' :=by
  rintro n rfl h1 h2;obtain⟨R',_,hm'⟩:=R.adopt (T:=[]) hn h1 hv (by simpa using hT) (λb h=>by rw[ho]at h;exact h) (by rw[ho];exact hT.nodup) hB;rw[Nat.max_eq_left l9]at R';have hne:bx≠O7 q o.dst:=λe=>by have:=R.fresh _ h1 hn;rw[←e,hmb]at this;cases this
  have hS' :upd S1 (ai+O7 q o.dst) v (ai+bx)= .barrs md xs (some (idx,off,none)):=by rw[bV _ _ l9];exact hS
  have hb:=R'.box bx;rw[hS']at hb;obtain⟨hel,l0,Os,hm0,⟨ha,_⟩,hk⟩:=hb;have hmb' :=hm' _ _ hmb;simp only at hm0;rw[hmb']at hm0;cases hm0;refine⟨R'.mod (by rw[hS'];rfl) A7 rfl rfl rfl rfl (λ_ _=>rfl) ⟨hel,_,Os,hmb',⟨?_,?_⟩,hk⟩,λk l' h=>hm' k l' (hm k l' h)⟩
  .exact Jz (λ_ _=>rfl) (λi x es O _ hr=>hr) ha
  .exact⟨blk,o',len,cap,x,l,by rw[hsz],hc,aQ _ _ _ _,hx⟩
 cases hd:o.dst with
 |none=>have hin:=uG H (q:=q) none (λt h=>by cases h);obtain⟨R2,hm2⟩:=key (O7 q none) (by rw[hd]) hin.1 l9;have:=uJ (o:=o) H R2 (m0:=m) (ok0:=ok) hm2 hok (v:=.own (O7 q none) none) ⟨l,aQ _ _ _ _,hx⟩ run;rw[hd]at this;exact this
 |some t=>unfold fF;refine jb (dD λhb' =>?_);have hin:=uG H (q:=q) (some t) (λt' h=>by cases h;exact(EY hb').1);obtain⟨R2,hm2⟩:=key (O7 q (some t)) (by rw[hd]) hin.1 l9;have:=uJ (o:=o) H R2 (m0:=m) (ok0:=ok) hm2 hok (v:=.own (O7 q (some t)) none) ⟨l,aQ _ _ _ _,hx⟩ run;rw[hd]at this;unfold fF at this;simp only[hb',cond_true]at this;exact this
theorem b8b(H:FxOk X)(R:Rel X (CB*q) (CB*q+CB) S m ok a w)(ho:o.op= .load t x):(bF X.E q o).post S (λ_ S' =>jr X (CB*q) (CB*q+CB) o a w m ok S'):=by
 unfold bF;simp only[ho];refine aG R λp hp=>?_;have plain:(RI X.E t p λv=>fF X.E o.dst v).post S (λ_ S' =>jr X (CB*q) (CB*q+CB) o a w m ok S'):=by refine MZ H R hp λv u ad hv hx hr=>aX H R hv ?_;simp[execOp,ho,hx,Instr.loadAt,Instr.sureAddr,hr]
 unfold b9v;split
 .rename_i bx idx off;refine bf ?_;split
  .rename_i md xs hS;cases hown:md.ownAt off
   .simpa only[cond_false]using plain
   simp only[cond_true];refine lX H λi hi=>dL λhi1=>?_;simp only[A8,dP]at hi1;obtain⟨hsz,hagg⟩:=hi1;have hsz:=iD hsz;have hp' :=hp;obtain⟨blk,o',len,cap,sz,hm,hlt,hx⟩:=hp;obtain⟨hel,l,Os,hm',⟨ha,hho⟩,hk⟩:=R.own_barrs hS;simp only at hm;rw[hm]at hm';cases hm';cases IY (match o.dst with|some d=>d|none=>ai) X.E.tk<;>simp only[cond_true,cond_false]
   .refine IC (T:=[]) (.sl md.ty) R Tk.nil (cs:=[.own bx none]) (vs:=[.slice (some ⟨blk,o',none⟩) len cap]) ⟨_,_,rfl,⟨_,hm,rfl⟩,rfl,rfl⟩ λS1 ok1 _ _ us us' R1 T1 k1 s1 e1 h1 l1=>?_;refine MZ H R1 (QR k1 hp') λv u ad hv hx hr=>uJ H R1 (λ_ _ h=>h) k1 hv ?_;simp[execOp,ho,hx,Instr.loadAt,Instr.sureAddr,hr]
   .refine fZ λe0 he0=>?_;obtain⟨rfl,rfl,h3,h7,c,T,hh,hs,hxs⟩:=ha;obtain⟨es,O,hO,he,hr⟩:=hxs idx e0 he0;refine Tf md off hr λv l2 ks u O1 Op O2 eO hr' hu hv hB hvu=>?_;refine jb ?_;have hOs:Os.flatten.Perm ((Os.set idx (O1++O2)).flatten++Op):=zO (by rw[hO,eO]);have hown0:V9 m bx (S (ai+bx))=blk::Os.flatten:=by simp[V9,hS,hm,hk]
    have hown1:V9 (Io m bx (Os.set idx (O1++O2)).flatten) bx (.barrs md xs (some (idx,off,none)))=blk::(Os.set idx (O1++O2)).flatten:=by simp[V9,hm]
    have hnd:=R.nd bx;rw[hown0]at hnd;have hperm:(blk::Os.flatten).Perm ((blk::(Os.set idx (O1++O2)).flatten)++Op):=by simpa using hOs.cons blk
    have hnd' :=L6.1 (hperm.nodup_iff.1 hnd);have hB1:Ig ⟨w.heap,ok,Io m bx (Os.set idx (O1++O2)).flatten⟩ bx (.barrs md xs (some (idx,off,none))):=by
     refine UN (Os:=Os.set idx (O1++O2)) hel hm ⟨rfl,rfl,h3,by simp[h7],c,T,hh,hs,λj z hz=>?_⟩ A7 trivial;by_cases hj:j=idx
     .subst hj;rw[show xs[j]? =some e0 from he0]at hz;cases hz;refine⟨es,O1++O2,?_,he,by simp only[VG];exact hr'⟩;rw[P6,if_pos rfl,if_pos (by rw[h7];exact hlt)]
     .obtain⟨es2,O',hO2,he2,hr2⟩:=hxs j z hz;refine⟨es2,O',?_,he2,by simp only[SG hj];exact hr2⟩;rw[P6,if_neg (λe=>hj e.symm)];exact hO2
    obtain⟨R1,T1⟩:=R.modK (T:=[]) Tk.nil (n:=bx) (v:=.barrs md xs (some (idx,off,none))) (ks:=(Os.set idx (O1++O2)).flatten) (w' :=w) (T' :=Op) A7 (by rw[hown1];exact hnd'.1)
     (λb hb=> .inl (by rw[hown0];rw[hown1]at hb;exact hperm.mem_iff.2 (ah _ hb))) rfl rfl rfl rfl (λ_ _=>rfl) hB1 hnd'.2.1
     (λb hb=>⟨.inl (by rw[hown0];exact hperm.mem_iff.2 (iP _ hb)),λh=>hnd'.2.2 b (by rw[hown1]at h;exact h) b hb rfl⟩)
    obtain⟨hB2,hB3,hB4⟩:=hB (Io m bx (Os.set idx (O1++O2)).flatten) (O7 q o.dst);have hlt2:=(X0.1 hu);have hle:off+1<=md.size:=by have:=bZ hr;have:=hlt2.1;omega
    have e:=Cm he off i.size l9;have hr2:=zu hi w e;have h1:(es.drop off).take i.size=[u]:=by obtain⟨hlt3,rfl⟩:=hlt2;rw[hsz,fQ hlt3];rfl
    refine b0V (ok:=ok) (m:=m) H R1 T1 (λ_ _ h=>h) (λ_ _ h=>h) hvu hB3 hB2 hv (by rw[lZ]) hm (by rw[←h1,←hsz];exact e) rfl ?_;rw[h1,hagg]at hr2;simp[execOp,ho,hx,Instr.loadAt,Instr.sureAddr,hr2,Ve]
  .rename_i md xs i2 o2 n2 hS;cases hown:md.ownAt off
   .simpa only[cond_false]using plain
   simp only[cond_true];refine lX H λi hi=>dL λhi1=>⟨λhat=>?_,λ_=>trivial⟩;simp only[A8,dP]at hi1;obtain⟨hsz,hagg⟩:=hi1;have hsz:=iD hsz;obtain⟨e1,e2⟩:=Pg hat
   subst e1;subst e2;obtain⟨blk,o',len,cap,sz,hm,hlt,hx⟩:=hp;obtain⟨hel,l,Os,hm',⟨ha,blk',off',len',cap',u,l',hl,hc,hmn,hvw⟩,hk⟩:=R.own_barrs hS;simp only at hm;rw[hm]at hm';cases hm';cases hl;have e:fD w.heap blk (o' +i2*md.size+o2) i.size=some [u]:=by rw[hsz];exact hc
   have hr2:=zu hi w e;rw[hagg]at hr2;refine aX H R (v:=.own n2 none) (x:=u) ⟨l',hmn,hvw⟩ ?_;simp[execOp,ho,hx,Instr.loadAt,Instr.sureAddr,hr2,Ve]
  .exact plain
 .exact plain
theorem NM{S' :Sm}{x y:Operand}{w' :World}{m' :Mp}{ok' :Nat->Ty->Prop}(ho:o.op= .store t x y)(hd:o.dst=none)(run:(Instr.storeAt t (a.eval x) (a.eval y)).run X.P w= .ok () w')
  (R:Rel X cl ch S' m' ok' a w') (hm:∀k l,m k=some l->m' k=some l) (hok:∀b t,ok b t->ok' b t):jr X cl ch o a w m ok S' :=by
 intro next Q hn
 unfold Oper.wp;have e:(execOp a.eval o).run X.P w= .ok .skip w' :=by simp[execOp,ho,run]
 rw[e,Oper.upon_skip,hd];exact hn m' ok' a w' R hm hok
theorem a8m{u:α}(h:off<L.length):aY off [u] L=L.set off u:=by
 apply dR;intro i;rw[uY X5,P6];by_cases h1:i=off
 .subst h1;rw[if_neg l9,if_pos A7,if_pos rfl,if_pos h];simp
 .by_cases h2:i<off
  .rw[if_pos h2,if_neg l9]
  .rw[if_neg h2,if_neg X5,if_neg l9]
theorem b0s{u:Value}(h:u.oneCell' =true):u.cells.toList=[u]:=by cases u<;>simp[Value.oneCell',Value.cells]at*
theorem y_{w:World}{blk o' sz len cap off idx:Nat}{c:Array Value}{T:TypeId}{f:Nat×Nat}(hh:w.heap[blk]? =some (.cells c T f))(hs:o' +cap*sz<=c.size)(hlc:len<=cap)(hlt:idx<len){us es:d5Z}
  (he:fD w.heap blk (o' +idx*sz) sz=some es) (hf:off+us.length<=sz):
  o' +idx*sz+off+us.length<=c.size/\(aY (o' +idx*sz+off) us c.toList).length=c.size/\
  fD (w.setRow blk (aY (o' +idx*sz+off) us c.toList).toArray).heap blk (o' +idx*sz) sz=some (aY off us es)/\
  (∀j,j<len->j≠idx->fD (w.setRow blk (aY (o' +idx*sz+off) us c.toList).toArray).heap blk (o' +j*sz) sz=fD w.heap blk (o' +j*sz) sz):=by
 have hcap:(idx+1)*sz<=cap*sz:=H7 _ l9;rw[J4,bi]at hcap;have hfit:o' +idx*sz+off+us.length<=c.size:=l9;have hcl:c.toList.length=c.size:=A7;have hsp:(aY (o' +idx*sz+off) us c.toList).length=c.size:=by rw[yg (by rw[hcl];exact hfit)];exact hcl
 refine⟨hfit,hsp,?_,λj hj hne=>?_⟩
 .rw[Qd hh _ _ _ (by rw[hsp];omega),QX (by rw[hcl];omega) l9];obtain⟨c2,T2,f2,hb2,hn2,rfl⟩:=uI he;rw[hh]at hb2;cases hb2;rfl
 .have hcap' :(j+1)*sz<=cap*sz:=H7 _ l9;rw[J4,bi]at hcap';rw[Qd hh _ _ _ (by rw[hsp];omega),lJ hh _ _ l9,a8n (by rw[hcl];exact hfit)];rcases Nat.lt_or_gt_of_ne hne with hlt'|hgt
  .left;have:(j+1)*sz<=idx*sz:=H7 _ l9;rw[J4,bi]at this;omega
  .right;have:(idx+1)*sz<=j*sz:=H7 _ l9;rw[J4,bi]at this;omega
theorem XI{Q:Unit->Sm->Prop}(R:Rel X cl ch S m ok a w)(hT:Tk X S m ok w Op){i:TI}(hi:TiOk X.P t i)(h1:i.size=1){hole:Option (Nat×Nat×Option Nat)}
  (hS:S (ai+bx)= .barrs md xs hole) {blk o' len cap sz:Nat} (hm:m bx=some (.arr blk o' len cap sz)) {v:V} {u:Value} (hp:Yv w.heap ok v u Op)
  (hK:∀S' m' w',Rel X cl ch S' m' ok a w' ->(∀k l,m k=some l->m' k=some l)->(storeVar t ⟨blk,o' +idx*sz+off,none⟩ u).run X.P w= .ok () w' ->Q () S'):
  (a3s bx idx off md xs hole v (.ret ())).post S Q:=by
 unfold a3s;refine⟨λhb=>?_,λ_=>trivial⟩;refine fZ λe0 he0=>?_;have he0' :xs[idx]? =some e0:=he0;obtain⟨hel,l,Os,hm',⟨ha,hho⟩,hk⟩:=R.own_barrs hS;rw[hm]at hm';cases hm';obtain⟨rfl,rfl,h3,h7,c,T,hh,hs,hxs⟩:=ha;obtain⟨es,O,hO,he,hr⟩:=hxs idx e0 he0';have hho:a0j hole idx=none\/a0j hole idx=some off:=by
  rcases hole with _|⟨j,o2,o3⟩
  .exact .inl rfl
  .obtain⟨e1,e2⟩:=Pg hb;subst e1;subst e2;exact .inr VG
 have hho' :∀j,j≠idx->a0j hole j=none:=λj hj=>by
  rcases hole with _|⟨j',o2,o3⟩
  .rfl
  .obtain⟨e1,_⟩:=Pg hb;subst e1;exact SG hj
 refine QD hp md off hr hho hel λy O1 Old O2 eO hr' hoff=>jb ?_;have hlt:idx<xs.length:=(X0.1 he0').1;have hes:es.length=md.size:=bZ hr;have hu1:=hp.one;have huc:=b0s hu1;obtain⟨hfit,hsp,hnew,hold⟩:=y_ (us:=[u]) (off:=off) hh hs h3 hlt he X5;have run:=Ii hi w (off:=o' +idx*md.size+off) hh (.inl rfl) (v:=u) (by have:=congrArg List.length huc;simp at this;omega) (by simpa[h1]using hfit) (by rw[huc];simp[hu1]);rw[huc]at run;generalize hw' :w.setRow blk (aY (o' +idx*md.size+off) [u] c.toList).toArray=w' at run hnew hold;have hrow:w'.heap[blk]? =some (.cells (aY (o' +idx*md.size+off) [u] c.toList).toArray T (0,0)):=by subst hw';exact setRow_heap w blk c _ T (0,0) hh
 have hoth:∀b,b≠blk->w'.heap[b]? =w.heap[b]?:=λb hb=>by subst hw';exact setRow_other w blk b _ hb
 have hsize:w'.heap.size=w.heap.size:=by subst hw';simp
 have hos:w'.os=w.os:=by subst hw';rfl
 have htp:w'.tape=w.tape:=by subst hw';rfl
 have hout:w'.output=w.output:=by subst hw';rfl
 have hO1:Os.flatten.Perm ((Os.set idx (O1++O2)).flatten++Old):=zO (by rw[hO,eO]);have hO2:(Os.set idx (O1++Op++O2)).flatten.Perm ((Os.set idx (O1++O2)).flatten++Op):=by have:=zO (Os:=Os.set idx (O1++Op++O2)) (i:=idx) (O1:=O1) (P:=Op) (O2:=O2) (by rw[P6,if_pos rfl,if_pos (by rw[h7];exact hlt)]);rwa[List.set_set]at this
 have hown0:V9 m bx (S (ai+bx))=blk::Os.flatten:=by simp[V9,hS,hm,hk]
 have hown1:V9 (Io m bx (Os.set idx (O1++Op++O2)).flatten) bx (.barrs md (aW xs idx y) none)=blk::(Os.set idx (O1++Op++O2)).flatten:=by simp[V9,hm]
 have hnd:=R.nd bx;rw[hown0]at hnd;have hnd0:=gW.1 hnd;have hndA:=L6.1 (hO1.nodup_iff.1 hnd0.2);have hfreeOp:∀b∈Op,b∉blk::Os.flatten:=λb hb h=>(hT.free b hb).2.2.2 bx (by rw[hown0];exact h);have hsubA:∀b∈(Os.set idx (O1++O2)).flatten,b∈Os.flatten:=λb hb=>hO1.mem_iff.2 (ah _ hb);have hneO:∀b∈Os.flatten,b≠blk:=λb hb e=>hnd0.1 (e▸hb);have hneP:∀b∈Op,b≠blk:=λb hb e=>hfreeOp b hb (by simp[e]);have hkeep:∀b t,ok b t->w'.heap[b]? =w.heap[b]?:=λb t hb=>hoth b (λe=>(R.sep bx blk (by rw[hown0];simp)).1 t (e▸hb));have hB:Ig ⟨w'.heap,ok,Io m bx (Os.set idx (O1++Op++O2)).flatten⟩ bx (.barrs md (aW xs idx y) none):=by
  refine UN (Os:=Os.set idx (O1++Op++O2)) hel hm ⟨rfl,by simp[aW],h3,by simp[h7,aW],_,T,hrow,by simp[hsp];exact hs,λj z hz=>?_⟩ A7 trivial;unfold aW at hz;rw[P6]at hz;split at hz
  .rename_i hj;subst hj;cases hz;refine⟨_,O1++Op++O2,by rw[P6,if_pos rfl,if_pos (by rw[h7];exact hlt)],hnew,?_⟩;rw[a8m l9];refine kZ (λ_ _ h=>h) hkeep (λb hb=>hoth b ?_) hr';rcases F7.1 hb with hb|hb
   .rcases F7.1 hb with hb|hb
    .exact hneO b (eQ.2 ⟨O,iZ hO,by rw[eO];simp[hb]⟩)
    .exact hneP b hb
   .exact hneO b (eQ.2 ⟨O,iZ hO,by rw[eO];simp[hb]⟩)
  .rename_i hj;obtain⟨es2,O',hO2',he2,hr2⟩:=hxs j z hz;refine⟨es2,O',by rw[P6,if_neg hj];exact hO2',by rw[←he2];exact hold j (X0.1 hz).1 (λe=>hj e.symm),?_⟩;simp only[a0W];rw[hho' j (λe=>hj e.symm)]at hr2;exact kZ (λ_ _ h=>h) hkeep (λb hb=>hoth b (hneO b (eQ.2 ⟨O',iZ hO2',hb⟩))) hr2
 have hmod:=R.modK hT (n:=bx) (v:=.barrs md (aW xs idx y) none) (ks:=(Os.set idx (O1++Op++O2)).flatten) (w' :=w') (T' :=[]) A7
  (by
   rw[hown1];refine gW.2 ⟨λh=>?_,hO2.nodup_iff.2 (L6.2 ⟨hndA.1,hT.nodup,λx hx z hz e=>?_⟩)⟩
   .rcases F7.1 (hO2.mem_iff.1 h)with h|h
    .exact hnd0.1 (hsubA _ h)
    .exact hneP _ h rfl
   .subst e;exact hfreeOp x hz (by simp[hsubA x hx]))
  (λb hb=>by
   rw[hown1]at hb;rw[hown0];rcases D5.1 hb with hb|hb
   .exact .inl (by simp[hb])
   .rcases F7.1 (hO2.mem_iff.1 hb)with h|h
    .exact .inl (by simp[hsubA _ h])
    .exact .inr h)
  hos htp hout hsize (λb hb=>hoth b (λe=>hb (by rw[hown0,e];simp))) hB fJ (λb hb=>by cases hb)
 exact hK _ _ w' hmod.1 (λ_ _ h=>h) run
theorem b5G{l:List α}{u:α}(h:l[i]? =some u):l.set i u=l:=by
 apply dR;intro j;rw[P6];split
 .rename_i e;subst e;have:=(X0.1 h).1;simp[this,←h]
 .rfl
theorem a6J{Q:α->Sm->Prop}{K:Cmd α}(R:Rel X cl ch S m ok a w){T Op:d6a}(hT:Tk X S m ok w (T++Op)){k0:Option Nat}
  (hS:S (ai+bx)= .barrs md xs (some (idx,off,k0))) {blk o' len cap sz:Nat} (hm:m bx=some (.arr blk o' len cap sz)) {v:V} {u:Value} (hp:Yv w.heap ok v u Op)
  (hu:fD w.heap blk (o' +idx*sz+off) 1=some [u])
  (hK:∀S' m',Rel X cl ch S' m' ok a w->Tk X S' m' ok w T->(∀k l,m k=some l->m' k=some l)->K.post S' Q):
  (Cmd.opt (P7 xs idx) λx=>a2q md off v x (λy=>Cmd.set (ai+bx) (.barrs md (aW xs idx y) none) K) .fail).post S Q:=by
 refine fZ λe0 he0=>?_;have he0' :xs[idx]? =some e0:=he0;obtain⟨hel,l,Os,hm',⟨ha,hho⟩,hk⟩:=R.own_barrs hS;rw[hm]at hm';cases hm';obtain⟨rfl,rfl,h3,h7,c,T0,hh,hs,hxs⟩:=ha;obtain⟨es,O,hO,he,hr⟩:=hxs idx e0 he0';rw[VG]at hr;refine QD hp md off hr (.inr rfl) hel λy O1 Old O2 eO hr' hoff=>jb ?_;have hlt:idx<xs.length:=(X0.1 he0').1;have hes:es.length=md.size:=bZ hr;have hnd1:=L6.1 hT.nodup;have hTo:Tk X S m ok w Op:=⟨hnd1.2.1,λb hb=>hT.free b (iP _ hb)⟩;have heu:es[off]? =some u:=by obtain⟨c2,T2,f2,hb2,hn2,e2⟩:=uI he;obtain⟨c3,T3,f3,hb3,hn3,e3⟩:=uI hu;rw[hh]at hb2 hb3;cases hb2;cases hb3;have h1:=congrArg (λl=>l[0]?) e3;simp only[eX,bD (show 0<1 by omega),P5,aB]at h1;rw[e2,bD l9,P5];exact h1.symm
 rw[b5G heu]at hr';have hO1:Os.flatten.Perm ((Os.set idx (O1++O2)).flatten++Old):=zO (by rw[hO,eO]);have hO2:(Os.set idx (O1++Op++O2)).flatten.Perm ((Os.set idx (O1++O2)).flatten++Op):=by have:=zO (Os:=Os.set idx (O1++Op++O2)) (i:=idx) (O1:=O1) (P:=Op) (O2:=O2) (by rw[P6,if_pos rfl,if_pos (by rw[h7];exact hlt)]);rwa[List.set_set]at this
 have hown0:V9 m bx (S (ai+bx))=blk::Os.flatten:=by simp[V9,hS,hm,hk]
 have hown1:V9 (Io m bx (Os.set idx (O1++Op++O2)).flatten) bx (.barrs md (aW xs idx y) none)=blk::(Os.set idx (O1++Op++O2)).flatten:=by simp[V9,hm]
 have hnd:=R.nd bx;rw[hown0]at hnd;have hnd0:=gW.1 hnd;have hndA:=L6.1 (hO1.nodup_iff.1 hnd0.2);have hfreeOp:∀b∈Op,b∉blk::Os.flatten:=λb hb h=>(hTo.free b hb).2.2.2 bx (by rw[hown0];exact h);have hsubA:∀b∈(Os.set idx (O1++O2)).flatten,b∈Os.flatten:=λb hb=>hO1.mem_iff.2 (ah _ hb);have hneP:∀b∈Op,b≠blk:=λb hb e=>hfreeOp b hb (by simp[e]);have hB:Ig ⟨w.heap,ok,Io m bx (Os.set idx (O1++Op++O2)).flatten⟩ bx (.barrs md (aW xs idx y) none):=by
  refine UN (Os:=Os.set idx (O1++Op++O2)) hel hm ⟨rfl,by simp[aW],h3,by simp[h7,aW],c,T0,hh,hs,λj z hz=>?_⟩ A7 trivial;unfold aW at hz;rw[P6]at hz;split at hz
  .rename_i hj;subst hj;cases hz;exact⟨es,O1++Op++O2,by rw[P6,if_pos rfl,if_pos (by rw[h7];exact hlt)],he,hr'⟩
  .rename_i hj;obtain⟨es2,O',hO2',he2,hr2⟩:=hxs j z hz;refine⟨es2,O',by rw[P6,if_neg hj];exact hO2',he2,?_⟩;simp only[a0W];rw[SG (λe=>hj e.symm)]at hr2;exact hr2
 have hmod:=R.modK hT (n:=bx) (v:=.barrs md (aW xs idx y) none) (ks:=(Os.set idx (O1++Op++O2)).flatten) (w' :=w) (T' :=T) A7
  (by
   rw[hown1];refine gW.2 ⟨λh=>?_,hO2.nodup_iff.2 (L6.2 ⟨hndA.1,hTo.nodup,λx hx z hz e=>?_⟩)⟩
   .rcases F7.1 (hO2.mem_iff.1 h)with h|h
    .exact hnd0.1 (hsubA _ h)
    .exact hneP _ h rfl
   .subst e;exact hfreeOp x hz (by simp[hsubA x hx]))
  (λb hb=>by
   rw[hown1]at hb;rw[hown0];rcases D5.1 hb with hb|hb
   .exact .inl (by simp[hb])
   .rcases F7.1 (hO2.mem_iff.1 hb)with h|h
    .exact .inl (by simp[hsubA _ h])
    .exact .inr (iP _ h))
  rfl rfl rfl rfl (λb hb=>rfl) hB hnd1.1 (λb hb=>⟨.inr (ah _ hb),λh=>by
   rw[hown1]at h;have h1:b∉blk::Os.flatten:=λh' =>(hT.free b (ah _ hb)).2.2.2 bx (by rw[hown0];exact h');rcases D5.1 h with h|h
   .exact h1 (by simp[h])
   .rcases F7.1 (hO2.mem_iff.1 h)with h|h
    .exact h1 (by simp[hsubA _ h])
    .exact hnd1.2.2 b hb b h rfl⟩)
 exact hK _ _ hmod.1 hmod.2 (λ_ _ h=>h)
theorem WQ{Q:α->Sm->Prop}{K:Cmd α}(R:Rel X cl ch S m ok a w){T:d6a}(hT:Tk X S m ok w T)
  (hK:∀S' m',Rel X cl ch S' m' ok a w->Tk X S' m' ok w T->(∀k l,m k=some l->m' k=some l)->K.post S' Q):(a1X bx K).post S Q:=by
 unfold a1X;refine bf ?_;split
 .rename_i md0 xs0 i0 o0 n hS;refine bf ?_;refine dL λharr=>jb (bf ?_);split<;>try trivial
  rename_i md xs i o n' hS2;have hne:n≠bx:=λe=>by subst e;rw[lZ]at hS2;cases hS2
  have hS3:S (ai+bx)= .barrs md xs (some (i,o,some n')):=by rw[←hS2,bV _ _ l9]
  have hn:n' =n:=by rw[hS]at hS3;injection hS3 with _ _ h3;injection h3 with h3;injection h3 with _ h3;injection h3 with _ h3;injection h3 with h3;exact h3.symm
  subst hn;obtain⟨hel,l,Os,hm',⟨ha,hho⟩,hk⟩:=R.own_barrs hS3;obtain⟨blk,off,len,cap,u,l',rfl,hu,hmn,hvu⟩:=hho;have T1:=Tk.kill R hT n' (bs:=V9 m n' (S (ai+n'))) (λ_ h=>h) (R.nd n');refine a6J (R.kill n') T1 hS2 hm' (u:=u) ?_ hu hK;cases hb2:S (ai+n')<;>rw[hb2]at harr<;>try cases harr
  .rename_i t2 ys;obtain⟨l2,hm2,ha'⟩:=R.own_arr hb2;have e:l' =l2:=ay (hmn.symm.trans hm2);subst e;refine .inr (.inl ⟨t2,ys,l',rfl,hvu,Lc ha',?_⟩);have hm2:m n' =some l' :=hm2;cases l'<;>first|(simp[V9,hm2,Loc.blks];done)|cases ha'
  .rename_i md3 ys hole3;obtain⟨hel3,l2,Os3,hm2,⟨ha',hho3⟩,hk'⟩:=R.own_barrs hb2;have e:l' =l2:=ay (hmn.symm.trans hm2);subst e;rcases hole3 with _|⟨p1,p2,p3⟩
   .refine .inr (.inr ⟨md3,ys,l',Os3,rfl,hel3,hvu,ha',?_⟩);have hm2:m n' =some l' :=hm2;cases l'<;>first|(simp[V9,hm2,Loc.blks,hk'];done)|cases ha'
   .cases harr
 .exact hK S m R hT (λ_ _ h=>h)
theorem JB{α:Type}{Q:α->Sm->Prop}{K:Cmd α} :∀(cs:List V) {S:Sm} {m:Mp} (R:Rel X cl ch S m ok a w) {T:d6a} (hT:Tk X S m ok w T)
  (hK:∀S' m',Rel X cl ch S' m' ok a w->Tk X S' m' ok w T->(∀k l,m k=some l->m' k=some l)->K.post S' Q),(Vw cs K).post S Q
 |[],S,m,R,T,hT,hK=>hK S m R hT (λ_ _ h=>h)|v::r,S,m,R,T,hT,hK=>by
  unfold Vw;split
  .exact WQ R hT λS1 m1 R1 T1 k1=>JB r R1 T1 λS2 m2 R2 T2 k2=>hK S2 m2 R2 T2 (λk l h=>k2 k l (k1 k l h))
  .exact JB r R hT hK
theorem CE{α:Type}{Q:α->Sm->Prop}{K:Cmd α} :∀(cs:List V) {S:Sm} {m:Mp} (R:Rel X cl ch S m ok a w) {T:d6a} (hT:Tk X S m ok w T)
  (hK:∀S' m',Rel X cl ch S' m' ok a w->Tk X S' m' ok w T->(∀k l,m k=some l->m' k=some l)->K.post S' Q),(OJ cs K).post S Q
 |[],S,m,R,T,hT,hK=>hK S m R hT (λ_ _ h=>h)|v::r,S,m,R,T,hT,hK=>by
  unfold OJ;split
  .exact WQ R hT λS1 m1 R1 T1 k1=>CE r R1 T1 λS2 m2 R2 T2 k2=>hK S2 m2 R2 T2 (λk l h=>k2 k l (k1 k l h))
  .refine bf ?_;split
   .exact JB _ R hT λS1 m1 R1 T1 k1=>CE r R1 T1 λS2 m2 R2 T2 k2=>hK S2 m2 R2 T2 (λk l h=>k2 k l (k1 k l h))
   .exact CE r R hT hK
  .exact JB _ R hT λS1 m1 R1 T1 k1=>CE r R1 T1 λS2 m2 R2 T2 k2=>hK S2 m2 R2 T2 (λk l h=>k2 k l (k1 k l h))
  .exact CE r R hT hK
theorem b3Q(H:FxOk X)(R:Rel X cl ch S m ok a w){x y:Operand}(ho:o.op= .store t x y):(bF X.E q o).post S (λ_ S' =>jr X cl ch o a w m ok S'):=by
 unfold bF;simp only[ho];cases hd:o.dst with
 |some d=>trivial|none=>
 refine aG R λp hp=>aG R λv hv=>?_;unfold b6Z;refine lX H λi hi=>?_;cases p<;>try trivial
 case ptr bx off=>
  obtain⟨blk,hm,hx⟩:=hp;refine bf ?_;split<;>try trivial
  rename_i cs hS;obtain⟨blk',arr,T,hm',hh,hl⟩:=R.own_cells hS;simp only at hm hm';rw[hm]at hm';cases hm';refine wS hv λvs hvs=>dL λhlen=>Fa _ _ _ λhle=>jb ?_;have hlen' :=iD hlen;have hL:=kS hl;have hL2:=kS hvs;have hsz:(a.eval y).cells.size=i.size:=by simp at hL2;omega
  have hown:V9 m bx (S (ai+bx))=[blk]:=by simp[V9,hS,hm]
  have hfit:off+i.size<=arr.size:=by simp at hL;omega
  have run:=Ii hi w hh (.inl rfl) (v:=a.eval y) hsz hfit (UO hvs);refine NM ho hd (w' :=w.setRow blk (aY off (a.eval y).cells.toList arr.toList).toArray) (by simp[Instr.storeAt,Instr.sureAddr,hx,run]) ?_ (λ_ _ h=>h) (λ_ _ h=>h);refine R.mod (by rw[hown];simp[V9,hm]) A7 rfl rfl rfl A7 (λb hb=>setRow_other w blk b _ (by rw[hown]at hb;simpa using hb)) ?_;refine⟨blk,_,T,hm,setRow_heap w blk arr _ T (0,0) hh,?_⟩;refine c0V (λb t hb=>setRow_other w blk b _ (λe=>(R.sep bx blk (by rw[hown];simp)).1 t (e▸hb))) ?_;simpa using Gh hvs hl
 case ep bx ix off=>
  obtain⟨blk,o',len,cap,sz,hm,hlt,hx⟩:=hp;simp only at hm;refine bf ?_;split<;>try trivial
  .rename_i u xs hS;obtain⟨l,hm',ha⟩:=R.own_arr hS;rw[hm]at hm';cases hm';obtain⟨hE0,rfl,rfl,h3,c,T,f,hh,hz,hs,hxs⟩:=ha;refine fZ λe0 he0=>?_;obtain⟨es,he,hr⟩:=hxs ix e0 he0;refine wS hv λvs hvs=>dL λhlen=>Fa _ _ _ λhle=>?_;rw[oM]at hle;have hlen' :=iD hlen;have hL2:=kS hvs;have hsz:(a.eval y).cells.size=i.size:=by simp at hL2;omega
   have hes:=rF he;have hnew:=Gh (off:=off) hvs (rD (C:=⟨w.heap,ok,m⟩) hr);refine IC (T:=[]) u R Tk.nil hnew λS1 ok1 y1 q1 us us' R1 T1 k1 s1 e1 h1 l1=>?_;cases q1 with
   |cons _ _=>trivial|nil=>
   simp only[ig]at l1;subst l1;simp only[G5]at e1;subst e1;refine bf ?_;split<;>try trivial
   rename_i u' xs' hS1;refine gG λe=>?_;subst e;refine jb ?_;obtain⟨l,hm',ha⟩:=R1.own_arr hS1;rw[hm]at hm';cases hm';obtain⟨_,hszu,hlen2,h3',c',T',f',hh',hz',hs',hxs'⟩:=ha;rw[hh]at hh';cases hh';have hown:V9 m bx (S1 (ai+bx))=[blk]:=by simp[V9,hS1,hm]
   have hvl:(a.eval y).cells.toList.length=i.size:=by simpa using hsz
   obtain⟨hfit,hsp,hnew2,hold⟩:=y_ (us:=(a.eval y).cells.toList) (off:=off) hh hs h3 hlt he (by rw[hvl];omega);have run:=Ii hi w (off:=o' +ix*u'.size+off) hh hz.of (v:=a.eval y) hsz (by rw[hvl]at hfit;exact hfit) (UO hvs);refine NM ho hd (w' :=w.setRow blk (aY (o' +ix*u'.size+off) (a.eval y).cells.toList c.toList).toArray) (by simp[Instr.storeAt,Instr.sureAddr,hx,run]) ?_ (λ_ _ h=>h) k1;refine R1.mod (by rw[hown];simp[V9,hm]) A7 rfl rfl rfl A7 (λb hb=>setRow_other w blk b _ (by rw[hown]at hb;simpa using hb)) ?_;have hkeep:∀b t,ok1 b t->(w.setRow blk (aY (o' +ix*u'.size+off) (a.eval y).cells.toList c.toList).toArray).heap[b]? =w.heap[b]?:=
    λb t hb=>setRow_other w blk b _ (λe=>(R1.sep bx blk (by rw[hown];simp)).1 t (e▸hb))
   refine⟨_,hm,hE0,rfl,by simp[aW,hlen2],h3,_,T,f,setRow_heap w blk c _ T f hh,by rw[dV,hsp];exact hz,by simp[hsp];exact hs,λj z hz=>?_⟩;unfold aW at hz;rw[P6]at hz;split at hz
   .rename_i hj;subst hj;split at hz
    .cases hz;exact⟨_,hnew2,gp (λ_ _ h=>h) hkeep h1⟩
    .cases hz
   .rename_i hj;obtain⟨es2,he2,hr2⟩:=hxs' j z hz;have hj2:=(X0.1 hz).1;exact⟨_,(hold j (by rw[hlen2];exact hj2) (λe=>hj e.symm)).trans he2,gp (λ_ _ h=>h) hkeep hr2⟩
  .rename_i md xs hole hS;cases hcd:(md.ownAt off&&Nat.beq i.size 1&&!dA i.td)
   .simp only[cond_false];cases hole with
    |some _=>trivial|none=>
    refine wS hv λvs hvs=>dL λhlen=>fZ λe0 he0=>?_;have he0' :xs[ix]? =some e0:=he0;obtain⟨hel,l,Os,hm',⟨ha,hho⟩,hk⟩:=R.own_barrs hS;rw[hm]at hm';cases hm';obtain⟨rfl,rfl,h3,h7,c,T,hh,hs,hxs⟩:=ha;obtain⟨es,O,hO,he,hr⟩:=hxs ix e0 he0';refine Vz md off hr hvs λy1 hle hr' =>jb ?_;have hes:es.length=md.size:=bZ hr;have hlen' :=iD hlen;have hL2:=kS hvs;have hsz:(a.eval y).cells.size=i.size:=by simp at hL2;omega
    have hvl:(a.eval y).cells.toList.length=i.size:=by simpa using hsz
    obtain⟨hfit,hsp,hnew2,hold⟩:=y_ (us:=(a.eval y).cells.toList) (off:=off) hh hs h3 hlt he l9;have run:=Ii hi w (off:=o' +ix*md.size+off) hh (.inl rfl) (v:=a.eval y) hsz (by rw[hvl]at hfit;exact hfit) (UO hvs);have hown:V9 m bx (S (ai+bx))=blk::Os.flatten:=by simp[V9,hS,hm,hk]
    have hnd:=R.nd bx;rw[hown]at hnd;have hnd0:=gW.1 hnd;have hneO:∀b∈Os.flatten,b≠blk:=λb hb e=>hnd0.1 (e▸hb);refine NM ho hd (w' :=w.setRow blk (aY (o' +ix*md.size+off) (a.eval y).cells.toList c.toList).toArray) (by simp[Instr.storeAt,Instr.sureAddr,hx,run]) ?_ (λ_ _ h=>h) (λ_ _ h=>h);have hkeep:∀b t,ok b t->(w.setRow blk (aY (o' +ix*md.size+off) (a.eval y).cells.toList c.toList).toArray).heap[b]? =w.heap[b]?:=
     λb t hb=>setRow_other w blk b _ (λe=>(R.sep bx blk (by rw[hown];simp)).1 t (e▸hb))
    refine R.mod (by rw[hown];simp[V9,hm,hk]) A7 rfl rfl rfl A7 (λb hb=>setRow_other w blk b _ (λe=>hb (by rw[hown,e];simp))) ?_;refine UN (Os:=Os) hel hm ⟨rfl,by simp[aW],h3,by simp[h7,aW],_,T,setRow_heap w blk c _ T (0,0) hh,by simp[hsp];exact hs,λj z hz=>?_⟩ hk trivial;unfold aW at hz;rw[P6]at hz;split at hz
    .rename_i hj;subst hj;cases hz;exact⟨_,O,hO,hnew2,kZ (λ_ _ h=>h) hkeep (λb hb=>setRow_other w blk b _ (hneO b (eQ.2 ⟨O,iZ hO,hb⟩))) hr'⟩
    .rename_i hj;obtain⟨es2,O2,hO2,he2,hr2⟩:=hxs j z hz;have hj2:=(X0.1 hz).1;exact⟨_,O2,hO2,(hold j l9 (λe=>hj e.symm)).trans he2,kZ (λ_ _ h=>h) hkeep (λb hb=>setRow_other w blk b _ (hneO b (eQ.2 ⟨O2,iZ hO2,hb⟩))) hr2⟩
   .simp only[cond_true];simp only[A8,dP]at hcd;obtain⟨⟨_,hsz1⟩,_⟩:=hcd;have hsz1:=iD hsz1;have fin:∀{S' :Sm} {m' :Mp} {w' :World},Rel X cl ch S' m' ok a w' ->(∀k l,m k=some l->m' k=some l)->(storeVar t ⟨blk,o' +ix*sz+off,none⟩ (a.eval y)).run X.P w= .ok () w' ->jr X cl ch o a w m ok S' :=
     λR' hm' run=>NM ho hd (by simp[Instr.storeAt,Instr.sureAddr,hx,run]) R' hm' (λ_ _ h=>h)
    split
    .have hv' :a.eval y= .slice none 0 0:=hv;exact XI (Op:=[]) R Tk.nil hi hsz1 hS hm (.inl ⟨rfl,hv',rfl⟩) (λS' m' w' R' h' run=>fin R' h' run)
    .rename_i b2;obtain⟨l2,hm2,hv2⟩:=hv;simp only at hm2;refine bf ?_;refine dL λharr=>jb (bf ?_);split<;>try trivial
     rename_i md2 xs2 hole2 hS2;have T1:=Tk.kill R (T:=[]) Tk.nil b2 (bs:=V9 m b2 (S (ai+b2))) (λ_ h=>h) (R.nd b2);rw[H8]at T1;refine XI (R.kill b2) T1 hi hsz1 hS2 hm ?_ (λS' m' w' R' h' run=>fin R' h' run);cases hb2:S (ai+b2)<;>rw[hb2]at harr<;>try cases harr
     .rename_i t2 ys;obtain⟨l',hm',ha'⟩:=R.own_arr hb2;rw[hm2]at hm';cases hm';refine .inr (.inl ⟨t2,ys,l2,rfl,hv2,Lc ha',?_⟩);cases l2<;>first|(simp[V9,hm2,Loc.blks];done)|cases ha'
     .rename_i md3 ys hole3;obtain⟨hel3,l',Os,hm',⟨ha',hho⟩,hk'⟩:=R.own_barrs hb2;rw[hm2]at hm';cases hm';rcases hole3 with _|⟨p1,p2,p3⟩
      .refine .inr (.inr ⟨md3,ys,l2,Os,rfl,hel3,hv2,ha',?_⟩);cases l2<;>first|(simp[V9,hm2,Loc.blks,hk'];done)|cases ha'
      .cases harr
    .trivial
end
end Go.GP
