import Derived.ProofKit
import Derived.Below
import Derived.Defers
import Derived.Laws.CopyRow
import Derived.Laws.BytesArg
import Derived.Laws.Cells
import Derived.Laws.Append
import Derived.Laws.Strings
import Derived.Lib.SmallJoins
set_option linter.all false
namespace Go.GP
abbrev c5y:Type:=List UInt8
abbrev c5z:Type:=List Int
abbrev c5A:Type:=List Value
abbrev c5B:Type:=List Nat
abbrev c5C:Type:=Option Bool
abbrev c5E:Type:=Option Int
variable {p:Prop}
theorem l7(h:p:=by omega):p:=h
theorem A7(h:p:=by simp):p:=h
theorem E9(h:p:=by decide):p:=h
theorem F8(h:p:=by simp;omega):p:=h
theorem N9:True:=trivial
def bH:=@List.take_succ_eq_append_getElem
def iY:=@Nat.and_two_pow_sub_one_eq_mod
def aC:=@List.take_append_of_le_length
def jl:=@Array.getElem?_setIfInBounds
def U1:=@Array.getD_eq_getD_getElem?
def G7:=@Array.getElem?_eq_some_iff
def nK:=@Array.toList_setIfInBounds
def F6:=@List.getElem?_append_right
def jK:=@Array.getElem?_append_left
def nM:=@List.perm_ext_iff_of_nodup
def O7:=@List.getElem?_append_left
def V9:=@List.drop_eq_getElem_cons
def uz:=@List.extract_eq_take_drop
def H7:=@Array.getElem?_eq_getElem
def nX:=@Classical.byContradiction
def bJ:=@List.getElem?_take_of_lt
def oN:=@List.getElem_append_left
def dZ:=@List.getElem?_cons_zero
def pY:=@List.getElem?_cons_succ
def af:=@List.length_eq_zero_iff
def qc:=@List.pairwise_mergeSort
def wI:=@Int.eq_ofNat_of_zero_le
def iG:=@Option.map_eq_some_iff
def aQ:=@List.drop_eq_nil_of_le
def ax:=@List.take_of_length_le
def lX:=@MapKept.run_setObj_map
def iF:=@List.range_succ_eq_map
def bQ:=@List.mem_append_right
def rf:=@List.Perm.append_left
def jR:=@List.perm_append_comm
def I4:=@Array.getElem?_toList
def iR:=@List.take_append_drop
def mO:=@Nat.ble_eq_true_of_le
def rq:=@List.set_append_right
def P9:=@Nat.le_of_ble_eq_true
def fM:=@Array.getElem?_modify
def jO:=@List.getElem?_reverse
def U8:=@List.getElem?_eq_none
def dN:=@List.length_filter_le
def jQ:=@List.length_singleton
def xN:=@List.findSome?_append
def jP:=@List.length_replicate
def Z5:=@List.mem_append_left
def U3:=@List.mem_cons_of_mem
def J4:=@Nat.mul_le_mul_right
def rU:=@List.replicate_succ'
def rQ:=@List.mem_of_mem_take
def rV:=@MapKept.run_checkKey
def kC:=@List.range_eq_range'
def di:=@Bool.or_eq_false_iff
def ed:=@Nat.pow_le_pow_right
def rW:=@Nat.pow_lt_pow_right
def nO:=@Nat.eq_of_testBit_eq
def oG:=@Value.pointer.injEq
def kZ:=@List.replicate_succ
def kW:=@List.flatten_append
def tX:=@Array.toList_append
def Y8:=@List.getElem_of_mem
def J5:=@Array.length_toList
def kX:=@List.length_reverse
def lg:=@Nat.testBit_two_pow
def iE:=@List.map_congr_left
def iD:=@List.getElem?_range
def N7:=@Int.toNat_of_nonneg
def kY:=@List.mergeSort_perm
def E8:=@List.length_append
def O0:=@List.getElem?_drop
def Z9:=@List.getElem?_take
def jG:=@List.mem_cons_self
def iQ:=@List.mem_singleton
def iP:=@Bool.false_eq_true
def jH:=@Nat.eq_zero_or_pos
def iT:=@List.zip_cons_cons
def uA:=@List.getElem_range
def O9:=@Nat.lt_of_lt_of_le
def Y3:=@List.pairwise_cons
def pF:=@BitVec.toNat_ofInt
def pG:=@Nat.lt_of_le_of_lt
def pI:=@Nat.xor_lt_two_pow
def J9:=@List.nodup_append
def Y1:=@Bool.not_eq_true'
def F5:=@List.append_assoc
def F7:=@Option.some.injEq
def qE:=@Value.slice.injEq
def J3:=@Result.andThen_ok
def au:=@List.ext_getElem?
def J7:=@List.getElem?_set
def dK:=@List.size_toArray
def W9:=@List.getElem?_map
def qC:=@List.zip_nil_left
def mJ:=@Function.comp_def
def vN:=@Array.size_append
def jX:=@List.reverse_cons
def V4:=@List.length_range
def H6:=@Int.toNat_natCast
def iq:=@List.any_eq_false
def IA:=@Bool.not_eq_false
def jY:=@List.take_add_one
def aj:=@List.mem_flatten
def x9:=@Bool.and_eq_true
def P8:=@List.cons_append
def D7:=@List.length_cons
def nS:=@Array.toList_map
def kV:=@List.ext_getElem
def nT:=@Nat.mod_eq_of_lt
def fV:=@List.range'_succ
def fU:=@List.length_take
def aG:=@List.take_length
def iK:=@List.length_drop
def V5:=@Nat.le_add_right
def dV:=@List.all_eq_true
def Y0:=@List.getElem_mem
def iL:=@Option.bind_some
def dW:=@Option.getD_some
def xf:=@List.getElem_map
def AV:=@List.not_mem_nil
def iJ:=@List.filter_cons
def AU:=@List.drop_length
def JJ:=@Bool.not_eq_true
def rJ:=@List.any_eq_true
def E5:=@List.mem_append
def D8:=@List.append_nil
def dO:=@Nat.le_max_left
def H9:=@List.nil_append
def G5:=@List.cons.injEq
def cu:=@Oper.upon_value
def lS:=@Bool.eq_iff_iff
def I5:=@List.length_nil
def X3:=@List.nodup_cons
def Ci:=@Nat.max_eq_left
def aZ:=@Option.some.inj
def jT:=@Nat.min_eq_left
def bC:=@List.map_append
def bY:=@List.foldl_cons
def J6:=@List.length_map
def aY:=@Option.map_some
def oP:=@Oper.upon_enter
def iw:=@List.range_succ
def jM:=@Bool.or_eq_true
def bZ:=@List.mem_filter
def Cf:=@List.any_append
def xO:=@List.length_zip
def oO:=@Nat.testBit_and
def sS:=@Nat.two_pow_pos
def kG:=@List.drop_take
def jq:=@List.take_take
def Z4:=@List.drop_drop
def aW:=@List.nodup_nil
def dG:=@List.drop_zero
def aB:=@List.drop_left
def ql:=@Nat.testBit_or
def aV:=@List.mem_range
def gG:=@List.take_left
def D5:=@List.mem_cons
def jS:=@Nat.add_assoc
def aU:=@List.map_cons
def jd:=@Addr.mk.injEq
def U6:=@List.cons.inj
def rC:=@Nat.lt_irrefl
def je:=@Prod.mk.injEq
def vO:=@Bool.true_and
def qZ:=@Bool.not_true
def Oa:=@Bool.false_or
def X7:=@Nat.le_trans
def aH:=@Nat.sub_self
def jD:=@List.map_nil
def aI:=@Sem.run_pure
def H8:=@Sem.run_bind
def aX:=@Nat.add_zero
def jC:=@Addr.add_lit
def fG:=@Nat.zero_add
def mM:=@List.map_map
def I8:=@List.mem_map
def mP:=@Nat.lt_or_ge
def A8:=@Nat.le_refl
def L6:=@Nat.add_mul
def gV:=@Nat.zero_le
def lT:=@Int.le_refl
def bD:=@Nat.mul_one
def bU:=@Nat.one_mul
def fE:=@Nat.le_succ
def aF:=@Nat.blt_eq
def lC:=@Array.ext'
def sD:=@Calls.mono
def wJ:=@Int.not_lt
def sF:=@Int.not_le
def jW:=@Prod.ext
variable {i:Nat}
theorem X9{α:Type _}{l:List α}{a:α} :l[i]? =some a↔∃h:i<l.length,l[i]=a:=List.getElem?_eq_some_iff
theorem jk{α:Type _}{l:List α}(h:i<l.length):l[i]? =some l[i]:=List.getElem?_eq_getElem h
theorem fJ{n m:Nat}(h:Nat.beq n m=true):n=m:=Nat.eq_of_beq_eq_true h
theorem vM{α:Type _}{l:List α}{a:α}(h:l[i]? =some a):a∈l:=List.mem_of_getElem? h
theorem NZ{α:Type _}{l:List α}{a:α} :l.getD i a=l[i]?.getD a:=List.getD_eq_getElem?_getD
universe u
set_option linter.unusedVariables false
inductive Ty where
 |bool|int (k:IntKind)|str|sl (t:Ty)|prod (a b:Ty)|unit|ent (ka va:Bool) (k v:Ty)|any (o:Option IntKind)
def tbb(a b:Bool):Bool:=bif a then b else !b
theorem a4S:∀{a b:Bool},tbb a b=true->a=b:=by decide
theorem a2B:∀(a:Bool),tbb a a=true:=by decide
def Ty.beq:Ty->Ty->Bool
 | .bool,b=>match b with| .bool=>true|_=>false
 | .int k,b=>match b with| .int k' =>decide (k=k')|_=>false
 | .str,b=>match b with| .str=>true|_=>false
 | .sl t,b=>match b with| .sl u=>Ty.beq t u|_=>false
 | .prod p q,b=>match b with| .prod p' q' =>bif Ty.beq p p' then Ty.beq q q' else false|_=>false
 | .unit,b=>match b with| .unit=>true|_=>false
 | .any o,b=>match b with| .any o' =>decide (o=o')|_=>false
 | .ent x y p q,b=>match b with| .ent x' y' p' q' =>bif tbb x x' &&tbb y y' then(bif Ty.beq p p' then Ty.beq q q' else false)else false|_=>false
theorem Ty.beq_eq:∀{a b:Ty},Ty.beq a b=true->a=b
 | .bool,b,h=>by cases b<;>first|rfl|cases h
 | .int k,b,h=>by cases b<;>first|(cases h;done)|(rename_i k';have:=of_decide_eq_true (show decide (k=k')=true from h);subst this;rfl)
 | .str,b,h=>by cases b<;>first|rfl|cases h
 | .sl t,b,h=>by cases b<;>first|(cases h;done)|(rename_i u;have:=Ty.beq_eq (show Ty.beq t u=true from h);subst this;rfl)
 | .prod p q,b,h=>by
  cases b<;>try (cases h;done)
  rename_i p' q';cases hp:Ty.beq p p'
  .have h' :(bif Ty.beq p p' then Ty.beq q q' else false)=true:=h;rw[hp]at h';cases h'
  .have h' :(bif Ty.beq p p' then Ty.beq q q' else false)=true:=h;rw[hp]at h';rw[Ty.beq_eq hp,Ty.beq_eq (show Ty.beq q q' =true from h')]
 | .unit,b,h=>by cases b<;>first|rfl|cases h
 | .any o,b,h=>by cases b<;>first|(cases h;done)|(rename_i o';have:=of_decide_eq_true (show decide (o=o')=true from h);subst this;rfl)
 | .ent x y p q,b,h=>by
  cases b<;>try (cases h;done)
  rename_i x' y' p' q';have h0:(bif tbb x x' &&tbb y y' then(bif Ty.beq p p' then Ty.beq q q' else false)else false)=true:=h;cases hx:tbb x x'<;>cases hy:tbb y y'<;>rw[hx,hy]at h0<;>try (cases h0;done)
  cases hp:Ty.beq p p'<;>rw[hp]at h0
  .cases h0
  .rw[a4S hx,a4S hy,Ty.beq_eq hp,Ty.beq_eq (show Ty.beq q q' =true from h0)]
theorem Ty.beq_refl:∀(a:Ty),Ty.beq a a=true
 | .bool=>rfl| .int k=>by show decide (k=k)=true;simp| .str=>rfl| .sl t=>Ty.beq_refl t| .prod p q=>by show(bif Ty.beq p p then Ty.beq q q else false)=true;rw[Ty.beq_refl p,Ty.beq_refl q];rfl| .unit=>rfl| .any o=>by show decide (o=o)=true;simp| .ent x y p q=>by show(bif tbb x x&&tbb y y then(bif Ty.beq p p then Ty.beq q q else false)else false)=true;rw[a2B,a2B,Ty.beq_refl p,Ty.beq_refl q];rfl
instance:DecidableEq Ty:=λa b=>match h:Ty.beq a b with
 |true=> .isTrue (Ty.beq_eq h)|false=> .isFalse (λe=>by subst e;rw[Ty.beq_refl]at h;cases h)
@[reducible] def Ty.den:Ty->Type
 | .bool=>Bool| .int _=>Int| .str=>c5y| .sl t=>List t.den| .prod a b=>a.den×b.den| .unit=>Unit| .any _=>Unit| .ent _ _ a b=>a.den×b.den
def Ty.isEnt:Ty->Bool| .ent ..=>true|_=>false
def Ty.size:Ty->Nat
 | .bool| .int _| .str| .sl _=>1| .prod a b=>a.size+b.size| .unit=>0| .any _=>1| .ent _ _ a b=>a.size+b.size
def Ty.flat:Ty->Bool
 | .bool| .int _| .str| .unit=>true| .sl _=>false| .prod a b=>a.flat&&b.flat
 | .ent ..=>false| .any _=>false
def Ty.zero:(t:Ty)->t.den
 | .bool=>false| .int _=>(0:Int)| .str=>[]| .sl _=>[]| .prod a b=>(a.zero,b.zero)| .unit=>()| .any _=>()| .ent _ _ a b=>(a.zero,b.zero)
inductive M where
 |dat (t:Ty)|own (t:Ty)|pair (a b:M)|unit|box (m:M)
 |owns (el:M)|ownb (t:Ty)|rp (t:Ty)|fn (f:Nat) (ts:List Ty)|ifc (t:Nat) (m:M)|cell (n:Option c5C)|fr (t:Ty)|sbx (tb te:Nat)|sit|lp (t:Ty)|dv (k off sz fo:Nat)|ownr (m:M) (o:Nat)
def M.beq:M->M->Bool
 | .dat t,b=>match b with| .dat u=>Ty.beq t u|_=>false
 | .own t,b=>match b with| .own u=>Ty.beq t u|_=>false
 | .pair p q,b=>match b with| .pair p' q' =>bif M.beq p p' then M.beq q q' else false|_=>false
 | .unit,b=>match b with| .unit=>true|_=>false
 | .owns m,b=>match b with| .owns m' =>M.beq m m'|_=>false
 |_,_=>false
theorem M.beq_eq:∀{a b:M},M.beq a b=true->a=b
 | .dat t,b,h=>by cases b<;>first|(cases h;done)|(rename_i u;have:=Ty.beq_eq (show Ty.beq t u=true from h);subst this;rfl)
 | .own t,b,h=>by cases b<;>first|(cases h;done)|(rename_i u;have:=Ty.beq_eq (show Ty.beq t u=true from h);subst this;rfl)
 | .pair p q,b,h=>by
  cases b<;>try (cases h;done)
  rename_i p' q';cases hp:M.beq p p'
  .have h' :(bif M.beq p p' then M.beq q q' else false)=true:=h;rw[hp]at h';cases h'
  .have h' :(bif M.beq p p' then M.beq q q' else false)=true:=h;rw[hp]at h';rw[M.beq_eq hp,M.beq_eq (show M.beq q q' =true from h')]
 | .unit,b,h=>by cases b<;>first|rfl|cases h
 | .owns m,b,h=>by cases b<;>first|(cases h;done)|(rename_i u;have:=M.beq_eq (show M.beq m u=true from h);subst this;rfl)
 | .box _,b,h=>by cases h| .ownb _,b,h=>by cases h| .rp _,b,h=>by cases h| .fn _ _,b,h=>by cases h| .ifc _ _,b,h=>by cases h| .cell _,b,h=>by cases h| .fr _,b,h=>by cases h| .sbx _ _,b,h=>by cases h| .lp _,b,h=>by cases h| .dv ..,b,h=>by cases h| .sit,b,h=>by cases h| .ownr ..,b,h=>by cases h
@[reducible] def RN:List Ty->Type
 |[]=>Unit|[t]=>t.den|t::t' ::r=>t.den×RN (t' ::r)
@[reducible] def M.den:M->Type
 | .dat t=>t.den| .own t=>List t.den| .pair a b=>a.den×b.den| .unit=>Unit| .box m=>m.den| .owns el=>List el.den| .ownb t=>List t.den| .rp t=>t.den| .fn _ ts=>RN ts| .ifc _ m=>m.den| .cell _=>Unit| .fr t=>List t.den| .sbx _ _=>c5y| .sit=>c5y×Int| .lp t=>t.den| .dv ..=>Unit| .ownr m _=>List m.den×Int
def M.size:M->Nat
 | .dat t=>t.size| .own _=>1| .pair a b=>a.size+b.size| .unit=>0| .box _=>1| .owns _| .ownb _| .rp _| .fn _ _| .ifc _ _| .cell _| .fr _| .sbx _ _| .sit| .lp _| .dv ..| .ownr ..=>1
def M.el:M->Bool
 | .unit=>true| .dat t| .own t=> !t.isEnt| .owns m=>m.el| .pair a b=>a.el&&b.el|_=>false
def M.ty:M->Ty
 | .dat t=>t| .own t=> .sl t| .owns m=> .sl m.ty| .pair a b=> .prod a.ty b.ty|_=> .unit
theorem M.denEq:∀(m:M),m.el=true->m.den=m.ty.den
 | .dat _,_=>rfl| .own _,_=>rfl| .unit,_=>rfl| .owns m,h=>congrArg List (M.denEq m h)| .pair a b,h=>by
  have h' :a.el=true/\b.el=true:=by simpa[M.el]using h
  show(a.den×b.den)=(a.ty.den×b.ty.den);rw[M.denEq a h'.1,M.denEq b h'.2]
 | .box _,h=>by simp[M.el]at h| .ownb _,h=>by simp[M.el]at h| .rp _,h=>by simp[M.el]at h| .fn _ _,h=>by simp[M.el]at h| .ifc _ _,h=>by simp[M.el]at h| .cell _,h=>by simp[M.el]at h| .fr _,h=>by simp[M.el]at h| .sbx _ _,h=>by simp[M.el]at h| .lp _,h=>by simp[M.el]at h| .dv ..,h=>by simp[M.el]at h| .sit,h=>by simp[M.el]at h| .ownr ..,h=>by simp[M.el]at h
def M.zero:(m:M)->m.el=true->m.den
 |m,h=>cast (M.denEq m h).symm m.ty.zero
abbrev MG:=Bool×M
@[reducible] def X4:List MG->Type
 |[]=>Unit|[m]=>m.2.den|m::m' ::r=>m.2.den×X4 (m' ::r)
inductive V where
 |undef
 |un
 |b (x:Bool)|i (k:IntKind) (n:Int)|s (l:c5y)
 |nl
 |sl (t:Ty) (xs:List t.den)
 |own (bx:Nat) (vw:Option (Nat×Nat))
 |ptr (bx off:Nat)
 |ep (bx idx off:Nat)
 |dp (t:Ty) (x:t.den) (off:Nat)
 |agg (cs:List V)|tup (cs:List V)
 |glob (g:Nat)|fnv (f:Nat)|idl (f n:Nat)|clos (f:Nat) (caps:List ((t:Ty)×t.den))|ifc (t:Nat) (v:V)
 |bcells (cs:List V)|barr (t:Ty) (xs:List t.den)|bfrz (t:Ty) (xs:List t.den)|biter (l:c5y) (pos:Int)
 |barrs (el:M) (xs:List el.den) (hole:Option (Nat×Nat×Option Nat))|bfc (t:Ty) (x:t.den)
 |barrp (el:M) (xs:List el.den) (n:Int) (o:Nat)
 |dead|gone (t:Ty)|blen (n:Int) (sz:Nat)
 |ne (b:Bool)
 |npt|bsb (tb:Nat) (c:V)|brow (te:Nat) (xs:c5y)
variable {α:Type}{β:Type}
def o5(o:Option α)(f:α->Option β):Option β:=match o with|some x=>f x|none=>none
def l9(b:Bool)(x y:α):α:=match b with|true=>x|false=>y
def I7(a b:Int):Bool:=decide (a<b)
def X6(a b:Int):Bool:=decide (a<=b)
def D6(a b:Int):Bool:=decide (a=b)
def UV(a b:Bool):Bool:=a==b
def J8(a:Bool):Bool:=!a
def jy(a b:Bool):Bool:=a&&b
def seq(a b:c5y):Bool:=decide (a=b)
def slt(a b:c5y):Bool:=Op.bytesLess a b
def wrap(k:IntKind)(n:Int):Int:=k.wrap n
def G6(k:IntKind)(a b:Int):Int:=k.wrap (a+b)
def Y5(k:IntKind)(a b:Int):Int:=k.wrap (a -b)
def Pn(k:IntKind)(a b:Int):Int:=k.wrap (a*b)
def eP(k:IntKind)(a b:Int):Int:=k.wrap (a.tdiv b)
def jB(a b:Int):Int:=a.tmod b
def b4E(k:IntKind)(a b:Int):c5E:=if b=0 then none else some (k.wrap (a.tdiv b))
def b4F(a b:Int):c5E:=if b=0 then none else some (a.tmod b)
def ak(k:IntKind)(a b:Int):Int:=k.wrap (BitVec.ofInt k.bits a&&& BitVec.ofInt k.bits b).toNat
def ior(k:IntKind)(a b:Int):Int:=k.wrap (BitVec.ofInt k.bits a ||| BitVec.ofInt k.bits b).toNat
def JI(k:IntKind)(a b:Int):Int:=k.wrap (BitVec.ofInt k.bits a^^^BitVec.ofInt k.bits b).toNat
def sQ(k:IntKind)(a b:Int):Int:=k.wrap (BitVec.ofInt k.bits a&&& ~~~(BitVec.ofInt k.bits b)).toNat
def JH(k:IntKind)(a b:Int):Int:=k.wrap (a*2^(min b.toNat k.bits))
def jh(k:IntKind)(a b:Int):Int:=a.fdiv (2^(min b.toNat k.bits))
def AQ(k:IntKind)(a b:Int):c5E:=if b<0 then none else some (JH k a b)
def EX(k:IntKind)(a b:Int):c5E:=if b<0 then none else some (jh k a b)
def EJ(a b:Int):Int:=if b<a then b else a
def CW(a b:Int):Int:=if a<b then b else a
def x8(l:List α):Int:=l.length
def aO(a b:c5y):Option c5y:=if a.length+b.length<=4611686018427387904 then some (a++b)else none
def XU(a b:Nat):Bool:=Nat.beq a b
def inb(i n:Int):Bool:=decide (0<=i/\i<n)
def U0(l:List α)(i:Int):Option α:=if 0<=i then l[i.toNat]? else none
def uY(l:c5y)(p:Int):Int:=((Utf8.decode ⟨l.toArray⟩ p.toNat).1:Int)
def yO(l:c5y)(p:Int):Int:=p+((Utf8.decode ⟨l.toArray⟩ p.toNat).2:Int)
def sat(l:c5y)(i:Int):c5E:=if 0<=i then(l[i.toNat]?).map (λc=>(c.toNat:Int))else none
def dm(l:List α)(i:Nat):Option α:=l[i]?
def dD(l:List α)(i:Nat)(x:α):List α:=l.set i x
def gJ(l:List α)(lo hi:Int):Option (List α):=if 0<=lo/\lo<=hi/\hi<=l.length then some ((l.take hi.toNat).drop lo.toNat)else none
def lq(l:List α)(lo hi:Nat):List α:=(l.take hi).drop lo
def mY(lo hi n:Int):Bool:=decide (0<=lo/\lo<=hi/\hi<=n)
def eY(xs ys:List α):Option (List α):=if xs.length+ys.length<=1073741824 then some (xs++ys)else none
def yu(n:Int)(x:α):Option (List α):=if 0<=n/\n<=1073741824 then some (List.replicate n.toNat x)else none
def aJ(i:Int):Nat:=i.toNat
def TK(i:Int):Int:=i+1
def Qp(n:Int):UInt8:=UInt8.ofNat n.toNat
def JG(l:c5z):c5y:=l.map Qp
def XQ(l:c5y):c5z:=l.map λc=>(c.toNat:Int)
def a5W{α β:Type}(eq:α->α->Bool):List (α×β)->α->β->β
 |[],_,z=>z|p::r,k,z=>bif eq k p.1 then p.2 else a5W eq r k z
def a5X{α β:Type}(eq:α->α->Bool):List (α×β)->α->Bool
 |[],_=>false|p::r,k=>bif eq k p.1 then true else a5X eq r k
def a6b{α β:Type}(eq:α->α->Bool):List (α×β)->α->β->List (α×β)
 |[],k,x=>[(k,x)]|p::r,k,x=>bif eq k p.1 then(k,x)::r else p::a6b eq r k x
def a5V{α β:Type}(eq:α->α->Bool):List (α×β)->α->List (α×β)
 |[],_=>[]|p::r,k=>bif eq k p.1 then r else p::a5V eq r k
def JL(eq:α->α->Bool)(l:List (α×β))(k:α)(z:β):β:=a5W eq l k z
def b2Y(eq:α->α->Bool)(l:List (α×β))(k:α):Bool:=a5X eq l k
def MX(eq:α->α->Bool)(l:List (α×β))(k:α)(x:β):List (α×β):=a6b eq l k x
def TM(eq:α->α->Bool)(l:List (α×β))(k:α):List (α×β):=a5V eq l k
def keq:(t:Ty)->t.den->t.den->Bool
 | .bool=>λa b=>UV a b
 | .int _=>λa b=>D6 a b
 | .str=>λa b=>seq a b
 | .prod p q=>λa b=>jy (keq p a.1 b.1) (keq q a.2 b.2)
 |_=>λ_ _=>true
def b2F{α:Type}(eq:α->α->Bool):List α->List α->Bool
 |[],[]=>true|a::r,b::q=>eq a b&&b2F eq r q|_,_=>false
def Vq:(t:Ty)->t.den->t.den->Bool
 | .bool=>λa b=>tbb a b
 | .int _=>λa b=>decide (a=b)
 | .str=>λa b=>decide (a=b)
 | .sl t=>λa b=>b2F (Vq t) a b
 | .prod p q=>λa b=>Vq p a.1 b.1&&Vq q a.2 b.2
 | .unit=>λ_ _=>true
 | .any _=>λ_ _=>true
 | .ent _ _ p q=>λa b=>Vq p a.1 b.1&&Vq q a.2 b.2
def deq(t:Ty)(a b:t.den):Bool:=Vq t a b
inductive Out (σ ε ρ:Type) where
 |nx (s:σ)|ex (e:ε)|rt (r:ρ)
variable {σ:Type}{ε:Type}
def dw(o:σ⊕ε)(f:σ->α)(g:ε->α):α:=match o with| .inl s=>f s| .inr e=>g e
def fD{σ ε ρ:Type}(f:σ->Option (Out σ ε ρ)):Nat->σ->Option (ε⊕ρ)
 |0,_=>none
 |n+1,s=>match f s with
  |some (.nx s')=>fD f n s'|some (.ex e)=>some (.inl e)|some (.rt r)=>some (.inr r)|none=>none
def xg{σ ε:Type}(f:σ->Option (σ⊕ε)):Nat->σ->Option ε
 |0,_=>none
 |n+1,s=>match f s with
  |some (.inl s')=>xg f n s'|some (.inr e)=>some e|none=>none
def aT:Nat:=18446744073709551616
variable {ρ:Type}
def Y9(f:σ->Option (Out σ ε ρ))(s:σ):Option (ε⊕ρ):=fD f aT s
def aS(f:σ->Option (σ⊕ε))(s:σ):Option ε:=xg f aT s
inductive Cmd (α:Type):Type 1 where
 |ret (x:α)
 |fail
 |get (k:Nat) (c:V->Cmd α)
 |set (k:Nat) (v:V) (c:Cmd α)
 |opt {β:Type} (o:Option β) (c:β->Cmd α)
 |br (b:Bool) (c d:Cmd α)
inductive Ent where
 |kv (k:Nat) (v:V)|mask (lo hi:Nat)
abbrev St:=List Ent
def U7:St->Nat->V
 |[],_=> .undef| .kv k v::r,n=>bif Nat.beq k n then v else U7 r n| .mask lo hi::r,n=>bif Nat.ble lo n&&Nat.blt n hi then .undef else U7 r n
abbrev Tr:=c5B×c5B
variable {R:Type}
def V.force(v:V)(K:V->R):R:=
 match v with
 | .undef=>K .undef| .un=>K .un| .b x=>K (.b x)
 | .i k n=>match k with
  | .i8=>K (.i .i8 n)| .i16=>K (.i .i16 n)| .i32=>K (.i .i32 n)| .i64=>K (.i .i64 n)| .u8=>K (.i .u8 n)| .u16=>K (.i .u16 n)| .u32=>K (.i .u32 n)| .u64=>K (.i .u64 n)
 | .s l=>K (.s l)| .nl=>K .nl| .ne z=>K (.ne z)| .sl t xs=>K (.sl t xs)
 | .own bx vw=>match vw with|none=>K (.own bx none)|some p=>K (.own bx (some p))
 | .ptr bx off=>K (.ptr bx off)| .ep bx idx off=>K (.ep bx idx off)| .dp t x off=>K (.dp t x off)| .agg cs=>K (.agg cs)| .tup cs=>K (.tup cs)| .glob g=>K (.glob g)| .fnv f=>K (.fnv f)| .idl f n=>K (.idl f n)| .clos f bs=>K (.clos f bs)
 | .ifc t v=>v.force λv=>K (.ifc t v)
 | .barrs t xs h=>match h with|none=>K (.barrs t xs none)|some (p1,p2,p3)=>match p3 with|none=>K (.barrs t xs (some (p1,p2,none)))|some p3=>K (.barrs t xs (some (p1,p2,some p3)))
 | .bfc t x=>K (.bfc t x)| .barrp m xs n o=>K (.barrp m xs n o)| .bcells cs=>K (.bcells cs)| .barr t xs=>K (.barr t xs)| .bfrz t xs=>K (.bfrz t xs)| .biter l p=>K (.biter l p)| .dead=>K .dead| .gone t=>K (.gone t)| .blen n sz=>K (.blen n sz)| .npt=>K .npt
 | .bsb tb c=>c.force λc=>K (.bsb tb c)| .brow te xs=>K (.brow te xs)
def QP{R:Type} :List V->(List V->R)->R
 |[],K=>K []
 |v::r,K=>v.force λv' =>QP r λr' =>K (v' ::r')
def V.force2(v:V)(K:V->R):R:=
 v.force λv=>match v with
  | .agg cs=>QP cs λcs=>K (.agg cs)
  | .bcells cs=>QP cs λcs=>K (.bcells cs)
  | .tup cs=>QP cs λcs=>K (.tup cs)|v=>K v
def Cmd.runK :Cmd α->St->Tr->(α->St->Tr->Option R)->Option R
 | .ret x,s,t,K=>K x s t| .fail,_,_,_=>none
 | .get k c,s,t,K=>(U7 s k).force λv=>(c v).runK s (k::t.1,t.2) K
 | .set k v c,s,t,K=>v.force2 λv=>c.runK (.kv k v::s) (t.1,k::t.2) K
 | .opt o c,s,t,K=>o5 o λx=>(c x).runK s t K| .br b c d,s,t,K=>l9 b (c.runK s t K) (d.runK s t K)
def Cmd.bind :Cmd α->(α->Cmd β)->Cmd β
 | .ret x,f=>f x| .fail,_=> .fail
 | .get k c,f=> .get k λv=>(c v).bind f| .set k v c,f=> .set k v (c.bind f)
 | .opt o c,f=> .opt o λx=>(c x).bind f| .br b c d,f=> .br b (c.bind f) (d.bind f)
inductive TD where
 |bool|int (k:IntKind)|str
 |sl (elem:Nat)|ptr (elem:Nat)
 |struct (fs:List (Nat×Nat))
 |arr (n elem:Nat)
 |map (key elem:Nat)
 |other
structure TI where
 size:Nat
 bytes:Nat
 td:TD
 ty:Option Ty
 zero:List V
def dL{α:Type} :List (Nat×α)->Nat->Option α
 |[],_=>none|(k,v)::r,n=>bif Nat.beq k n then some v else dL r n
structure FSpec where
 ps:List MG
 rs:List MG
 outs:List MG
 fn:X4 ps->Option (X4 (rs++outs))
structure Env where
 nt:Nat
 eqs:List (Nat×List Ty)
 tt:List (Nat×TI)
 gl:List (Nat×(t:Ty)×List t.den)
 fs:List (Nat×FSpec)
 om:List (Nat×M):=[]
 tk:c5B:=[]
 ms:List ((Nat×String)×Nat×Option Nat):=[]
 kp:c5B:=[]
 rc:c5B:=[]
 pl:List (Nat×Nat×Nat):=[]
abbrev V6:Nat:=1000000
abbrev CB:Nat:=1000000
abbrev NK:Nat:=1000000000000
def Ty.castL{R:Type u}(a b:Ty)(xs:List a.den)(k:List b.den->R)(f:R):R:=if h:a=b then k (h▸xs)else f
def Vf{R:Type u}(a b:Ty)(x:a.den)(k:b.den->R)(f:R):R:=if h:a=b then k (h▸x)else f
def flat:(t:Ty)->t.den->List V->List V
 | .bool,x,r=> .b x::r| .int k,n,r=> .i k n::r| .str,l,r=> .s l::r| .sl t,xs,r=> .sl t xs::r| .prod a b,x,r=>flat a x.1 (flat b x.2 r)| .unit,_,r=>r| .any _,_,r=> .undef::r| .ent _ _ a b,x,r=>flat a x.1 (flat b x.2 r)
def jU(vw:Option (Nat×Nat))(xs:List α):List α:=match vw with|none=>xs|some (lo,hi)=>lq xs lo hi
def Js:(m:M)->m.den->List V->List V
 | .dat t,x,r=>flat t x r| .pair a b,x,r=>Js a x.1 (Js b x.2 r)| .unit,_,r=>r|_,_,r=> .undef::r
def Yr{R:Type u}(a b:M)(xs:List a.den)(k:List b.den->R)(f:R):R:=match h:M.beq a b with
 |true=>k (M.beq_eq h▸xs)|false=>f
def a3p{R:Type u}(m:M)(t:Ty)(xs:List m.den)(k:List t.den->R)(f:R):R:=
 if h:m.el=true/\m.ty=t then k (cast (congrArg List ((M.denEq m h.1).trans (congrArg Ty.den h.2))) xs)else f
def Xv{R:Type u}(m:M)(t:Ty)(xs:List t.den)(k:List m.den->R)(f:R):R:=
 if h:m.el=true/\m.ty=t then k (cast (congrArg List ((M.denEq m h.1).trans (congrArg Ty.den h.2))).symm xs)else f
def M.own0:M->Bool
 | .dat _=>true| .unit=>true| .pair a b=>a.own0&&b.own0|_=>false
def M.own1:M->Nat->Bool
 | .own _,off=>Nat.beq off 0| .pair a b,off=>bif Nat.blt off a.size then a.own1 off&&b.own0 else a.own0&&b.own1 (off -a.size)|_,_=>false
def M.owned:M->List Ty
 | .own t=>[t]| .owns m=>m.ty::m.owned| .pair a b=>a.owned++b.owned|_=>[]
def a0z(ln:Ty->Bool):List Ty->Bool|[]=>true|t::r=>bif ln t then a0z ln r else false
def nN{α:Type}(ln:Ty->Bool):(t:Ty)->List V->(t.den->List V->Cmd α)->Cmd α
 | .bool,cs,K=>match cs with| .b x::r=>K x r|_=> .fail
 | .int k,cs,K=>match cs with| .i k' n::r=>(bif decide (k=k')then K n r else Cmd.fail)|_=> .fail
 | .str,cs,K=>match cs with| .s l::r=>K l r|_=> .fail
 | .prod a b,cs,K=>nN ln a cs λx r=>nN ln b r λy r' =>K (x,y) r'| .unit,cs,K=>K () cs
 | .any none,cs,K=>match cs with|_::r=>K () r|_=> .fail
 | .any (some k),cs,K=>match cs with| .i k' _::r=>bif decide (k=k')then K () r else Cmd.fail|_=> .fail
 | .ent ..,_,_=> .fail
 | .sl t,cs,K=>match cs with
  | .nl::r=>bif t.isEnt then .fail else K [] r| .sl t' xs::r=>Ty.castL t' t xs (λys=>K ys r) Cmd.fail
  | .own bx vw::r=> .get (V6+bx) λ
   | .barr t' xs=>Ty.castL t' t xs (λys=>bif ln t then K (jU vw ys) r else Cmd.set (V6+bx) (.bfrz t ys) (K (jU vw ys) r)) Cmd.fail| .bfrz t' xs=>Ty.castL t' t xs (λys=>K (jU vw ys) r) Cmd.fail| .barrs el xs none=>a3p el t xs (λys=>bif ln t&&a0z ln el.owned then K (jU vw ys) r else Cmd.set (V6+bx) (.bfrz t ys) (K (jU vw ys) r)) Cmd.fail|_=> .fail
  |_=> .fail
def Ai:Ty->Bool:=λ_=>false
def a7L(t:Ty)(v:V)(K:List t.den->Cmd α):Cmd α:=match v with
 | .nl=>bif t.isEnt then .fail else K []| .ne _=>bif t.isEnt then .fail else K []| .sl t' xs=>Ty.castL t' t xs K Cmd.fail
 | .own bx vw=> .get (V6+bx) λ
  | .barr t' xs=>Ty.castL t' t xs (λys=>K (jU vw ys)) Cmd.fail| .bfrz t' xs=>Ty.castL t' t xs (λys=>K (jU vw ys)) Cmd.fail|_=> .fail
 |_=> .fail
def rpC(t:Ty)(v:V)(K:t.den->Cmd α):Cmd α:=match v with
 | .dp t' x 0=>Vf t' t x K .fail
 | .ptr bx 0=> .get (V6+bx) λ
  | .bfc t' x=>Vf t' t x K .fail
  | .bcells bs=>nN Ai t bs λx q=>(match q with
   |[]=> .get (V6+bx) λ
    | .bcells _=>Cmd.set (V6+bx) (.bfc t x) (K x)|_=> .fail
   |_=> .fail)
  |_=> .fail
 |_=> .fail
def lpC(ln:Ty->Bool)(t:Ty)(v:V)(K:t.den->Cmd α):Cmd α:=match v with
 | .dp t' x 0=>Vf t' t x K .fail
 | .ptr bx 0=> .get (V6+bx) λ
  | .bcells bs=>bif ln t then nN ln t bs λx q=>(match q with
   |[]=> .get (V6+bx) λ
    | .bcells _=>K x|_=> .fail
   |_=> .fail)else .fail
  |_=> .fail
 |_=> .fail
def NP{α:Type} :(ts:List Ty)->List ((t:Ty)×t.den)->(RN ts->Cmd α)->Cmd α
 |[],cs,K=>match cs with|[]=>K ()|_=> .fail
 |[t],cs,K=>match cs with|[⟨t',x⟩]=>Vf t' t x K .fail|_=> .fail
 |t::t' ::r,cs,K=>match cs with
  |⟨u,x⟩::cs=>Vf u t x (λx=>NP (t' ::r) cs λy=>K (x,y)) .fail|[]=> .fail
def RJ:(ts:List Ty)->RN ts->List ((t:Ty)×t.den)
 |[],_=>[]|[t],x=>[⟨t,x⟩]|t::t' ::r,x=>⟨t,x.1⟩::RJ (t' ::r) x.2
def sbC(te:Nat)(c:V)(K:c5y->Cmd α):Cmd α:=match c with
 | .nl=>K []
 | .own b none=> .get (V6+b) λ
  | .brow te' xs=>bif Nat.beq te' te then Cmd.set (V6+b) .dead (K xs)else .fail|_=> .fail
 |_=> .fail
def exM{α:Type}(ln:Ty->Bool):(m:M)->List V->(m.den->List V->Cmd α)->Cmd α
 | .dat t,cs,K=>nN ln t cs K
 | .own t,cs,K=>match cs with
  | .nl::r=>bif t.isEnt then .fail else K [] r
  | .own bx vw::r=> .get (V6+bx) λ
   | .barr t' xs=>Ty.castL t' t xs (λys=>Cmd.set (V6+bx) .dead (K (jU vw ys) r)) Cmd.fail|_=> .fail
  |_=> .fail
 | .pair a b,cs,K=>exM Ai a cs λx r=>exM Ai b r λy r' =>K (x,y) r'| .unit,cs,K=>K () cs
 | .box m,cs,K=>match cs with
  | .ptr bx 0::r=> .get (V6+bx) λ
   | .bcells bs=>Cmd.set (V6+bx) .dead (exM Ai m bs λx q=>match q with|[]=>K x r|_=> .fail)|_=> .fail
  |_=> .fail
 | .owns m,cs,K=>match cs with
  | .nl::r=>bif m.el then K [] r else .fail
  | .own bx none::r=> .get (V6+bx) λ
   | .barrs m' xs none=>Yr m' m xs (λys=>Cmd.set (V6+bx) .dead (K ys r)) Cmd.fail| .barrp m' xs n _=>Yr m' m xs (λys=> .br (X6 (x8 xs) n) (Cmd.set (V6+bx) .dead (K ys r)) .fail) Cmd.fail|_=> .fail
  |_=> .fail
 | .ownr m o,cs,K=>match cs with
  | .own bx none::r=> .get (V6+bx) λ
   | .barrp m' xs n o' =>bif Nat.beq o' o then Yr m' m xs (λys=>Cmd.set (V6+bx) .dead (K (ys,n) r)) Cmd.fail else .fail| .barr t xs=>bif m.own1 o then Xv m t xs (λys=>Cmd.set (V6+bx) .dead (K (ys,0) r)) .fail else .fail|_=> .fail
  |_=> .fail
 | .ownb t,cs,K=>match cs with
  | .nl::r=>bif t.isEnt then .fail else K [] r
  | .own bx none::r=> .get (V6+bx) λ
   | .barr t' xs=>Ty.castL t' t xs (λys=>Cmd.set (V6+bx) (.gone t) (K ys r)) Cmd.fail|_=> .fail
  |_=> .fail
 | .rp t,cs,K=>match cs with
  |v::r=>rpC t v λx=>K x r|_=> .fail
 | .fn f ts,cs,K=>match cs with
  | .clos g caps::r=>bif Nat.beq g f then NP ts caps λx=>K x r else .fail
  | .fnv g::r=>bif Nat.beq g f then NP ts [] λx=>K x r else .fail|_=> .fail
 | .ifc t m,cs,K=>match cs with
  | .ifc t' v::r=>bif Nat.beq t' t then exM Ai m [v] λx q=>(match q with|[]=>K x r|_=> .fail)else .fail|_=> .fail
 | .cell (some none),cs,K=>match cs with
  | .nl::r=>K () r|_=> .fail
 | .cell (some (some b)),cs,K=>match cs with
  | .ne true::r=>bif b then K () r else .fail| .ne false::r=>bif b then .fail else K () r|_=> .fail
 | .cell none,cs,K=>match cs with
  |_::r=>K () r|_=> .fail
 | .fr t,cs,K=>match cs with
  | .nl::r=>bif t.isEnt then .fail else K [] r
  | .own bx none::r=> .get (V6+bx) λ
   | .barr t' xs=>Ty.castL t' t xs (λys=>Cmd.set (V6+bx) (.bfrz t ys) (K ys r)) Cmd.fail| .bfrz t' xs=>Ty.castL t' t xs (λys=>K ys r) Cmd.fail|_=> .fail
  |_=> .fail
 | .sit,cs,K=>match cs with
  | .ptr bx 0::r=> .get (V6+bx) λ
   | .biter l p=>Cmd.set (V6+bx) .dead (K (l,p) r)|_=> .fail
  |_=> .fail
 | .lp t,cs,K=>match cs with
  |v::r=>lpC ln t v λx=>K x r|_=> .fail
 | .dv ..,cs,K=>match cs with
  |_::r=>K () r|_=> .fail
 | .sbx tb te,cs,K=>match cs with
  | .ptr bx 0::r=> .get (V6+bx) λ
   | .bsb tb' c=>bif Nat.beq tb' tb then(sbC te c λys=>Cmd.set (V6+bx) .dead (K ys r))else .fail|_=> .fail
  |_=> .fail
def cellsOf(v:V):List V:=match v with| .agg cs=>cs|v=>[v]
def uG(n:Nat)(v:V)(K:Cmd α):Cmd α:=.get (V6+n) λ
 | .undef=> .set (V6+n) v K|_=> .fail
def emM{α:Type} :(m:M)->m.den->Nat->List V->(List V->Nat->Cmd α)->Cmd α
 | .dat t,x,n,r,K=>K (flat t x r) n| .own t,xs,n,r,K=>uG n (.barr t xs) (K (.own n none::r) (n+1))
 | .pair a b,x,n,r,K=>emM b x.2 n r λr' n' =>emM a x.1 n' r' K| .unit,_,n,r,K=>K r n
 | .box m,x,n,r,K=>emM m x (n+1) [] λcs n' =>uG n (.bcells cs) (K (.ptr n 0::r) n')| .owns m,xs,n,r,K=>uG n (.barrs m xs none) (.set (V6+(NK+n)) (.blen (x8 xs) m.size) (K (.own n none::r) (n+1)))| .ownb t,xs,n,r,K=>uG n (.barr t xs) (K (.own n none::r) (n+1))| .rp t,x,n,r,K=>K (.dp t x 0::r) n| .fn f ts,x,n,r,K=>K (.clos f (RJ ts x)::r) n
 | .ifc t m,x,n,r,K=>emM m x n [] λcs n' =>match cs with|[c]=>K (.ifc t c::r) n'|_=> .fail
 | .cell (some none),_,n,r,K=>K (.nl::r) n| .cell (some (some b)),_,n,r,K=>K (.ne b::r) n| .cell none,_,n,r,K=>K (.undef::r) n| .fr t,xs,n,r,K=>uG n (.bfrz t xs) (K (.own n none::r) (n+1))| .sit,x,n,r,K=>uG n (.biter x.1 x.2) (K (.ptr n 0::r) (n+1))| .lp t,x,n,r,K=>K (.dp t x 0::r) n| .dv ..,_,n,r,K=>K (.undef::r) n| .ownr m o,x,n,r,K=>uG n (.barrp m x.1 x.2 o) (K (.own n none::r) (n+1))| .sbx tb te,xs,n,r,K=>uG (n+1) (.brow te xs) (uG n (.bsb tb (.own (n+1) none)) (K (.ptr n 0::r) (n+2)))
structure Sig where
 ms:List (Nat×MG)
 als:List (Nat×Nat×Option (Nat×Nat×Nat×Nat))
@[reducible] def lZ (s:Sig):Type:=X4 (s.ms.map (·.2))
def ZH(ag:Bool)(v:V)(K:List V->Cmd α):Cmd α:=match ag,v with
 |true,.agg cs=>K cs|true,_=> .fail|false,.agg _=> .fail|false,.tup _=> .fail|false,.undef=> .fail|false,.un=> .fail|false,v=>K [v]
def FU(v:V)(K:List V->Cmd α):Cmd α:=match v with
 | .agg cs=>K cs| .tup _=> .fail| .undef=> .fail| .un=> .fail|v=>K [v]
def M.isDat:M->Bool| .dat _=>true| .lp _=>true|_=>false
def VB(ln:Ty->Bool)(m:MG)(v:V)(K:m.2.den->Cmd α):Cmd α:=
 ZH m.1 v λcs=>exM ln m.2 cs λx q=>match q with|[]=>K x|_=> .fail
def Jq{α:Type}(ln:Ty->Bool):(ms:List MG)->List V->(X4 ms->Cmd α)->Cmd α
 |[],vs,K=>match vs with|[]=>K ()|_=> .fail
 |[m],vs,K=>match vs with
  |[v]=>VB ln m v K|_=> .fail
 |m::m' ::r,vs,K=>match vs with
  |v::vs=>bif m.2.isDat then Jq ln (m' ::r) vs λy=>VB ln m v λx=>K (x,y)
   else VB ln m v λx=>Jq ln (m' ::r) vs λy=>K (x,y)
  |[]=> .fail
def f_{α:Type} :c5B->(List V->Cmd α)->Cmd α
 |[],K=>K []
 |s::r,K=>bif Nat.blt s V6 then .get s λv=>f_ r λvs=>K (v::vs)else .fail
def b5r:V->V->Bool
 | .own a none,.own b none=>Nat.beq a b|_,_=>false
def mkV(ag:Bool)(cs:List V):V:=match ag,cs with|true,cs=> .agg cs|false,[v]=>v|false,_=> .undef
def CZ{α:Type} :(ms:List MG)->X4 ms->Nat->(List V->Nat->Cmd α)->Cmd α
 |[],_,n,K=>K [] n
 |[m],x,n,K=>emM m.2 x n [] λcs n' =>K [mkV m.1 cs] n'
 |m::m' ::r,x,n,K=>emM m.2 x.1 n [] λcs n' =>CZ (m' ::r) x.2 n' λvs n'' =>K (mkV m.1 cs::vs) n''
def FB:c5B->List V->Cmd Unit->Cmd Unit
 |[],[],K=>K|n::ns,v::vs,K=>bif Nat.blt n V6 then .set n v (FB ns vs K)else .fail|_,_,_=> .fail
def a3f:Value->V
 | .bool b=> .b b| .int k n=> .i k n| .string s=> .s s.data.toList| .slice none 0 0=> .nl|_=> .undef
def sW(x:Operand)(K:V->Cmd α):Cmd α:=
 match x with
 | .tmp t=>bif Nat.blt t V6 then .get t K else .fail| .const v=>K (a3f v)| .global g=>K (.glob g)| .func f=>K (.fnv f)
def Jv{α:Type} :List Operand->(List V->Cmd α)->Cmd α
 |[],K=>K []
 |x::r,K=>sW x λv=>Jv r λvs=>K (v::vs)
def Vu(n:Nat)(cs:List V):Option (List V):=match n,cs with
 |0,cs=>some cs|n+1,_::cs=>Vu n cs|_+1,[]=>none
def a2z{R:Type u}(n:Nat)(cs:List V)(K:List V->R)(f:R):R:=match n,cs with
 |0,_=>K []|n+1,c::cs=>a2z n cs (λr=>K (c::r)) f|_+1,[]=>f
def TS{R:Type u}(off n:Nat)(cs:List V)(K:List V->R)(f:R):R:=match Vu off cs with|some r=>a2z n r K f|none=>f
def PQ{R:Type u}(off:Nat)(vs cs:List V)(K:List V->R)(f:R):R:=match off,vs,cs with
 |0,[],cs=>K cs|0,v::vs,_::cs=>PQ 0 vs cs (λr=>K (v::r)) f|n+1,vs,c::cs=>PQ n vs cs (λr=>K (c::r)) f|_,_,[]=>f
def DC:Operand->Bool
 | .const (.int _ n)=>decide (n=0)|_=>true
def GI:Operand->Bool
 | .const (.int _ n)=>decide (n<0)|_=>true
def eq1:V->V->c5C
 | .b x,.b y=>some (UV x y)| .i j x,.i k y=>bif decide (j=k)then some (D6 x y)else none| .s x,.s y=>some (seq x y)|_,_=>none
def zW:List V->List V->c5C
 |[],[]=>some true
 |a::r,b::q=>match eq1 a b with
  |none=>none
  |some e=>match r,q with
   |[],[]=>some e|_,_=>(match zW r q with|some e' =>some (jy e e')|none=>none)
 |_,_=>none
def AB:List Ty->List V->Bool
 |[],[]=>true| .bool::ts,.b _::cs=>AB ts cs| .int k::ts,.i k' _::cs=>decide (k=k')&&AB ts cs| .str::ts,.s _::cs=>AB ts cs|_,_=>false
def Cj(n:Nat):c5B->Bool|[]=>false|k::r=>bif Nat.beq k n then true else Cj n r
def a9G(E:Env)(t:Nat)(op:BinOp)(b:Bool)(K:V->Cmd α):Cmd α:=
 match dL E.tt t with
 |some i=>match i.td,op with
  | .sl _,.eql=>K (.b b)| .sl _,.neq=>K (.b (J8 b))|_,_=> .fail
 |none=> .fail
def JQ(E:Env)(t:Nat)(op:BinOp)(yc:Operand)(x y:V)(K:V->Cmd α):Cmd α:=
 match x,y with
 | .i k a,.i k' b=>
  match op with
  | .shl=>bif GI yc then Cmd.opt (AQ k a b) λr=>K (.i k r)else K (.i k (JH k a b))
  | .shr=>bif GI yc then Cmd.opt (EX k a b) λr=>K (.i k r)else K (.i k (jh k a b))|_=>
  bif decide (k=k')then
   match op with
   | .add=>K (.i k (G6 k a b))| .sub=>K (.i k (Y5 k a b))| .mul=>K (.i k (Pn k a b))
   | .quo=>bif DC yc then Cmd.opt (b4E k a b) λr=>K (.i k r)else K (.i k (eP k a b))
   | .rem=>bif DC yc then Cmd.opt (b4F a b) λr=>K (.i k r)else K (.i k (jB a b))| .and=>K (.i k (ak k a b))| .or=>K (.i k (ior k a b))| .xor=>K (.i k (JI k a b))| .andNot=>K (.i k (sQ k a b))| .eql=>K (.b (D6 a b))| .neq=>K (.b (J8 (D6 a b)))| .lss=>K (.b (I7 a b))| .leq=>K (.b (X6 a b))| .gtr=>K (.b (I7 b a))| .geq=>K (.b (X6 b a))|_=> .fail
  else .fail
 | .s a,.s b=>
  match op with
  | .add=>Cmd.opt (aO a b) λr=>K (.s r)| .eql=>K (.b (seq a b))| .neq=>K (.b (J8 (seq a b)))| .lss=>K (.b (slt a b))|_=> .fail
 | .b a,.b b=>
  match dL E.tt t with
  |some i=>match i.td,op with
   | .bool,.eql=>K (.b (UV a b))| .bool,.neq=>K (.b (J8 (UV a b)))|_,_=> .fail
  |none=> .fail
 | .agg xs,.agg ys=>
  match dL E.eqs t with
  |some sh=>bif AB sh xs&&AB sh ys then(match op,zW xs ys with
   | .eql,some e=>K (.b e)| .neq,some e=>K (.b (J8 e))
   |_,_=> .fail)else .fail
  |none=> .fail
 | .nl,.nl=>a9G E t op true K| .ne b,.nl=>a9G E t op b K| .sl u xs,.nl=>bif u.isEnt then .fail else .br (D6 (x8 xs) 0) .fail (a9G E t op false K)|_,_=> .fail
def unC(op:UnOp)(x:V)(K:V->Cmd α):Cmd α:=
 match op,x with
 | .neg,.i k a=>K (.i k (Y5 k 0 a))| .xor,.i k a=>K (.i k (JI k (bif k.signed then -1 else k.max) a))| .not,.b a=>K (.b (J8 a))|_,_=> .fail
def Ju(E:Env)(t:Nat):Bool:=bif Nat.blt t E.nt then !(Cj t E.kp)else false
def dX(E:Env)(d:Option Tmp)(v:V):Cmd Unit:=match d with|some t=>bif Ju E t then .set t v (.ret ())else .fail|none=> .ret ()
def L9(q:Nat)(d:Option Tmp):Nat:=match d with|some t=>CB*q+64*t|none=>CB*q+999936
def tiC(E:Env)(t:Nat)(K:TI->Cmd α):Cmd α:=match dL E.tt t with|some i=>K i|none=> .fail
def bP:TD->Bool| .struct _| .arr _ _=>true|_=>false
def GN(E:Env)(t:Nat)(p:V)(K:V->Cmd α):Cmd α:=
 tiC E t λi=>match p with
 | .ptr bx off=> .get (V6+bx) λ
  | .bcells cs=>TS off i.size cs (λr=>K (mkV (bP i.td) r)) Cmd.fail| .bfc u x=>TS off i.size (flat u x []) (λr=>K (mkV (bP i.td) r)) Cmd.fail|_=> .fail
 | .ep bx idx off=> .get (V6+bx) λ
  | .barr u xs=>Cmd.opt (dm xs idx) λx=>TS off i.size (flat u x []) (λr=>K (mkV (bP i.td) r)) Cmd.fail
  | .bfrz u xs=>Cmd.opt (dm xs idx) λx=>TS off i.size (flat u x []) (λr=>K (mkV (bP i.td) r)) Cmd.fail
  | .barrs m xs _=>Cmd.opt (dm xs idx) λx=>TS off i.size (Js m x []) (λr=>K (mkV (bP i.td) r)) Cmd.fail|_=> .fail
 | .dp u x off=>TS off i.size (flat u x []) (λr=>K (mkV (bP i.td) r)) Cmd.fail|_=> .fail
def SQ{R:Type u} :(m:M)->Nat->m.den->(V->R)->R->R
 | .own t,off,xs,K,f=>bif Nat.beq off 0 then K (.barr t xs)else f| .owns m,off,xs,K,f=>bif Nat.beq off 0 then K (.barrs m xs none)else f| .pair a b,off,x,K,f=>bif Nat.blt off a.size then SQ a off x.1 K f else SQ b (off -a.size) x.2 K f|_,_,_,_,f=>f
def VR{R:Type u} :(m:M)->Nat->V->m.den->(m.den->R)->R->R
 | .own t,off,v,_,K,f=>bif Nat.beq off 0 then(match v with| .barr t' ys=>Ty.castL t' t ys K f| .nl=>bif t.isEnt then f else K []|_=>f)else f| .owns m,off,v,_,K,f=>bif Nat.beq off 0 then(match v with| .barrs m' ys none=>Yr m' m ys K f| .nl=>K []|_=>f)else f| .pair a b,off,v,x,K,f=>bif Nat.blt off a.size then VR a off v x.1 (λy=>K (y,x.2)) f else VR b (off -a.size) v x.2 (λy=>K (x.1,y)) f|_,_,_,_,_,f=>f
def a7d{α:Type} :(m:M)->Nat->List V->m.den->(m.den->Cmd α)->Cmd α
 | .dat t,off,vs,x,K=>bif t.flat then PQ off vs (flat t x []) (λr=>nN Ai t r λy q=>match q with|[]=>K y|_=> .fail) .fail else .fail| .pair a b,off,vs,x,K=>bif Nat.blt off a.size then a7d a off vs x.1 (λy=>K (y,x.2))else a7d b (off -a.size) vs x.2 (λy=>K (x.1,y))|_,_,_,_,_=> .fail
def M.ownAt:M->Nat->Bool
 | .own _,off=>Nat.beq off 0| .owns _,off=>Nat.beq off 0| .pair a b,off=>bif Nat.blt off a.size then a.ownAt off else b.ownAt (off -a.size)|_,_=>false
def M.firstOwn(m:M):Nat->Nat->Option Nat
 |_,0=>none|off,n+1=>bif m.ownAt off then some off else m.firstOwn (off+1) n
def setCell:Nat->V->List V->List V
 |_,_,[]=>[]|0,v,_::cs=>v::cs|n+1,v,c::cs=>c::setCell n v cs
def a3Q(o n:Nat)(v:V):V:=match v with
 | .agg cs=> .agg (setCell o (.own n none) cs)|v=>v
def tkD(E:Env)(d:Option Nat):Bool:=match d with|some t=>Ju E t&&Cj t E.tk|none=>false
def VH(h:Option (Nat×Nat×Option Nat))(idx off:Nat):Bool:=match h with|none=>true|some (i,o,_)=>bif Nat.beq o off then XU i idx else false
def b4H(E:Env)(d:Option Tmp)(nm t:Nat)(p:V)(K:V->Cmd α):Cmd α:=
 match p with
 | .ep bx idx off=> .get (V6+bx) λ
  | .barrs m xs none=>bif m.ownAt off then tiC E t λi=>(bif Nat.beq i.size 1&&!bP i.td then
     (bif Cj (match d with|some d=>d|none=>V6) E.tk then
      Cmd.opt (dm xs idx) λx=>SQ m off x (λv=>Cmd.set (V6+bx) (.barrs m xs (some (idx,off,none))) (uG nm v (Cmd.set (V6+bx) (.barrs m xs (some (idx,off,some nm))) (K (.own nm none))))) .fail
     else nN Ai (.sl m.ty) [.own bx none] λ_ _=>GN E t p K)else .fail)
    else bif tkD E d then tiC E t λi=>(match m.firstOwn off i.size with
     |none=>GN E t p K
     |some o=>bif bP i.td&&Nat.ble (off+i.size) m.size then Cmd.opt (dm xs idx) λx=>SQ m o x (λv=>Cmd.set (V6+bx) (.barrs m xs (some (idx,o,none))) (uG nm v (Cmd.set (V6+bx) (.barrs m xs (some (idx,o,some nm))) (GN E t p λu=>K (a3Q (o -off) nm u))))) .fail else .fail)
    else GN E t p K
  | .barrs m xs (some (i,o,some n))=>bif m.ownAt off then tiC E t λj=>(bif Nat.beq j.size 1&&!bP j.td then
     .br (VH (some (i,o,some n)) idx off) (K (.own n none)) .fail else .fail)
    else bif tkD E d then tiC E t λj=>(match m.firstOwn off j.size with
     |none=>GN E t p K
     |some o' =>bif bP j.td&&Nat.ble (off+j.size) m.size then .br (VH (some (i,o,some n)) idx o') (GN E t p λu=>K (a3Q (o' -off) n u)) .fail else .fail)
    else GN E t p K
  |_=>GN E t p K
 |_=>GN E t p K
def a9m:V->Bool| .barr ..=>true| .barrs _ _ none=>true|_=>false
def ZK(bx:Nat)(K:Cmd α):Cmd α:=.get (V6+bx) λ
 | .barrs _ _ (some (_,_,some n))=> .get (V6+n) λw=>bif a9m w then Cmd.set (V6+n) .dead (.get (V6+bx) λ
  | .barrs m xs (some (i,o,some _))=>Cmd.opt (dm xs i) λx=>VR m o w x (λy=>Cmd.set (V6+bx) (.barrs m (dD xs i y) none) K) .fail
  |_=> .fail)else .fail
 |_=>K
def QB{α:Type} :List V->Cmd α->Cmd α
 |[],K=>K
 |v::r,K=>match v with
  | .own bx none=>ZK bx (QB r K)|_=>QB r K
def Ie{α:Type} :List V->Cmd α->Cmd α
 |[],K=>K
 |v::r,K=>match v with
  | .own bx none=>ZK bx (Ie r K)
  | .ptr bx 0=> .get (V6+bx) λ
   | .bcells cs=>QB cs (Ie r K)|_=>Ie r K
  | .agg cs=>QB cs (Ie r K)|_=>Ie r K
def a5q(c:Nat)(u:V)(K:Nat->Cmd α):Cmd α:=match u with
 | .own b none=>K b
 | .ptr pb 0=> .get (V6+pb) λ
  | .bcells cs=>TS c 1 cs (λr=>match r with|[.own b none]=>K b|_=> .fail) .fail|_=> .fail
 |_=> .fail
def b4e(b sz:Nat)(K:Cmd α):Cmd α:=.get (V6+b) λ
 | .barrs m _ _=>bif Nat.beq m.size sz then K else .fail| .barr t _=>bif Nat.beq t.size sz then K else .fail|_=> .fail
def a6U{α:Type} :List (Nat×Nat×Option (Nat×Nat×Nat×Nat))->Cmd α->Cmd α
 |[],K=>K
 |(n,k,none)::r,K=>bif Nat.blt n V6&&Nat.blt k V6 then .get n λv=> .get k λu=>bif b5r v u then a6U r K else .fail else .fail
 |(n,k,some (c,j,o,sz))::r,K=>bif Nat.blt n V6&&Nat.blt k V6&&Nat.blt j V6 then .get n λv=> .get k λu=> .get j λx=>(match v,x with
  | .ep b' i o',.i _ y=>a5q c u λb=>bif Nat.beq o' o&&Nat.beq b' b then b4e b sz (.br (XU i (aJ y)) (a6U r K) .fail)else .fail
  |_,_=> .fail)else .fail
def a9a(s:Sig):Cmd (lZ s):=a6U s.als (f_ (s.ms.map (·.1)) λvs=>Ie vs (Jq Ai (s.ms.map (·.2)) vs .ret))
def Rz:List (Nat×Nat×Option (Nat×Nat×Nat×Nat))->Cmd Unit
 |[]=> .ret ()
 |(n,k,none)::r=>bif Nat.blt n V6&&Nat.blt k V6 then .get k λv=> .set n v (Rz r)else .fail
 |(n,k,some (c,j,o,sz))::r=>bif Nat.blt n V6&&Nat.blt k V6&&Nat.blt j V6 then .get k λu=> .get j λx=>(match x with
  | .i _ y=>a5q c u λb=>b4e b sz (.set n (.ep b (aJ y) o) (Rz r))
  |_=> .fail)else .fail
def a8X(s:Sig)(x:lZ s)(nb lim:Nat):Cmd Unit:=
 CZ (s.ms.map (·.2)) x nb λvs n=>bif Nat.ble n lim then FB (s.ms.map (·.1)) vs (Rz s.als)else .fail
def a0d(bx idx off:Nat)(m:M)(xs:List m.den)(hole:Option (Nat×Nat×Option Nat))(v:V)(K:Cmd Unit):Cmd Unit:=
 .br (VH hole idx off) (Cmd.opt (dm xs idx) λx=>VR m off v x (λy=>Cmd.set (V6+bx) (.barrs m (dD xs idx y) none) K) .fail) .fail
def b1S(E:Env)(t:Nat)(p v:V):Cmd Unit:=
 tiC E t λi=>match p with
 | .ptr bx off=> .get (V6+bx) λ
  | .bcells cs=>FU v λvs=>bif Nat.beq vs.length i.size then PQ off vs cs (λr=>Cmd.set (V6+bx) (.bcells r) (.ret ())) Cmd.fail else .fail|_=> .fail
 | .ep bx idx off=> .get (V6+bx) λ
  | .barr u xs=>Cmd.opt (dm xs idx) λx=>FU v λvs=>bif Nat.beq vs.length i.size then PQ off vs (flat u x []) (λr=>
    nN Ai u r λy q=>match q with
     |[]=> .get (V6+bx) λ
      | .barr u' xs' =>Ty.castL u' u xs' (λxs' =>Cmd.set (V6+bx) (.barr u (dD xs' idx y)) (.ret ())) Cmd.fail|_=> .fail
     |_=> .fail) Cmd.fail else .fail
  | .barrs m xs hole=>bif m.ownAt off&&Nat.beq i.size 1&&!bP i.td then(match v with
    | .nl=>a0d bx idx off m xs hole .nl (.ret ())
    | .own b2 none=> .get (V6+b2) λw=>bif a9m w then Cmd.set (V6+b2) .dead (.get (V6+bx) λ
     | .barrs m xs hole=>a0d bx idx off m xs hole w (.ret ())
     |_=> .fail)else .fail
    |_=> .fail)
   else match hole with
    |none=>FU v λvs=>bif Nat.beq vs.length i.size then Cmd.opt (dm xs idx) λx=>a7d m off vs x λy=>Cmd.set (V6+bx) (.barrs m (dD xs idx y) none) (.ret ())else .fail|some _=> .fail
  | .barrp _ _ _ o=>bif Nat.beq off o&&Nat.beq i.size 1&&!bP i.td then(match v with
    | .own b2 none=> .get (V6+b2) λw=>bif a9m w then Cmd.set (V6+b2) .dead (.get (V6+bx) λ
     | .barrp m xs n o=> .br (XU idx (aJ n)) (Cmd.opt (dm xs idx) λx=>VR m off w x (λy=>Cmd.set (V6+bx) (.barrp m (dD xs idx y) (TK n) o) (.ret ())) .fail) .fail
     |_=> .fail)else .fail
    |_=> .fail)else .fail
  |_=> .fail
 |_=> .fail
def szB(sz:Nat)(u:Ty):Bool:=bif u.isEnt then false else Nat.beq sz u.size
def Ph(E:Env)(t f:Nat):Option (Nat×Nat×Bool):=
 match dL E.tt t with
 |some i=>match i.td with
  | .struct fs=>match fs[f]? with
   |some (ft,off)=>match dL E.tt ft with|some j=>bif Nat.beq j.size 0 then none else some (off,j.size,bP j.td)|none=>none
   |none=>none
  |_=>none
 |none=>none
def a1r(vw:Option (Nat×Nat)):Nat:=match vw with|none=>0|some (lo,_)=>lo
def b6n(vw:Option (Nat×Nat))(n:Nat):Nat:=match vw with|none=>n|some (lo,_)=>lo+n
theorem b2S(vw:Option (Nat×Nat))(n:Nat):b6n vw n=a1r vw+n:=by cases vw<;>simp[b6n,a1r]
def Ij(E:Env)(t:Nat):Option (Bool×Nat×Nat):=
 match dL E.tt t with
 |some i=>match i.td with
  | .sl e=>match dL E.tt e with|some j=>some (false,0,j.size)|none=>none
  | .arr n e=>match dL E.tt e with|some j=>some (true,n,j.size)|none=>none
  |_=>none
 |none=>none
def VL(E:Env)(t:Nat)(x ix:V)(K:V->Cmd α):Cmd α:=
 match ix,Ij E t with
 | .i _ n,some (false,_,sz)=>match x with
  | .sl u xs=>bif szB sz u then Cmd.opt (U0 xs n) λy=>K (.dp u y 0)else .fail
  | .own bx vw=> .get (V6+(NK+bx)) λ
   | .blen ln sz' =>(match vw with|none=>bif Nat.beq sz sz' then .br (inb n ln) (K (.ep bx (aJ n) 0)) .fail else .fail|_=> .fail)
   |_=> .get (V6+bx) λ
   | .barr u xs=>bif szB sz u then Cmd.opt (U0 (jU vw xs) n) λ_=>K (.ep bx (b6n vw (aJ n)) 0)else .fail
   | .bfrz u xs=>bif szB sz u then Cmd.opt (U0 (jU vw xs) n) λy=>K (.dp u y 0)else .fail| .barrs m xs _=>(match vw with|none=>bif Nat.beq sz m.size then Cmd.opt (U0 xs n) λ_=>K (.ep bx (aJ n) 0)else .fail|_=> .fail)| .barrp m xs _ _=>(match vw with|none=>bif Nat.beq sz m.size then Cmd.opt (U0 xs n) λ_=>K (.ep bx (aJ n) 0)else .fail|_=> .fail)|_=> .fail
  |_=> .fail
 | .i _ n,some (true,l,sz)=>match x with
  | .glob g=>match dL E.gl g with
   |some ⟨u,xs⟩=>bif Nat.beq sz u.size&&Nat.beq l xs.length then Cmd.opt (U0 xs n) λy=>K (.dp u y 0)else .fail|none=> .fail
  | .ptr bx off=> .br (inb n l) (K (.ptr bx (off+aJ n*sz))) .fail|_=> .fail
 |_,_=> .fail
def b9q(td:TD)(x:V)(K:V->Cmd α):Cmd α:=
 match td,x with
 | .str,.s l=>K (.i .i64 (x8 l))| .sl _,.sl t xs=>bif t.isEnt then .fail else K (.i .i64 (x8 xs))| .map ..,.sl t xs=>bif t.isEnt then K (.i .i64 (x8 xs))else .fail
 | .map ..,.own bx none=> .get (V6+bx) λ
  | .barr t xs=>bif t.isEnt then K (.i .i64 (x8 xs))else .fail| .bfrz t xs=>bif t.isEnt then K (.i .i64 (x8 xs))else .fail|_=> .fail
 | .sl _,.nl=>K (.i .i64 0)
 | .sl _,.own bx vw=> .get (V6+(NK+bx)) λ
  | .blen ln _=>(match vw with|none=>K (.i .i64 ln)|_=> .fail)
  |_=> .get (V6+bx) λ
  | .barr t xs=>bif t.isEnt then .fail else K (.i .i64 (x8 (jU vw xs)))| .bfrz t xs=>bif t.isEnt then .fail else K (.i .i64 (x8 (jU vw xs)))| .barrs _ xs _=>(match vw with|none=>K (.i .i64 (x8 xs))|_=> .fail)| .barrp _ xs _ _=>(match vw with|none=>K (.i .i64 (x8 xs))|_=> .fail)|_=> .fail
 |_,_=> .fail
def Bc(d:Int):Option V->c5E
 |none=>some d|some (.i _ n)=>some n|some _=>none
def RF(E:Env)(t:Nat)(x:V)(lo hi:Option V)(K:V->Cmd α):Cmd α:=
 match x with
 | .s l=>tiC E t λi=>match i.td,Bc 0 lo,Bc (x8 l) hi with
  | .str,some a,some b=>Cmd.opt (gJ l a b) λr=>K (.s r)|_,_,_=> .fail
 | .sl u l=>match Ij E t,Bc 0 lo,Bc (x8 l) hi with
  |some (false,_,sz),some a,some b=>bif szB sz u then Cmd.opt (gJ l a b) λr=>K (.sl u r)else .fail|_,_,_=> .fail
 | .own bx none=> .get (V6+bx) λ
  | .barr u xs=>match Ij E t,Bc 0 lo,Bc (x8 xs) hi with
   |some (false,_,sz),some a,some b=>bif szB sz u then .br (mY a b (x8 xs)) (K (.own bx (some (aJ a,aJ b)))) .fail else .fail|_,_,_=> .fail
  | .bfrz u xs=>match Ij E t,Bc 0 lo,Bc (x8 xs) hi with
   |some (false,_,sz),some a,some b=>bif szB sz u then .br (mY a b (x8 xs)) (K (.own bx (some (aJ a,aJ b)))) .fail else .fail|_,_,_=> .fail
  |_=> .fail
 |_=> .fail
def a2C{α:Type}(u:Ty):Nat->List V->(List u.den->Cmd α)->Cmd α
 |0,cs,K=>match cs with|[]=>K []|_=> .fail
 |n+1,cs,K=>nN Ai u cs λx r=>a2C u n r λxs=>K (x::xs)
def Xh(E:Env)(nm t bx:Nat)(K:V->Cmd Unit):Cmd Unit:=tiC E t λi=>match i.td with
 | .arr n e=>tiC E e λj=>(match j.ty with
  |some u=>bif u.flat then .get (V6+bx) λ
   | .bcells cs=>a2C u n cs λxs=>Cmd.set (V6+bx) .dead (uG nm (.barr u xs) (K (.own nm none)))|_=> .fail
   else .fail
  |none=> .fail)
 |_=> .fail
def Eb(E:Env)(t:Nat):Option (Nat×Ty):=
 match dL E.tt t with
 |some i=>match i.td with
  | .sl e=>match dL E.tt e with
   |some j=>match j.ty with|some u=>bif (Nat.beq u.size j.size&&Nat.ble j.bytes 65536&&!u.isEnt)then some (e,u)else none|none=>none
   |none=>none
  |_=>none
 |none=>none
def TY(nm:Nat)(u:Ty)(x:V)(ys:List u.den)(K:V->Cmd Unit):Cmd Unit:=
 match x with
 | .nl=>Cmd.opt (eY [] ys) λzs=>uG nm (.barr u zs) (K (.own nm none))
 | .own bx vw=> .get (V6+bx) λ
  | .barr u' xs=>Ty.castL u' u xs (λxs=>Cmd.opt (eY (jU vw xs) ys) λzs=>Cmd.set (V6+bx) .dead (uG nm (.barr u zs) (K (.own nm none)))) Cmd.fail|_=> .fail
 |_=> .fail
def a5n(E:Env)(nm:Nat)(t:Nat)(x:V)(l:c5y)(K:V->Cmd Unit):Cmd Unit:=
 match Eb E t with
 |some (_,.int .u8)=>(match dL E.om t with|none=>TY nm (.int .u8) x (XQ l) K|some _=> .fail)|_=> .fail
def a8R(E:Env)(nm:Nat)(t:Nat)(l:c5y)(K:V->Cmd Unit):Cmd Unit:=
 match Eb E t with
 |some (e,.int .u8)=>tiC E e λk=>(match k.td with
  | .int .u8=>uG nm (.barr (.int .u8) (XQ l)) (K (.own nm none))
  |_=> .fail)
 |_=> .fail
def a5m(E:Env)(nm:Nat)(t:Nat)(x y:V)(K:V->Cmd Unit):Cmd Unit:=
 match Eb E t with
 |none=> .fail
 |some (_,u)=>match dL E.om t with
  |none=>a7L u y λys=>TY nm u x ys K
  |some m=>bif Nat.beq m.size u.size then exM Ai (.owns m) [y] λys _=>exM Ai (.owns m) [x] λxs _=>Cmd.opt (eY xs ys) λzs=>uG nm (.barrs m zs none) (K (.own nm none))else .fail
def zi{α:Type}(u:Ty):List (Nat×V)->Nat->Nat->(List u.den->Cmd α)->Cmd α
 |[],_,0,K=>K []
 |(i,v)::r,n,m+1,K=>bif Nat.beq i n then FU v λcs=>nN Ai u cs λx q=>match q with|[]=>zi u r (n+1) m λxs=>K (x::xs)|_=> .fail else .fail
 |_,_,_,_=> .fail
def xG{α:Type}(m:M):List (Nat×V)->Nat->Nat->(List m.den->Cmd α)->Cmd α
 |[],_,0,K=>K []
 |(i,v)::r,n,k+1,K=>bif Nat.beq i n then FU v λcs=>exM Ai m cs λx q=>match q with|[]=>xG m r (n+1) k λxs=>K (x::xs)|_=> .fail else .fail
 |_,_,_,_=> .fail
def a5i(E:Env):List (Nat×Nat)->Bool
 |[]=>true
 |(t,_)::r=>match dL E.tt t with|some _=>a5i E r|none=>false
def CQ{α:Type}(E:Env)(t:Nat):List (Nat×V)->List V->(List V->Cmd α)->Cmd α
 |[],cs,K=>K cs
 |(f,v)::r,cs,K=>match Ph E t f with
  |some (off,n,_)=>FU v λvs=>bif Nat.beq vs.length n then PQ off vs cs (λcs' =>CQ E t r cs' K) .fail else .fail|none=> .fail
def JO{α:Type}(sz:Nat):List (Nat×V)->List V->(List V->Cmd α)->Cmd α
 |[],cs,K=>K cs
 |(i,v)::r,cs,K=>FU v λvs=>bif Nat.beq vs.length sz then PQ (i*sz) vs cs (λcs' =>JO sz r cs' K) .fail else .fail
def ai{α:Type} :List MG->List V->List V->Cmd α->Cmd α
 |(_,.box _)::ms,.ptr bx _::vs,.agg cs::os,K=> .get (V6+bx) λ
  | .dead=>Cmd.set (V6+bx) (.bcells cs) (ai ms vs os K)|_=> .fail
 |(_,.box _)::_,_,_,_=> .fail
 |(_,.ifc _ (.box _))::ms,.ifc _ (.ptr bx _)::vs,.agg cs::os,K=> .get (V6+bx) λ
  | .dead=>Cmd.set (V6+bx) (.bcells cs) (ai ms vs os K)|_=> .fail
 |(_,.ifc _ (.box _))::_,_,_,_=> .fail
 |(_,.ownb _)::ms,.own bx none::vs,.own nm none::os,K=> .get (V6+nm) λ
  | .barr u xs=>Cmd.set (V6+nm) .dead (.get (V6+bx) λ
   | .gone t=>Ty.castL u t xs (λxs=>Cmd.set (V6+bx) (.barr t xs) (ai ms vs os K)) .fail
   |_=> .fail)
  |_=> .fail
 |(_,.ownb _)::ms,.nl::vs,.own nm none::os,K=>Cmd.set (V6+nm) .dead (ai ms vs os K)|(_,.ownb _)::_,_,_,_=> .fail
 |(_,.sbx _ _)::ms,.ptr bx _::vs,.ptr nm _::os,K=> .get (V6+nm) λ
  | .bsb tb c=>Cmd.set (V6+nm) .dead (.get (V6+bx) λ
   | .dead=>Cmd.set (V6+bx) (.bsb tb c) (ai ms vs os K)
   |_=> .fail)
  |_=> .fail
 |(_,.sbx _ _)::_,_,_,_=> .fail|(_,.sit)::_,_,_,_=> .fail|_::ms,_::vs,os,K=>ai ms vs os K|[],[],[],K=>K|_,_,_,_=> .fail
def Ty.occ(t:Ty):Ty->Bool
 | .sl u=>decide (t=u) || Ty.occ t u| .prod a b=>Ty.occ t a || Ty.occ t b| .ent _ _ a b=>Ty.occ t a || Ty.occ t b|_=>false
def SK(t:Ty):List Ty->Bool|[]=>false|u::r=>decide (t=u) || Ty.occ t u || SK t r
def M.occ(t:Ty):M->Bool
 | .dat u=>Ty.occ t u| .own u=>Ty.occ t u| .pair a b=>a.occ t || b.occ t| .unit=>false| .box m=>m.occ t| .owns m=>m.occ t| .ownb u=>Ty.occ t u| .rp u=>decide (t=u) || Ty.occ t u| .fn _ ts=>SK t ts| .ifc _ m=>m.occ t| .cell _=>false| .fr u=>decide (t=u) || Ty.occ t u| .sbx _ _=>false| .sit=>false| .lp u=>decide (t=u) || Ty.occ t u| .dv ..=>false| .ownr m _=>m.occ t
def KJ(t:Ty):List MG->Bool|[]=>false|m::r=>m.2.occ t || KJ t r
def Bj(s:FSpec):Ty->Bool:=λt=> !(KJ t s.rs || KJ t s.outs)
def BF:Nat->List V->Option (List V×List V)
 |0,vs=>some ([],vs)
 |n+1,v::vs=>match BF n vs with|some (a,b)=>some (v::a,b)|none=>none
 |_+1,[]=>none
def zN:List V->Bool|[]=>false| .tup _::_=>true|_::r=>zN r
def a2b:List V->V|[v]=>v|vs=> .tup vs
def NU:List MG->List V->Bool
 |(_,.fn g _)::ms,.clos f _::vs=>Nat.beq f g&&NU ms vs|(_,.fn g _)::ms,.fnv f::vs=>Nat.beq f g&&NU ms vs|(_,.ifc t _)::ms,.ifc t' _::vs=>Nat.beq t t' &&NU ms vs|(_,.dv _ _ _ fo)::ms,v::vs=>(match v with| .ep _ _ o=>Nat.beq o fo|_=>false)&&NU ms vs|_::ms,_::vs=>NU ms vs|_,_=>true
def YX:List (Nat×FSpec)->Nat->List V->Option FSpec
 |[],_,_=>none|(g,s)::r,f,vs=>bif Nat.beq g f&&NU s.ps vs then some s else YX r f vs
def a5S(sz fo:Nat)(c:V)(K:V->Cmd α):Cmd α:=match c with
 | .sl u xs=>bif szB sz u then Cmd.opt (U0 xs (Y5 .i64 (x8 xs) 1)) λy=>K (.dp u y fo)else .fail
 | .own bx none=> .get (V6+(NK+bx)) λ
  | .blen ln sz' =>bif Nat.beq sz sz' then .br (inb (Y5 .i64 ln 1) ln) (K (.ep bx (aJ (Y5 .i64 ln 1)) fo)) .fail else .fail
  |_=> .get (V6+bx) λ
   | .barr u xs=>bif szB sz u then Cmd.opt (U0 xs (Y5 .i64 (x8 xs) 1)) λ_=>K (.ep bx (aJ (Y5 .i64 (x8 xs) 1)) fo)else .fail
   | .bfrz u xs=>bif szB sz u then Cmd.opt (U0 xs (Y5 .i64 (x8 xs) 1)) λy=>K (.dp u y fo)else .fail
   | .barrs m xs _=>bif Nat.beq sz m.size then Cmd.opt (U0 xs (Y5 .i64 (x8 xs) 1)) λ_=>K (.ep bx (aJ (Y5 .i64 (x8 xs) 1)) fo)else .fail|_=> .fail
 |_=> .fail
def a1M(off sz fo:Nat)(v:V)(K:V->Cmd α):Cmd α:=match v with
 | .ptr bx o=> .get (V6+bx) λ
  | .bcells cs=>TS (o+off) 1 cs (λr=>match r with|[c]=>a5S sz fo c K|_=> .fail) .fail|_=> .fail
 | .dp u x o=>TS (o+off) 1 (flat u x []) (λr=>match r with|[c]=>a5S sz fo c K|_=> .fail) .fail|_=> .fail
def b9m(a b:V)(K:Cmd α):Cmd α:=match a,b with
 | .ep n i o,.ep n' i' o' =>bif Nat.beq n n' &&Nat.beq o o' then .br (XU i i') K .fail else .fail|_,_=> .fail
def b3e:List V->Nat->V
 |[],_=> .un|v::_,0=>v|_::r,n+1=>b3e r n
def dvC{α:Type}(all:List V):List MG->List V->Cmd α->Cmd α
 |(_,.dv k off sz fo)::ms,v::vs,K=>a1M off sz fo (b3e all k) λr=>b9m r v (dvC all ms vs K)|_::ms,_::vs,K=>dvC all ms vs K|[],[],K=>K|_,_,_=> .fail
def a5r(E:Env)(q:Nat)(d:Option Tmp)(f:Nat)(vs:List V):Cmd Unit:=
 bif Nat.ble 1000000000 f then .fail else
 match YX E.fs f vs with
 |none=> .fail|some s=>dvC vs s.ps vs<|
  Jq (Bj s) s.ps vs λx=>Cmd.opt (s.fn x) λr=>
   CZ (s.rs++s.outs) r (L9 q d) λws n' =>bif Nat.ble n' (L9 q d+64)then(match BF s.rs.length ws with
    |some (a,o)=>bif zN a then .fail else ai s.ps vs o (dX E d (a2b a))
    |none=> .fail)else .fail
abbrev PB:Nat:=1000000000
abbrev cd:MG:=(false,.dat (.int .i64))
def a3z:(l:List MG)->X4 (cd::l)->Int
 |[],x=>x|_::_,x=>x.1
def tlT:(l:List MG)->X4 (cd::l)->X4 l
 |[],_=>()|_::_,x=>x.2
def b6i:List (Nat×FSpec)->Nat->Bool
 |[],_=>false|(g,_)::r,f=>bif Nat.beq g (PB+f)then true else b6i r f
def a2X(E:Env)(q:Nat)(d:Option Tmp)(vs:List V)(ps:List MG):(rs outs:List MG)->(X4 ps->Option (X4 (rs++outs)))->Cmd c5E
 |(false,.dat (.int .i64))::rs,outs,fn=>dvC vs ps vs<|
   Jq (Bj ⟨ps,rs,outs,λ_=>none⟩) ps vs λx=>Cmd.opt (fn x) λr=>
    .br (D6 (a3z (rs++outs) r) 0)
     ((CZ (rs++outs) (tlT (rs++outs) r) (L9 q d) λws n' =>bif Nat.ble n' (L9 q d+64)then(match BF rs.length ws with
      |some (a,o)=>bif zN a then .fail else ai ps vs o (dX E d (a2b a))
      |none=> .fail)else .fail).bind λ_=> .ret none)
     (.ret (some (a3z (rs++outs) r)))
 |_,_,_=> .fail
def a8M(E:Env)(q:Nat)(d:Option Tmp)(f:Nat)(vs:List V):Cmd c5E:=
 match YX E.fs (PB+f) vs with
 |none=> .fail|some s=>a2X E q d vs s.ps s.rs s.outs s.fn
def xk{α:Type} :List MG->List V->(List ((t:Ty)×t.den)->Cmd α)->Cmd α
 |(_,.rp t)::ms,v::vs,K=>rpC t v λx=>xk ms vs λcs=>K (⟨t,x⟩::cs)|[],[],K=>K []|_,_,_=> .fail
def b9k(c:(t:Ty)×t.den):V:=.dp c.1 c.2 0
def Ty.leaves:Ty->List Ty
 | .prod a b=>a.leaves++b.leaves| .unit=>[]|t=>[t]
def Ry:List Ty->List Ty->Bool
 |[],[]=>true|a::r,b::q=>bif Ty.beq a b then Ry r q else false|_,_=>false
def a1k(E:Env)(ke:Nat)(td:TD)(k:Ty):Bool:=
 match td,k with
 | .bool,.bool=>true| .int i,.int j=>decide (i=j)| .str,.str=>true| .struct _,k=>bif k.flat then(match dL E.eqs ke with|some sh=>Ry sh k.leaves|none=>false)else false|_,_=>false
structure MT where
 ke:Nat
 el:Nat
 ka:Bool
 va:Bool
 k:Ty
 v:Ty
abbrev MT.ent(m:MT):Ty:=.ent m.ka m.va m.k m.v
def GU(E:Env)(t:Nat):Option MT:=
 match dL E.tt t with
 |some i=>match i.td with
  | .map ke el=>match dL E.tt ke,dL E.tt el with
   |some a,some b=>(match a.ty,b.ty with
    |some k,some v=>bif a1k E ke a.td k&&k.flat then some ⟨ke,el,bP a.td,bP b.td,k,v⟩else none
    |_,_=>none)
   |_,_=>none
  |_=>none
 |none=>none
def a7c(ag:Bool)(t:Ty)(v:V)(K:t.den->Cmd α):Cmd α:=
 ZH ag v λcs=>nN Ai t cs λx q=>match q with|[]=>K x|_=> .fail
def b0d(u:Ty)(v:V)(K:List u.den->Cmd α):Cmd α:=
 match v with
 | .sl t xs=>Ty.castL t u xs K .fail
 | .own bx none=> .get (V6+bx) λ
  | .barr t xs=>Ty.castL t u xs K .fail| .bfrz t xs=>Ty.castL t u xs K .fail|_=> .fail
 |_=> .fail
def KG(E:Env)(nm t:Nat)(K:V->Cmd Unit):Cmd Unit:=
 match GU E t with
 |some m=>uG nm (.barr m.ent []) (K (.own nm none))|none=> .fail
def a5T(E:Env)(t:Nat)(ok:Bool)(x ix:V)(K:V->Cmd Unit):Cmd Unit:=
 match GU E t with
 |some m=>a7c m.ka m.k ix λkey=>b0d m.ent x λes=>
   bif ok then K (.tup [mkV m.va (flat m.v (JL (keq m.k) es key m.v.zero) []),.b (b2Y (keq m.k) es key)])
   else K (mkV m.va (flat m.v (JL (keq m.k) es key m.v.zero) []))
 |none=> .fail
def a0j(E:Env)(t:Nat)(x ix y:V):Cmd Unit:=
 match GU E t with
 |some m=>a7c m.ka m.k ix λkey=>a7c m.va m.v y λz=>match x with
  | .own bx none=> .get (V6+bx) λ
   | .barr u xs=>Ty.castL u m.ent xs (λes=>Cmd.set (V6+bx) (.barr m.ent (MX (keq m.k) es key z)) (.ret ())) .fail|_=> .fail
  |_=> .fail
 |none=> .fail
def a5x(E:Env)(t:Nat)(x ix:V):Cmd Unit:=
 match GU E t with
 |some m=>a7c m.ka m.k ix λkey=>match x with
  | .own bx none=> .get (V6+bx) λ
   | .barr u xs=>Ty.castL u m.ent xs (λes=>Cmd.set (V6+bx) (.barr m.ent (TM (keq m.k) es key)) (.ret ())) .fail|_=> .fail
  |_=> .fail
 |none=> .fail
def SH:M->List V->Bool
 | .dat _,_=>true| .unit,_=>true
 | .own t,cs=>match cs with| .nl::_=> !t.isEnt|_=>false
 | .owns _,cs=>match cs with| .nl::_=>true|_=>false
 | .pair a b,cs=>match Vu a.size cs with|some r=>bif SH a cs then SH b r else false|none=>false
 |_,_=>false
def a6Q(E:Env)(t:Nat)(m:M):Bool:=
 match Eb E t with
 |some (e,_)=>match dL E.tt e with|some j=>bif Nat.beq j.zero.length j.size then SH m j.zero else false|none=>false
 |none=>false
def Xc:Operand->Operand->Bool
 | .tmp a,.tmp b=>Nat.beq a b|_,_=>false
def b9f(t:Nat)(zs:List V):V:=match zs with
 |[.npt,.nl]=> .bsb t .nl|zs=> .bcells zs
def dE(E:Env)(q:Nat)(o:Oper):Cmd Unit:=
 match o.op with
 | .move x| .assign x=>sW x λv=>dX E o.dst v
 | .pick c a b=>sW c λ
  | .b t=>bif t then sW a λva=>dX E o.dst va else sW b λvb=>dX E o.dst vb|_=> .fail
 | .alloc t=>tiC E t λi=>bif Nat.beq i.zero.length i.size then uG (L9 q o.dst) (b9f t i.zero) (dX E o.dst (.ptr (L9 q o.dst) 0))else .fail
 | .box _ x=>sW x λv=>FU v λcs=>uG (L9 q o.dst) (.bcells cs) (dX E o.dst (.ptr (L9 q o.dst) 0))
 | .build t ps=>tiC E t λi=>match i.td with
  | .struct fs=>bif a5i E fs&&Nat.beq i.zero.length i.size then(Jv (ps.toList.map (·.2)) λvs=>
    CQ E t ((ps.toList.map (·.1)).zip vs) i.zero (λcs=>dX E o.dst (.agg cs)))else .fail
  | .arr _ e=>tiC E e λj=>bif Nat.beq i.zero.length i.size then(Jv (ps.toList.map (·.2)) λvs=>
    JO j.size ((ps.toList.map (·.1)).zip vs) i.zero (λcs=>dX E o.dst (.agg cs)))else .fail
  |_=> .fail
 | .buildSlice t n ps=>match Eb E t with
  |some (_,u)=>bif Nat.ble (n*u.size) 16777216 then(Jv (ps.toList.map (·.2)) λvs=>match dL E.om t with
    |none=>zi u ((ps.toList.map (·.1)).zip vs) 0 n λxs=>uG (L9 q o.dst) (.barr u xs) (dX E o.dst (.own (L9 q o.dst) none))
    |some m=>bif Nat.beq m.size u.size&&m.el then xG m ((ps.toList.map (·.1)).zip vs) 0 n λxs=>uG (L9 q o.dst) (.barrs m xs none) (dX E o.dst (.own (L9 q o.dst) none))else .fail)else .fail
  |none=> .fail
 | .load t x=>sW x λp=>b4H E o.dst (L9 q o.dst) t p λv=>dX E o.dst v
 | .store t x y=>match o.dst with|none=>sW x λp=>sW y λv=>b1S E t p v|some _=> .fail
 | .binOp op t x y _=>sW x λa=>sW y λb=>JQ E t op y a b λv=>dX E o.dst v
 | .unOp op _ x=>sW x λa=>unC op a λv=>dX E o.dst v
 | .convert src t x=>sW x λa=>tiC E src λj=>tiC E t λi=>match a,i.td with
  | .i _ n,.int k=>dX E o.dst (.i k (wrap k n))| .s l,.str=>dX E o.dst (.s l)| .s l,.sl _=>(match j.td with| .str=>a8R E (L9 q o.dst) t l λv=>dX E o.dst v|_=> .fail)
  |_,.str=>(match j.td with
   | .sl e=>tiC E e λk=>(match k.td with
    | .int .u8=>a7L (.int .u8) a λxs=>dX E o.dst (.s (JG xs))
    |_=> .fail)
   |_=> .fail)
  |_,_=> .fail
 | .makeSlice t l c=>match dL E.om t with
  |some m=>(match Eb E t with
   |some (_,u)=>sW l λ
    | .i _ n=>bif Xc l c&&Nat.beq m.size u.size&&a6Q E t m then(if h:m.el=true/\m.ty=u then Cmd.opt (yu n (m.zero h.1)) λxs=>uG (L9 q o.dst) (.barrs m xs none) (.set (V6+(NK+L9 q o.dst)) (.blen (x8 xs) m.size) (dX E o.dst (.own (L9 q o.dst) none)))else .fail)else .fail|_=> .fail
   |none=> .fail)
  |none=>match Eb E t with
  |some (_,u)=>sW l λ
   | .i _ n=>bif Xc l c then
     Cmd.opt (yu n u.zero) λxs=>uG (L9 q o.dst) (.barr u xs) (dX E o.dst (.own (L9 q o.dst) none))
    else sW c λ
     | .i _ k=>Cmd.br (mY n k 1073741824) (Cmd.opt (yu n u.zero) λxs=>uG (L9 q o.dst) (.barr u xs) (dX E o.dst (.own (L9 q o.dst) none))) .fail|_=> .fail
   |_=> .fail
  |none=> .fail
 | .slice t x lo hi none=>sW x λv=>Jv (lo.toList++hi.toList) λbs=>
   match lo,hi,bs with
   |none,none,[]=>(match v with
    | .ptr bx 0=>Xh E (L9 q o.dst) t bx λr=>dX E o.dst r
    |_=>RF E t v none none λr=>dX E o.dst r)
   |some _,none,[a]=>RF E t v (some a) none λr=>dX E o.dst r
   |none,some _,[b]=>RF E t v none (some b) λr=>dX E o.dst r
   |some _,some _,[a,b]=>RF E t v (some a) (some b) λr=>dX E o.dst r|_,_,_=> .fail
 | .fieldAddr t x f=>sW x λp=>match Ph E t f with
  |some (off,_,_)=>match p with
   | .ptr bx o' =>dX E o.dst (.ptr bx (o' +off))| .ep bx ix o' =>dX E o.dst (.ep bx ix (o' +off))| .dp u y o' =>dX E o.dst (.dp u y (o' +off))|_=> .fail
  |none=> .fail
 | .indexAddr t x ix=>sW x λv=>sW ix λn=>VL E t v n λr=>dX E o.dst r
 | .index t x ix=>sW x λv=>sW ix λn=>tiC E t λi=>match i.td,v,n with
  | .str,.s l,.i _ k=>Cmd.opt (sat l k) λc=>dX E o.dst (.i .u8 c)|_,_,_=> .fail
 | .extract x n=>sW x λ
  | .tup vs=>match vs[n]? with|some v=>dX E o.dst v|none=> .fail
  |_=> .fail
 | .nilCheck x=>sW x λv=>match v with
  | .ptr ..| .ep ..| .dp ..| .glob _=>dX E o.dst v|_=> .fail
 | .call c=>Jv c.args.toList λvs=>match c.callee with
  | .builtin .len=>(match c.argTypes.toList,vs with
   |t::_,[x]=>tiC E t λi=>b9q i.td x λv=>dX E o.dst v
   |_,_=> .fail)
  | .builtin .append=>(match c.argTypes.toList,vs with
   |[t,t'],[x,y]=>bif Nat.beq t t' then a5m E (L9 q o.dst) t x y λv=>dX E o.dst v else(match y with
    | .s l=>tiC E t' λi=>(match i.td with| .str=>a5n E (L9 q o.dst) t x l λv=>dX E o.dst v|_=> .fail)
    |_=> .fail)
   |_,_=> .fail)
  | .builtin .delete=>(match o.dst,c.argTypes.toList,vs with|none,t::_,[x,ix]=>a5x E t x ix|_,_,_=> .fail)| .builtin .min=>(match vs with|[.i k a,.i k' b]=>bif decide (k=k')then dX E o.dst (.i k (EJ a b))else .fail|_=> .fail)| .builtin .max=>(match vs with|[.i k a,.i k' b]=>bif decide (k=k')then dX E o.dst (.i k (CW a b))else .fail|_=> .fail)
  | .value (.func f)=>(match dL E.pl f with
   |some (off,sz)=>bif Nat.beq sz 0 then .fail else(match vs with|[v]=>a1M off sz 0 v λr=>dX E o.dst r|_=> .fail)
   |none=>a5r E q o.dst f vs)
  | .value x=>sW x λ
   | .clos f caps=>a5r E q o.dst f (vs++caps.map b9k)|_=> .fail
  |_=> .fail
 | .makeFunc (.func f) first caps=>bif Nat.beq first.size 0 then(match dL E.pl f with
  |some (n,z)=>bif Nat.beq z 0&&Nat.beq caps.size n then dX E o.dst (.idl f n)else .fail
  |none=>(match dL E.fs f with
   |some s=>Jv caps.toList λvs=>xk (s.ps.drop (s.ps.length -vs.length)) vs λcs=>dX E o.dst (.clos f cs)
   |none=> .fail))else .fail
 | .makeInterface t x=>tiC E t λi=>(match i.td with
  | .bool| .int _| .str| .ptr _=>sW x λv=>(match v with
   | .b ..| .i ..| .s ..| .ptr ..=>dX E o.dst (.ifc t v)
   |_=> .fail)
  |_=> .fail)
 | .makeMap t r=>(match r with
  |none=>KG E (L9 q o.dst) t λv=>dX E o.dst v
  |some h=>sW h λ
   | .i _ _=>KG E (L9 q o.dst) t λv=>dX E o.dst v
   |_=> .fail)
 | .range t x=>sW x λv=>tiC E t λi=>match i.td,v with
  | .str,.s l=>uG (L9 q o.dst) (.biter l 0) (dX E o.dst (.ptr (L9 q o.dst) 0))|_,_=> .fail
 | .next x isS=>bif isS then(sW x λ
   | .ptr bx 0=> .get (V6+bx) λ
    | .biter l p=> .br (I7 p (x8 l)) (Cmd.set (V6+bx) (.biter l (yO l p)) (dX E o.dst (.tup [.b true,.i .i64 p,.i .i32 (uY l p)]))) (dX E o.dst (.tup [.b false]))|_=> .fail
   |_=> .fail)else .fail
 | .lookup t x ix ok=>sW x λm=>sW ix λk=>a5T E t ok m k λv=>dX E o.dst v
 | .mapUpdate t x ix y| .insert t x ix y=>match o.dst with|none=>sW x λm=>sW ix λk=>sW y λv=>a0j E t m k v|some _=> .fail
 |_=> .fail
def Jh(E:Env)(q:Nat)(ops:List Oper)(o:Oper):Cmd Unit:=
 match o.guard with
 |none=>dE E q o
 |some (j,want)=>match ops[j]? with
  |some p=>match p.dst with
   |some t=>bif Nat.blt t V6 then(.get t λ
    | .b y=>bif (bif want then y else !y)then dE E q o else dX E o.dst .un| .un=>dX E o.dst .un
    |_=> .fail)else .fail
   |none=> .fail
  |none=> .fail
def Dc(E:Env)(o:Oper):Option Nat:=match o.op with
 | .call c=>(match c.callee with
  | .value (.func f)=>bif b6i E.fs f then some f else none
  |_=>none)
 |_=>none
def opP(E:Env)(q:Nat)(o:Oper)(f:Nat):Cmd c5E:=match o.op with
 | .call c=>Jv c.args.toList λvs=>a8M E q o.dst f vs|_=> .fail
def Hr(E:Env)(q:Nat)(ops:List Oper)(o:Oper)(f:Nat):Cmd c5E:=
 match o.guard with
 |none=>opP E q o f
 |some (j,want)=>match ops[j]? with
  |some p=>match p.dst with
   |some t=>bif Nat.blt t V6 then(.get t λ
    | .b y=>bif (bif want then y else !y)then opP E q o f else(dX E o.dst .un).bind λ_=> .ret none
    | .un=>(dX E o.dst .un).bind λ_=> .ret none
    |_=> .fail)else .fail
   |none=> .fail
  |none=> .fail
def b9r(x:c5E):Cmd Unit:=match x with|none=> .ret ()|some _=> .fail
def oz(E:Env)(q:Nat)(ops:List Oper)(o:Oper):Cmd Unit:=match Dc E o with
 |none=>Jh E q ops o|some f=>(Hr E q ops o f).bind b9r
def PT(t:Nat)(s:St)(K:St->Option R):Option R:=
 (U7 s t).force λ
  | .b y=>l9 y (K (.kv t (.b true)::s)) (K (.kv t (.b false)::s))| .un=>K s|_=>none
def a8D(ops:List Oper)(o:Oper):Option Nat:=
 match o.guard with
 |some (j,_)=>match ops[j]? with|some p=>p.dst|none=>none
 |none=>match o.op with| .pick (.tmp t) _ _=>some t|_=>none
abbrev Trs:=List Tr
def CY{R:Type}(E:Env)(q:Nat)(all:List Oper)(P:Int->St->Tr->Trs->Option R):List Oper->St->Trs->(St->Trs->Option R)->Option R
 |[],s,t,K=>K s t
 |o::r,s,t,K=>match Dc E o with
  |none=>(match a8D all o with
   |none=>(Jh E q all o).runK s ([],[]) λ_ s' tr=>CY E q all P r s' (tr::t) K
   |some p=>PT p s λs=>(Jh E q all o).runK s ([],[]) λ_ s' tr=>CY E q all P r s' (tr::t) K)
  |some f=>(match a8D all o with
   |none=>(Hr E q all o f).runK s ([],[]) λx s' tr=>(match x with|none=>CY E q all P r s' (tr::t) K|some c=>P c s' tr t)
   |some p=>PT p s λs=>(Hr E q all o f).runK s ([],[]) λx s' tr=>(match x with|none=>CY E q all P r s' (tr::t) K|some c=>P c s' tr t))
def Fv:c5B->c5B->Bool
 |[],[]=>true|a::r,b::q=>bif Nat.beq a b then Fv r q else false|_,_=>false
def qj(o:Oper):Bool:=match o.op with| .call ..=>true|_=>false
def ZY(E:Env)(o:Oper):Bool:=!qj o&&(match o.dst with|some d=>Cj d E.rc|none=>false)
def a8Y(E:Env)(all:List Oper)(i:Nat):Bool:=match all[i]? with|some o=>ZY E o|none=>false
def ZG(all:List Oper)(i:Nat):Bool:=match all[i]? with|some o=>qj o|none=>false
def b2j(a b:V)(K:Option R):Option R:=
 a.force λa=>b.force λb=>match a with
  | .i k n=>(match b with| .i k' n' =>bif decide (k=k')then l9 (D6 n n') K none else none|_=>none)| .sl t xs=>(match b with| .sl u ys=>Ty.castL u t ys (λys=>l9 (deq (.sl t) xs ys) K none) none|_=>none)| .b x=>(match b with| .b y=>l9 (UV x y) K none|_=>none)| .s x=>(match b with| .s y=>l9 (seq x y) K none|_=>none)|_=>none
abbrev a6R:=List (Oper×Tr×V)
def Zc{R:Type}(E:Env)(q:Nat)(all:List Oper)(s:St):a6R->Option R->Option R
 |[],K=>K
 |(o,tr,v)::p,K=>(oz E q all o).runK s ([],[]) λ_ s2 tr2=>match o.dst with
  |some d=>bif Fv tr.1 tr2.1&&Fv tr.2 tr2.2&&Fv tr2.2 [d]then b2j v (U7 s2 d) (Zc E q all s p K)else none|none=>none
def WG(E:Env)(o:Oper)(s:St)(tr:Tr)(p:a6R):a6R:=
 bif ZY E o then(match o.dst with|some d=>(o,tr,U7 s d)::p|none=>p)else p
def Aw{R:Type}(E:Env)(q:Nat)(all:List Oper):List Oper->St->Trs->a6R->(St->Trs->Option R)->Option R
 |[],s,t,_,K=>K s t
 |o::r,s,t,p,K=>match a8D all o with
  |none=>(oz E q all o).runK s ([],[]) λ_ s' tr=>bif qj o then Zc E q all s' p (Aw E q all r s' (tr::t) p K)else Aw E q all r s' (tr::t) (WG E o s' tr p) K
  |some g=>PT g s λs=>(oz E q all o).runK s ([],[]) λ_ s' tr=>bif qj o then Zc E q all s' p (Aw E q all r s' (tr::t) p K)else Aw E q all r s' (tr::t) (WG E o s' tr p) K
def OY(a b:c5B):Bool:=match a with|[]=>true|k::r=>bif Cj k b then false else OY r b
def Wy(ordered:Bool)(x y:Tr):Bool:=bif ordered then true else(OY x.2 y.1&&OY x.2 y.2&&OY x.1 y.2)
def MI(mask:Nat)(y:Tr):Trs->Nat->Bool
 |[],_=>true|x::r,i=>Wy (Nat.testBit mask (i -1)) x y&&MI mask y r (i -1)
def Oh:c5B->Trs->Bool
 |m::ms,y::r=>MI m y r r.length&&Oh ms r|[],[]=>true|_,_=>false
def a5Y(mask:Nat)(x:Tr):List (Nat×Tr)->Bool
 |[]=>true|(m,z)::r=>(Nat.testBit mask m || OY x.1 z.2)&&a5Y mask x r
def a6f(ordered ex:Bool)(mask:Nat)(x y:Tr)(mids:List (Nat×Tr)):Bool:=
 bif ordered then true else(OY x.2 y.1&&OY x.2 y.2&&(bif OY x.1 y.2 then true else(ex&&OY x.2 x.1&&a5Y mask x mids)))
def PG(E:Env)(all:List Oper)(mask:Nat)(y:Tr)(cy:Bool):Trs->Nat->List (Nat×Tr)->Bool
 |[],_,_=>true|x::r,i,mids=>a6f (Nat.testBit mask (i -1)) (cy&&a8Y E all (i -1)) mask x y mids&&PG E all mask y cy r (i -1) ((i -1,x)::mids)
def PH(E:Env)(all:List Oper):c5B->Trs->Bool
 |m::ms,y::r=>PG E all m y (ZG all r.length) r r.length []&&PH E all ms r|[],[]=>true|_,_=>false
inductive Flow (ρ:Type) where
 |nm|ex (id:Nat)|rt (r:ρ)
def Np(acc:c5B)(n:Nat):List Edge->Nat->Option Nat
 |[],m=>some m
 |e::r,m=>match e.ground with
  | .textOnly _=>Np acc n r m| .gcOnly _=>Np acc n r m|_=>bif Nat.blt e.on n then Np acc n r (m ||| 2^e.on ||| acc.getD (n -1 -e.on) 0)else none
def TQ:List Oper->Nat->c5B->Option c5B
 |[],_,acc=>some acc
 |o::r,n,acc=>match Np acc n o.after.toList 0 with
  |some m=>TQ r (n+1) (m::acc)|none=>none
def Om(md:Region.Mode)(done:c5B):List Edge->Bool
 |[]=>true|e::r=>bif (!Region.binds md e || Cj e.on done)then Om md done r else false
def xK(md:Region.Mode)(done:c5B):List Oper->Nat->Option Nat
 |[],_=>none|o::r,n=>bif Cj n done then xK md done r (n+1)else bif Om md done o.after.toList then some n else xK md done r (n+1)
def a5h:Nat->c5B->Bool
 |0,_=>true|n+1,d=>Cj n d&&a5h n d
def Xq(md:Region.Mode)(ops:List Oper):Nat->c5B->Bool
 |0,d=>a5h ops.length d
 |k+1,done=>match xK md done ops 0 with|some n=>Xq md ops k (n::done)|none=>false
def Rh:List Edge->Bool
 |[]=>true
 |e::r=>match e.ground with| .textOnly _=>false| .gcOnly _=>false|_=>Rh r
def Ak:List Oper->Bool|[]=>true|o::r=>bif Rh o.after.toList then Ak r else false
def a8W(ops:List Oper)(t:Trs):Bool:=
 match TQ ops 0 []with
 |some ms=>bif Oh ms t then(bif Ak ops then true else Xq .text ops ops.length []&&Xq .gc ops ops.length [])else false|none=>false
def Fq{R:Type}(E:Env)(q:Nat)(all:List Oper)(k:Nat):List Oper->c5B->St->Trs->(St->Trs->Option R)->Option R
 |[],[],s,t,K=>K s t
 |o::l,m::ms,s,t,K=>bif Nat.testBit m k then Fq E q all k l ms s (([],[])::t) K else(oz E q all o).runK s ([],[]) λ_ s' tr=>Fq E q all k l ms s' (tr::t) K|_,_,_,_,_=>none
def a0B(x:Tr):Trs->Bool
 |[]=>true|y::r=>bif Wy false x y then a0B x r else false
def Ul(ops:List Oper)(ms:c5B)(tr:Tr)(t tl:Trs):Bool:=
 bif Oh ms (tl++([],[])::t)&&a0B tr tl then(match ms.drop (ops.length -1 -t.length)with
  |m::_=>bif MI m tr t t.length then(bif Ak ops then true else Xq .text ops ops.length []&&Xq .gc ops ops.length [])else false
  |[]=>false)else false
def wrs:Trs->c5B
 |[]=>[]|x::r=>x.2++wrs r
def a5C(E:Env)(ops:List Oper)(t:Trs):Bool:=
 match TQ ops 0 []with
 |some ms=>bif PH E ops ms t then(bif Ak ops then true else Xq .text ops ops.length []&&Xq .gc ops ops.length [])else false|none=>false
abbrev Rgs:=List (Nat×Nat)
inductive Ann where
 |leaf
 |seq (a b:Ann)|cond (a b:Ann)|blk (a:Ann)
 |loop (rs:Rgs) (hd:Sig) (xid:Nat) (xs:Sig) (body:Ann)
 |loopR (rs:Rgs) (hd:Sig) (xid:Nat) (xs:Sig) (body:Ann)
 |join (rs:Rgs) (nm:Sig) (inner:Ann)
 |joinR (rs:Rgs) (nm:Sig) (inner:Ann)
structure Ret where
 rs:List (ResultVar×MG)
 outs:List (Nat×MG)
@[reducible] def Ret.den (r:Ret):Type:=X4 (r.rs.map (·.2)++r.outs.map (·.2))
def Rt{α:Type}(E:Env):List ResultVar->(List V->Cmd α)->Cmd α
 |[],K=>K []| .tmp t::r,K=>bif Nat.blt t V6 then(.get t λv=>Rt E r λvs=>K (v::vs))else .fail| .cell a t::r,K=>bif Nat.blt a V6 then(.get a λp=>GN E t p λv=>Rt E r λvs=>K (v::vs))else .fail
def QX{α:Type} :c5B->(List V->Cmd α)->Cmd α
 |[],K=>K []
 |n::r,K=>bif Nat.blt n V6 then .get n λv=>(match v with
  | .ptr bx 0=> .get (V6+bx) λ
   | .bcells cs=>Cmd.set (V6+bx) .dead (QX r λvs=>K (.agg cs::vs))|_=> .fail
  | .ifc _ u=>(match u with
   | .ptr bx 0=> .get (V6+bx) λ
    | .bcells cs=>Cmd.set (V6+bx) .dead (QX r λvs=>K (.agg cs::vs))|_=> .fail
   |_=> .fail)
  | .own bx none=>QX r λvs=>K (.own bx none::vs)
  |_=> .fail)else .fail
def b0D(E:Env)(r:Ret):Cmd r.den:=
 Rt E (r.rs.map (·.1)) λvs=>QX (r.outs.map (·.1)) λws=>Ie (vs++ws) (Jq Ai (r.rs.map (·.2)++r.outs.map (·.2)) (vs++ws) .ret)
def Ann.l:Ann->Ann| .seq a _=>a| .cond a _=>a| .blk a=>a|_=> .leaf
def Ann.r:Ann->Ann| .seq _ b=>b| .cond _ b=>b|_=> .leaf
def vT:Code->Nat
 | .region ..=>2| .seq x y=>1+vT x+vT y| .cond _ x y=>1+vT x+vT y| .block _ x=>1+vT x| .loop x=>3+vT x|_=>1
abbrev Den(ρ:Type):=Nat->Ann->St->Rgs->(R:Type)->(Flow ρ->St->Rgs->Option R)->Option R
def VK(lo hi:Nat):Rgs->Bool|[]=>false|(a,b)::r=>bif Nat.ble a lo&&Nat.ble hi b then true else VK lo hi r
def Vm(lim:Nat)(rs:Rgs):Rgs->Bool|[]=>true|(a,b)::w=>bif Nat.ble lim a || VK a b rs then Vm lim rs w else false
def Jt(ks:c5B)(w:Rgs):Rgs:=match ks with|[]=>w|k::r=>(k,k+1)::Jt r w
def uX(rs:Rgs)(s:St):St:=match rs with|[]=>s|(a,b)::r=> .mask a b::uX r s
def EZ(q:Nat)(sg:Sig)(rs:Rgs)(s:St)(w:Rgs)(K:lZ sg->Option R):Option R:=
 (a9a sg).runK s ([],[]) λx _ tr=>bif Vm (V6+CB*q) rs (Jt tr.2 w)then K x else none
def enter(q:Nat)(sg:Sig)(rs:Rgs)(s:St)(x:lZ sg)(K:St->Rgs->Option R):Option R:=
 (a8X sg x (CB*q) (CB*q+CB)).runK (uX rs s) ([],[]) λ_ s' tr=>K s' (Jt tr.2 rs)
def TB(a b:Rgs):Rgs:=match a with|[]=>b|x::r=>x::TB r b
def JE(core:Den ρ):Den ρ:=λq a s w R K=>
 match a with
 | .join rs nm a=>o5 (core (q+1) a s [] (lZ nm) λfl s' w' =>match fl with
   | .nm=>EZ q nm rs s' w' some
   |_=>none) λx=>enter q nm rs s x λs' w' =>K .nm s' (TB w' w)
 | .joinR rs nm a=>o5 (core (q+1) a s [] (lZ nm⊕ρ) λfl s' w' =>match fl with
   | .nm=>EZ q nm rs s' w' λx=>some (Sum.inl x)| .rt r=>some (Sum.inr r)
   |_=>none) λo=>dw o (λx=>enter q nm rs s x λs' w' =>K .nm s' (TB w' w)) (λr=>K (.rt r) [] [])
 |a=>core (q+1) a s w R K
def b0F(core:Den ρ)(q:Nat)(rs:Rgs)(hd:Sig)(xid:Nat)(xs:Sig)(a:Ann)(s:St)(x:lZ hd):Option (lZ hd⊕lZ xs):=
 enter q hd rs s x λs w=>core (q+2) a s w (lZ hd⊕lZ xs) λfl s' w' =>match fl with
  | .nm=>EZ q hd rs s' w' λx=>some (Sum.inl x)
  | .ex id=>bif Nat.beq id xid then EZ q xs rs s' w' λy=>some (Sum.inr y)else none| .rt _=>none
def b0G(core:Den ρ)(q:Nat)(rs:Rgs)(hd:Sig)(xid:Nat)(xs:Sig)(a:Ann)(s:St)(x:lZ hd):Option (Out (lZ hd) (lZ xs) ρ):=
 enter q hd rs s x λs w=>core (q+2) a s w (Out (lZ hd) (lZ xs) ρ) λfl s' w' =>match fl with
  | .nm=>EZ q hd rs s' w' λx=>some (.nx x)
  | .ex id=>bif Nat.beq id xid then EZ q xs rs s' w' λy=>some (.ex y)else none| .rt r=>some (.rt r)
def a1s(core:Den ρ):Den ρ:=λq a s w R K=>
 match a with
 | .loop rs hd xid xs a=>EZ q hd rs s [] λx0=>
  o5 (aS (λx=>b0F core q rs hd xid xs a s x) x0) λy=>enter (q+1) xs rs s y λs' w' =>K (.ex xid) s' (TB w' w)
 | .loopR rs hd xid xs a=>EZ q hd rs s [] λx0=>
  o5 (Y9 (λx=>b0G core q rs hd xid xs a s x) x0) λo=>dw o (λy=>enter (q+1) xs rs s y λs' w' =>K (.ex xid) s' (TB w' w)) (λr=>K (.rt r) [] [])
 |_=>none
def ww(t:Trs)(w:Rgs):Rgs:=match t with|[]=>w|x::r=>Jt x.2 (ww r w)
def H_(E:Env)(q:Nat)(ops:Array Oper)(draw:Bool)(s:St)(w:Rgs)(K:St->Rgs->Option R)(P:Int->St->c5B->Option R):Option R:=
 match E.rc with
 |[]=>CY E q ops.toList (λc s' tr t=>bif draw then(match TQ ops.toList 0 []with
   |some ms=>Fq E q ops.toList t.length (ops.toList.drop (t.length+1)) ((ms.take (ops.toList.length -1 -t.length)).reverse) s' [] λs2 tl=>bif Ul ops.toList ms tr t tl then P c s2 (wrs tl++wrs t)else none
   |none=>none)else P c s' []) ops.toList s [] λs' t=>
  bif draw then(bif a8W ops.toList t then K s' (ww t w)else none)else K s' (ww t w)
 |_::_=>Aw E q ops.toList ops.toList s [] [] λs' t=>
  bif draw then(bif a5C E ops.toList t then K s' (ww t w)else none)else K s' (ww t w)
def b9t(pan:Int->Cmd ρ)(K:Flow ρ->St->Rgs->Option R)(c:Int)(s:St)(ws:c5B):Option R:=
 (pan c).runK s ([],[]) λx _ tr=>bif OY tr.1 ws then K (.rt x) [] []else none
def BZ{ρ:Type}(E:Env)(rt:Ret)(ret:rt.den->ρ)(pan:Int->Cmd ρ):Code->Den ρ
 | .skip=>JE λ_ _ s w _ K=>K .nm s w
 | .label _=>JE λ_ _ s w _ K=>K .nm s w
 | .region _ ops draw=>JE λq _ s w _ K=>H_ E q ops draw s w (λs' w' =>K .nm s' w') (b9t pan K)
 | .seq x y=>JE λq a s w R K=>BZ E rt ret pan x q a.l s w R λfl s' w' =>match fl with
   | .nm=>BZ E rt ret pan y (q+vT x) a.r s' w' R K| .ex id=>K (.ex id) s' w'| .rt r=>K (.rt r) s' w'
 | .cond c x y=>JE λq a s w R K=>(sW c λv=>Cmd.ret v:Cmd V).runK s ([],[]) λv s' _=>match v with
   | .b t=>l9 t (BZ E rt ret pan x q a.l s' w R K) (BZ E rt ret pan y (q+vT x) a.r s' w R K)|_=>none
 | .block id x=>JE λq a s w R K=>BZ E rt ret pan x q a.l s w R λfl s' w' =>match fl with
   | .nm=>K .nm s' w'| .ex j=>bif Nat.beq j id then K .nm s' w' else K (.ex j) s' w'| .rt r=>K (.rt r) s' w'
 | .loop x=>JE (a1s λq a s w R K=>BZ E rt ret pan x q a s w R K)
 | .exit id=>JE λ_ _ s w _ K=>K (.ex id) s w
 | .ret=>JE λ_ _ s _ _ K=>(b0D E rt).runK s ([],[]) λr _ _=>K (.rt (ret r)) [] []
 |_=>λ_ _ _ _ _ _=>none
def b2J(E:Env)(rt:Ret)(ret:rt.den->ρ)(fl:Flow ρ)(s:St):Option ρ:=match fl with
 | .rt r=>some r
 | .nm=>(b0D E rt).runK s ([],[]) λr _ _=>some (ret r)| .ex _=>none
def den(E:Env)(rt:Ret):Code->Den rt.den:=BZ E rt (λr=>r) (λ_=> .fail)
def jE:List MG->Nat->c5B
 |[],_=>[]|(_,.box _)::ms,n=>n::jE ms (n+1)|(_,.ifc _ (.box _))::ms,n=>n::jE ms (n+1)|(_,.ownb _)::ms,n=>n::jE ms (n+1)|_::ms,n=>jE ms (n+1)
def a2w:c5B->c5B->Bool
 |[],_=>true|a::r,b=>bif Cj a b then a2w r b else false
def a1A:List MG->Bool
 |[]=>true|(_,.sbx _ _)::_=>false|(_,.sit)::_=>false|_::r=>a1A r
def ZT:List MG->Nat->Cmd Unit->Cmd Unit
 |[],_,K=>K
 |(_,.dv k off sz fo)::ms,n,K=>bif Nat.blt k V6&&Nat.blt n V6 then .get k λv=>a1M off sz fo v λr=> .set n r (ZT ms (n+1) K)else .fail|_::ms,n,K=>ZT ms (n+1) K
def a7f(E:Env)(ps:List MG)(rt:Ret)(body:Code)(a:Ann)(x:X4 ps):Option rt.den:=
 bif Nat.ble ps.length E.nt&&Fv (rt.outs.map (·.1)) (jE ps 0)&&a2w (rt.outs.map (·.1)) E.kp&&a1A ps then
 (CZ ps x 0 λvs n=>bif Nat.ble n CB then FB (List.range vs.length) vs (ZT ps 0 (.ret ()))else .fail).runK [] ([],[]) λ_ s _=>
  BZ E rt (λr=>r) (λ_=> .fail) body 1 a s [] rt.den λfl s' _=>b2J E rt (λr=>r) fl s'
 else none
end Go.GP
namespace Go.GP
open RowKit
def dJ(h:Array Obj)(blk off n:Nat):Option c5A:=
 match h[blk]? with
 |some (.cells c _ _)=>if off+n<=c.size then some ((c.toList.drop off).take n)else none|_=>none
variable {h:Array Obj}{h':Array Obj}{blk:Nat}
theorem tH(e:h'[blk]? =h[blk]?)(off n:Nat):dJ h' blk off n=dJ h blk off n:=by simp[dJ,e]
variable {n:Nat}{off:Nat}{es:c5A}
theorem oI(e:dJ h blk off n=some es):es.length=n:=by
 unfold dJ at e;split at e
 .split at e
  .cases e;simp;omega
  .cases e
 .cases e
theorem kE{c:Array Value}{T:TypeId}{f:Nat×Nat}(hb:h[blk]? =some (.cells c T f))(off n:Nat)(hn:off+n<=c.size):
  dJ h blk off n=some ((c.toList.drop off).take n):=by simp[dJ,hb,hn]
theorem tJ(e:dJ h blk off n=some es):
  ∃c T f,h[blk]? =some (.cells c T f)/\off+n<=c.size/\es=(c.toList.drop off).take n:=by
 unfold dJ at e;split at e
 .rename_i c T f hb;split at e
  .cases e;exact⟨c,T,f,hb,by assumption,rfl⟩
  .cases e
 .cases e
theorem qI(e:dJ h blk off n=some es)(a k:Nat)(hk:a+k<=n):
  dJ h blk (off+a) k=some ((es.drop a).take k):=by
 obtain⟨c,T,f,hb,hn,rfl⟩:=tJ e;rw[kE hb _ _ l7];congr 1;rw[kG,jq,Z4];congr 1;omega
def qA(ag:Bool)(v:Value):c5A:=match ag with
 |true=>v.cells.toList|false=>[v]
def gok(ag:Bool)(v:Value):Prop:=match ag with
 |true=>∃arr,v= .agg arr|false=>v.oneCell' =true
def yL(t:Ty)(e:MapEntry):c5A:=match t with
 | .ent ka va _ _=>qA ka e.key++qA va e.val|_=>[]
def Nq(t:Ty)(e:MapEntry):Prop:=match t with
 | .ent ka va k v=>gok ka e.key/\gok va e.val/\(qA ka e.key).length=k.size|_=>False
def b9c:Option IntKind->Value->Prop
 |none,_=>True|some k,v=>∃n,v= .int k n
def uo(es:Array MapEntry)(ck n:Nat):Prop:=es.size=n/\(∀e∈es.toList,e.born<ck)/\(es.toList.map (·.born)).Nodup
def lJ(h:Array Obj)(ok:Nat->Ty->Prop):(t:Ty)->t.den->c5A->Prop
 | .ent _ _ a b,x,cs=>∃c d,cs=c++d/\lJ h ok a x.1 c/\lJ h ok b x.2 d| .bool,x,cs=>cs=[.bool x]| .int k,n,cs=>cs=[.int k n]| .str,l,cs=>cs=[.string ⟨l.toArray⟩]| .prod a b,x,cs=>∃c d,cs=c++d/\lJ h ok a x.1 c/\lJ h ok b x.2 d| .unit,_,cs=>cs=[]| .any o,_,cs=>∃v,cs=[v]/\v.oneCell' =true/\b9c o v
 | .sl t,xs,cs=>(t.isEnt=false/\∃a cap,cs=[.slice a xs.length cap]/\xs.length<=cap/\
   ∀i x,xs[i]? =some x->∃blk off es,a=some ⟨blk,off,none⟩/\ok blk t/\dJ h blk (off+i*t.size) t.size=some es/\lJ h ok t x es)\/
   (t.isEnt=true/\∃mv,cs=[.map mv]/\(mv=none->xs=[])/\∀blk,mv=some blk->ok blk t/\∃(es:Array MapEntry) (ck:Nat),h[blk]? =some (.map es ck)/\uo es ck (xs:List t.den).length/\
    ∀(i:Nat) (x:t.den),(xs:List t.den)[i]? =some x->∃e:MapEntry,es[i]? =some e/\Nq t e/\lJ h ok t x (yL t e))
variable {t:Ty}{xs:List t.den}{ok:Nat->Ty->Prop}
theorem zo{cs:c5A}(ht:t.isEnt=false):lJ h ok (.sl t) xs cs↔∃a cap,cs=[.slice a xs.length cap]/\xs.length<=cap/\
   ∀i x,xs[i]? =some x->∃blk off es,a=some ⟨blk,off,none⟩/\ok blk t/\dJ h blk (off+i*t.size) t.size=some es/\lJ h ok t x es:=by
 constructor
 .rintro(h|h)
  .exact h.2
  .rw[ht]at h;cases h.1
 .exact λh=> .inl ⟨ht,h⟩
theorem Q_{cs:c5A}(ht:t.isEnt=true):lJ h ok (.sl t) xs cs↔∃mv,cs=[.map mv]/\(mv=none->xs=[])/\∀blk,mv=some blk->ok blk t/\∃(es:Array MapEntry) (ck:Nat),h[blk]? =some (.map es ck)/\uo es ck (xs:List t.den).length/\
    ∀(i:Nat) (x:t.den),(xs:List t.den)[i]? =some x->∃e:MapEntry,es[i]? =some e/\Nq t e/\lJ h ok t x (yL t e):=by
 constructor
 .rintro(h|h)
  .rw[ht]at h;cases h.1
  .exact h.2
 .exact λh=> .inr ⟨ht,h⟩
theorem fO{h:Array Obj}{ok:Nat->Ty->Prop} :∀{t:Ty} {x:t.den} {cs:c5A},lJ h ok t x cs->cs.length=t.size
 | .bool,_,_,e=>by simp[lJ]at e;simp[e,Ty.size]| .int _,_,_,e=>by simp[lJ]at e;simp[e,Ty.size]| .str,_,_,e=>by simp[lJ]at e;simp[e,Ty.size]| .unit,_,_,e=>by simp[lJ]at e;simp[e,Ty.size]| .any _,_,_,e=>by obtain⟨v,rfl,_⟩:=e;rfl
 | .prod a b,_,_,e=>by obtain⟨c,d,rfl,h1,h2⟩:=e;simp[fO h1,fO h2,Ty.size]
 | .ent _ _ a b,_,_,e=>by obtain⟨c,d,rfl,h1,h2⟩:=e;simp[fO h1,fO h2,Ty.size]
 | .sl t,_,_,e=>by rcases e with⟨_,a,cap,rfl,_⟩|⟨_,mv,rfl,_⟩<;>simp[Ty.size]
theorem dU{h h' :Array Obj}{ok ok' :Nat->Ty->Prop}(hok:∀b t,ok b t->ok' b t)(hh:∀b t,ok b t->h'[b]? =h[b]?):
  ∀{t:Ty} {x:t.den} {cs:c5A},lJ h ok t x cs->lJ h' ok' t x cs
 | .bool,_,_,e=>e| .int _,_,_,e=>e| .str,_,_,e=>e| .unit,_,_,e=>e| .any _,_,_,e=>e| .prod a b,_,_,e=>by obtain⟨c,d,rfl,h1,h2⟩:=e;exact⟨c,d,rfl,dU hok hh h1,dU hok hh h2⟩
 | .ent _ _ a b,_,_,e=>by obtain⟨c,d,rfl,h1,h2⟩:=e;exact⟨c,d,rfl,dU hok hh h1,dU hok hh h2⟩
 | .sl t,xs,_,e=>by
  rcases e with⟨ht,a,cap,rfl,hc,hx⟩|⟨ht,mv,rfl,hn,hx⟩
  .refine .inl ⟨ht,a,cap,rfl,hc,λi x hi=>?_⟩;obtain⟨blk,off,es,ha,hb,he,hr⟩:=hx i x hi;exact⟨blk,off,es,ha,hok _ _ hb,by rw[tH (hh _ _ hb)];exact he,dU hok hh hr⟩
  .refine .inr ⟨ht,mv,rfl,hn,λblk hb=>?_⟩;obtain⟨ho,es,ck,he,hs,hi⟩:=hx blk hb;refine⟨hok _ _ ho,es,ck,by rw[hh _ _ ho];exact he,hs,λi x hx=>?_⟩;obtain⟨e,h1,h2,h3⟩:=hi i x hx;exact⟨e,h1,h2,dU hok hh h3⟩
theorem oZ{h h' :Array Obj}{ok ok' :Nat->Ty->Prop} :∀{t:Ty} {x:t.den} {cs:c5A},t.flat=true->lJ h ok t x cs->lJ h' ok' t x cs
 | .bool,_,_,_,e=>e| .int _,_,_,_,e=>e| .str,_,_,_,e=>e| .unit,_,_,_,e=>e| .prod a b,_,_,f,e=>by simp[Ty.flat]at f;obtain⟨c,d,rfl,h1,h2⟩:=e;exact⟨c,d,rfl,oZ f.1 h1,oZ f.2 h2⟩
 | .sl t,xs,_,f,e=>by simp[Ty.flat]at f| .ent ..,xs,_,f,e=>by simp[Ty.flat]at f| .any _,xs,_,f,e=>by simp[Ty.flat]at f
theorem xU{h:Array Obj}{ok:Nat->Ty->Prop} :∀{t:Ty} {x:t.den} {cs:c5A},lJ h ok t x cs->∀v∈cs,v.oneCell' =true
 | .bool,_,_,e=>by simp[lJ]at e;subst e;simp[Value.oneCell']| .int _,_,_,e=>by simp[lJ]at e;subst e;simp[Value.oneCell']| .str,_,_,e=>by simp[lJ]at e;subst e;simp[Value.oneCell']| .unit,_,_,e=>by simp[lJ]at e;subst e;simp| .any _,_,_,e=>by obtain⟨v,rfl,h,_⟩:=e;simp[h]
 | .prod a b,_,_,e=>by
  obtain⟨c,d,rfl,h1,h2⟩:=e;intro v hv;rcases E5.1 hv with hv|hv
  .exact xU h1 v hv
  .exact xU h2 v hv
 | .ent _ _ a b,_,_,e=>by
  obtain⟨c,d,rfl,h1,h2⟩:=e;intro v hv;rcases E5.1 hv with hv|hv
  .exact xU h1 v hv
  .exact xU h2 v hv
 | .sl t,xs,_,e=>by rcases e with⟨_,a,cap,rfl,_⟩|⟨_,mv,rfl,_⟩<;>simp[Value.oneCell']
theorem yB{h:Array Obj}{ok ok' :Nat->Ty->Prop} :∀{t:Ty} {x:t.den} {cs:c5A},(∀b u,ok b u->Ty.occ u t=true->ok' b u)->lJ h ok t x cs->lJ h ok' t x cs
 | .bool,_,_,_,e=>e| .int _,_,_,_,e=>e| .str,_,_,_,e=>e| .unit,_,_,_,e=>e| .any _,_,_,_,e=>e| .prod a b,_,_,f,e=>by obtain⟨c,d,rfl,h1,h2⟩:=e;exact⟨c,d,rfl,yB (λb u h k=>f b u h (by simp[Ty.occ,k])) h1,yB (λb u h k=>f b u h (by simp[Ty.occ,k])) h2⟩
 | .ent _ _ a b,_,_,f,e=>by obtain⟨c,d,rfl,h1,h2⟩:=e;exact⟨c,d,rfl,yB (λb u h k=>f b u h (by simp[Ty.occ,k])) h1,yB (λb u h k=>f b u h (by simp[Ty.occ,k])) h2⟩
 | .sl t,xs,_,f,e=>by
  rcases e with⟨ht,a,cap,rfl,hc,hx⟩|⟨ht,mv,rfl,hn,hx⟩
  .refine .inl ⟨ht,a,cap,rfl,hc,λi x hi=>?_⟩;obtain⟨blk,off,es,ha,hb,he,hr⟩:=hx i x hi;exact⟨blk,off,es,ha,f _ _ hb (by simp[Ty.occ]),he,yB (λb u h k=>f b u h (by simp[Ty.occ,k])) hr⟩
  .refine .inr ⟨ht,mv,rfl,hn,λblk hb=>?_⟩;obtain⟨ho,es,ck,he,hs,hi⟩:=hx blk hb;refine⟨f _ _ ho (by simp[Ty.occ]),es,ck,he,hs,λi x hx=>?_⟩;obtain⟨e,h1,h2,h3⟩:=hi i x hx;exact⟨e,h1,h2,yB (λb u h k=>f b u h (by simp[Ty.occ,k])) h3⟩
inductive Loc where
 |nil|arr (blk off len cap sz:Nat)|st (blk:Nat)|mp (blk:Nat)
structure Mp where
 loc:Nat->Option Loc
 kid:Nat->c5B
instance:CoeFun Mp (λ_=>Nat->Option Loc):=⟨Mp.loc⟩
def nom:Mp:=⟨λ_=>none,λ_=>[]⟩
structure Cx where
 h:Array Obj
 ok:Nat->Ty->Prop
 m:Mp
def Loc.view:Loc->Option (Nat×Nat)->Value->Prop
 | .nil,none,v=>v= .slice none 0 0| .nil,some (lo,hi),v=>lo=0/\hi=0/\v= .slice none 0 0| .arr blk off len cap _,none,v=>v= .slice (some ⟨blk,off,none⟩) len cap| .arr blk off len cap sz,some (lo,hi),v=>lo<=hi/\hi<=len/\v= .slice (some (if cap=lo then⟨blk,off,none⟩else⟨blk,off+lo*sz,none⟩)) (hi -lo) (cap -lo)| .st _,_,_=>False| .mp b,none,v=>v= .map (some b)| .mp _,some _,_=>False
def Loc.blks:Loc->c5B
 | .nil=>[]| .arr b _ _ _ _=>[b]| .st b=>[b]| .mp b=>[b]
def ZV(h:Array Obj)(ok:Nat->Ty->Prop)(t:Ty)(x:t.den)(o:Nat)(v:Value):Prop:=
 ∃blk off es,v= .pointer (some ⟨blk,off+o,none⟩)/\ok blk t/\dJ h blk off t.size=some es/\lJ h ok t x es
def DT(h:Array Obj)(ok:Nat->Ty->Prop):List ((t:Ty)×t.den)->c5A->Prop
 |[],vs=>vs=[]|c::cs,vs=>∃v r,vs=v::r/\ZV h ok c.1 c.2 0 v/\DT h ok cs r
def vX(C:Cx):V->Value->Prop
 | .undef,_=>True| .un,v=>v=Go.undef| .b x,v=>v= .bool x| .i k n,v=>v= .int k n| .s l,v=>v= .string ⟨l.toArray⟩| .nl,v=>v= .slice none 0 0| .npt,v=>v= .pointer none| .ne b,v=>∃a c,v= .slice a 0 c/\a.isNone=b| .sl t xs,v=>lJ C.h C.ok (.sl t) xs [v]| .own bx vw,v=>∃loc,C.m bx=some loc/\loc.view vw v| .ptr bx o,v=>∃blk,C.m bx=some (.st blk)/\v= .pointer (some ⟨blk,o,none⟩)| .ep bx ix o,v=>∃blk off len cap sz,C.m bx=some (.arr blk off len cap sz)/\ix<len/\v= .pointer (some ⟨blk,off+ix*sz+o,none⟩)| .dp t x o,v=>ZV C.h C.ok t x o v| .glob g,v=>v= .pointer (some ⟨g,0,none⟩)| .fnv f,v=>v= .func (.func f) #[] #[]| .idl f n,v=>∃cap:Array Value,v= .func (.func f) #[] cap/\cap.size=n| .clos f caps,v=>∃vs,v= .func (.func f) #[] vs/\DT C.h C.ok caps vs.toList| .ifc t c,v=>∃u,v= .iface t u/\u.oneCell' =true/\vX C c u|_,_=>False
def gX(C:Cx):List V->c5A->Prop
 |[],vs=>vs=[]|c::cs,vs=>∃v r,vs=v::r/\vX C c v/\v.oneCell' =true/\gX C cs r
def WQ(C:Cx):V->Value->Prop
 | .agg cs,v=>∃arr,v= .agg arr/\gX C cs arr.toList|c,v=>vX C c v
def L_(C:Cx):List V->c5A->Prop
 |[],vs=>vs=[]|c::cs,vs=>∃v r,vs=v::r/\WQ C c v/\L_ C cs r
def lD(C:Cx):V->Value->Prop
 | .tup cs,v=>∃arr,v= .tuple arr/\L_ C cs arr.toList|c,v=>WQ C c v
def fzo(t:Ty)(n:Nat)(f:Nat×Nat):Prop:=f=(0,0)\/(t= .int .u8/\f=(n,n+1))
theorem fzo.of{f:Nat×Nat}(h:fzo t n f):f=(0,0)\/f=(n,n+1):=h.elim .inl λh=> .inr h.2
def arrOk(C:Cx)(t:Ty)(xs:List t.den):Loc->Prop
 | .nil=>xs=[]/\t.isEnt=false| .arr blk off len cap sz=>t.isEnt=false/\sz=t.size/\len=xs.length/\len<=cap/\∃c T f,C.h[blk]? =some (.cells c T f)/\fzo t c.size f/\off+cap*sz<=c.size/\
   ∀i x,xs[i]? =some x->∃es,dJ C.h blk (off+i*sz) sz=some es/\lJ C.h C.ok t x es
 | .st _=>False| .mp blk=>t.isEnt=true/\∃(es:Array MapEntry) (ck:Nat),C.h[blk]? =some (.map es ck)/\uo es ck xs.length/\
   ∀(i:Nat) (x:t.den),(xs:List t.den)[i]? =some x->∃e:MapEntry,es[i]? =some e/\Nq t e/\lJ C.h C.ok t x (yL t e)
def vC{α:Type}(h:Array Obj)(sz:Nat)(R:Nat->α->c5A->c5B->Prop)(xs:List α)(Os:List c5B):Loc->Prop
 | .nil=>xs=[]/\Os=[]| .arr blk off len cap sz' =>sz' =sz/\len=xs.length/\len<=cap/\Os.length=xs.length/\∃c T,h[blk]? =some (.cells c T (0,0))/\off+cap*sz<=c.size/\
   ∀i x,xs[i]? =some x->∃es O,Os[i]? =some O/\dJ h blk (off+i*sz) sz=some es/\R i x es O
 | .st _=>False| .mp _=>False
def Au(h:Array Obj)(te:Nat)(xs:c5y):Loc->Prop
 | .nil=>xs=[]
 | .arr g off len cap sz=>off=0/\sz=1/\len=xs.length/\len<=cap/\cap<=maxLen/\∃cur fz,h[g]? =some (.cells cur te fz)/\fz.2<=len/\cur.size=cap/\cur.toList.take len=xs.map λc=>Value.int .u8 (c.toNat:Int)| .st _=>False| .mp _=>False
variable {l:Loc}
theorem EF{te:Nat}{xs:c5y}(hh:∀b∈l.blks,h'[b]? =h[b]?)(hr:Au h te xs l):Au h' te xs l:=by
 cases l with
 |nil=>exact hr|st b=>exact hr|mp b=>exact hr|arr g off len cap sz=>obtain⟨h1,h2,h3,h4,h5,cur,fz,h6,h7⟩:=hr;exact⟨h1,h2,h3,h4,h5,cur,fz,by rw[hh g (by simp[Loc.blks])];exact h6,h7⟩
def xe(o n i:Nat):Option Nat:=if n<=i then some o else none
def nG(h:Array Obj)(ok:Nat->Ty->Prop):(m:M)->Option Nat->m.den->c5A->c5B->Prop
 | .dat t,_,x,cs,O=>lJ h ok t x cs/\O=[]| .own t,ho,xs,cs,O=>∃v,cs=[v]/\v.oneCell' =true/\(match ho with|some 0=>O=[]|_=>∃l,l.view none v/\arrOk ⟨h,ok,nom⟩ t xs l/\O=l.blks)| .pair a b,ho,x,cs,O=>∃c d O1 O2,cs=c++d/\O=O1++O2/\nG h ok a (match ho with|some o=>if o<a.size then some o else none|none=>none) x.1 c O1/\
   nG h ok b (match ho with|some o=>if o<a.size then none else some (o -a.size)|none=>none) x.2 d O2
 | .unit,_,_,cs,O=>cs=[]/\O=[]| .box m,_,x,cs,O=>∃blk arr T O',cs=[.pointer (some ⟨blk,0,none⟩)]/\h[blk]? =some (.cells arr T (0,0))/\nG h ok m none x arr.toList O' /\O=blk::O'| .owns m,ho,xs,cs,O=>∃v,cs=[v]/\v.oneCell' =true/\(match ho with|some 0=>O=[]|_=>m.el=true/\∃l Os,l.view none v/\vC h m.size (λ_ x es O=>nG h ok m none x es O) xs Os l/\O=l.blks++Os.flatten)| .ownb t,_,xs,cs,O=>∃l v,cs=[v]/\l.view none v/\arrOk ⟨h,ok,nom⟩ t xs l/\O=l.blks| .rp t,_,x,cs,O=>∃v,cs=[v]/\ZV h ok t x 0 v/\O=[]| .fn f ts,_,x,cs,O=>∃vs,cs=[.func (.func f) #[] vs]/\DT h ok (RJ ts x) vs.toList/\O=[]| .ifc t m,_,x,cs,O=>∃u,cs=[.iface t u]/\nG h ok m none x [u] O| .lp t,_,x,cs,O=>∃v,cs=[v]/\ZV h ok t x 0 v/\O=[]| .dv ..,_,x,cs,O=>∃v,cs=[v]/\v.oneCell' =true/\O=[]| .ownr m o,_,x,cs,O=>∃v,cs=[v]/\v.oneCell' =true/\m.el=true/\0<=x.2/\∃l Os,l.view none v/\vC h m.size (λi y es O=>nG h ok m (xe o x.2.toNat i) y es O) x.1 Os l/\O=l.blks++Os.flatten| .cell b,_,x,cs,O=>∃v,cs=[v]/\v.oneCell' =true/\(b=some none->v= .slice none 0 0)/\(∀b',b=some (some b')->∃a c,v= .slice a 0 c/\a.isNone=b')/\O=[]| .fr t,_,xs,cs,O=>∃l v,cs=[v]/\l.view none v/\arrOk ⟨h,ok,nom⟩ t xs l/\(∀b∈l.blks,ok b t)/\O=[]| .sit,_,x,cs,O=>∃blk s q,cs=[.pointer (some ⟨blk,0,none⟩)]/\h[blk]? =some (.stringIter s q)/\s.data.toList=x.1/\x.2=((q:Nat):Int)/\O=[blk]| .sbx tb te,_,xs,cs,O=>∃blk a v l,cs=[.pointer (some ⟨blk,0,none⟩)]/\h[blk]? =some (.cells #[a,v] tb (0,0))/\(a= .pointer none\/a= .pointer (some ⟨blk,0,none⟩))/\l.view none v/\Au h te xs l/\O=blk::l.blks
def XO(hole:Option (Nat×Nat×Option Nat))(i:Nat):Option Nat:=match hole with|some (j,o,_)=>if i=j then some o else none|none=>none
def VI(C:Cx)(sz:Nat)(l:Loc):Option (Nat×Nat×Option Nat)->Prop
 |none=>True|some (_,_,none)=>True|some (i,o,some n)=>∃blk off len cap u l',l= .arr blk off len cap sz/\dJ C.h blk (off+i*sz+o) 1=some [u]/\C.m n=some l' /\l'.view none u
def a5p(C:Cx)(m:M)(xs:List m.den)(hole:Option (Nat×Nat×Option Nat))(Os:List c5B)(l:Loc):Prop:=
 vC C.h m.size (λi x es O=>nG C.h C.ok m (XO hole i) x es O) xs Os l/\VI C m.size l hole
def BB(C:Cx)(n:Nat):V->Prop
 | .bcells cs=>∃blk arr T,C.m n=some (.st blk)/\C.h[blk]? =some (.cells arr T (0,0))/\gX C cs arr.toList| .biter l p=>∃blk s q,C.m n=some (.st blk)/\C.h[blk]? =some (.stringIter s q)/\s.data.toList=l/\p=((q:Nat):Int)| .bsb tb c=>∃blk a v,C.m n=some (.st blk)/\C.h[blk]? =some (.cells #[a,v] tb (0,0))/\(a= .pointer none\/a= .pointer (some ⟨blk,0,none⟩))/\vX C c v| .brow te xs=>∃loc,C.m n=some loc/\Au C.h te xs loc| .barr t xs=>∃loc,C.m n=some loc/\arrOk C t xs loc| .bfrz t xs=>∃loc,C.m n=some loc/\arrOk C t xs loc/\(∀blk,blk∈loc.blks->C.ok blk t)| .barrs m xs hole=>m.el=true/\∃loc Os,C.m n=some loc/\a5p C m xs hole Os loc/\C.m.kid n=Os.flatten| .barrp m xs k o=>m.el=true/\0<=k/\∃loc Os,C.m n=some loc/\vC C.h m.size (λi x es O=>nG C.h C.ok m (xe o k.toNat i) x es O) xs Os loc/\C.m.kid n=Os.flatten| .bfc t x=>∃blk es,C.m n=some (.st blk)/\C.ok blk t/\dJ C.h blk 0 t.size=some es/\lJ C.h C.ok t x es| .gone t=>∃l,C.m n=some l/\∀blk off len cap sz,l= .arr blk off len cap sz->sz=t.size| .blen ln sz=>∃k l,n=NK+k/\C.m k=some l/\(match l with| .arr _ _ len _ sz' =>ln=(len:Int)/\sz=sz'| .nil=>ln=0| .st _=>False| .mp _=>False)|_=>True
def P5(m:Mp)(n:Nat):V->c5B
 | .bcells _=>match m n with|some (.st blk)=>[blk]|_=>[]
 | .biter _ _=>match m n with|some (.st blk)=>[blk]|_=>[]
 | .bsb _ _=>match m n with|some (.st blk)=>[blk]|_=>[]
 | .brow _ _=>match m n with|some (.arr blk _ _ _ _)=>[blk]|_=>[]
 | .barr _ _=>match m n with|some (.arr blk _ _ _ _)=>[blk]|some (.mp blk)=>[blk]|_=>[]
 | .barrs _ _ _=>(match m n with|some (.arr blk _ _ _ _)=>[blk]|_=>[])++m.kid n| .barrp _ _ _ _=>(match m n with|some (.arr blk _ _ _ _)=>[blk]|_=>[])++m.kid n|_=>[]
def b3q:V->List Ty
 | .barr t _=>[t]| .barrs m _ _=>m.ty::m.owned|_=>[]
def a9Y(v:V)(t:Ty):Prop:=match v with
 | .bcells _=>True|v=>t∈b3q v
structure Cx.le (C D:Cx):Prop where
 ok:∀b t,C.ok b t->D.ok b t
 h:∀b t,C.ok b t->D.h[b]? =C.h[b]?
 m:∀n l,C.m n=some l->D.m n=some l
theorem Cx.le.refl(C:Cx):C.le C:=⟨λ_ _ h=>h,λ_ _ _=>rfl,λ_ _ h=>h⟩
theorem Cx.le.trans{A B C:Cx}(h:A.le B)(k:B.le C):A.le C:=
 ⟨λb t x=>k.ok _ _ (h.ok _ _ x),λb t x=>(k.h _ _ (h.ok _ _ x)).trans (h.h _ _ x),λn l x=>k.m _ _ (h.m _ _ x)⟩
variable {v:Value}{ok':Nat->Ty->Prop}
theorem Dx(hok:∀b t,ok b t->ok' b t)(hh:∀b t,ok b t->h'[b]? =h[b]?){x:t.den}{o:Nat}(hr:ZV h ok t x o v):ZV h' ok' t x o v:=by obtain⟨b,o',es,hv,hb,hc,hp⟩:=hr;exact⟨b,o',es,hv,hok _ _ hb,by rw[tH (hh _ _ hb)];exact hc,dU hok hh hp⟩
theorem JR{h h' :Array Obj}{ok ok' :Nat->Ty->Prop}(hok:∀b t,ok b t->ok' b t)(hh:∀b t,ok b t->h'[b]? =h[b]?):∀{cs:List ((t:Ty)×t.den)} {vs:c5A},DT h ok cs vs->DT h' ok' cs vs
 |[],_,hr=>hr|_::_,_,⟨v,r,e,h1,h2⟩=>⟨v,r,e,Dx hok hh h1,JR hok hh h2⟩
variable {C:Cx}{D:Cx}
theorem K_(h:C.le D):∀{c:V} {v:Value},vX C c v->vX D c v:=by
 intro c;induction c using V.rec (motive_2:=λ_=>True)<;>try trivial
 all_goals
  intro v hr;simp only[vX]at hr ⊢
  try exact hr
 case sl t xs=>exact dU h.ok h.h hr
 case own bx vw=>obtain⟨l,hm,hv⟩:=hr;exact⟨l,h.m _ _ hm,hv⟩
 case ptr bx o=>obtain⟨b,hm,hv⟩:=hr;exact⟨b,h.m _ _ hm,hv⟩
 case ep bx ix o=>obtain⟨b,o',l,c,s,hm,hv⟩:=hr;exact⟨b,o',l,c,s,h.m _ _ hm,hv⟩
 case dp t x o=>exact Dx h.ok h.h hr
 case clos f caps=>obtain⟨vs,e,hc⟩:=hr;exact⟨vs,e,JR h.ok h.h hc⟩
 case ifc t c ih=>obtain⟨u,e,h1,hc⟩:=hr;exact⟨u,e,h1,ih hc⟩
theorem Fh{C D:Cx}(h:C.le D):∀{cs:List V} {vs:c5A},gX C cs vs->gX D cs vs
 |[],_,hr=>hr|_::_,_,⟨v,r,e,h1,h2,h3⟩=>⟨v,r,e,K_ h h1,h2,Fh h h3⟩
theorem a6o(h:C.le D){c:V}(hr:WQ C c v):WQ D c v:=by
 cases c<;>simp only[WQ]at hr ⊢<;>try exact K_ h hr
 case agg cs=>obtain⟨arr,e,hl⟩:=hr;exact⟨arr,e,Fh h hl⟩
theorem a6p{C D:Cx}(h:C.le D):∀{cs:List V} {vs:c5A},L_ C cs vs->L_ D cs vs
 |[],_,hr=>hr|_::_,_,⟨v,r,e,h1,h3⟩=>⟨v,r,e,a6o h h1,a6p h h3⟩
theorem Fj(h:C.le D){c:V}(hr:lD C c v):lD D c v:=by
 cases c<;>simp only[lD]at hr ⊢<;>try exact a6o h hr
 case tup cs=>obtain⟨arr,e,hl⟩:=hr;exact⟨arr,e,a6p h hl⟩
theorem pU{m m' :Mp}(hok:∀b t,ok b t->ok' b t)(hh:∀b t,ok b t->h'[b]? =h[b]?)
  (hb:∀b∈l.blks,h'[b]? =h[b]?) (hr:arrOk ⟨h,ok,m⟩ t xs l):arrOk ⟨h',ok',m'⟩ t xs l:=by
 cases l with
 |nil=>exact hr|st b=>exact hr|mp blk=>have e:=hb blk (by simp[Loc.blks]);obtain⟨h1,es,ck,h2,h3,h4⟩:=hr;refine⟨h1,es,ck,by show h'[blk]? =_;rw[e];exact h2,h3,λi x hi=>?_⟩;obtain⟨en,a1,a2,a3⟩:=h4 i x hi;exact⟨en,a1,a2,dU hok hh a3⟩
 |arr blk off len cap sz=>have e:=hb blk (by simp[Loc.blks]);obtain⟨h0,h1,h2,h3,c,T,f,h4,hz,h5,h6⟩:=hr;refine⟨h0,h1,h2,h3,c,T,f,by show h'[blk]? =_;rw[e];exact h4,hz,h5,λi x hi=>?_⟩;obtain⟨es,he,hp⟩:=h6 i x hi;exact⟨es,by show dJ h' _ _ _=_;rw[tH e];exact he,dU hok hh hp⟩
theorem a0C(h:C.le D)(hb:∀b∈l.blks,D.h[b]? =C.h[b]?)(hr:arrOk C t xs l):arrOk D t xs l:=
 pU h.ok h.h hb hr
theorem uT{α:Type}{sz:Nat}{R R' :Nat->α->c5A->c5B->Prop}{xs:List α}{Os:List c5B}(hb:∀b∈l.blks,h'[b]? =h[b]?)
  (hR:∀i x es O,O∈Os->R i x es O->R' i x es O) (hr:vC h sz R xs Os l):vC h' sz R' xs Os l:=by
 cases l with
 |nil=>exact hr|st b=>exact hr|mp b=>exact hr|arr blk off len cap sz=>have e:=hb blk (by simp[Loc.blks]);obtain⟨h1,h2,h3,h7,c,T,h4,h5,h6⟩:=hr;refine⟨h1,h2,h3,h7,c,T,by rw[e];exact h4,h5,λi x hi=>?_⟩;obtain⟨es,O,hO,he,hp⟩:=h6 i x hi;exact⟨es,O,hO,by rw[tH e];exact he,hR _ _ _ _ (vM hO) hp⟩
theorem jc{h h' :Array Obj}{ok ok' :Nat->Ty->Prop}(hok:∀b t,ok b t->ok' b t)(hh:∀b t,ok b t->h'[b]? =h[b]?):
  ∀{m:M} {ho:Option Nat} {x:m.den} {cs:c5A} {O:c5B},(∀b∈O,h'[b]? =h[b]?)->nG h ok m ho x cs O->nG h' ok' m ho x cs O
 | .dat t,_,_,_,_,_,e=>⟨dU hok hh e.1,e.2⟩| .own t,ho,_,_,O,hb,⟨v,e,h1,ha⟩=>by
  refine⟨v,e,h1,?_⟩;split at ha
  .exact ha
  .obtain⟨l,hv,ha,ho⟩:=ha;exact⟨l,hv,pU hok hh (by subst ho;exact hb) ha,ho⟩
 | .pair a b,_,_,_,_,hb,⟨c,d,O1,O2,e,eo,h1,h2⟩=>by subst eo;exact⟨c,d,O1,O2,e,rfl,jc hok hh (λb h=>hb b (by simp[h])) h1,jc hok hh (λb h=>hb b (by simp[h])) h2⟩| .unit,_,_,_,_,_,e=>e| .box m,_,_,_,_,hb,⟨blk,arr,T,O',e,hh',hr,eo⟩=>by subst eo;exact⟨blk,arr,T,O',e,by rw[hb blk A7];exact hh',jc hok hh (λb h=>hb b (by simp[h])) hr,rfl⟩| .owns m,ho,_,_,O,hb,⟨v,e,h1,ha⟩=>by
  refine⟨v,e,h1,?_⟩;split at ha
  .exact ha
  .obtain⟨he,l,Os,hv,ha,ho⟩:=ha;subst ho;exact⟨he,l,Os,hv,uT (λb h=>hb b (by simp[h])) (λi x es O hO hr=>jc hok hh (λb h=>hb b (by simp only[E5,aj];exact .inr ⟨O,hO,h⟩)) hr) ha,rfl⟩
 | .ownb t,_,_,_,_,hb,⟨l,v,e,hv,ha,ho⟩=>⟨l,v,e,hv,pU hok hh (by subst ho;exact hb) ha,ho⟩| .rp t,_,_,_,_,_,⟨v,e,h1,h2⟩=>⟨v,e,Dx hok hh h1,h2⟩| .fn f ts,_,_,_,_,_,⟨vs,e,h1,h2⟩=>⟨vs,e,JR hok hh h1,h2⟩| .lp t,_,_,_,_,_,⟨v,e,h1,h2⟩=>⟨v,e,Dx hok hh h1,h2⟩| .dv ..,_,_,_,_,_,h=>h| .ownr md o,_,x,_,O,hb,⟨v,e,h1,he,h0,l,Os,hv,ha,ho⟩=>by
  subst ho;exact⟨v,e,h1,he,h0,l,Os,hv,uT (λb h=>hb b (by simp[h])) (λi x es O hO hr=>jc hok hh (λb h=>hb b (by simp only[E5,aj];exact .inr ⟨O,hO,h⟩)) hr) ha,rfl⟩
 | .ifc t m,_,_,_,_,hb,⟨u,e,h1⟩=>⟨u,e,jc hok hh hb h1⟩| .cell b,_,_,_,_,_,h=>h| .fr t,_,_,_,_,_,⟨l,v,e,hv,ha,hk,ho⟩=>⟨l,v,e,hv,pU hok hh (λb h=>hh _ _ (hk b h)) ha,λb h=>hok _ _ (hk b h),ho⟩| .sit,_,_,_,_,hb,⟨blk,s,q,e,hh',h2,h3,eo⟩=>by subst eo;exact⟨blk,s,q,e,by rw[hb blk A7];exact hh',h2,h3,rfl⟩| .sbx tb te,_,_,_,_,hb,⟨blk,a,v,l,e,hh',h2,h3,h4,eo⟩=>by subst eo;exact⟨blk,a,v,l,e,by rw[hb blk A7];exact hh',h2,h3,EF (λb h=>hb b (by simp[h])) h4,rfl⟩
theorem PU(h:C.le D){v:V}(hk:D.m.kid n=C.m.kid n)(hb:∀b∈P5 C.m n v,D.h[b]? =C.h[b]?)(hr:BB C n v):BB D n v:=by
 cases v<;>simp only[BB]at hr ⊢
 case bcells cs=>obtain⟨blk,arr,T,hm,hh,hl⟩:=hr;exact⟨blk,arr,T,h.m _ _ hm,by rw[hb blk (by simp[P5,hm])];exact hh,Fh h hl⟩
 case biter l p=>obtain⟨blk,s,q,hm,hh,h2,h3⟩:=hr;exact⟨blk,s,q,h.m _ _ hm,by rw[hb blk (by simp[P5,hm])];exact hh,h2,h3⟩
 case bsb tb c=>obtain⟨blk,a,v,hm,hh,h2,h3⟩:=hr;exact⟨blk,a,v,h.m _ _ hm,by rw[hb blk (by simp[P5,hm])];exact hh,h2,K_ h h3⟩
 case brow te xs=>
  obtain⟨l,hm,ha⟩:=hr;refine⟨l,h.m _ _ hm,EF (λb hbl=>hb b ?_) ha⟩;cases l<;>simp[Loc.blks]at hbl
  .subst hbl;simp[P5,hm]
  .cases ha
  .cases ha
 case barr t xs=>
  obtain⟨l,hm,ha⟩:=hr;refine⟨l,h.m _ _ hm,a0C h ?_ ha⟩;intro b hbl;refine hb b ?_;cases l<;>simp[Loc.blks]at hbl
  .subst hbl;simp[P5,hm]
  .cases ha
  .subst hbl;simp[P5,hm]
 case bfrz t xs=>obtain⟨l,hm,ha,hok⟩:=hr;refine⟨l,h.m _ _ hm,a0C h ?_ ha,λblk e=>h.ok _ _ (hok _ e)⟩;intro b hbl;exact h.h _ _ (hok _ hbl)
 case barrp m xs k o=>
  obtain⟨he,h0,l,Os,hm,ha,ho⟩:=hr;refine⟨he,h0,l,Os,h.m _ _ hm,uT ?_ ?_ ha,hk.trans ho⟩
  .intro b hbl;refine hb b ?_;cases l<;>simp[Loc.blks]at hbl
   .subst hbl;simp[P5,hm]
   .cases ha
   .cases ha
  .intro i x es O hO hr;refine jc h.ok h.h (λb hbO=>hb b ?_) hr;simp only[P5,E5];right;rw[ho];exact aj.2 ⟨O,hO,hbO⟩
 case barrs m xs hole=>
  obtain⟨he,l,Os,hm,ha,ho⟩:=hr;obtain⟨ha,hh⟩:=ha;refine⟨he,l,Os,h.m _ _ hm,⟨uT ?_ ?_ ha,?_⟩,hk.trans ho⟩
  .intro b hbl;refine hb b ?_;cases l<;>simp[Loc.blks]at hbl
   .subst hbl;simp[P5,hm]
   .cases ha
   .cases ha
  .intro i x es O hO hr;refine jc h.ok h.h (λb hbO=>hb b ?_) hr;simp only[P5,E5];right;rw[ho];exact aj.2 ⟨O,hO,hbO⟩
  .rcases hole with _|⟨i,o,_|k⟩
   .trivial
   .trivial
   .obtain⟨blk,off,len,cap,u,l',rfl,h1,h2,h3⟩:=hh;exact⟨blk,off,len,cap,u,l',rfl,by rw[tH (hb blk (by simp[P5,hm]))];exact h1,h.m _ _ h2,h3⟩
 case bfc t x=>obtain⟨blk,es,hm,hok,he,hr⟩:=hr;exact⟨blk,es,h.m _ _ hm,h.ok _ _ hok,by rw[tH (h.h _ _ hok)];exact he,dU h.ok h.h hr⟩
 case gone t=>obtain⟨l,hm,hs⟩:=hr;exact⟨l,h.m _ _ hm,hs⟩
 case blen ln sz=>obtain⟨k,l,e,hm,hs⟩:=hr;exact⟨k,l,e,h.m _ _ hm,hs⟩
theorem lU{C:Cx} :∀{cs:List V} {vs:c5A},gX C cs vs->cs.length=vs.length
 |[],_,h=>by simp[gX]at h;simp[h]|_::_,_,⟨v,r,e,_,_,h3⟩=>by subst e;simp[lU h3]
theorem xR{C:Cx} :∀{a:List V} {va:c5A} {b:List V} {vb:c5A},gX C a va->gX C b vb->gX C (a++b) (va++vb)
 |[],_,_,_,h,k=>by simp[gX]at h;subst h;exact k|_::_,_,_,_,⟨v,r,e,h1,h2,h3⟩,k=>by subst e;exact⟨v,r++_,rfl,h1,h2,xR h3 k⟩
theorem PV{C:Cx} :∀{cs:List V} {vs:c5A},gX C cs vs->∀v∈vs,v.oneCell' =true
 |[],_,h=>by simp[gX]at h;simp[h]|_::_,_,⟨v,r,e,_,h2,h3⟩=>by
  subst e;intro u hu;rcases D5.1 hu with rfl|hu
  .exact h2
  .exact PV h3 u hu
theorem uJ{C:Cx} :∀(n:Nat) {cs:List V} {vs:c5A},gX C cs vs->gX C (cs.drop n) (vs.drop n)
 |0,_,_,h=>by simpa using h|n+1,[],_,h=>by simp[gX]at h;subst h;simp[gX]|n+1,_::_,_,⟨v,r,e,_,_,h3⟩=>by subst e;simpa using uJ n h3
theorem wY{C:Cx} :∀(n:Nat) {cs:List V} {vs:c5A},gX C cs vs->gX C (cs.take n) (vs.take n)
 |0,_,_,h=>by simp[gX]|n+1,[],_,h=>by simp[gX]at h;subst h;simp[gX]|n+1,_::_,_,⟨v,r,e,h1,h2,h3⟩=>by subst e;exact⟨v,r.take n,A7,h1,h2,wY n h3⟩
theorem nI:∀(t:Ty) (x:t.den) (r:List V),flat t x r=flat t x []++r
 | .bool,_,_=>rfl| .int _,_,_=>rfl| .str,_,_=>rfl| .sl _,_,_=>rfl| .unit,_,_=>rfl| .any _,_,_=>rfl| .prod a b,x,r=>by simp only[flat];rw[nI a x.1 (flat b x.2 r),nI b x.2 r,nI a x.1 (flat b x.2 [])];simp| .ent _ _ a b,x,r=>by simp only[flat];rw[nI a x.1 (flat b x.2 r),nI b x.2 r,nI a x.1 (flat b x.2 [])];simp
theorem ou{C:Cx} :∀{t:Ty} {x:t.den} {cs:c5A},lJ C.h C.ok t x cs->gX C (flat t x []) cs
 | .bool,x,_,h=>by simp[lJ]at h;subst h;exact⟨_,_,rfl,rfl,rfl,rfl⟩| .int _,x,_,h=>by simp[lJ]at h;subst h;exact⟨_,_,rfl,rfl,rfl,rfl⟩| .str,x,_,h=>by simp[lJ]at h;subst h;exact⟨_,_,rfl,rfl,rfl,rfl⟩| .unit,_,_,h=>by simp[lJ]at h;subst h;rfl| .any _,_,_,h=>by obtain⟨v,rfl,h1,_⟩:=h;exact⟨v,[],rfl,trivial,h1,rfl⟩
 | .sl t,xs,_,h=>by have h' :=h;rcases h with⟨_,a,cap,rfl,_⟩|⟨_,mv,rfl,_⟩<;>exact⟨_,_,rfl,h',rfl,rfl⟩
 | .ent _ _ a b,x,_,h=>by obtain⟨c,d,rfl,h1,h2⟩:=h;simp only[flat];rw[nI a];exact xR (ou h1) (ou h2)
 | .prod a b,x,_,h=>by obtain⟨c,d,rfl,h1,h2⟩:=h;simp only[flat];rw[nI a];exact xR (ou h1) (ou h2)
theorem oM:∀(t:Ty) (x:t.den),(flat t x []).length=t.size
 | .bool,_=>rfl| .int _,_=>rfl| .str,_=>rfl| .sl _,_=>rfl| .unit,_=>rfl| .any _,_=>rfl| .prod a b,x=>by simp only[flat,Ty.size];rw[nI a,E8,oM a x.1,oM b x.2]| .ent _ _ a b,x=>by simp only[flat,Ty.size];rw[nI a,E8,oM a x.1,oM b x.2]
theorem qg{vw:Option (Nat×Nat)}(ha:arrOk C t xs l)(hv:l.view vw v)
  (hok:∀b t,C.ok b t->ok' b t) (hb:∀blk,blk∈l.blks->ok' blk t):lJ C.h ok' (.sl t) (jU vw xs) [v]:=by
 cases l with
 |st b=>cases ha|mp b=>
  obtain⟨h0,es,ck,h1,h2,h3⟩:=ha;cases vw with
  |some p=>cases hv|none=>simp only[Loc.view]at hv;subst hv;refine .inr ⟨h0,some b,rfl,(λh=>nomatch h),λblk e=>?_⟩;cases e;refine⟨hb b (by simp[Loc.blks]),es,ck,h1,h2,λi x hi=>?_⟩;obtain⟨en,a1,a2,a3⟩:=h3 i x hi;exact⟨en,a1,a2,dU hok (λ_ _ _=>rfl) a3⟩
 |nil=>
  obtain⟨ha,h0⟩:=ha;subst ha;cases vw with
  |none=>simp only[Loc.view]at hv;subst hv;exact .inl ⟨h0,none,0,rfl,A8 _,λi x hi=>by simp[jU]at hi⟩|some p=>obtain⟨lo,hi⟩:=p;obtain⟨rfl,rfl,rfl⟩:=hv;exact .inl ⟨h0,none,0,by simp[jU,lq],by simp[jU,lq],λi x hi=>by simp[jU,lq]at hi⟩
 |arr blk off len cap sz=>
  obtain⟨h0,rfl,rfl,hc,c,T,f,hh,hz,hs,hx⟩:=ha;have hbk:=hb blk (by simp[Loc.blks]);cases vw with
  |none=>simp only[Loc.view]at hv;subst hv;refine .inl ⟨h0,_,cap,rfl,hc,λi x hi=>?_⟩;obtain⟨es,he,hr⟩:=hx i x hi;exact⟨blk,off,es,rfl,hbk,he,dU hok (λ_ _ _=>rfl) hr⟩
  |some p=>
   obtain⟨lo,hi⟩:=p;obtain⟨h1,h2,rfl⟩:=hv;have hl:(jU (some (lo,hi)) xs).length=hi -lo:=by simp[jU,lq];omega
   refine .inl ⟨h0,_,cap -lo,by rw[hl],by rw[hl];omega,λi x hix=>?_⟩;have hi' :i<hi -lo:=by rw[←hl];exact(X9.1 hix).1
   have hx' :xs[lo+i]? =some x:=by
    simp only[jU,lq,O0,Z9]at hix;split at hix
    .exact hix
    .cases hix
   obtain⟨es,he,hr⟩:=hx _ x hx';have hne:cap≠lo:=l7;refine⟨blk,off+lo*t.size,es,by simp[hne],hbk,?_,dU hok (λ_ _ _=>rfl) hr⟩;rw[←he];congr 1;rw[L6];omega
end Go.GP
namespace Go.GP
abbrev Sm:=Nat->V
def upd(S:Sm)(k:Nat)(v:V):Sm:=λn=>if n=k then v else S n
@[simp] theorem fQ (S:Sm) (k:Nat) (v:V):upd S k v k=v:=by simp[upd]
theorem V7(S:Sm){k n:Nat}(v:V)(h:n≠k):upd S k v n=S n:=by simp[upd,h]
variable {α:Type}
def Cmd.eval :Cmd α->Sm->Tr->Option (α×Sm×Tr)
 | .ret x,S,t=>some (x,S,t)| .fail,_,_=>none| .get k c,S,t=>(c (S k)).eval S (k::t.1,t.2)| .set k v c,S,t=>c.eval (upd S k v) (t.1,k::t.2)
 | .opt o c,S,t=>match o with|some x=>(c x).eval S t|none=>none
 | .br b c d,S,t=>if b=true then c.eval S t else d.eval S t
def Cmd.post :Cmd α->Sm->(α->Sm->Prop)->Prop
 | .ret x,S,Q=>Q x S| .fail,_,_=>True| .get k c,S,Q=>(c (S k)).post S Q| .set k v c,S,Q=>c.post (upd S k v) Q| .opt o c,S,Q=>∀x,o=some x->(c x).post S Q| .br b c d,S,Q=>(b=true->c.post S Q)/\(b=false->d.post S Q)
theorem oh{α:Type}{Q:α->Sm->Prop} :∀{c:Cmd α} {S S' :Sm} {t t' :Tr} {x:α},c.post S Q->c.eval S t=some (x,S',t')->Q x S'
 | .ret x,_,_,_,_,_,h,e=>by simp[Cmd.eval]at e;obtain⟨rfl,rfl,rfl⟩:=e;exact h
 | .fail,_,_,_,_,_,h,e=>by simp[Cmd.eval]at e| .get k c,_,_,_,_,_,h,e=>oh (c:=c _) h e| .set k v c,_,_,_,_,_,h,e=>oh (c:=c) h e| .opt o c,_,_,_,_,_,h,e=>by
  cases o with
  |none=>simp[Cmd.eval]at e|some x=>exact oh (c:=c x) (h x rfl) e
 | .br b c d,_,_,_,_,_,h,e=>by
  cases b
  .exact oh (c:=d) (h.2 rfl) (by simpa[Cmd.eval]using e)
  .exact oh (c:=c) (h.1 rfl) (by simpa[Cmd.eval]using e)
theorem uI{α:Type}{Q Q' :α->Sm->Prop}(hq:∀x S,Q x S->Q' x S):∀{c:Cmd α} {S:Sm},c.post S Q->c.post S Q'
 | .ret x,_,h=>hq _ _ h| .fail,_,_=>trivial| .get k c,_,h=>uI hq (c:=c _) h| .set k v c,_,h=>uI hq (c:=c) h
 | .opt o c,_,h=>λx e=>uI hq (c:=c x) (h x e)| .br b c d,_,h=>⟨λe=>uI hq (c:=c) (h.1 e),λe=>uI hq (c:=d) (h.2 e)⟩
theorem Bd{α β:Type}{f:α->Cmd β} :∀(c:Cmd α) (S:Sm) (t:Tr),(c.bind f).eval S t=(match c.eval S t with|some (x,S',t')=>(f x).eval S' t'|none=>none)
 | .ret x,S,t=>rfl| .fail,_,_=>rfl| .get k c,S,t=>Bd (c (S k)) S _| .set k v c,S,t=>Bd c _ _| .opt o c,S,t=>by
  cases o with
  |none=>rfl|some x=>exact Bd (c x) S t
 | .br b c d,S,t=>by
  cases b
  .simpa[Cmd.bind,Cmd.eval]using Bd d S t
  .simpa[Cmd.bind,Cmd.eval]using Bd c S t
theorem zF{α β:Type}{Q:β->Sm->Prop}{f:α->Cmd β} :∀{c:Cmd α} {S:Sm},c.post S (λx S' =>(f x).post S' Q)->(c.bind f).post S Q
 | .ret x,_,h=>h| .fail,_,_=>trivial| .get k c,_,h=>zF (c:=c _) h| .set k v c,_,h=>zF (c:=c) h
 | .opt o c,_,h=>λx e=>zF (c:=c x) (h x e)| .br b c d,_,h=>⟨λe=>zF (c:=c) (h.1 e),λe=>zF (c:=d) (h.2 e)⟩
theorem GG{R:Type} :∀(v:V) (K:V->R),v.force K=K v:=by
 intro v;induction v using V.rec (motive_2:=λ_=>True)<;>try trivial
 all_goals intro K
 all_goals try rfl
 case i k n=>cases k<;>rfl
 case own bx vw=>cases vw<;>rfl
 case barrs m xs h=>rcases h with _|⟨p,q,_|r⟩<;>rfl
 case ifc t v ih=>simp only[V.force];rw[ih]
 case bsb tb c ih=>simp only[V.force];rw[ih]
theorem YF{R:Type} :∀(l:List V) (K:List V->R),QP l K=K l
 |[],_=>rfl|v::r,K=>by simp[QP,GG,YF r]
theorem a7k{R:Type}(v:V)(K:V->R):v.force2 K=K v:=by unfold V.force2;rw[GG];cases v<;>simp[YF]
theorem vS(k:Nat)(v:V)(s:St):U7 (.kv k v::s)=upd (U7 s) k v:=by
 funext n;simp only[U7,upd];by_cases h:n=k
 .subst h;simp
 .have:Nat.beq k n=false:=by
   cases hb:Nat.beq k n with
   |false=>rfl|true=>exact absurd (fJ hb).symm h
  simp[h,this]
theorem zl{α β:Type}{o:Option α}{f:α->Option β}{r:β}(h:o5 o f=some r):∃x,o=some x/\f x=some r:=by
 cases o with
 |none=>simp[o5]at h|some x=>exact⟨x,rfl,h⟩
theorem jI{α R:Type} :∀{c:Cmd α} {s:St} {t:Tr} {K:α->St->Tr->Option R} {r:R},c.runK s t K=some r->
  ∃x s' t',c.eval (U7 s) t=some (x,U7 s',t')/\K x s' t' =some r
 | .ret x,s,t,K,r,h=>⟨x,s,t,rfl,h⟩| .fail,_,_,_,_,h=>by simp[Cmd.runK]at h| .get k c,s,t,K,r,h=>by simp only[Cmd.runK,GG]at h;exact jI (c:=c _) h| .set k v c,s,t,K,r,h=>by simp only[Cmd.runK,a7k]at h;obtain⟨x,s',t',e,hk⟩:=jI (c:=c) h;exact⟨x,s',t',by simpa[Cmd.eval,vS]using e,hk⟩
 | .opt o c,s,t,K,r,h=>by simp only[Cmd.runK]at h;obtain⟨y,rfl,h⟩:=zl h;exact jI (c:=c y) h
 | .br b c d,s,t,K,r,h=>by
  simp only[Cmd.runK]at h;cases b
  .obtain⟨x,s',t',e,hk⟩:=jI (c:=d) (show d.runK s t K=some r from h);exact⟨x,s',t',by simpa[Cmd.eval]using e,hk⟩
  .obtain⟨x,s',t',e,hk⟩:=jI (c:=c) (show c.runK s t K=some r from h);exact⟨x,s',t',by simpa[Cmd.eval]using e,hk⟩
theorem Be{α:Type} :∀{c:Cmd α} {S S' :Sm} {t t' :Tr} {x:α},c.eval S t=some (x,S',t')->(∀k∈t.1,k∈t'.1)/\(∀k∈t.2,k∈t'.2)
 | .ret x,_,_,_,_,_,e=>by simp[Cmd.eval]at e;obtain⟨rfl,rfl,rfl⟩:=e;exact⟨λ_ h=>h,λ_ h=>h⟩
 | .fail,_,_,_,_,_,e=>by simp[Cmd.eval]at e| .get k c,_,_,_,_,_,e=>by have h:=Be (c:=c _) e;exact⟨λn hn=>h.1 n (by simp[hn]),h.2⟩| .set k v c,_,_,_,_,_,e=>by have h:=Be (c:=c) e;exact⟨h.1,λn hn=>h.2 n (by simp[hn])⟩| .opt o c,_,_,_,_,_,e=>by
  cases o with
  |none=>simp[Cmd.eval]at e|some x=>exact Be (c:=c x) e
 | .br b c d,_,_,_,_,_,e=>by
  cases b
  .exact Be (c:=d) (by simpa[Cmd.eval]using e)
  .exact Be (c:=c) (by simpa[Cmd.eval]using e)
theorem tV{α:Type} :∀{c:Cmd α} {S S' :Sm} {t t' :Tr} {x:α},c.eval S t=some (x,S',t')->∀T:Sm,(∀k∈t'.1,T k=S k)->
  ∃T',c.eval T t=some (x,T',t')/\(∀k,T k=S k->T' k=S' k)/\(∀k,k∉t'.2->T' k=T k)/\(∀k,k∈t'.2->k∉t.2->T' k=S' k)
 | .ret x,_,_,_,_,_,e,T,hT=>by simp[Cmd.eval]at e;obtain⟨rfl,rfl,rfl⟩:=e;exact⟨T,rfl,λk h=>h,λ_ _=>rfl,λk h1 h2=>absurd h1 h2⟩
 | .fail,_,_,_,_,_,e,_,_=>by simp[Cmd.eval]at e| .get k c,S,_,t,t',_,e,T,hT=>by have hk:T k=S k:=hT k ((Be (c:=c _) e).1 k A7);obtain⟨T',h1,h2,h3,h4⟩:=tV (c:=c _) e T hT;exact⟨T',by simpa[Cmd.eval,hk]using h1,h2,h3,h4⟩
 | .set k v c,S,_,t,t',_,e,T,hT=>by
  obtain⟨T',h1,h2,h3,h4⟩:=tV (c:=c) e (upd T k v) (λn hn=>by
   by_cases h:n=k
   .subst h;simp
   .rw[V7 _ _ h,V7 _ _ h];exact hT n hn)
  have hkin:k∈t'.2:=(Be (c:=c) e).2 k A7;refine⟨T',h1,λn hn=>h2 n ?_,λn hn=>?_,λn hn hn' =>?_⟩
  .by_cases h:n=k
   .subst h;simp
   .rw[V7 _ _ h,V7 _ _ h];exact hn
  .have:n≠k:=λh=>hn (h▸hkin);rw[h3 n hn,V7 _ _ this]
  .by_cases h:n=k
   .subst h;exact h2 n A7
   .exact h4 n hn (by simp[h,hn'])
 | .opt o c,_,_,_,_,_,e,T,hT=>by
  cases o with
  |none=>simp[Cmd.eval]at e|some x=>exact tV (c:=c x) e T hT
 | .br b c d,_,_,_,_,_,e,T,hT=>by
  cases b
  .obtain⟨T',h1,h2⟩:=tV (c:=d) (by simpa[Cmd.eval]using e) T hT;exact⟨T',by simpa[Cmd.eval]using h1,h2⟩
  .obtain⟨T',h1,h2⟩:=tV (c:=c) (by simpa[Cmd.eval]using e) T hT;exact⟨T',by simpa[Cmd.eval]using h1,h2⟩
theorem qW{c:Cmd α}{S S' :Sm}{t t' :Tr}{x:α}(e:c.eval S t=some (x,S',t'))(k:Nat)(h:k∉t'.2):S' k=S k:=by obtain⟨T',h1,_,h3,_⟩:=tV e S (λ_ _=>rfl);rw[e]at h1;simp at h1;rw[h1];exact h3 k h
section draws
variable {n:Nat} {c:Nat->Cmd Unit} {S:Nat->Sm} {T:Nat->Tr}
def SD(S:Nat->Sm)(T:Nat->Tr)(D:c5B):Nat->Sm
 |0=>S 0
 |m+1=>λk=>if m∈D/\k∈(T m).2 then S (m+1) k else SD S T D m k
theorem Dw(hs:∀i,i<n->(c i).eval (S i) ([],[])=some ((),S (i+1),T i))(D:c5B)(k:Nat):
  ∀m,m<=n->(∀j,j<m->k∈(T j).2->j∈D)->SD S T D m k=S m k
 |0,_,_=>rfl|m+1,hm,h=>by
  have ih:=Dw hs D k m l7 (λj hj=>h j l7);simp only[SD];by_cases hk:k∈(T m).2
  .rw[if_pos ⟨h m l7 hk,hk⟩]
  .rw[if_neg (λx=>hk x.2),ih,qW (hs m l7) k hk]
theorem OQ(D:c5B)(k i:Nat):∀m,i<=m->(∀j,i<=j->j<m->k∈(T j).2->j∉D)->SD S T D m k=SD S T D i k
 |m,hm,h=>by
  induction m with
  |zero=>have:i=0:=l7;subst this;rfl|succ m ih=>
   by_cases e:i=m+1
   .subst e;rfl
   .simp only[SD];rw[if_neg (λx=>h m l7 l7 x.2 x.1)];exact ih l7 (λj h1 h2=>h j h1 l7)
theorem a5g(D:c5B)(i k:Nat)(hk:k∉(T i).2):∀m,SD S T (i::D) m k=SD S T D m k
 |0=>rfl|m+1=>by
  simp only[SD,a5g D i k hk m];by_cases e:m=i
  .subst e;simp[hk]
  .simp[D5,e]
theorem a8v(hs:∀i,i<n->(c i).eval (S i) ([],[])=some ((),S (i+1),T i)){D:c5B}(hD:∀i,i<n->i∈D):SD S T D n=S n:=by funext k;exact Dw hs D k n l7 (λj hj _=>hD j hj)
theorem a8w(n:Nat):SD S T [] n=S 0:=by
 induction n with
 |zero=>rfl|succ m ih=>funext k;simp[SD,ih]
end draws
end Go.GP
namespace Go.GP
def a5e(P:Program)(d:Deferred):Prop:=∃fv cap f args,d.target= .fn fv cap/\(∀w:World,(invoke d.target d.args).run P w= .ok (.enter f args) w)/\
 ∀w,CallsD P f args .returning w λe u' w' =>(∃v,e= .returned v)/\u' = .returning/\w' =w
def b8Q(P:Program)(f n:Nat):Prop:=∀cap:Array Value,cap.size=n->a5e P { target:=.fn (.func f) cap,args:=#[] }
theorem Sz{P:Program}{fn:Func}{tmps:Array Value}{R:Ending->World->Prop}{w:World}(h:∃v,(results fn tmps).run P w= .ok v w/\R (.returned v) w):∀(ds:List Deferred),(∀d∈ds,a5e P d)->Leaves P fn tmps R ds .returning w
 |[],_=>h
 |d::ds,hd=>by obtain⟨fv,cap,f,args,ht,hi,hc⟩:=hd d A7;refine⟨A7,fv,cap,f,args,ht,hi w,(hc w).mono ?_⟩;rintro e u' w' ⟨⟨v,rfl⟩,rfl,rfl⟩;exact Sz h ds λx hx=>hd x (by simp[hx])
structure Fx where
 P:Program
 E:Env
 w0:World
 O:c5B
 ok0:Nat->Ty->Prop
 tm0:Array Value
 df:Option (List Deferred)
structure Frame' (μ:Prop) (w0 w:World) (O:c5B):Prop where
 os:w.os=w0.os
 tape:w.tape=w0.tape
 output:w.output=w0.output
 size:w0.heap.size<=w.heap.size
 block:∀b,b<w0.heap.size->b∉O->w.heap[b]? =w0.heap[b]?
 drawn:μ->w0.drawn<=w.drawn
theorem Frame'.refl{μ:Prop}(w:World)(O:c5B):Frame' μ w w O:=⟨rfl,rfl,rfl,A8 _,λ_ _ _=>rfl,λ_=>A8 _⟩
def b4p(h:Array Obj)(g n:Nat):Prop:=∃c T f,h[g]? =some (.cells c T f)/\c.size=n
def Ia(C:Cx)(g:Nat)(t:Ty)(xs:List t.den):Prop:=
 C.ok g t/\b4p C.h g (xs.length*t.size)/\∀i x,xs[i]? =some x->∃es,dJ C.h g (i*t.size) t.size=some es/\lJ C.h C.ok t x es
theorem Ia.le{C D:Cx}(h:C.le D){g:Nat}{t:Ty}{xs:List t.den}(k:Ia C g t xs):Ia D g t xs:=by obtain⟨h1,h3,h2⟩:=k;refine⟨h.ok _ _ h1,by unfold b4p at h3 ⊢;rw[h.h _ _ h1];exact h3,λi x hi=>?_⟩;obtain⟨es,he,hr⟩:=h2 i x hi;exact⟨es,by rw[tH (h.h _ _ h1)];exact he,dU h.ok h.h hr⟩
structure Rel (X:Fx) (cl ch:Nat) (S:Sm) (m:Mp) (ok:Nat->Ty->Prop) (a:Act) (w:World):Prop where
 size:a.tmps.size=X.E.nt
 nodef:∀d∈a.defers,a5e X.P d
 dfs:∀l,X.df=some l->a.defers=l
 slot:∀n,n<V6->lD ⟨w.heap,ok,m⟩ (S n) (a.tmps.getD n Go.undef)
 box:∀n,BB ⟨w.heap,ok,m⟩ n (S (V6+n))
 inj:∀n n' b,b∈P5 m n (S (V6+n))->b∈P5 m n' (S (V6+n'))->n=n'
 nd:∀n,(P5 m n (S (V6+n))).Nodup
 sep:∀n b,b∈P5 m n (S (V6+n))->(∀t,¬ok b t)/\b<w.heap.size/\(X.w0.heap.size<=b\/b∈X.O)
 okLt:∀b t,ok b t->b<w.heap.size
 okIn:∀b t,X.ok0 b t->ok b t
 okOut:∀b t,ok b t->X.ok0 b t\/X.w0.heap.size<=b\/b∈X.O
 frame:Frame' (X.E.gl=[]) X.w0 w X.O
 fresh:∀n,cl<=n->S (V6+n)= .undef->m n=none
 strict:∀n,ch<=n->m n=none
 gl:∀g u,dL X.E.gl g=some u->Ia ⟨w.heap,ok,m⟩ g u.1 u.2
 kept:∀n∈X.E.kp,a.tmps.getD n Go.undef=X.tm0.getD n Go.undef
def mi(m:Mp)(n:Nat)(l:Loc)(ks:c5B):Mp:=⟨λk=>if k=n then some l else m k,λk=>if k=n then ks else m.kid k⟩
@[simp] theorem az (m:Mp) (n:Nat) (l:Loc) (ks:c5B):mi m n l ks n=some l:=by simp[mi]
variable {n:Nat}{k:Nat}
theorem jg(m:Mp)(l:Loc)(ks:c5B)(h:k≠n):mi m n l ks k=m k:=by simp[mi,h]
@[simp] theorem c4t (m:Mp) (n:Nat) (l:Loc) (ks:c5B):(mi m n l ks).kid n=ks:=by simp[mi]
theorem MV(m:Mp)(l:Loc)(ks:c5B)(h:k≠n):(mi m n l ks).kid k=m.kid k:=by simp[mi,h]
def AA(m:Mp)(n:Nat)(ks:c5B):Mp:=⟨m.loc,λk=>if k=n then ks else m.kid k⟩
@[simp] theorem c2X (m:Mp) (n k:Nat) (ks:c5B):AA m n ks k=m k:=rfl
@[simp] theorem c2W (m:Mp) (n:Nat) (ks:c5B):(AA m n ks).kid n=ks:=by simp[AA]
theorem Zj(m:Mp)(ks:c5B)(h:k≠n):(AA m n ks).kid k=m.kid k:=by simp[AA,h]
theorem yE(m:Mp)(n:Nat):AA m n (m.kid n)=m:=by
 cases m with|mk l k=>
 simp only[AA,Mp.mk.injEq,true_and];funext j;split
 .rename_i e;rw[e]
 .rfl
variable {v:V}
theorem Ew{m m' :Mp}(h:m' n=m n)(k:m'.kid n=m.kid n):P5 m' n v=P5 m n v:=by cases v<;>simp only[P5,h,k]
variable {d:Nat}
theorem Nw{tmps:Array Value}(h:d<tmps.size)(x e:Value):(tmps.setIfInBounds d x).getD d e=x:=by simp[Array.getD,h]
theorem Ed{tmps:Array Value}(h:n≠d)(x e:Value):(tmps.setIfInBounds d x).getD n e=tmps.getD n e:=by simp only[U1];rw[jl];simp[Ne.symm h]
structure Tk (X:Fx) (S:Sm) (m:Mp) (ok:Nat->Ty->Prop) (w:World) (T:c5B):Prop where
 nodup:T.Nodup
 free:∀b∈T,(∀t,¬ok b t)/\b<w.heap.size/\(X.w0.heap.size<=b\/b∈X.O)/\∀n,b∉P5 m n (S (V6+n))
theorem Tk.nil{X:Fx}{S:Sm}{m:Mp}{ok:Nat->Ty->Prop}{w:World} :Tk X S m ok w []:=⟨aW,λb h=>by cases h⟩
def okW(ok:Nat->Ty->Prop)(bs:c5B)(Ts:List Ty):Nat->Ty->Prop:=λb t=>ok b t\/(b∈bs/\t∈Ts)
variable {w':World}{bs:c5B}
section
variable {X:Fx} {cl ch:Nat} {S:Sm} {m:Mp} {ok:Nat->Ty->Prop} {a:Act} {w:World} {T:c5B}
theorem Tk.perm{T T' :c5B}(h:Tk X S m ok w T)(p:T.Perm T'):Tk X S m ok w T' :=
 ⟨p.nodup_iff.1 h.nodup,λb hb=>h.free b (p.mem_iff.2 hb)⟩
theorem IE{n:Nat} :∀{l:c5B},Cj n l=false->n∉l
 |[],_,h=>by cases h|k::r,hb,h=>by
  unfold Cj at hb;cases hk:Nat.beq k n<;>rw[hk]at hb
  .rcases D5.1 h with e|h
   .subst e;rw[show Nat.beq n n=true from Nat.beq_refl n]at hk;cases hk
   .exact IE hb h
  .cases hb
theorem YR{n:Nat} :∀{l:c5B},Cj n l=true->n∈l
 |[],h=>by cases h|k::r,hb=>by
  unfold Cj at hb;cases hk:Nat.beq k n<;>rw[hk]at hb
  .exact U3 _ (YR hb)
  .have:=fJ hk;subst this;exact jG
theorem jf{E:Env}{t:Nat}(h:Ju E t=true):t<E.nt/\t∉E.kp:=by
 unfold Ju at h;cases hb:Nat.blt t E.nt<;>rw[hb]at h
 .cases h
 .simp only[cond_true,Y1]at h;exact⟨by rw[aF]at hb;exact hb,IE h⟩
theorem Rel.put(R:Rel X cl ch S m ok a w)(hnt:X.E.nt<=V6){x:Value}(hd:Ju X.E d=true)(hv:lD ⟨w.heap,ok,m⟩ v x):
  Rel X cl ch (upd S d v) m ok (a.put (some d) x) w:=by
 obtain⟨hd,hkp⟩:=jf hd;have hb:∀n,upd S d v (V6+n)=S (V6+n):=λn=>V7 _ _ l7;have hkept:∀n∈X.E.kp,(a.put (some d) x).tmps.getD n Go.undef=X.tm0.getD n Go.undef:=λn hn=>by have e:n≠d:=λe=>hkp (e▸hn);simp only[Act.put];rw[Ed e];exact R.kept n hn
 refine { R with size:=(by simp[Act.put,R.size]),nodef:=(by simpa[Act.put]using R.nodef),dfs:=(by simpa[Act.put]using R.dfs),slot:=λn hn=>?_,box:=λn=>(by rw[hb];exact R.box n),inj:=λn n' b=>(by rw[hb,hb];exact R.inj n n' b),nd:=λn=>(by rw[hb];exact R.nd n),sep:=λn b=>(by rw[hb];exact R.sep n b),fresh:=λn h1 h2=>R.fresh n h1 (by rwa[hb]at h2),kept:=hkept };by_cases e:n=d
 .subst e;simp only[fQ,Act.put];rw[Nw (by rw[R.size];exact hd)];exact hv
 .rw[V7 _ _ e];simp only[Act.put];rw[Ed e];exact R.slot n hn
theorem Rel.slotV(R:Rel X cl ch S m ok a w)(hd:d<V6)(hv:lD ⟨w.heap,ok,m⟩ v (a.tmps.getD d Go.undef)):
  Rel X cl ch (upd S d v) m ok a w:=by
 have hb:∀n,upd S d v (V6+n)=S (V6+n):=λn=>V7 _ _ l7;refine { R with slot:=λn hn=>?_,box:=λn=>(by rw[hb];exact R.box n),inj:=λn n' b=>(by rw[hb,hb];exact R.inj n n' b),nd:=λn=>(by rw[hb];exact R.nd n),sep:=λn b=>(by rw[hb];exact R.sep n b),fresh:=λn h1 h2=>R.fresh n h1 (by rwa[hb]at h2) };by_cases e:n=d
 .subst e;simp only[fQ];exact hv
 .rw[V7 _ _ e];exact R.slot n hn
theorem Rel.world(R:Rel X cl ch S m ok a w){ok' :Nat->Ty->Prop}(hos:w'.os=w.os)(htp:w'.tape=w.tape)(hout:w'.output=w.output)(hsz:w.heap.size<=w'.heap.size)
  (hkeep:∀b,b<w.heap.size->((∃t,ok b t)\/(∃n,b∈P5 m n (S (V6+n)))\/¬(X.w0.heap.size<=b\/b∈X.O))->w'.heap[b]? =w.heap[b]?)
  (hok:∀b t,ok b t->ok' b t) (hok' :∀b t,ok' b t->b<w'.heap.size/\(ok b t\/((X.w0.heap.size<=b\/b∈X.O)/\∀n,b∉P5 m n (S (V6+n)))))
  (hdr:X.E.gl=[]->w.drawn<=w'.drawn:=by exact λ_=>A8 _):Rel X cl ch S m ok' a w' :=by
 have hle:Cx.le ⟨w.heap,ok,m⟩ ⟨w'.heap,ok',m⟩:=⟨hok,λb t hb=>hkeep b (R.okLt b t hb) (.inl ⟨t,hb⟩),λ_ _ h=>h⟩;refine { kept:=R.kept,size:=R.size,nodef:=R.nodef,dfs:=R.dfs,inj:=R.inj,nd:=R.nd,fresh:=R.fresh,strict:=R.strict,slot:=λn hn=>Fj hle (R.slot n hn),box:=λn=>PU hle rfl (λb hb=>hkeep b (R.sep n b hb).2.1 (.inr (.inl ⟨n,hb⟩))) (R.box n),sep:=λn b hb=>?_,okLt:=λb t hb=>(hok' b t hb).1,okIn:=λb t hb=>hok b t (R.okIn b t hb),okOut:=λb t hb=>?_,frame:=?_,gl:=λg u hg=>Ia.le hle (R.gl g u hg) }
 .obtain⟨h1,h2,h3⟩:=R.sep n b hb;refine⟨λt h=>?_,l7,h3⟩;rcases(hok' b t h).2 with h|⟨_,h⟩
  .exact h1 t h
  .exact h n hb
 .rcases(hok' b t hb).2 with h|⟨h,_⟩
  .exact R.okOut b t h
  .exact .inr h
 .obtain⟨f1,f2,f3,f4,f5,f6⟩:=R.frame;refine⟨hos.trans f1,htp.trans f2,hout.trans f3,l7,λb hb hO=>?_,λh=>X7 (f6 h) (hdr h)⟩;rw[hkeep b l7 (.inr (.inr (by simp[hO];omega)))];exact f5 b hb hO
theorem Rel.same(R:Rel X cl ch S m ok a w)(hos:w'.os=w.os)(htp:w'.tape=w.tape)(hout:w'.output=w.output)(hh:w'.heap=w.heap)(hdr:X.E.gl=[]->w.drawn<=w'.drawn:=by exact λ_=>A8 _):Rel X cl ch S m ok a w' :=by exact R.world hos htp hout (by rw[hh];exact A8 _) (λb _ _=>by rw[hh]) (λ_ _ h=>h) (λb t h=>⟨by rw[hh];exact R.okLt b t h,.inl h⟩) hdr
theorem zD{n k b:Nat}(hv:P5 m n v=[])(h:b∈P5 m k (upd S (V6+n) v (V6+k))):k≠n/\b∈P5 m k (S (V6+k)):=by
 by_cases e:k=n
 .subst e;rw[fQ,hv]at h;cases h
 .rw[V7 _ _ l7]at h;exact⟨e,h⟩
theorem Rel.killV(R:Rel X cl ch S m ok a w)(n:Nat)(hv:v≠.undef)(hw:P5 m n v=[])(hB:BB ⟨w.heap,ok,m⟩ n v):Rel X cl ch (upd S (V6+n) v) m ok a w:=by
 have ho:∀k b,b∈P5 m k (upd S (V6+n) v (V6+k))->k≠n/\b∈P5 m k (S (V6+k)):=λk b h=>zD hw h;refine { R with slot:=λk hk=>(by rw[V7 _ _ l7];exact R.slot k hk),box:=λk=>?_,inj:=λk k' b h h' =>R.inj k k' b (ho _ _ h).2 (ho _ _ h').2,nd:=λk=>?_,sep:=λk b h=>R.sep k b (ho _ _ h).2,fresh:=λk h1 h2=>?_ }
 .by_cases e:k=n
  .subst e;rw[fQ];exact hB
  .rw[V7 _ _ l7];exact R.box k
 .by_cases e:k=n
  .subst e;rw[fQ,hw];exact aW
  .rw[V7 _ _ l7];exact R.nd k
 .by_cases e:k=n
  .subst e;rw[fQ]at h2;exact absurd h2 hv
  .rw[V7 _ _ l7]at h2;exact R.fresh k h1 h2
theorem Rel.kill(R:Rel X cl ch S m ok a w)(n:Nat):Rel X cl ch (upd S (V6+n) .dead) m ok a w:=R.killV n A7 rfl trivial
theorem Tk.killV(R:Rel X cl ch S m ok a w)(h:Tk X S m ok w T)(n:Nat)(hw:P5 m n v=[])(hbs:∀b,b∈bs->b∈P5 m n (S (V6+n)))(hnd:bs.Nodup):
  Tk X (upd S (V6+n) v) m ok w (T++bs):=by
 refine⟨J9.2 ⟨h.nodup,hnd,λx hx y hy e=>?_⟩,λb hb=>?_⟩
 .subst e;exact(h.free x hx).2.2.2 n (hbs x hy)
 .rcases E5.1 hb with hb|hb
  .obtain⟨h1,h2,h3,h4⟩:=h.free b hb;exact⟨h1,h2,h3,λk e=>h4 k (zD hw e).2⟩
  .obtain⟨h1,h2,h3⟩:=R.sep n b (hbs b hb);exact⟨h1,h2,h3,λk e=>(zD hw e).1 (R.inj k n b (zD hw e).2 (hbs b hb))⟩
theorem Rel.mark(R:Rel X cl ch S m ok a w){md:M}{xs:List md.den}(hS:S (V6+n)= .barrs md xs none):Rel X cl ch (upd S (V6+(NK+n)) (.blen (x8 xs) md.size)) m ok a w:=by
 refine R.killV (NK+n) A7 rfl ?_;have hb:=R.box n;rw[hS]at hb;obtain⟨_,l,Os,hm,⟨ha,hho⟩,_⟩:=hb;refine⟨n,l,rfl,hm,?_⟩;cases l with
 |nil=>obtain⟨rfl,_⟩:=ha;rfl
 |st b=>cases ha|mp b=>cases ha|arr blk off len cap sz=>exact⟨by rw[ha.2.1];rfl,ha.1.symm⟩
theorem Tk.kill(R:Rel X cl ch S m ok a w)(h:Tk X S m ok w T)(n:Nat)(hbs:∀b,b∈bs->b∈P5 m n (S (V6+n)))(hnd:bs.Nodup):
  Tk X (upd S (V6+n) .dead) m ok w (T++bs):=h.killV R n rfl hbs hnd
theorem Rel.lay(R:Rel X cl ch S m ok a w){l:Loc}{ks:c5B}(hn:S (V6+n)= .undef)(hcl:cl<=n)(hch:n<ch)(hv:v≠.undef)
  (hos:w'.os=w.os) (htp:w'.tape=w.tape) (hout:w'.output=w.output) (hsz:w.heap.size<=w'.heap.size)
  (hkeep:∀b,b<w.heap.size->b∉P5 (mi m n l ks) n v->w'.heap[b]? =w.heap[b]?)
  (hnd:(P5 (mi m n l ks) n v).Nodup)
  (hfree:∀b∈P5 (mi m n l ks) n v,(∀t,¬ok b t)/\b<w'.heap.size/\(X.w0.heap.size<=b\/b∈X.O)/\∀k,b∉P5 m k (S (V6+k)))
  (hB:BB ⟨w'.heap,ok,mi m n l ks⟩ n v) (hdr:X.E.gl=[]->w.drawn<=w'.drawn:=by exact λ_=>A8 _):Rel X cl ch (upd S (V6+n) v) (mi m n l ks) ok a w' :=by
 have hm:m n=none:=R.fresh n hcl hn;have hR:Rel X cl ch S m ok a w' :=by
  refine R.world hos htp hout hsz (λb hb h=>?_) (λ_ _ h=>h) (λb t h=>⟨by have:=R.okLt b t h;omega,.inl h⟩) hdr;refine hkeep b hb (λe=>?_);obtain⟨h1,h2,h3,h4⟩:=hfree b e;rcases h with⟨t,h⟩|⟨k,h⟩|h
  .exact h1 t h
  .exact h4 k h
  .exact h h3
 have hle:Cx.le ⟨w'.heap,ok,m⟩ ⟨w'.heap,ok,mi m n l ks⟩:=⟨λ_ _ h=>h,λ_ _ _=>rfl,λk x h=>by
  by_cases e:k=n
  .subst e;simp[hm]at h
  .show mi m n l ks k=some x;rw[jg _ _ _ e];exact h⟩
 have hob:∀k,k≠n->P5 (mi m n l ks) k (upd S (V6+n) v (V6+k))=P5 m k (S (V6+k)):=λk e=>by rw[V7 _ _ l7];exact Ew (jg _ _ _ e) (MV _ _ _ e)
 have hobn:P5 (mi m n l ks) n (upd S (V6+n) v (V6+n))=P5 (mi m n l ks) n v:=by rw[fQ]
 refine { kept:=hR.kept,size:=hR.size,nodef:=hR.nodef,dfs:=hR.dfs,okLt:=hR.okLt,okIn:=hR.okIn,okOut:=hR.okOut,frame:=hR.frame,slot:=λk hk=>(by rw[V7 _ _ l7];exact Fj hle (hR.slot k hk)),box:=λk=>?_,inj:=λk k' b h h' =>?_,nd:=λk=>?_,sep:=λk b h=>?_,fresh:=λk h1 h2=>?_,strict:=λk h=>?_,gl:=λg u hg=>Ia.le hle (hR.gl g u hg) }
 .by_cases e:k=n
  .subst e;rw[fQ];exact hB
  .rw[V7 _ _ l7];refine PU hle (MV _ _ _ e) (λb hb=>rfl) (hR.box k)
 .by_cases e:k=n
  .by_cases e' :k' =n
   .rw[e,e']
   .subst e;rw[hobn]at h;rw[hob k' e']at h';exact absurd h' ((hfree b h).2.2.2 k')
  .by_cases e' :k' =n
   .subst e';rw[hobn]at h';rw[hob k e]at h;exact absurd h ((hfree b h').2.2.2 k)
   .rw[hob k e]at h;rw[hob k' e']at h';exact R.inj k k' b h h'
 .by_cases e:k=n
  .subst e;rw[hobn];exact hnd
  .rw[hob k e];exact R.nd k
 .by_cases e:k=n
  .subst e;rw[hobn]at h;obtain⟨h1,h2,h3,_⟩:=hfree b h;exact⟨h1,h2,h3⟩
  .rw[hob k e]at h;exact hR.sep k b h
 .by_cases e:k=n
  .subst e;rw[fQ]at h2;exact absurd h2 hv
  .rw[V7 _ _ l7]at h2;rw[jg _ _ _ e];exact R.fresh k h1 h2
 .have e:k≠n:=l7;rw[jg _ _ _ e];exact R.strict k h
theorem Rel.modK(R:Rel X cl ch S m ok a w)(hT:Tk X S m ok w T){ks:c5B}(hv:v≠.undef)
  (hnd:(P5 (AA m n ks) n v).Nodup) (hsub:∀b∈P5 (AA m n ks) n v,b∈P5 m n (S (V6+n))\/b∈T)
  (hos:w'.os=w.os) (htp:w'.tape=w.tape) (hout:w'.output=w.output) (hsz:w'.heap.size=w.heap.size)
  (hkeep:∀b,b∉P5 m n (S (V6+n))->w'.heap[b]? =w.heap[b]?) (hB:BB ⟨w'.heap,ok,AA m n ks⟩ n v)
  {T' :c5B} (hnd' :T'.Nodup) (hT' :∀b∈T',(b∈P5 m n (S (V6+n))\/b∈T)/\b∉P5 (AA m n ks) n v) (hdr:X.E.gl=[]->w.drawn<=w'.drawn:=by exact λ_=>A8 _):
  Rel X cl ch (upd S (V6+n) v) (AA m n ks) ok a w' /\Tk X (upd S (V6+n) v) (AA m n ks) ok w' T' :=by
 have hsep:∀b,b∈P5 m n (S (V6+n))\/b∈T->(∀t,¬ok b t)/\b<w.heap.size/\(X.w0.heap.size<=b\/b∈X.O)/\∀k,k≠n->b∉P5 m k (S (V6+k)):=λb h=>by
  rcases h with h|h
  .obtain⟨h1,h2,h3⟩:=R.sep n b h;exact⟨h1,h2,h3,λk e h' =>e (R.inj k n b h' h)⟩
  .obtain⟨h1,h2,h3,h4⟩:=hT.free b h;exact⟨h1,h2,h3,λk _=>h4 k⟩
 have hle:Cx.le ⟨w.heap,ok,m⟩ ⟨w'.heap,ok,AA m n ks⟩:=⟨λ_ _ h=>h,λb t hb=>hkeep b (λe=>(R.sep n b e).1 t hb),λ_ _ h=>h⟩;have hob:∀k,k≠n->P5 (AA m n ks) k (upd S (V6+n) v (V6+k))=P5 m k (S (V6+k)):=λk e=>by rw[V7 _ _ l7];exact Ew rfl (Zj _ _ e)
 have hobn:P5 (AA m n ks) n (upd S (V6+n) v (V6+n))=P5 (AA m n ks) n v:=by rw[fQ]
 refine⟨?_,hnd',λb hb=>?_⟩
 .refine { kept:=R.kept,size:=R.size,nodef:=R.nodef,dfs:=R.dfs,okLt:=λb t hb=>(by rw[hsz];exact R.okLt b t hb),okIn:=R.okIn,okOut:=R.okOut,strict:=R.strict,slot:=λk hk=>(by rw[V7 _ _ l7];exact Fj hle (R.slot k hk)),box:=λk=>?_,inj:=λk k' b h h' =>?_,nd:=λk=>?_,sep:=λk b h=>?_,fresh:=λk h1 h2=>?_,frame:=?_,gl:=λg u hg=>Ia.le hle (R.gl g u hg) }
  .by_cases e:k=n
   .subst e;rw[fQ];exact hB
   .rw[V7 _ _ l7];refine PU hle (Zj _ _ e) (λb hb=>hkeep b (λe' =>e (R.inj k n b hb e'))) (R.box k)
  .by_cases e:k=n
   .by_cases e' :k' =n
    .rw[e,e']
    .subst e;rw[hobn]at h;rw[hob k' e']at h';exact absurd h' ((hsep b (hsub b h)).2.2.2 k' e')
   .by_cases e' :k' =n
    .subst e';rw[hobn]at h';rw[hob k e]at h;exact absurd h ((hsep b (hsub b h')).2.2.2 k e)
    .rw[hob k e]at h;rw[hob k' e']at h';exact R.inj k k' b h h'
  .by_cases e:k=n
   .subst e;rw[hobn];exact hnd
   .rw[hob k e];exact R.nd k
  .by_cases e:k=n
   .subst e;rw[hobn]at h;obtain⟨h1,h2,h3,_⟩:=hsep b (hsub b h);exact⟨h1,by rw[hsz];exact h2,h3⟩
   .rw[hob k e]at h;obtain⟨h1,h2,h3⟩:=R.sep k b h;exact⟨h1,by rw[hsz];exact h2,h3⟩
  .obtain⟨f1,f2,f3,f4,f5,f6⟩:=R.frame;refine⟨hos.trans f1,htp.trans f2,hout.trans f3,by rw[hsz];exact f4,λb hb hO=>?_,λh=>X7 (f6 h) (hdr h)⟩;rw[hkeep b (λe=>?_)]
   .exact f5 b hb hO
   .rcases(R.sep n b e).2.2 with h|h
    .omega
    .exact hO h
  .by_cases e:k=n
   .subst e;rw[fQ]at h2;exact absurd h2 hv
   .rw[V7 _ _ l7]at h2;exact R.fresh k h1 h2
 .obtain⟨h0,h0'⟩:=hT' b hb;obtain⟨h1,h2,h3,h4⟩:=hsep b h0;refine⟨h1,by rw[hsz];exact h2,h3,λk h=>?_⟩;by_cases e:k=n
  .subst e;rw[hobn]at h;exact h0' h
  .rw[hob k e]at h;exact h4 k e h
theorem Rel.mod(R:Rel X cl ch S m ok a w)(ho:P5 m n v=P5 m n (S (V6+n)))(hv:v≠.undef)
  (hos:w'.os=w.os) (htp:w'.tape=w.tape) (hout:w'.output=w.output) (hsz:w'.heap.size=w.heap.size)
  (hkeep:∀b,b∉P5 m n (S (V6+n))->w'.heap[b]? =w.heap[b]?) (hB:BB ⟨w'.heap,ok,m⟩ n v) (hdr:X.E.gl=[]->w.drawn<=w'.drawn:=by exact λ_=>A8 _):Rel X cl ch (upd S (V6+n) v) m ok a w' :=by
 have h:=R.modK (T:=[]) Tk.nil (n:=n) (v:=v) (ks:=m.kid n) (w' :=w') (T' :=[]) hv (by rw[yE,ho];exact R.nd n) (by rw[yE,ho];exact λb h=> .inl h) hos htp hout hsz hkeep (by rw[yE];exact hB) aW (λb h=>by cases h) hdr;rw[yE]at h;exact h.1
theorem Rel.widen(R:Rel X cl ch S m ok a w)(hv:v≠.undef)(ho:P5 m n v=[]){Ts:List Ty}(hbs:∀b∈bs,b∈P5 m n (S (V6+n)))
  (hB:BB ⟨w.heap,okW ok bs Ts,m⟩ n v):Rel X cl ch (upd S (V6+n) v) m (okW ok bs Ts) a w:=by
 have hmono:∀b t,ok b t->okW ok bs Ts b t:=λb t h=> .inl h;have hob:∀k b,b∈P5 m k (upd S (V6+n) v (V6+k))->k≠n/\b∈P5 m k (S (V6+k)):=λk b h=>zD ho h;have hle:Cx.le ⟨w.heap,ok,m⟩ ⟨w.heap,okW ok bs Ts,m⟩:=⟨hmono,λ_ _ _=>rfl,λ_ _ h=>h⟩;refine { kept:=R.kept,size:=R.size,nodef:=R.nodef,dfs:=R.dfs,strict:=R.strict,frame:=R.frame,okIn:=λb t h=>hmono b t (R.okIn b t h),slot:=λk hk=>(by rw[V7 _ _ l7];exact Fj hle (R.slot k hk)),box:=λk=>?_,inj:=λk k' b h h' =>R.inj k k' b (hob _ _ h).2 (hob _ _ h').2,nd:=λk=>?_,sep:=λk b h=>?_,okLt:=λb t h=>?_,okOut:=λb t h=>?_,fresh:=λk h1 h2=>?_,gl:=λg u hg=>Ia.le hle (R.gl g u hg) }
 .by_cases e:k=n
  .subst e;rw[fQ];exact hB
  .rw[V7 _ _ l7];exact PU hle rfl (λb hb=>rfl) (R.box k)
 .by_cases e:k=n
  .subst e;rw[fQ,ho];exact aW
  .rw[V7 _ _ l7];exact R.nd k
 .obtain⟨e,h⟩:=hob k b h;obtain⟨h1,h2,h3⟩:=R.sep k b h;refine⟨λt h' =>?_,h2,h3⟩;rcases h' with h'|⟨h',_⟩
  .exact h1 t h'
  .exact e (R.inj k n b h (hbs b h'))
 .rcases h with h|⟨h,_⟩
  .exact R.okLt b t h
  .exact(R.sep n b (hbs b h)).2.1
 .rcases h with h|⟨h,_⟩
  .exact R.okOut b t h
  .exact .inr (R.sep n b (hbs b h)).2.2
 .by_cases e:k=n
  .subst e;rw[fQ]at h2;exact absurd h2 hv
  .rw[V7 _ _ l7]at h2;exact R.fresh k h1 h2
theorem Tk.widen(h:Tk X S m ok w T)(ho:P5 m n v=[]){Ts:List Ty}(hbs:∀b∈bs,b∈P5 m n (S (V6+n))):
  Tk X (upd S (V6+n) v) m (okW ok bs Ts) w T:=by
 refine⟨h.nodup,λb hb=>?_⟩;obtain⟨h1,h2,h3,h4⟩:=h.free b hb;refine⟨λt e=>?_,h2,h3,λk e=>h4 k (zD ho e).2⟩;rcases e with e|⟨e,_⟩
 .exact h1 t e
 .exact h4 n (hbs b e)
theorem Rel.backV(R:Rel X cl ch S m ok a w){O1 B:c5B}(hv:v≠.undef)(hT:Tk X S m ok w (O1++B))(ho:P5 m n v=O1)(hB:BB ⟨w.heap,ok,m⟩ n v):
  Rel X cl ch (upd S (V6+n) v) m ok a w/\Tk X (upd S (V6+n) v) m ok w B:=by
 have hnd:=J9.1 hT.nodup;have h:=R.modK hT (n:=n) (v:=v) (ks:=m.kid n) (w' :=w) (T' :=B) hv (by rw[yE,ho];exact hnd.1) (by rw[yE,ho];exact λb h=> .inr (by simp[h])) rfl rfl rfl rfl (λ_ _=>rfl) (by rw[yE];exact hB) hnd.2.1
  (λb hb=>⟨.inr (by simp[hb]),by rw[yE,ho];exact λh=>hnd.2.2 b h b hb rfl⟩)
 rw[yE]at h;exact h
end
end Go.GP
namespace Go.GP
def Jo:Loc->Option (Nat×Nat)->Loc
 | .arr blk off len cap sz,some (lo,hi)=>if cap=lo then .arr blk off 0 0 sz else .arr blk (off+lo*sz) (hi -lo) (cap -lo) sz|l,_=>l
variable {t:Ty}{v:Value}{l:Loc}{xs:List t.den}
theorem Ib{C:Cx}{vw:Option (Nat×Nat)}(ha:arrOk C t xs l)(hv:l.view vw v):
  arrOk C t (jU vw xs) (Jo l vw)/\(Jo l vw).view none v/\(Jo l vw).blks=l.blks:=by
 cases l with
 |st b=>cases ha|mp b=>
  cases vw with
  |none=>exact⟨ha,hv,rfl⟩|some p=>cases hv
 |nil=>
  obtain⟨ha,h0⟩:=ha;subst ha;cases vw with
  |none=>exact⟨⟨rfl,h0⟩,hv,rfl⟩|some p=>obtain⟨lo,hi⟩:=p;obtain⟨rfl,rfl,rfl⟩:=hv;exact⟨⟨rfl,h0⟩,rfl,rfl⟩
 |arr blk off len cap sz=>
  cases vw with
  |none=>exact⟨ha,hv,rfl⟩|some p=>
   obtain⟨lo,hi⟩:=p;obtain⟨h0,rfl,rfl,hc,c,T,f,hh,hz,hs,hx⟩:=ha;obtain⟨h1,h2,rfl⟩:=hv;have hl:(jU (some (lo,hi)) xs).length=hi -lo:=by simp[jU,lq];omega
   by_cases e:cap=lo
   .subst e;have e2:hi=cap:=l7;subst e2;simp only[Jo,if_true,Loc.view,aH];refine⟨⟨h0,rfl,by rw[hl];omega,A8 _,c,T,f,hh,hz,?_,λi x hi=>?_⟩,trivial,rfl⟩
    .have:=gV (hi*t.size);omega
    .have:i<0:=by
      have:=(X9.1 hi).1;rw[hl]at this;omega
     omega
   .simp only[Jo,e,if_false,Loc.view];refine⟨⟨h0,rfl,by rw[hl],l7,c,T,f,hh,hz,?_,λi x hix=>?_⟩,trivial,rfl⟩
    .have:off+lo*t.size+(cap -lo)*t.size=off+cap*t.size:=by
      rw[jS,←L6];congr 2;omega
     rw[this];exact hs
    .have hi' :i<hi -lo:=by rw[←hl];exact(X9.1 hix).1
     have hx' :xs[lo+i]? =some x:=by
      simp only[jU,lq,O0,Z9]at hix;split at hix
      .exact hix
      .cases hix
     obtain⟨es,he,hr⟩:=hx _ x hx';refine⟨es,?_,hr⟩;rw[←he];congr 1;rw[L6];omega
def Ri(ag:Bool)(v:Value)(cs:c5A):Prop:=match ag with
 |true=>∃arr,v= .agg arr/\arr.toList=cs|false=>cs=[v]
def lI(h:Array Obj)(ok:Nat->Ty->Prop):(ms:List MG)->X4 ms->c5A->c5B->Prop
 |[],_,vs,O=>vs=[]/\O=[]|[m],x,vs,O=>∃v cs,vs=[v]/\Ri m.1 v cs/\nG h ok m.2 none x cs O|m::m' ::r,x,vs,O=>∃v cs vs' O1 O2,vs=v::vs' /\O=O1++O2/\Ri m.1 v cs/\nG h ok m.2 none x.1 cs O1/\lI h ok (m' ::r) x.2 vs' O2
theorem lV{vw:Option (Nat×Nat)}(h:l.view vw v):v.oneCell' =true:=by
 cases l<;>rcases vw with _|⟨lo,hi⟩<;>simp only[Loc.view]at h
 .subst h;rfl
 .obtain⟨_,_,rfl⟩:=h;rfl
 .subst h;rfl
 .obtain⟨_,_,rfl⟩:=h;rfl
 .subst h;rfl
variable {h:Array Obj}{o:Nat}
theorem Ko{ok:Nat->Ty->Prop}{x:t.den}(k:ZV h ok t x o v):v.oneCell' =true:=by obtain⟨_,_,_,rfl,_⟩:=k;rfl
variable {α:Type}{ok':Nat->Ty->Prop}{cs:c5A}{O:c5B}{m:M}{sz:Nat}{mp:Mp}{R:Nat->α->c5A->c5B->Prop}{Os:List c5B}
section
variable {h:Array Obj} {ok:Nat->Ty->Prop}
theorem wO :nG h ok (.own t) none xs cs O↔∃l v,cs=[v]/\l.view none v/\arrOk ⟨h,ok,nom⟩ t xs l/\O=l.blks:=by
 constructor
 .rintro⟨v,e,_,l,hv,ha,ho⟩;exact⟨l,v,e,hv,ha,ho⟩
 .rintro⟨l,v,e,hv,ha,ho⟩;exact⟨v,e,lV hv,l,hv,ha,ho⟩
theorem yA{xs:List m.den} :nG h ok (.owns m) none xs cs O↔m.el=true/\∃l v Os,cs=[v]/\l.view none v/\
  vC h m.size (λ_ x es O=>nG h ok m none x es O) xs Os l/\O=l.blks++Os.flatten:=by
 constructor
 .rintro⟨v,e,_,he,l,Os,hv,ha,ho⟩;exact⟨he,l,v,Os,e,hv,ha,ho⟩
 .rintro⟨he,l,v,Os,e,hv,ha,ho⟩;exact⟨v,e,lV hv,he,l,Os,hv,ha,ho⟩
theorem a7U{a b:M}{x:a.den×b.den} :nG h ok (.pair a b) none x cs O↔∃c d O1 O2,cs=c++d/\O=O1++O2/\nG h ok a none x.1 c O1/\nG h ok b none x.2 d O2:=Iff.rfl
theorem oV:∀{m:M} {ho:Option Nat} {x:m.den} {cs:c5A} {O:c5B},nG h ok m ho x cs O->∀v∈cs,v.oneCell' =true
 | .dat t,_,_,_,_,e=>xU e.1| .own t,_,_,_,_,⟨v,e,hv,_⟩=>by subst e;simp[hv]| .owns t,_,_,_,_,⟨v,e,hv,_⟩=>by subst e;simp[hv]| .ownb t,_,_,_,_,⟨l,v,e,hv,_⟩=>by subst e;simp[lV hv]| .pair a b,_,_,_,_,⟨c,d,_,_,e,_,h1,h2⟩=>by
  subst e;intro v hv;rcases E5.1 hv with hv|hv
  .exact oV h1 v hv
  .exact oV h2 v hv
 | .unit,_,_,_,_,⟨e,_⟩=>by subst e;simp| .box m,_,_,_,_,⟨_,_,_,_,e,_⟩=>by subst e;simp[Value.oneCell']| .rp t,_,_,_,_,⟨v,e,hv,_⟩=>by subst e;simp[Ko hv]| .fn f ts,_,_,_,_,⟨vs,e,_⟩=>by subst e;simp[Value.oneCell']| .ifc t m,_,_,_,_,⟨u,e,_⟩=>by subst e;simp[Value.oneCell']| .cell _,_,_,_,_,⟨v,e,h,_⟩=>by subst e;simp[h]| .fr t,_,_,_,_,⟨l,v,e,hv,_⟩=>by subst e;simp[lV hv]| .lp t,_,_,_,_,⟨v,e,hv,_⟩=>by subst e;simp[Ko hv]| .dv ..,_,_,_,_,⟨v,e,h,_⟩=>by subst e;simp[h]| .ownr ..,_,_,_,_,⟨v,e,h,_⟩=>by subst e;simp[h]| .sit,_,_,_,_,⟨blk,a,v,e,_⟩=>by subst e;simp[Value.oneCell']| .sbx tb te,_,_,_,_,⟨blk,a,v,l,e,_⟩=>by subst e;simp[Value.oneCell']
theorem Gv{α β α' β' :Type}(ea:α=α')(eb:β=β')(e:(α×β)=(α' ×β'))(x:α×β):cast e x=(cast ea x.1,cast eb x.2):=by subst ea;subst eb;rfl
theorem M.ty_size:∀{m:M},m.el=true->m.ty.size=m.size
 | .dat _,_=>rfl| .own _,_=>rfl| .owns _,_=>rfl| .unit,_=>rfl| .pair a b,h=>by
  have h' :a.el=true/\b.el=true:=by simpa[M.el]using h
  simp[M.ty,Ty.size,M.size,M.ty_size h'.1,M.ty_size h'.2]
 | .box _,h=>by simp[M.el]at h| .ownb _,h=>by simp[M.el]at h| .rp _,h=>by simp[M.el]at h| .fn _ _,h=>by simp[M.el]at h| .ifc _ _,h=>by simp[M.el]at h| .cell _,h=>by simp[M.el]at h| .fr _,h=>by simp[M.el]at h| .sbx _ _,h=>by simp[M.el]at h| .lp _,h=>by simp[M.el]at h| .dv ..,h=>by simp[M.el]at h| .ownr ..,h=>by simp[M.el]at h| .sit,h=>by simp[M.el]at h
theorem bf:∀{m:M} {ho:Option Nat} {x:m.den} {cs:c5A} {O:c5B},nG h ok m ho x cs O->cs.length=m.size
 | .dat t,_,_,_,_,e=>fO e.1| .own t,_,_,_,_,⟨v,e,hv,_⟩=>by subst e;rfl| .owns t,_,_,_,_,⟨v,e,hv,_⟩=>by subst e;rfl| .ownb t,_,_,_,_,⟨l,v,e,hv,_⟩=>by subst e;rfl| .pair a b,_,_,_,_,⟨c,d,_,_,e,_,h1,h2⟩=>by subst e;simp[bf h1,bf h2,M.size]| .unit,_,_,_,_,⟨e,_⟩=>by subst e;rfl| .box m,_,_,_,_,⟨_,_,_,_,e,_⟩=>by subst e;rfl| .rp t,_,_,_,_,⟨v,e,hv,_⟩=>by subst e;rfl| .fn f ts,_,_,_,_,⟨vs,e,_⟩=>by subst e;rfl| .ifc t m,_,_,_,_,⟨u,e,_⟩=>by subst e;rfl| .cell _,_,_,_,_,⟨v,e,_⟩=>by subst e;rfl| .fr t,_,_,_,_,⟨l,v,e,hv,_⟩=>by subst e;rfl| .lp t,_,_,_,_,⟨v,e,_⟩=>by subst e;rfl| .dv ..,_,_,_,_,⟨v,e,_⟩=>by subst e;rfl| .ownr ..,_,_,_,_,⟨v,e,_⟩=>by subst e;rfl| .sit,_,_,_,_,⟨blk,a,v,e,_⟩=>by subst e;rfl| .sbx tb te,_,_,_,_,⟨blk,a,v,l,e,_⟩=>by subst e;rfl
theorem a0D(h0:t.isEnt=false)(e:α=t.den)(e' :List α=List t.den)(hs:t.size=sz){xs:List α}
  (hR:∀i x es O,O∈Os->R i x es O->lJ h ok' t (cast e x) es) (ha:vC h sz R xs Os l):arrOk ⟨h,ok',mp⟩ t (cast e' xs) l:=by
 subst e;simp only[cast_eq]at hR ⊢;cases l with
 |nil=>exact⟨ha.1,h0⟩|st b=>exact ha|mp b=>exact ha.elim|arr blk off len cap sz' =>obtain⟨h1,h2,h3,h7,c,T,h4,h5,h6⟩:=ha;refine⟨h0,by rw[hs];exact h1,h2,h3,c,T,_,h4,.inl rfl,by rw[h1];exact h5,λi x hi=>?_⟩;obtain⟨es,O,hO,hc,hr⟩:=h6 i x hi;exact⟨es,by rw[h1];exact hc,hR i x es O (vM hO) hr⟩
theorem M.ty_ent:∀{m:M},m.el=true->m.ty.isEnt=false
 | .dat t,h=>by simpa[M.el,M.ty]using h| .own _,_=>rfl| .owns _,_=>rfl| .unit,_=>rfl| .pair _ _,_=>rfl| .box _,h=>by simp[M.el]at h| .ownb _,h=>by simp[M.el]at h| .rp _,h=>by simp[M.el]at h| .fn _ _,h=>by simp[M.el]at h| .ifc _ _,h=>by simp[M.el]at h| .cell _,h=>by simp[M.el]at h| .fr _,h=>by simp[M.el]at h| .sbx _ _,h=>by simp[M.el]at h| .lp _,h=>by simp[M.el]at h| .dv ..,h=>by simp[M.el]at h| .ownr ..,h=>by simp[M.el]at h| .sit,h=>by simp[M.el]at h
theorem PX{ok' :Nat->Ty->Prop}(hok:∀b t,ok b t->ok' b t):∀{m:M} (he:m.el=true) {x:m.den} {cs:c5A} {O:c5B},(∀b∈O,∀t∈m.owned,ok' b t)->nG h ok m none x cs O->lJ h ok' m.ty (cast (M.denEq m he) x) cs
 | .dat t,_,_,_,_,_,e=>dU hok (λ_ _ _=>rfl) e.1| .unit,_,_,_,_,_,e=>e.1| .own t,he,xs,_,_,hO,e=>by obtain⟨l,v,rfl,hv,ha,rfl⟩:=wO.1 e;exact qg (C:=⟨h,ok,nom⟩) (vw:=none) ha hv hok (λblk hb=>hO blk hb t (by simp[M.owned]))
 | .pair a b,he,x,_,_,hO,e=>by
  obtain⟨c,d,O1,O2,rfl,rfl,h1,h2⟩:=e;have h' :a.el=true/\b.el=true:=by simpa[M.el]using he
  have e:cast (M.denEq (.pair a b) he) x=(cast (M.denEq a h'.1) x.1,cast (M.denEq b h'.2) x.2):=Gv _ _ _ _;refine⟨c,d,rfl,?_,?_⟩
  .rw[e];exact PX hok h'.1 (λb hb t ht=>hO b (by simp[hb]) t (by simp[M.owned,ht])) h1
  .rw[e];exact PX hok h'.2 (λb hb t ht=>hO b (by simp[hb]) t (by simp[M.owned,ht])) h2
 | .owns m,he,xs,_,_,hO,e=>by
  obtain⟨_,l,v,Os,rfl,hv,ha,rfl⟩:=yA.1 e;have he' :m.el=true:=he;have hA:arrOk ⟨h,ok',nom⟩ m.ty (cast (congrArg List (M.denEq m he')) xs) l:=a0D (M.ty_ent he') (M.denEq m he') _ (M.ty_size he') (λi x es O hOi hr=>PX hok he' (λb hb t ht=>hO b (by simp only[E5,aj];exact .inr ⟨O,hOi,hb⟩) t (by simp[M.owned,ht])) hr) ha
  exact qg (C:=⟨h,ok',nom⟩) (t:=m.ty) (vw:=none) hA hv (λ_ _ h=>h) (λblk hb=>hO blk (by simp[hb]) m.ty (by simp[M.owned]))
 | .box _,h,_,_,_,_,_=>by simp[M.el]at h| .ownb _,h,_,_,_,_,_=>by simp[M.el]at h| .rp _,h,_,_,_,_,_=>by simp[M.el]at h| .fn _ _,h,_,_,_,_,_=>by simp[M.el]at h| .ifc _ _,h,_,_,_,_,_=>by simp[M.el]at h| .cell _,h,_,_,_,_,_=>by simp[M.el]at h| .fr _,h,_,_,_,_,_=>by simp[M.el]at h| .sbx _ _,h,_,_,_,_,_=>by simp[M.el]at h| .lp _,h,_,_,_,_,_=>by simp[M.el]at h| .dv ..,h,_,_,_,_,_=>by simp[M.el]at h| .ownr ..,h,_,_,_,_,_=>by simp[M.el]at h| .sit,h,_,_,_,_,_=>by simp[M.el]at h
theorem MP:∀{m:M} (he:m.el=true) (h0:m.own0=true) {x:m.ty.den} {cs:c5A},lJ h ok m.ty x cs->nG h ok m none (cast (M.denEq m he).symm x) cs []
 | .dat t,_,_,_,_,e=>⟨e,rfl⟩| .unit,_,_,_,_,e=>⟨e,rfl⟩| .pair a b,he,h0,x,_,e=>by
  obtain⟨c,d,rfl,h1,h2⟩:=e;have h' :a.el=true/\b.el=true:=by simpa[M.el]using he
  have h0' :a.own0=true/\b.own0=true:=by simpa[M.own0]using h0
  have e:cast (M.denEq (.pair a b) he).symm x=(cast (M.denEq a h'.1).symm x.1,cast (M.denEq b h'.2).symm x.2):=Gv _ _ _ _;refine⟨c,d,[],[],rfl,rfl,?_,?_⟩
  .rw[e];exact MP h'.1 h0'.1 h1
  .rw[e];exact MP h'.2 h0'.2 h2
 | .own _,_,h0,_,_,_=>by simp[M.own0]at h0| .owns _,_,h0,_,_,_=>by simp[M.own0]at h0| .box _,h,_,_,_,_=>by simp[M.el]at h| .ownb _,h,_,_,_,_=>by simp[M.el]at h| .rp _,h,_,_,_,_=>by simp[M.el]at h| .fn _ _,h,_,_,_,_=>by simp[M.el]at h| .ifc _ _,h,_,_,_,_=>by simp[M.el]at h| .cell _,h,_,_,_,_=>by simp[M.el]at h| .fr _,h,_,_,_,_=>by simp[M.el]at h| .sbx _ _,h,_,_,_,_=>by simp[M.el]at h| .lp _,h,_,_,_,_=>by simp[M.el]at h| .dv ..,h,_,_,_,_=>by simp[M.el]at h| .ownr ..,h,_,_,_,_=>by simp[M.el]at h| .sit,h,_,_,_,_=>by simp[M.el]at h
theorem WU:∀{m:M} (he:m.el=true) {o:Nat} (h1:m.own1 o=true) {x:m.ty.den} {cs:c5A},lJ h ok m.ty x cs->nG h ok m (some o) (cast (M.denEq m he).symm x) cs []
 | .own t,_,o,h1,x,_,e=>by have h1:o=0:=fJ h1;subst h1;rcases e with⟨_,a,cap,rfl,_⟩|⟨_,mv,rfl,_⟩<;>exact⟨_,rfl,rfl,rfl⟩
 | .pair a b,he,o,h1,x,_,e=>by
  obtain⟨c,d,rfl,r1,r2⟩:=e;have h' :a.el=true/\b.el=true:=by simpa[M.el]using he
  have e:cast (M.denEq (.pair a b) he).symm x=(cast (M.denEq a h'.1).symm x.1,cast (M.denEq b h'.2).symm x.2):=Gv _ _ _ _;refine⟨c,d,[],[],rfl,rfl,?_,?_⟩<;>rw[e]<;>by_cases hlt:o<a.size
  .have hb:Nat.blt o a.size=true:=by rw[aF];exact hlt
   simp only[M.own1,hb,cond_true,x9]at h1;simp only[hlt,if_true];exact WU h'.1 h1.1 r1
  .have hb:Nat.blt o a.size=false:=by cases hc:Nat.blt o a.size<;>first|rfl|(rw[aF]at hc;exact absurd hc hlt)
   simp only[M.own1,hb,cond_false,x9]at h1;simp only[hlt,if_false];exact MP h'.1 h1.1 r1
  .have hb:Nat.blt o a.size=true:=by rw[aF];exact hlt
   simp only[M.own1,hb,cond_true,x9]at h1;simp only[hlt,if_true];exact MP h'.2 h1.2 r2
  .have hb:Nat.blt o a.size=false:=by cases hc:Nat.blt o a.size<;>first|rfl|(rw[aF]at hc;exact absurd hc hlt)
   simp only[M.own1,hb,cond_false,x9]at h1;simp only[hlt,if_false];exact WU h'.2 h1.2 r2
 | .dat _,_,_,h1,_,_,_=>by simp[M.own1]at h1| .unit,_,_,h1,_,_,_=>by simp[M.own1]at h1| .owns _,_,_,h1,_,_,_=>by simp[M.own1]at h1| .box _,h,_,_,_,_,_=>by simp[M.el]at h| .ownb _,h,_,_,_,_,_=>by simp[M.el]at h| .rp _,h,_,_,_,_,_=>by simp[M.el]at h| .fn _ _,h,_,_,_,_,_=>by simp[M.el]at h| .ifc _ _,h,_,_,_,_,_=>by simp[M.el]at h| .cell _,h,_,_,_,_,_=>by simp[M.el]at h| .fr _,h,_,_,_,_,_=>by simp[M.el]at h| .sbx _ _,h,_,_,_,_,_=>by simp[M.el]at h| .lp _,h,_,_,_,_,_=>by simp[M.el]at h| .dv ..,h,_,_,_,_,_=>by simp[M.el]at h| .ownr ..,h,_,_,_,_,_=>by simp[M.el]at h| .sit,h,_,_,_,_,_=>by simp[M.el]at h
theorem b3p(h:m.own1 o=true):m.ty≠.int .u8:=by cases m<;>first|(simp[M.own1]at h;done)|(simp[M.ty];done)
theorem a0E(e:t.den=α)(e' :List t.den=List α)(hs:t.size=sz)(hu:t≠.int .u8)(hE:t.isEnt=false)
  (hR:∀i x es,lJ h ok t x es->R i (cast e x) es []) (ha:arrOk ⟨h,ok,mp⟩ t xs l):vC h sz R (cast e' xs) (List.replicate xs.length []) l:=by
 subst e;simp only[cast_eq]at hR ⊢;cases l with
 |nil=>obtain⟨rfl,_⟩:=ha;exact⟨rfl,rfl⟩
 |st b=>exact ha|mp b=>rw[ha.1]at hE;cases hE|arr blk off len cap sz' =>obtain⟨h0,h1,h2,h3,c,T,f,h4,hz,h5,h6⟩:=ha;have hf:f=(0,0):=hz.elim id (λh=>absurd h.1 hu);subst hf;refine⟨h1.trans hs,h2,h3,A7,c,T,h4,by rw[←hs,←h1];exact h5,λi x hi=>?_⟩;obtain⟨es,hc,hr⟩:=h6 i x hi;refine⟨es,[],?_,by rw[←hs,←h1];exact hc,hR i x es hr⟩;rw[List.getElem?_replicate,if_pos (X9.1 hi).1]
theorem a2P{R R' :Nat->α->c5A->c5B->Prop}{xs:List α}
  (hR:∀i x es O,i<xs.length->R i x es O->R' i x es O) (hr:vC h sz R xs Os l):vC h sz R' xs Os l:=by
 cases l with
 |nil=>exact hr|st b=>exact hr|mp b=>exact hr|arr blk off len cap sz=>obtain⟨h1,h2,h3,h7,c,T,h4,h5,h6⟩:=hr;refine⟨h1,h2,h3,h7,c,T,h4,h5,λi x hi=>?_⟩;obtain⟨es,O,hO,he,hp⟩:=h6 i x hi;exact⟨es,O,hO,he,hR _ _ _ _ (X9.1 hi).1 hp⟩
theorem a1g{o n i k:Nat}(h:i<k)(hn:k<=n):xe o n i=none:=by unfold xe;rw[if_neg l7]
theorem Nj(he:m.el=true)(hok:∀b t,ok b t->ok' b t){xs:List m.den}(hO:∀b∈Os.flatten,∀t∈m.owned,ok' b t)
  (ha:vC h m.size (λ_ x es O=>nG h ok m none x es O) xs Os l):arrOk ⟨h,ok',mp⟩ m.ty (cast (congrArg List (M.denEq m he)) xs) l:=
 a0D (M.ty_ent he) (M.denEq m he) _ (M.ty_size he) (λi x es O hOi hr=>PX hok he (λb hb t ht=>hO b (aj.2 ⟨O,hOi,hb⟩) t ht) hr) ha
end
theorem Ti{h h' :Array Obj}{ok ok' :Nat->Ty->Prop}(hok:∀b t,ok b t->ok' b t)(hh:∀b t,ok b t->h'[b]? =h[b]?):
  ∀{ms:List MG} {x:X4 ms} {vs:c5A} {O:c5B},(∀b∈O,h'[b]? =h[b]?)->lI h ok ms x vs O->lI h' ok' ms x vs O
 |[],_,_,_,_,e=>e|[m],_,_,_,hb,⟨v,cs,e,hg,hr⟩=>⟨v,cs,e,hg,jc hok hh hb hr⟩|m::m' ::r,_,_,_,hb,⟨v,cs,vs',O1,O2,e,eo,hg,h1,h2⟩=>by subst eo;exact⟨v,cs,vs',O1,O2,e,rfl,hg,jc hok hh (λb h=>hb b (by simp[h])) h1,Ti hok hh (λb h=>hb b (by simp[h])) h2⟩
variable {Q:α->Sm->Prop}{c:V}{p:M}
section
variable {X:Fx} {cl ch:Nat} {S:Sm} {m:Mp} {ok:Nat->Ty->Prop} {a:Act} {w:World} {T:c5B}
theorem eU{p q:Ty}{xs:List p.den}{k:List q.den->Cmd α}{S:Sm}
  (h:∀e:p=q,(k (e▸xs)).post S Q):(Ty.castL p q xs k .fail).post S Q:=by
 unfold Ty.castL;split
 .rename_i e;exact h e
 .trivial
theorem aN{b:Bool}{c:Cmd α}{S:Sm}(h:b=true->c.post S Q):(bif b then c else Cmd.fail).post S Q:=by
 cases b
 .trivial
 .exact h rfl
theorem DU{p q:Ty}{x:p.den}{k:q.den->Cmd α}{S:Sm}
  (h:∀e:p=q,(k (e▸x)).post S Q):(Vf p q x k .fail).post S Q:=by
 unfold Vf;split
 .rename_i e;exact h e
 .trivial
theorem Ic{p q:M}{xs:List p.den}{k:List q.den->Cmd α}{S:Sm}
  (h:∀e:p=q,(k (e▸xs)).post S Q):(Yr p q xs k .fail).post S Q:=by
 unfold Yr;split
 .rename_i e;exact h (M.beq_eq e)
 .trivial
theorem Yd{k:List p.den->Cmd α}{S:Sm}
  (h:∀(e:p.el=true) (e' :p.ty=t),(k (cast (congrArg List ((M.denEq p e).trans (congrArg Ty.den e'))).symm xs)).post S Q):(Xv p t xs k .fail).post S Q:=by
 unfold Xv;split
 .rename_i e;exact h e.1 e.2
 .trivial
theorem a0Y{xs:List p.den}{k:List t.den->Cmd α}{S:Sm}
  (h:∀(e:p.el=true) (e' :p.ty=t),(k (e' ▸cast (congrArg List (M.denEq p e)) xs)).post S Q):(a3p p t xs k .fail).post S Q:=by
 unfold a3p;split
 .rename_i e;obtain⟨e,rfl⟩:=e;exact h e rfl
 .trivial
theorem IY{ok ok' :Nat->Ty->Prop}{m:Mp}(k:∀b t,ok b t->ok' b t){cs:List V}{vs:c5A}(hr:gX ⟨h,ok,m⟩ cs vs):gX ⟨h,ok',m⟩ cs vs:=
 Fh (C:=⟨h,ok,m⟩) (D:=⟨h,ok',m⟩) ⟨k,λ_ _ _=>rfl,λ_ _ h=>h⟩ hr
theorem MQ{ok ok' :Nat->Ty->Prop}{m:Mp}(k:∀b t,ok b t->ok' b t)(hr:lD ⟨h,ok,m⟩ c v):lD ⟨h,ok',m⟩ c v:=
 Fj (C:=⟨h,ok,m⟩) (D:=⟨h,ok',m⟩) ⟨k,λ_ _ _=>rfl,λ_ _ h=>h⟩ hr
theorem Eu{bs:c5B}{Ts:List Ty} :∀b t,ok b t->okW ok bs Ts b t:=λ_ _ h=> .inl h
def okL(ln:Ty->Bool)(S:Sm)(m:Mp)(ok:Nat->Ty->Prop):Nat->Ty->Prop:=λb t=>ok b t\/(ln t=true/\∃n,b∈P5 m n (S (V6+n))/\a9Y (S (V6+n)) t)
theorem a3L:okL Ai S m ok=ok:=by funext b t;simp[okL,Ai]
theorem YV{ln:Ty->Bool}{n:Nat}{v:V}(hv:P5 m n v=[]){Ts:List Ty}{bs:c5B}(hbs:P5 m n (S (V6+n)) ⊆ bs)(hTs:∀t,a9Y (S (V6+n)) t->t∈Ts):
  ∀b t,okL ln S m ok b t->okL ln (upd S (V6+n) v) m (okW ok bs Ts) b t:=by
 intro b t h;rcases h with h|⟨hl,k,hk,ht⟩
 .exact .inl (.inl h)
 .by_cases e:k=n
  .subst e;exact .inl (.inr ⟨hbs hk,hTs _ ht⟩)
  .exact .inr ⟨hl,k,by rw[V7 _ _ l7];exact⟨hk,ht⟩⟩
def bn(S S' :Sm):Prop:=∀n,n<V6->S' n=S n
theorem bn.refl(S:Sm):bn S S:=λ_ _=>rfl
theorem bn.trans{A B C:Sm}(h:bn A B)(k:bn B C):bn A C:=λn hn=>(k n hn).trans (h n hn)
theorem bn.box(S:Sm)(n:Nat)(v:V):bn S (upd S (V6+n) v):=λk hk=>V7 _ _ l7
theorem Yi{ln:Ty->Bool} :∀{ts:List Ty},a0z ln ts=true->∀t∈ts,ln t=true
 |[],_,_,h=>by cases h|u::r,e,t,h=>by
  unfold a0z at e;cases hl:ln u with
  |false=>rw[hl]at e;cases e|true=>
   rw[hl]at e;rcases D5.1 h with rfl|h
   .exact hl
   .exact Yi e t h
theorem CU{α:Type}{Q:α->Sm->Prop}(ln:Ty->Bool):∀(t:Ty) {cs:List V} {K:t.den->List V->Cmd α} {S:Sm} {ok:Nat->Ty->Prop} {vs:c5A} (R:Rel X cl ch S m ok a w) (hT:Tk X S m ok w T)
  (hL:gX ⟨w.heap,ok,m⟩ cs vs)
  (hK:∀S' ok' x r us us',Rel X cl ch S' m ok' a w->Tk X S' m ok' w T->(∀b t,ok b t->ok' b t)->(∀b t,okL ln S m ok b t->okL ln S' m ok' b t)->bn S S' ->vs=us++us' ->lJ w.heap (okL ln S' m ok') t x us->gX ⟨w.heap,ok',m⟩ r us' ->(K x r).post S' Q),
  (nN ln t cs K).post S Q
 | .bool,cs,K,S,ok,vs,R,hT,hL,hK=>by
  unfold nN;split
  .obtain⟨v,r,rfl,h1,_,h3⟩:=hL;exact hK _ _ _ _ [v] r R hT (λ_ _ h=>h) (λ_ _ h=>h) (bn.refl _) rfl (by simp only[vX]at h1;simp[lJ,h1]) h3
  .trivial
 | .int k,cs,K,S,ok,vs,R,hT,hL,hK=>by
  unfold nN;split
  .rename_i k' n r0;obtain⟨v,r,rfl,h1,_,h3⟩:=hL;by_cases e:k=k'
   .subst e;simp only[decide_true,cond_true];exact hK _ _ _ _ [v] r R hT (λ_ _ h=>h) (λ_ _ h=>h) (bn.refl _) rfl (by simp only[vX]at h1;simp[lJ,h1]) h3
   .simp only[e,decide_false,cond_false];trivial
  .trivial
 | .str,cs,K,S,ok,vs,R,hT,hL,hK=>by
  unfold nN;split
  .obtain⟨v,r,rfl,h1,_,h3⟩:=hL;exact hK _ _ _ _ [v] r R hT (λ_ _ h=>h) (λ_ _ h=>h) (bn.refl _) rfl (by simp only[vX]at h1;simp[lJ,h1]) h3
  .trivial
 | .unit,cs,K,S,ok,vs,R,hT,hL,hK=>by unfold nN;exact hK _ _ _ _ [] vs R hT (λ_ _ h=>h) (λ_ _ h=>h) (bn.refl _) rfl rfl hL| .any none,cs,K,S,ok,vs,R,hT,hL,hK=>by
  unfold nN;split
  .obtain⟨v,r,rfl,h1,h2,h3⟩:=hL;exact hK _ _ _ _ [v] r R hT (λ_ _ h=>h) (λ_ _ h=>h) (bn.refl _) rfl ⟨v,rfl,h2,trivial⟩ h3
  .trivial
 | .any (some k),cs,K,S,ok,vs,R,hT,hL,hK=>by
  unfold nN;split
  .rename_i k' n r0;obtain⟨v,r,rfl,h1,h2,h3⟩:=hL;by_cases e:k=k'
   .subst e;simp only[decide_true,cond_true];exact hK _ _ _ _ [v] r R hT (λ_ _ h=>h) (λ_ _ h=>h) (bn.refl _) rfl ⟨v,rfl,h2,n,h1⟩ h3
   .simp only[e,decide_false,cond_false];trivial
  .trivial
 | .prod p q,cs,K,S,ok,vs,R,hT,hL,hK=>by unfold nN;refine CU ln p R hT hL λS1 ok1 x r us us' R1 T1 k1 g1 s1 e1 h1 l1=>?_;refine CU ln q R1 T1 l1 λS2 ok2 y r' vs2 vs2' R2 T2 k2 g2 s2 e2 h2 l2=>?_;subst e1;subst e2;exact hK _ _ _ _ (us++vs2) vs2' R2 T2 (λb t h=>k2 b t (k1 b t h)) (λb t h=>g2 b t (g1 b t h)) (s1.trans s2) A7 ⟨us,vs2,rfl,dU g2 (λ_ _ _=>rfl) h1,h2⟩ l2| .ent ..,cs,K,S,ok,vs,R,hT,hL,hK=>by unfold nN;trivial| .sl t,cs,K,S,ok,vs,R,hT,hL,hK=>by
  unfold nN;split
  .obtain⟨v,r,rfl,h1,_,h3⟩:=hL;simp only[vX]at h1;subst h1;cases ht:t.isEnt
   .exact hK _ _ _ _ [_] r R hT (λ_ _ h=>h) (λ_ _ h=>h) (bn.refl _) rfl (.inl ⟨ht,none,0,rfl,A8 _,λi x hi=>by simp at hi⟩) h3
   .trivial
  .rename_i t' xs r0;obtain⟨v,r,rfl,h1,_,h3⟩:=hL;refine eU λe=>?_;subst e;exact hK _ _ _ _ [v] r R hT (λ_ _ h=>h) (λ_ _ h=>h) (bn.refl _) rfl (dU (λ_ _ h=> .inl h) (λ_ _ _=>rfl) h1) h3
  .rename_i bx vw r0;obtain⟨v,r,rfl,h1,_,h3⟩:=hL;obtain⟨l,hm,hv⟩:=h1;show Cmd.post (match S (V6+bx)with| .barr t' xs=>_| .bfrz t' xs=>_| .barrs el xs none=>_|_=>_) S Q;have hb:=R.box bx;split
   .rename_i t' xs hS;rw[hS]at hb;obtain⟨l',hm',ha⟩:=hb;simp only at hm hm';rw[hm]at hm';cases hm';refine eU λe=>?_;subst e;have hob:P5 m bx (S (V6+bx))=l.blks:=by
     rw[hS];cases l<;>first|(simp[P5,hm,Loc.blks];done)|cases ha
    cases hl:ln t'
    .simp only[cond_false];show Cmd.post _ (upd S (V6+bx) (.bfrz t' xs)) Q;have hbs:∀b∈l.blks,b∈P5 m bx (S (V6+bx)):=λb h=>by rw[hob];exact h
     refine hK _ (okW ok l.blks [t']) _ _ [v] r (R.widen A7 rfl hbs ?_) (hT.widen rfl hbs) Eu (YV rfl (by rw[hob];exact λ_ h=>h) (by rw[hS];exact λ_ h=>h)) (bn.box _ _ _) rfl ?_ (IY Eu h3)
     .exact⟨l,hm,pU Eu (λ_ _ _=>rfl) (λ_ _=>rfl) ha,λblk hb=> .inr ⟨hb,A7⟩⟩
     .exact qg (C:=⟨w.heap,ok,m⟩) ha hv (λb t h=> .inl (.inl h)) (λblk hb=> .inl (.inr ⟨hb,A7⟩))
    .simp only[cond_true];refine hK _ _ _ _ [v] r R hT (λ_ _ h=>h) (λ_ _ h=>h) (bn.refl _) rfl ?_ h3;refine qg (C:=⟨w.heap,ok,m⟩) ha hv (λb t h=> .inl h) (λblk hb=> .inr ⟨hl,bx,?_,by rw[hS];simp[a9Y,b3q]⟩);rw[hob];exact hb
   .rename_i t' xs hS;rw[hS]at hb;obtain⟨l',hm',ha,hok⟩:=hb;simp only at hm hm';rw[hm]at hm';cases hm';refine eU λe=>?_;subst e;exact hK _ _ _ _ [v] r R hT (λ_ _ h=>h) (λ_ _ h=>h) (bn.refl _) rfl (qg (C:=⟨w.heap,ok,m⟩) ha hv (λ_ _ h=> .inl h) (λblk e=> .inl (hok _ e))) h3
   .rename_i md xs hS;rw[hS]at hb;obtain⟨hel,l',Os,hm',⟨ha,hho⟩,hk⟩:=hb;simp only at hm hm' hk;rw[hm]at hm';cases hm';refine a0Y λe e' =>?_;subst e';have hob:P5 m bx (S (V6+bx))=l.blks++Os.flatten:=by
     rw[hS];simp only[P5];rw[hk];cases l<;>first|(simp[hm,Loc.blks];done)|cases ha
    simp only;cases hl:(ln md.ty&&a0z ln md.owned)
    .simp only[cond_false];show Cmd.post _ (upd S (V6+bx) (.bfrz md.ty _)) Q;have hbs:∀b∈l.blks++Os.flatten,b∈P5 m bx (S (V6+bx)):=λb h=>by rw[hob];exact h
     have ha' :arrOk ⟨w.heap,okW ok (l.blks++Os.flatten) (md.ty::md.owned),m⟩ md.ty (cast (congrArg List (M.denEq md e)) xs) l:=
      Nj e Eu (λb hb t ht=> .inr ⟨by simp[hb],by simp[ht]⟩) ha
     refine hK _ (okW ok (l.blks++Os.flatten) (md.ty::md.owned)) _ _ [v] r (R.widen A7 rfl hbs ?_) (hT.widen rfl hbs) Eu (YV rfl (by rw[hob];exact λ_ h=>h) (by rw[hS];exact λ_ h=>h)) (bn.box _ _ _) rfl ?_ (IY Eu h3)
     .exact⟨l,hm,ha',λblk hb=> .inr ⟨by simp[hb],A7⟩⟩
     .exact qg (C:=⟨w.heap,okW ok (l.blks++Os.flatten) (md.ty::md.owned),m⟩) ha' hv (λb t h=> .inl h) (λblk hb=> .inl (.inr ⟨by simp[hb],A7⟩))
    .simp only[cond_true];simp only[x9]at hl;have ha' :arrOk ⟨w.heap,okL ln S m ok,m⟩ md.ty (cast (congrArg List (M.denEq md e)) xs) l:=
      Nj e (λb t h=> .inl h) (λb hb t ht=> .inr ⟨Yi hl.2 t ht,bx,by rw[hob];simp[hb],by rw[hS];simp[a9Y,b3q,ht]⟩) ha
     refine hK _ _ _ _ [v] r R hT (λ_ _ h=>h) (λ_ _ h=>h) (bn.refl _) rfl ?_ h3;refine qg (C:=⟨w.heap,okL ln S m ok,m⟩) ha' hv (λb t h=>h) (λblk hb=> .inr ⟨hl.1,bx,?_,by rw[hS];simp[a9Y,b3q]⟩);rw[hob];simp[hb]
   .trivial
  .trivial
theorem DF(t:Ty){cs:List V}{K:t.den->List V->Cmd α}{S:Sm}{ok:Nat->Ty->Prop}{vs:c5A}(R:Rel X cl ch S m ok a w)(hT:Tk X S m ok w T)
  (hL:gX ⟨w.heap,ok,m⟩ cs vs)
  (hK:∀S' ok' x r us us',Rel X cl ch S' m ok' a w->Tk X S' m ok' w T->(∀b t,ok b t->ok' b t)->bn S S' ->vs=us++us' ->lJ w.heap ok' t x us->gX ⟨w.heap,ok',m⟩ r us' ->(K x r).post S' Q):
  (nN Ai t cs K).post S Q:=
 CU Ai t R hT hL λS' ok' x r us us' R' T' k g s e h l=>hK S' ok' x r us us' R' T' k s e (by rw[a3L]at h;exact h) l
theorem Loc.blks_nodup(l:Loc):l.blks.Nodup:=by cases l<;>simp[Loc.blks]
theorem a2h(t:Ty){K:t.den->Cmd α}{S:Sm}{ok:Nat->Ty->Prop}(R:Rel X cl ch S m ok a w)(hT:Tk X S m ok w T)
  (hv:vX ⟨w.heap,ok,m⟩ c v)
  (hK:∀S' ok' x,Rel X cl ch S' m ok' a w->Tk X S' m ok' w T->(∀b t,ok b t->ok' b t)->bn S S' ->ZV w.heap ok' t x 0 v->(K x).post S' Q):(rpC t c K).post S Q:=by
 unfold rpC;split
 .refine DU λe=>?_;subst e;exact hK _ _ _ R hT (λ_ _ h=>h) (bn.refl _) hv
 .rename_i bx;obtain⟨blk,hm,rfl⟩:=hv;show Cmd.post (match S (V6+bx)with| .bfc t' x=>_| .bcells bs=>_|_=>_) S Q;have hb:=R.box bx;split
  .rename_i t' x hS;rw[hS]at hb;obtain⟨blk',es,hm',hok,hc,hr⟩:=hb;simp only at hm hm';rw[hm]at hm';cases hm';refine DU λe=>?_;subst e;exact hK _ _ _ R hT (λ_ _ h=>h) (bn.refl _) ⟨blk,0,es,rfl,hok,hc,hr⟩
  .rename_i bs hS;rw[hS]at hb;obtain⟨blk',arr,Ty',hm',hh,hl⟩:=hb;simp only at hm hm';rw[hm]at hm';cases hm';refine DF t R hT hl λS1 ok1 x q us us' R1 T1 k1 s1 e1 h1 l1=>?_;cases q with
   |cons c q=>trivial|nil=>
    simp only[gX]at l1;subst l1;simp only[D8]at e1;show Cmd.post (match S1 (V6+bx)with| .bcells _=>_|_=>_) S1 Q;split
    .rename_i bs' hS';show Cmd.post _ (upd S1 (V6+bx) (.bfc t x)) Q;have hbs:∀b∈[blk],b∈P5 m bx (S1 (V6+bx)):=λb h=>by rw[hS'];simp at h;subst h;simp[P5,hm]
     have hce:dJ w.heap blk 0 t.size=some us:=by rw[kE hh 0 t.size (by have:=fO h1;rw[←e1]at this;simp at this;omega)];rw[e1,←fO h1];simp
     have hr:=dU (Eu (bs:=[blk]) (Ts:=[t])) (λ_ _ _=>rfl) h1;refine hK _ (okW ok1 [blk] [t]) _ (R1.widen A7 rfl hbs ?_) (T1.widen rfl hbs) (λb t h=> .inl (k1 b t h)) (s1.trans (bn.box _ _ _)) ?_
     .exact⟨blk,us,hm,.inr ⟨A7,A7⟩,hce,hr⟩
     .exact⟨blk,0,us,rfl,.inr ⟨A7,A7⟩,hce,hr⟩
    .trivial
  .trivial
 .trivial
theorem a1t(ln:Ty->Bool)(t:Ty){K:t.den->Cmd α}{S:Sm}{ok:Nat->Ty->Prop}(R:Rel X cl ch S m ok a w)(hT:Tk X S m ok w T)
  (hv:vX ⟨w.heap,ok,m⟩ c v)
  (hK:∀S' ok' x,Rel X cl ch S' m ok' a w->Tk X S' m ok' w T->(∀b t,ok b t->ok' b t)->(∀b t,okL ln S m ok b t->okL ln S' m ok' b t)->bn S S' ->ZV w.heap (okL ln S' m ok') t x 0 v->(K x).post S' Q):(lpC ln t c K).post S Q:=by
 unfold lpC;split
 .refine DU λe=>?_;subst e;exact hK _ _ _ R hT (λ_ _ h=>h) (λ_ _ h=>h) (bn.refl _) (Dx (λ_ _ h=> .inl h) (λ_ _ _=>rfl) hv)
 .rename_i bx;obtain⟨blk,hm,rfl⟩:=hv;show Cmd.post (match S (V6+bx)with| .bcells bs=>_|_=>_) S Q;have hb:=R.box bx;split
  .rename_i bs hS;rw[hS]at hb;obtain⟨blk',arr,Ty',hm',hh,hl⟩:=hb;simp only at hm hm';rw[hm]at hm';cases hm';cases hlt:ln t
   .trivial
   simp only[cond_true];refine CU ln t R hT hl λS1 ok1 x q us us' R1 T1 k1 g1 s1 e1 h1 l1=>?_;cases q with
   |cons c q=>trivial|nil=>
    simp only[gX]at l1;subst l1;simp only[D8]at e1;show Cmd.post (match S1 (V6+bx)with| .bcells _=>_|_=>_) S1 Q;split
    .rename_i bs' hS';have hce:dJ w.heap blk 0 t.size=some us:=by
      rw[kE hh 0 t.size (by have:=fO h1;rw[←e1]at this;simp at this;omega)];rw[e1,←fO h1];simp
     exact hK _ _ _ R1 T1 k1 g1 s1 ⟨blk,0,us,rfl,.inr ⟨hlt,bx,by rw[hS'];simp[P5,hm],by rw[hS'];trivial⟩,hce,h1⟩
    .trivial
  .trivial
 .trivial
theorem JS{α:Type}{Q:α->Sm->Prop}{h:Array Obj}{ok:Nat->Ty->Prop} :∀(ts:List Ty) {cs:List ((t:Ty)×t.den)} {vs:c5A} {K:RN ts->Cmd α} {S:Sm}
  (hc:DT h ok cs vs) (hK:∀x,DT h ok (RJ ts x) vs->(K x).post S Q),(NP ts cs K).post S Q
 |[],cs,vs,K,S,hc,hK=>by
  unfold NP;split
  .exact hK _ hc
  .trivial
 |[t],cs,vs,K,S,hc,hK=>by
  unfold NP;split
  .refine DU λe=>?_;subst e;exact hK _ hc
  .trivial
 |t::t' ::r,cs,vs,K,S,hc,hK=>by
  unfold NP;split
  .obtain⟨v,vs',rfl,h1,h2⟩:=hc;refine DU λe=>?_;subst e;exact JS (t' ::r) h2 λy hy=>hK _ ⟨v,vs',rfl,h1,hy⟩
  .trivial
theorem b1a{te:Nat}{K:c5y->Cmd α}{S:Sm}{ok:Nat->Ty->Prop}{T:c5B}(R:Rel X cl ch S m ok a w)(hT:Tk X S m ok w T)(hv:vX ⟨w.heap,ok,m⟩ c v)
  (hK:∀S' ys l,Rel X cl ch S' m ok a w->Tk X S' m ok w (T++l.blks)->bn S S' ->(∀n,(∀t xs,S (V6+n)≠.brow t xs)->S' (V6+n)=S (V6+n))->l.view none v->Au w.heap te ys l->(K ys).post S' Q):(sbC te c K).post S Q:=by
 unfold sbC;split
 .exact hK S [] .nil R (by simpa[Loc.blks]using hT) (bn.refl _) (λ_ _=>rfl) hv rfl
 .rename_i b;obtain⟨l,hm,hvw⟩:=hv;show Cmd.post (match S (V6+b)with| .brow te' xs=>_|_=>_) S Q;have hb:=R.box b;split
  .rename_i t' xs hS;rw[hS]at hb;obtain⟨l',hm',ha⟩:=hb;simp only at hm hm';rw[hm]at hm';cases hm';cases he:Nat.beq t' te
   .trivial
   have e:=fJ he;subst e;show Cmd.post _ (upd S (V6+b) .dead) Q;refine hK _ xs l (R.kill b) (hT.kill R b (λb' hb' =>?_) (Loc.blks_nodup l)) (bn.box _ _ _) (λn hn=>?_) hvw ha
   .cases l with
    |nil=>simp[Loc.blks]at hb'|st _=>cases ha|arr blk off len cap sz=>simp[Loc.blks]at hb';subst hb';simp[P5,hS,hm]|mp blk=>cases ha
   .by_cases en:n=b
    .subst en;exact absurd hS (hn _ _)
    .rw[V7 _ _ l7]
  .trivial
 .trivial
theorem Ec{α:Type}{Q:α->Sm->Prop} :∀(md:M) {cs:List V} {K:md.den->List V->Cmd α} {S:Sm} {ok:Nat->Ty->Prop} {vs:c5A} {T:c5B} (R:Rel X cl ch S m ok a w) (hT:Tk X S m ok w T)
  (hL:gX ⟨w.heap,ok,m⟩ cs vs)
  (hK:∀S' ok' x r us us' O,Rel X cl ch S' m ok' a w->Tk X S' m ok' w (T++O)->(∀b t,ok b t->ok' b t)->bn S S' ->vs=us++us' ->nG w.heap ok' md none x us O->gX ⟨w.heap,ok',m⟩ r us' ->(K x r).post S' Q),
  (exM Ai md cs K).post S Q
 | .dat t,cs,K,S,ok,vs,T,R,hT,hL,hK=>by unfold exM;exact DF t R hT hL λS' ok' x r us us' R' T' k s e h l=>hK S' ok' x r us us' [] R' (by simpa using T') k s e ⟨h,rfl⟩ l| .own t,cs,K,S,ok,vs,T,R,hT,hL,hK=>by
  unfold exM;split
  .obtain⟨v,r,rfl,h1,_,h3⟩:=hL;simp only[vX]at h1;subst h1;cases ht:t.isEnt
   .exact hK _ _ _ _ [_] r [] R (by simpa using hT) (λ_ _ h=>h) (bn.refl _) rfl (wO.2 ⟨.nil,_,rfl,rfl,⟨rfl,ht⟩,rfl⟩) h3
   .trivial
  .rename_i bx vw r0;obtain⟨v,r,rfl,h1,_,h3⟩:=hL;obtain⟨l,hm,hv⟩:=h1;show Cmd.post (match S (V6+bx)with| .barr t' xs=>_|_=>_) S Q;have hb:=R.box bx;split
   .rename_i t' xs hS;rw[hS]at hb;obtain⟨l',hm',ha⟩:=hb;simp only at hm hm';rw[hm]at hm';cases hm';refine eU λe=>?_;subst e;obtain⟨a1,a2,a3⟩:=Ib (C:=⟨w.heap,ok,m⟩) ha hv;show Cmd.post _ (upd S (V6+bx) .dead) Q;refine hK _ ok _ _ [v] r (Jo l vw).blks (R.kill bx) ?_ (λ_ _ h=>h) (bn.box _ _ _) rfl (wO.2 ⟨_,v,rfl,a2,pU (λ_ _ h=>h) (λ_ _ _=>rfl) (λ_ _=>rfl) a1,rfl⟩) h3;rw[a3];refine hT.kill R bx (λb hb=>?_) (Loc.blks_nodup l);cases l with
    |nil=>simp[Loc.blks]at hb|st _=>cases ha|arr blk off len cap sz=>simp[Loc.blks]at hb;subst hb;simp[P5,hS,hm]|mp blk=>simp[Loc.blks]at hb;subst hb;simp[P5,hS,hm]
   .trivial
  .trivial
 | .ownb t,cs,K,S,ok,vs,T,R,hT,hL,hK=>by
  unfold exM;split
  .obtain⟨v,r,rfl,h1,_,h3⟩:=hL;simp only[vX]at h1;subst h1;cases ht:t.isEnt
   .exact hK _ _ _ _ [_] r [] R (by simpa using hT) (λ_ _ h=>h) (bn.refl _) rfl ⟨.nil,_,rfl,rfl,⟨rfl,ht⟩,rfl⟩ h3
   .trivial
  .rename_i bx r0;obtain⟨v,r,rfl,h1,_,h3⟩:=hL;obtain⟨l,hm,hv⟩:=h1;show Cmd.post (match S (V6+bx)with| .barr t' xs=>_|_=>_) S Q;have hb:=R.box bx;split
   .rename_i t' xs hS;rw[hS]at hb;obtain⟨l',hm',ha⟩:=hb;simp only at hm hm';rw[hm]at hm';cases hm';refine eU λe=>?_;subst e;show Cmd.post _ (upd S (V6+bx) (.gone t')) Q;refine hK _ ok _ _ [v] r l.blks (R.killV bx A7 rfl ⟨l,hm,λblk off len cap sz e=>by subst e;exact ha.2.1⟩) ?_ (λ_ _ h=>h) (bn.box _ _ _) rfl ⟨l,v,rfl,hv,pU (λ_ _ h=>h) (λ_ _ _=>rfl) (λ_ _=>rfl) ha,rfl⟩ h3;refine hT.killV R bx rfl (λb hb=>?_) (Loc.blks_nodup l);cases l with
    |nil=>simp[Loc.blks]at hb|st _=>cases ha|arr blk off len cap sz=>simp[Loc.blks]at hb;subst hb;simp[P5,hS,hm]|mp blk=>simp[Loc.blks]at hb;subst hb;simp[P5,hS,hm]
   .trivial
  .trivial
 | .owns md,cs,K,S,ok,vs,T,R,hT,hL,hK=>by
  unfold exM;split
  .obtain⟨v,r,rfl,h1,_,h3⟩:=hL;simp only[vX]at h1;subst h1;refine aN λhe=>?_;exact hK _ _ _ _ [_] r [] R (by simpa using hT) (λ_ _ h=>h) (bn.refl _) rfl (yA.2 ⟨he,.nil,_,[],rfl,rfl,⟨rfl,rfl⟩,rfl⟩) h3
  .rename_i bx r0;obtain⟨v,r,rfl,h1,_,h3⟩:=hL;obtain⟨l,hm,hv⟩:=h1;show Cmd.post (match S (V6+bx)with| .barrs m' xs none=>_| .barrp m' xs n _=>_|_=>_) S Q;have hb:=R.box bx;split
   .rename_i md' xs hS;rw[hS]at hb;obtain⟨hel,l',Os,hm',⟨ha,hho⟩,hk⟩:=hb;simp only at hm hm' hk;rw[hm]at hm';cases hm';refine Ic λe=>?_;subst e;have hob:P5 m bx (S (V6+bx))=l.blks++Os.flatten:=by
     rw[hS];simp only[P5];rw[hk];cases l<;>first|(simp[hm,Loc.blks];done)|cases ha
    show Cmd.post _ (upd S (V6+bx) .dead) Q;refine hK _ ok _ _ [v] r (l.blks++Os.flatten) (R.kill bx) ?_ (λ_ _ h=>h) (bn.box _ _ _) rfl (yA.2 ⟨hel,l,v,Os,rfl,hv,ha,rfl⟩) h3;refine hT.kill R bx (λb hb=>by rw[hob];exact hb) (by rw[←hob];exact R.nd bx)
   .rename_i md' xs n o hS;rw[hS]at hb;obtain⟨hel,h0,l',Os,hm',ha,hk⟩:=hb;simp only at hm hm' hk;rw[hm]at hm';cases hm';refine Ic λe=>⟨λhn=>?_,λ_=>trivial⟩;subst e;have hob:P5 m bx (S (V6+bx))=l.blks++Os.flatten:=by
     rw[hS];simp only[P5];rw[hk];cases l<;>first|(simp[hm,Loc.blks];done)|cases ha
    have hn' :(xs.length:Int)<=n:=of_decide_eq_true hn;have ha' :vC w.heap md'.size (λ_ x es O=>nG w.heap ok md' none x es O) xs Os l:=a2P (λi x es O hi hr=>by simp only at hr;rw[a1g hi (show xs.length<=n.toNat by omega)]at hr;exact hr) ha
    show Cmd.post _ (upd S (V6+bx) .dead) Q;refine hK _ ok _ _ [v] r (l.blks++Os.flatten) (R.kill bx) ?_ (λ_ _ h=>h) (bn.box _ _ _) rfl (yA.2 ⟨hel,l,v,Os,rfl,hv,ha',rfl⟩) h3;refine hT.kill R bx (λb hb=>by rw[hob];exact hb) (by rw[←hob];exact R.nd bx)
   .trivial
  .trivial
 | .ownr md o,cs,K,S,ok,vs,T,R,hT,hL,hK=>by
  unfold exM;split
  .rename_i bx r0;obtain⟨v,r,rfl,h1,_,h3⟩:=hL;obtain⟨l,hm,hv⟩:=h1;show Cmd.post (match S (V6+bx)with| .barrp m' xs n o' =>_| .barr t xs=>_|_=>_) S Q;have hb:=R.box bx;split
   .rename_i md' xs n o' hS;rw[hS]at hb;obtain⟨hel,h0,l',Os,hm',ha,hk⟩:=hb;simp only at hm hm' hk;rw[hm]at hm';cases hm';refine aN λho=>Ic λe=>?_;have ho:=fJ ho;subst ho;subst e;have hob:P5 m bx (S (V6+bx))=l.blks++Os.flatten:=by
     rw[hS];simp only[P5];rw[hk];cases l<;>first|(simp[hm,Loc.blks];done)|cases ha
    show Cmd.post _ (upd S (V6+bx) .dead) Q;refine hK _ ok _ _ [v] r (l.blks++Os.flatten) (R.kill bx) ?_ (λ_ _ h=>h) (bn.box _ _ _) rfl ⟨v,rfl,lV hv,hel,h0,l,Os,hv,ha,rfl⟩ h3;refine hT.kill R bx (λb hb=>by rw[hob];exact hb) (by rw[←hob];exact R.nd bx)
   .rename_i t xs hS;rw[hS]at hb;obtain⟨l',hm',ha⟩:=hb;simp only at hm hm';rw[hm]at hm';cases hm';refine aN λho1=>Yd λe e' =>?_;subst e';have hob:P5 m bx (S (V6+bx))=l.blks:=by
     rw[hS];cases l<;>first|(simp[P5,hm,Loc.blks];done)|cases ha
    have ha2:=a0E (R:=λi y es O=>nG w.heap ok md (xe o (0:Int).toNat i) y es O) (M.denEq md e).symm (congrArg List (M.denEq md e)).symm (M.ty_size e) (b3p ho1) (M.ty_ent e)
     (λi x es hr=>by
       have:xe o (0:Int).toNat i=some o:=by simp[xe]
       rw[this];exact WU e ho1 hr) ha
    show Cmd.post _ (upd S (V6+bx) .dead) Q;refine hK _ ok _ _ [v] r l.blks (R.kill bx) ?_ (λ_ _ h=>h) (bn.box _ _ _) rfl ⟨v,rfl,lV hv,e,lT 0,l,_,hv,ha2,A7⟩ h3;exact hT.kill R bx (λb hb=>by rw[hob];exact hb) (Loc.blks_nodup l)
   .trivial
  .trivial
 | .unit,cs,K,S,ok,vs,T,R,hT,hL,hK=>by unfold exM;exact hK _ _ _ _ [] vs [] R (by simpa using hT) (λ_ _ h=>h) (bn.refl _) rfl ⟨rfl,rfl⟩ hL
 | .pair p q,cs,K,S,ok,vs,T,R,hT,hL,hK=>by unfold exM;refine Ec p R hT hL λS1 ok1 x r us us' O1 R1 T1 k1 s1 e1 h1 l1=>?_;refine Ec q R1 T1 l1 λS2 ok2 y r' vs2 vs2' O2 R2 T2 k2 s2 e2 h2 l2=>?_;subst e1;subst e2;exact hK _ _ _ _ (us++vs2) vs2' (O1++O2) R2 (by simpa using T2) (λb t h=>k2 b t (k1 b t h)) (s1.trans s2) A7 ⟨us,vs2,O1,O2,rfl,rfl,jc k2 (λ_ _ _=>rfl) (λ_ _=>rfl) h1,h2⟩ l2| .box md,cs,K,S,ok,vs,T,R,hT,hL,hK=>by
  unfold exM;split
  .rename_i bx r0;obtain⟨v,r,rfl,h1,_,h3⟩:=hL;obtain⟨blk,hm,hv⟩:=h1;show Cmd.post (match S (V6+bx)with| .bcells bs=>_|_=>_) S Q;have hb:=R.box bx;split
   .rename_i bs hS;rw[hS]at hb;obtain⟨blk',arr,Ty',hm',hh,hl⟩:=hb;simp only at hm hm' hv;rw[hm]at hm';cases hm';subst hv;show Cmd.post _ (upd S (V6+bx) .dead) Q;have hT1:Tk X (upd S (V6+bx) .dead) m ok w (T++[blk]):=hT.kill R bx (λb hb=>by simp at hb;subst hb;simp[P5,hS,hm]) A7;refine Ec md (R.kill bx) hT1 hl λS1 ok1 x q us us' O R1 T1 k1 s1 e1 h1 l1=>?_;cases q with
    |nil=>simp only[gX]at l1;subst l1;simp only[D8]at e1;refine hK _ _ _ _ [_] r (blk::O) R1 (by simpa using T1) k1 ((bn.box _ _ _).trans s1) rfl ⟨blk,arr,Ty',O,rfl,hh,by rw[e1];exact h1,rfl⟩ (IY k1 h3)|cons c q=>trivial
   .trivial
  .trivial
 | .rp t,cs,K,S,ok,vs,T,R,hT,hL,hK=>by
  unfold exM;split
  .obtain⟨v,r,rfl,h1,_,h3⟩:=hL;refine a2h t R hT h1 λS1 ok1 x R1 T1 k1 s1 h1=>?_;exact hK _ _ _ _ [v] r [] R1 (by simpa using T1) k1 s1 rfl ⟨v,rfl,h1,rfl⟩ (IY k1 h3)
  .trivial
 | .fn f ts,cs,K,S,ok,vs,T,R,hT,hL,hK=>by
  unfold exM;split
  .rename_i g caps r0;obtain⟨v,r,rfl,⟨us,rfl,hc⟩,_,h3⟩:=hL;cases hb:Nat.beq g f
   .trivial
   .simp only[cond_true];have e:=fJ hb;subst e;exact JS ts hc λx hx=>hK _ _ _ _ [_] r [] R (by simpa using hT) (λ_ _ h=>h) (bn.refl _) rfl ⟨us,rfl,hx,rfl⟩ h3
  .rename_i g r0;obtain⟨v,r,rfl,h1,_,h3⟩:=hL;have h1:v= .func (.func g) #[] #[]:=h1;subst h1;cases hb:Nat.beq g f
   .trivial
   .simp only[cond_true];have e:=fJ hb;subst e;exact JS (cs:=[]) (vs:=[]) ts rfl λx hx=>hK _ _ _ _ [_] r [] R (by simpa using hT) (λ_ _ h=>h) (bn.refl _) rfl ⟨#[],rfl,hx,rfl⟩ h3
  .trivial
 | .ifc t md,cs,K,S,ok,vs,T,R,hT,hL,hK=>by
  unfold exM;split
  .rename_i t' c r0;obtain⟨v,r,rfl,⟨u,rfl,hu,hc⟩,_,h3⟩:=hL;cases hb:Nat.beq t' t
   .trivial
   .simp only[cond_true];have e:=fJ hb;subst e;refine Ec md (vs:=[u]) R hT ⟨u,[],rfl,hc,hu,rfl⟩ λS1 ok1 x q us us' O R1 T1 k1 s1 e1 h1 l1=>?_;cases q with
    |cons c q=>trivial|nil=>simp only[gX]at l1;subst l1;simp only[D8]at e1;subst e1;exact hK _ _ _ _ [_] r O R1 T1 k1 s1 rfl ⟨u,rfl,h1⟩ (IY k1 h3)
  .trivial
 | .cell (some none),cs,K,S,ok,vs,T,R,hT,hL,hK=>by
  unfold exM;split
  .obtain⟨v,r,rfl,h1,h2,h3⟩:=hL;exact hK _ _ _ _ [v] r [] R (by simpa using hT) (λ_ _ h=>h) (bn.refl _) rfl ⟨v,rfl,h2,λ_=>h1,(λ_ h=>nomatch h),rfl⟩ h3
  .trivial
 | .cell (some (some b)),cs,K,S,ok,vs,T,R,hT,hL,hK=>by
  unfold exM;split
  .obtain⟨v,r,rfl,h1,h2,h3⟩:=hL;cases b
   .trivial
   .exact hK _ _ _ _ [v] r [] R (by simpa using hT) (λ_ _ h=>h) (bn.refl _) rfl ⟨v,rfl,h2,(λh=>nomatch h),(λb' h=>by cases h;exact h1),rfl⟩ h3
  .obtain⟨v,r,rfl,h1,h2,h3⟩:=hL;cases b
   .exact hK _ _ _ _ [v] r [] R (by simpa using hT) (λ_ _ h=>h) (bn.refl _) rfl ⟨v,rfl,h2,(λh=>nomatch h),(λb' h=>by cases h;exact h1),rfl⟩ h3
   .trivial
  .trivial
 | .cell none,cs,K,S,ok,vs,T,R,hT,hL,hK=>by
  unfold exM;split
  .obtain⟨v,r,rfl,h1,h2,h3⟩:=hL;exact hK _ _ _ _ [v] r [] R (by simpa using hT) (λ_ _ h=>h) (bn.refl _) rfl ⟨v,rfl,h2,(λh=>nomatch h),(λ_ h=>nomatch h),rfl⟩ h3
  .trivial
 | .fr t,cs,K,S,ok,vs,T,R,hT,hL,hK=>by
  unfold exM;split
  .obtain⟨v,r,rfl,h1,_,h3⟩:=hL;simp only[vX]at h1;subst h1;cases ht:t.isEnt
   .exact hK _ _ _ _ [_] r [] R (by simpa using hT) (λ_ _ h=>h) (bn.refl _) rfl ⟨.nil,_,rfl,rfl,⟨rfl,ht⟩,(λb h=>by cases h),rfl⟩ h3
   .trivial
  .rename_i bx r0;obtain⟨v,r,rfl,h1,_,h3⟩:=hL;obtain⟨l,hm,hv⟩:=h1;show Cmd.post (match S (V6+bx)with| .barr t' xs=>_| .bfrz t' xs=>_|_=>_) S Q;have hb:=R.box bx;split
   .rename_i t' xs hS;rw[hS]at hb;obtain⟨l',hm',ha⟩:=hb;simp only at hm hm';rw[hm]at hm';cases hm';refine eU λe=>?_;subst e;have hob:P5 m bx (S (V6+bx))=l.blks:=by
     rw[hS];cases l<;>first|(simp[P5,hm,Loc.blks];done)|cases ha
    show Cmd.post _ (upd S (V6+bx) (.bfrz t' xs)) Q;have hbs:∀b∈l.blks,b∈P5 m bx (S (V6+bx)):=λb h=>by rw[hob];exact h
    have ha' :arrOk ⟨w.heap,okW ok l.blks [t'],nom⟩ t' xs l:=pU (m:=m) Eu (λ_ _ _=>rfl) (λ_ _=>rfl) ha;exact hK _ (okW ok l.blks [t']) _ _ [v] r [] (R.widen A7 rfl hbs ⟨l,hm,pU Eu (λ_ _ _=>rfl) (λ_ _=>rfl) ha,λblk hb=> .inr ⟨hb,A7⟩⟩) (by simpa using hT.widen rfl hbs) Eu (bn.box _ _ _) rfl ⟨l,v,rfl,hv,ha',λb hb=> .inr ⟨hb,A7⟩,rfl⟩ (IY Eu h3)
   .rename_i t' xs hS;rw[hS]at hb;obtain⟨l',hm',ha,hk⟩:=hb;simp only at hm hm';rw[hm]at hm';cases hm';refine eU λe=>?_;subst e;exact hK _ ok _ _ [v] r [] R (by simpa using hT) (λ_ _ h=>h) (bn.refl _) rfl ⟨l,v,rfl,hv,pU (m:=m) (λ_ _ h=>h) (λ_ _ _=>rfl) (λ_ _=>rfl) ha,hk,rfl⟩ h3
   .trivial
  .trivial
 | .lp t,cs,K,S,ok,vs,T,R,hT,hL,hK=>by
  unfold exM;split
  .obtain⟨v,r,rfl,h1,_,h3⟩:=hL;refine a1t Ai t R hT h1 λS1 ok1 x R1 T1 k1 g1 s1 h1=>?_;rw[a3L]at h1;exact hK _ _ _ _ [v] r [] R1 (by simpa using T1) k1 s1 rfl ⟨v,rfl,h1,rfl⟩ (IY k1 h3)
  .trivial
 | .dv ..,cs,K,S,ok,vs,T,R,hT,hL,hK=>by
  unfold exM;split
  .obtain⟨v,r,rfl,h1,h2,h3⟩:=hL;exact hK _ _ _ _ [v] r [] R (by simpa using hT) (λ_ _ h=>h) (bn.refl _) rfl ⟨v,rfl,h2,rfl⟩ h3
  .trivial
 | .sit,cs,K,S,ok,vs,T,R,hT,hL,hK=>by
  unfold exM;split
  .rename_i bx r0;obtain⟨v,r,rfl,h1,_,h3⟩:=hL;obtain⟨blk,hm,rfl⟩:=h1;have hb:=R.box bx;show Cmd.post (match S (V6+bx)with| .biter l p=>_|_=>_) S Q;split
   .rename_i l p hS;rw[hS]at hb;obtain⟨blk',s,q,hm',hh,g1,g2⟩:=hb;simp only at hm hm';rw[hm]at hm';cases hm';show Cmd.post _ (upd S (V6+bx) .dead) Q;have T2:=hT.kill R bx (bs:=[blk]) (λb hb=>by rw[hS];simpa[P5,hm]using hb) A7;exact hK _ ok (l,p) _ _ r [blk] (R.kill bx) T2 (λ_ _ h=>h) (bn.box _ _ _) rfl ⟨blk,s,q,rfl,hh,g1,g2,rfl⟩ h3
   .trivial
  .trivial
 | .sbx tb te,cs,K,S,ok,vs,T,R,hT,hL,hK=>by
  unfold exM;split
  .rename_i bx r0;obtain⟨v,r,rfl,h1,_,h3⟩:=hL;obtain⟨blk,hm,rfl⟩:=h1;have hb:=R.box bx;show Cmd.post (match S (V6+bx)with| .bsb tb' c=>_|_=>_) S Q;split
   .rename_i tb' c hS;rw[hS]at hb;obtain⟨blk',a0,v0,hm',hh,hs,g2⟩:=hb;simp only at hm hm';rw[hm]at hm';cases hm';cases he:Nat.beq tb' tb
    .trivial
    have e:=fJ he;subst e;simp only[cond_true];refine b1a R hT g2 λS1 ys l R1 T1 s1 n1 hv1 ha1=>?_;show Cmd.post _ (upd S1 (V6+bx) .dead) Q;have T2:=T1.kill R1 bx (bs:=[blk]) (λb hb=>by rw[n1 bx (λ_ _=>by rw[hS];simp),hS];simpa[P5,hm]using hb) A7;refine hK _ ok ys _ _ r (blk::l.blks) (R1.kill bx) (T2.perm ?_) (λ_ _ h=>h) (s1.trans (bn.box _ _ _)) rfl ⟨blk,a0,v0,l,rfl,hh,hs,hv1,ha1,rfl⟩ h3;rw[F5];exact rf _ jR
   .trivial
  .trivial
end
end Go.GP
namespace Go.GP
def iC(C:Cx):List V->c5A->Prop
 |[],vs=>vs=[]|c::cs,vs=>∃v r,vs=v::r/\lD C c v/\iC C cs r
theorem KY{h:Array Obj}{ok ok' :Nat->Ty->Prop}{m:Mp}(k:∀b t,ok b t->ok' b t):∀{cs:List V} {vs:c5A},iC ⟨h,ok,m⟩ cs vs->iC ⟨h,ok',m⟩ cs vs
 |[],_,e=>e|_::_,_,⟨v,r,e,h1,h2⟩=>⟨v,r,e,MQ k h1,KY k h2⟩
theorem N_{h:Array Obj}{ok:Nat->Ty->Prop}{m m' :Mp}(k:∀n l,m n=some l->m' n=some l):∀{cs:List V} {vs:c5A},iC ⟨h,ok,m⟩ cs vs->iC ⟨h,ok,m'⟩ cs vs
 |[],_,e=>e|_::_,_,⟨v,r,e,h1,h2⟩=>⟨v,r,e,Fj (C:=⟨h,ok,m⟩) (D:=⟨h,ok,m'⟩) ⟨λ_ _ h=>h,λ_ _ _=>rfl,k⟩ h1,N_ k h2⟩
theorem BC{h:Array Obj}{ok:Nat->Ty->Prop}{m m' :Mp}(k:∀n l,m n=some l->m' n=some l){cs:List V}{vs:c5A}(hr:gX ⟨h,ok,m⟩ cs vs):gX ⟨h,ok,m'⟩ cs vs:=
 Fh (C:=⟨h,ok,m⟩) (D:=⟨h,ok,m'⟩) ⟨λ_ _ h=>h,λ_ _ _=>rfl,k⟩ hr
variable {C:Cx}
theorem a1W{c:V}{v:Value}(h1:c≠.undef)(h2:c≠.un)(h:vX C c v):v.oneCell' =true:=by
 cases c<;>simp only[vX]at h<;>try (subst h;rfl)
 case ne=>obtain⟨_,_,rfl,_⟩:=h;rfl
 .exact absurd rfl h1
 .exact absurd rfl h2
 .rcases h with⟨_,a,cap,e,_⟩|⟨_,mv,e,_⟩<;>(simp at e;subst e;rfl)
 .obtain⟨l,_,hv⟩:=h;exact lV hv
 .obtain⟨b,_,rfl⟩:=h;rfl
 .obtain⟨_,_,_,_,_,_,_,rfl⟩:=h;rfl
 .exact Ko h
 all_goals first|exact h.elim|(obtain⟨_,rfl,_⟩:=h;rfl)|(obtain⟨_,_,rfl⟩:=h;rfl)
theorem M_{c:V}{v:Value}(h:vX C c v):lD C c v:=by
 cases c<;>simp only[vX]at h<;>try exact h
 all_goals exact h.elim
variable {α:Type}{v:V}{Q:α->Sm->Prop}{x:Value}{ln:Ty->Bool}
section
variable {X:Fx} {cl ch:Nat} {S:Sm} {m:Mp} {ok:Nat->Ty->Prop} {a:Act} {w:World} {T:c5B}
theorem EK{ag:Bool}{K:List V->Cmd α}{S:Sm}(hv:lD C v x)
  (hK:∀cs us,Ri ag x us->gX C cs us->(K cs).post S Q):(ZH ag v K).post S Q:=by
 unfold ZH;split<;>try trivial
 .obtain⟨arr,rfl,hl⟩:=hv;exact hK _ _ ⟨arr,rfl,rfl⟩ hl
 .rename_i h1 h2 h3 h4;have hc:vX C v x:=by cases v<;>first|exact hv|exact absurd rfl (h1 _)|exact absurd rfl (h2 _)
  exact hK [v] [x] rfl ⟨x,[],rfl,hc,a1W (λe=>h3 e) (λe=>h4 e) hc,rfl⟩
theorem uV{K:List V->Cmd α}{S:Sm}(hv:lD C v x)
  (hK:∀cs,gX C cs x.cells.toList->(K cs).post S Q):(FU v K).post S Q:=by
 unfold FU;split<;>try trivial
 .obtain⟨arr,rfl,hl⟩:=hv;exact hK _ hl
 .rename_i h1 h2 h3 h4;have hc:vX C v x:=by cases v<;>first|exact hv|exact absurd rfl (h1 _)|exact absurd rfl (h2 _)
  have h1' :=a1W (λe=>h3 e) (λe=>h4 e) hc;have e:x.cells.toList=[x]:=by cases x<;>simp[Value.cells]<;>simp[Value.oneCell']at h1'
  refine hK [v] ?_;rw[e];exact⟨x,[],rfl,hc,h1',rfl⟩
theorem a1a{md:MG}{K:md.2.den->Cmd α}(R:Rel X cl ch S m ok a w)(hT:Tk X S m ok w T)(hv:lD ⟨w.heap,ok,m⟩ v x)
  (hK:∀S' ok' y cs O,Rel X cl ch S' m ok' a w->Tk X S' m ok' w (T++O)->(∀b t,ok b t->ok' b t)->bn S S' ->Ri md.1 x cs->nG w.heap ok' md.2 none y cs O->(K y).post S' Q):
  (VB Ai md v K).post S Q:=by
 refine EK hv λcs us hg hl=>?_;refine Ec md.2 R hT hl λS1 ok1 y r us1 us' O R1 T1 k1 s1 e1 h1 l1=>?_;cases r with
 |cons c q=>trivial|nil=>simp only[gX]at l1;subst l1;simp only[D8]at e1;subst e1;exact hK _ _ _ _ _ R1 T1 k1 s1 hg h1
theorem a8Z{md:M}(hd:md.isDat=false)(cs:List V)(K:md.den->List V->Cmd α):exM ln md cs K=exM Ai md cs K:=by cases md<;>first|rfl|(simp[M.isDat]at hd;done)|(rename_i b;cases b<;>first|rfl|(rename_i b;cases b<;>rfl))
theorem YB{md:MG}(hd:md.2.isDat=true){K:md.2.den->Cmd α}(R:Rel X cl ch S m ok a w)(hT:Tk X S m ok w T)(hv:lD ⟨w.heap,ok,m⟩ v x)
  (hK:∀S' ok' y cs,Rel X cl ch S' m ok' a w->Tk X S' m ok' w T->(∀b t,ok b t->ok' b t)->(∀b t,okL ln S m ok b t->okL ln S' m ok' b t)->bn S S' ->Ri md.1 x cs->nG w.heap (okL ln S' m ok') md.2 none y cs []->(K y).post S' Q):
  (VB ln md v K).post S Q:=by
 obtain⟨ag,mm⟩:=md;cases mm<;>simp[M.isDat]at hd
 case dat t=>
  refine EK hv λcs us hg hl=>?_;dsimp only;unfold exM;refine CU ln _ R hT hl λS1 ok1 y r us1 us' R1 T1 k1 g1 s1 e1 h1 l1=>?_;cases r with
  |cons c q=>trivial|nil=>simp only[gX]at l1;subst l1;simp only[D8]at e1;subst e1;exact hK _ _ _ _ R1 T1 k1 g1 s1 hg ⟨h1,rfl⟩
 case lp t=>
  refine EK hv λcs us hg hl=>?_;dsimp only;unfold exM;cases cs with
  |nil=>trivial|cons c q=>
   obtain⟨u,r',rfl,h1,h2,h3⟩:=hl;refine a1t ln t R hT h1 λS1 ok1 y R1 T1 k1 g1 s1 d1=>?_;cases q with
   |cons c q=>trivial|nil=>simp only[gX]at h3;subst h3;exact hK _ _ _ _ R1 T1 k1 g1 s1 hg ⟨u,rfl,d1,rfl⟩
theorem b6z :∀b t,ok b t->okL ln S m ok b t:=λ_ _ h=> .inl h
theorem Bf{α:Type}{Q:α->Sm->Prop}{ln:Ty->Bool} :∀(ms:List MG) {vs:List V} {xs:c5A} {K:X4 ms->Cmd α} {S:Sm} {ok:Nat->Ty->Prop} {T:c5B} (R:Rel X cl ch S m ok a w) (hT:Tk X S m ok w T)
  (hv:iC ⟨w.heap,ok,m⟩ vs xs)
  (hK:∀S' ok' y O,Rel X cl ch S' m ok' a w->Tk X S' m ok' w (T++O)->(∀b t,ok b t->ok' b t)->bn S S' ->lI w.heap (okL ln S' m ok') ms y xs O->(K y).post S' Q),
  (Jq ln ms vs K).post S Q
 |[],vs,xs,K,S,ok,T,R,hT,hv,hK=>by
  unfold Jq;split
  .simp only[iC]at hv;subst hv;exact hK _ _ _ [] R (by simpa using hT) (λ_ _ h=>h) (bn.refl _) ⟨rfl,rfl⟩
  .trivial
 |[md],vs,xs,K,S,ok,T,R,hT,hv,hK=>by
  unfold Jq;split
  .obtain⟨x,r,rfl,h1,h2⟩:=hv;simp only[iC]at h2;subst h2;cases hd:md.2.isDat
   .unfold VB;simp only[a8Z hd];exact a1a R hT h1 λS' ok' y cs O R' T' k s g h=>hK _ _ _ O R' T' k s ⟨x,cs,rfl,g,jc b6z (λ_ _ _=>rfl) (λ_ _=>rfl) h⟩
   .exact YB hd R hT h1 λS' ok' y cs R' T' k g s hg h=>hK _ _ _ [] R' (by simpa using T') k s ⟨x,cs,rfl,hg,h⟩
  .trivial
 |md::md' ::r,vs,xs,K,S,ok,T,R,hT,hv,hK=>by
  unfold Jq;split
  .obtain⟨x,xr,rfl,h1,h2⟩:=hv;cases hd:md.2.isDat
   .simp only[cond_false];unfold VB;simp only[a8Z hd];refine a1a R hT h1 λS1 ok1 y cs O R1 T1 k1 s1 g1 h1' =>?_;refine Bf (md' ::r) R1 T1 (KY k1 h2) λS2 ok2 z O2 R2 T2 k2 s2 h2' =>?_;exact hK _ _ _ (O++O2) R2 (by simpa using T2) (λb t h=>k2 b t (k1 b t h)) (s1.trans s2) ⟨x,cs,xr,O,O2,rfl,rfl,g1,jc (λb t h=> .inl (k2 b t h)) (λ_ _ _=>rfl) (λ_ _=>rfl) h1',h2'⟩
   .simp only[cond_true];refine Bf (md' ::r) R hT h2 λS2 ok2 z O2 R2 T2 k2 s2 h2' =>?_;refine YB hd R2 T2 (MQ k2 h1) λS1 ok1 y cs R1 T1 k1 g1 s1 hg h1' =>?_;exact hK _ _ _ ([]++O2) R1 (by simpa using T1) (λb t h=>k1 b t (k2 b t h)) (s2.trans s1) ⟨x,cs,xr,[],O2,rfl,rfl,hg,h1',Ti g1 (λ_ _ _=>rfl) (λ_ _=>rfl) h2'⟩
  .trivial
theorem a0Z(ms:List MG){vs:List V}{xs:c5A}{K:X4 ms->Cmd α}{S:Sm}{ok:Nat->Ty->Prop}{T:c5B}(R:Rel X cl ch S m ok a w)(hT:Tk X S m ok w T)
  (hv:iC ⟨w.heap,ok,m⟩ vs xs)
  (hK:∀S' ok' y O,Rel X cl ch S' m ok' a w->Tk X S' m ok' w (T++O)->(∀b t,ok b t->ok' b t)->bn S S' ->lI w.heap ok' ms y xs O->(K y).post S' Q):
  (Jq Ai ms vs K).post S Q:=
 Bf ms R hT hv λS' ok' y O R' T' k s h=>hK S' ok' y O R' T' k s (by rw[a3L]at h;exact h)
theorem Sl{α:Type}{Q:α->Sm->Prop}{tmps:Array Value}{C:Cx} :∀(ns:c5B) {K:List V->Cmd α} {S:Sm} (hs:∀n,n<V6->lD C (S n) (tmps.getD n Go.undef))
  (hK:∀vs,iC C vs (ns.map λn=>tmps.getD n Go.undef)->(K vs).post S Q),(f_ ns K).post S Q
 |[],K,S,hs,hK=>hK [] rfl|n::ns,K,S,hs,hK=>by
  unfold f_;cases hb:Nat.blt n V6
  .trivial
  .simp only[cond_true];show Cmd.post _ S Q;refine Sl ns hs λvs hvs=>?_;exact hK _ ⟨_,_,rfl,hs n (by rw[aF]at hb;exact hb),hvs⟩
def atV(h:Array Obj)(c:Nat)(u v:Value):Prop:=u=v\/∃b arr T f,u= .pointer (some ⟨b,0,none⟩)/\h[b]? =some (.cells arr T f)/\arr.toList[c]? =some v
def alR(h:Array Obj)(tmps:Array Value)(p:Nat×Nat×Option (Nat×Nat×Nat×Nat)):Prop:=match p with
 |(n,k,none)=>tmps.getD n Go.undef=tmps.getD k Go.undef|(n,k,some (c,j,o,sz))=>∃blk off len cap q y,atV h c (tmps.getD k Go.undef) (.slice (some ⟨blk,off,none⟩) len cap)/\tmps.getD j Go.undef= .int q y/\y.toNat<len/\tmps.getD n Go.undef= .pointer (some ⟨blk,off+y.toNat*sz+o,none⟩)
def UI(h:Array Obj)(ok:Nat->Ty->Prop)(sg:Sig)(x:lZ sg)(tmps:Array Value)(O:c5B):Prop:=
 lI h ok (sg.ms.map (·.2)) x ((sg.ms.map (·.1)).map λn=>tmps.getD n Go.undef) O/\∀p∈sg.als,alR h tmps p
theorem b0Y{v u:V}{x y:Value}(h:b5r v u=true)(hv:lD C v x)(hu:lD C u y):x=y:=by
 cases v<;>try (cases h;done)
 case own a vw=>
 cases u<;>try (cases vw<;>cases h;done)
 case own b vu=>
 cases vw<;>cases vu<;>try (cases h;done)
 have:=fJ (show Nat.beq a b=true from h);subst this;obtain⟨l,hm,h1⟩:=hv;obtain⟨l',hm',h2⟩:=hu;rw[hm]at hm';cases hm';cases l with
 |nil=>exact(show x=_ from h1).trans (show y=_ from h2).symm|st b=>cases h1|mp b=>exact(show x=_ from h1).trans (show y=_ from h2).symm|arr blk off len cap sz=>exact(show x=_ from h1).trans (show y=_ from h2).symm
theorem Rel.chmono(R:Rel X cl ch S m ok a w){ch' :Nat}(h:ch<=ch'):Rel X cl ch' S m ok a w:={ R with strict:=λn hn=>R.strict n l7 }
theorem og{n:Nat}{K:Cmd α}(hK:S (V6+n)= .undef->K.post (upd S (V6+n) v) Q):(uG n v K).post S Q:=by
 unfold uG;show Cmd.post (match S (V6+n)with| .undef=>_|_=>_) S Q;split
 .rename_i h;exact hK h
 .trivial
theorem Rel.adopt(R:Rel X cl ch S m ok a w){n:Nat}{l:Loc}{ks:c5B}{O:c5B}(hn:S (V6+n)= .undef)(hcl:cl<=n)(hv:v≠.undef)
  (hT:Tk X S m ok w (O++T)) (ho:∀b∈P5 (mi m n l ks) n v,b∈O) (hnd:(P5 (mi m n l ks) n v).Nodup) (hB:BB ⟨w.heap,ok,mi m n l ks⟩ n v):
  Rel X cl (max ch (n+1)) (upd S (V6+n) v) (mi m n l ks) ok a w/\Tk X (upd S (V6+n) v) (mi m n l ks) ok w T/\(∀k l',m k=some l' ->mi m n l ks k=some l'):=by
 have hm:m n=none:=R.fresh n hcl hn;refine⟨(R.chmono (dO ch (n+1))).lay hn hcl l7 hv rfl rfl rfl (A8 _) (λ_ _ _=>rfl) hnd (λb hb=>hT.free b (by simp[ho b hb])) hB,⟨?_,λb hb=>?_⟩,λk l' h=>?_⟩
 .exact(J9.1 hT.nodup).2.1
 .obtain⟨h1,h2,h3,h4⟩:=hT.free b (by simp[hb]);refine⟨h1,h2,h3,λk e=>?_⟩;by_cases ek:k=n
  .subst ek;rw[fQ]at e;exact(J9.1 hT.nodup).2.2 b (ho b e) b hb rfl
  .rw[V7 _ _ l7]at e;refine h4 k ?_;rw[←Ew (m:=m) (jg m l ks ek) (MV m l ks ek)];exact e
 .by_cases ek:k=n
  .subst ek;simp[hm]at h
  .rw[jg _ _ _ ek];exact h
theorem DR{h:Array Obj}{ok:Nat->Ty->Prop}{m m' :Mp}{t:Ty}{xs:List t.den}{l:Loc}(hr:arrOk ⟨h,ok,m⟩ t xs l):arrOk ⟨h,ok,m'⟩ t xs l:=by cases l<;>exact hr
theorem a8d{S:Sm}{k:Nat}{c:Cmd α}(h:c.post (upd S k v) Q):(Cmd.set k v c).post S Q:=h
theorem Gw{α:Type}{Q:α->Sm->Prop} :∀(md:M) {x:md.den} {n:Nat} {r:List V} {K:List V->Nat->Cmd α} {S:Sm} {m:Mp} {ch:Nat} {us us' :c5A} {O T:c5B}
  (R:Rel X cl ch S m ok a w) (hcl:cl<=n) (hT:Tk X S m ok w (O++T)) (h:nG w.heap ok md none x us O) (hL:gX ⟨w.heap,ok,m⟩ r us')
  (hK:∀S' m' cs n' ch',Rel X cl ch' S' m' ok a w->ch' <=max ch n' ->Tk X S' m' ok w T->(∀k l,m k=some l->m' k=some l)->bn S S' ->gX ⟨w.heap,ok,m'⟩ cs (us++us')->n<=n' ->(K cs n').post S' Q),
  (emM md x n r K).post S Q
 | .dat t,x,n,r,K,S,m,ch,us,us',O,T,R,hcl,hT,h,hL,hK=>by unfold emM;obtain⟨hr,rfl⟩:=h;refine hK S m _ n ch R (dO _ _) (by simpa using hT) (λ_ _ h=>h) (bn.refl _) ?_ (A8 _);rw[nI];exact xR (ou (C:=⟨w.heap,ok,m⟩) hr) hL
 | .own t,x,n,r,K,S,m,ch,us,us',O,T,R,hcl,hT,h,hL,hK=>by
  unfold emM;obtain⟨l,v,rfl,hv,ha,rfl⟩:=wO.1 h;refine og λhn=>?_;have hob:P5 (mi m n l []) n (.barr t x)=l.blks:=by cases l<;>first|(simp[P5,Loc.blks];done)|cases ha
  obtain⟨R',T',k'⟩:=R.adopt (l:=l) (ks:=[]) (v:=.barr t x) hn hcl A7 hT (λb hb=>by rw[hob]at hb;exact hb) (by rw[hob];exact Loc.blks_nodup l) ⟨l,az _ _ _ _,DR ha⟩;exact hK _ _ _ _ _ R' l7 T' k' (bn.box _ _ _) ⟨v,us',rfl,⟨l,az _ _ _ _,hv⟩,lV hv,BC k' hL⟩ l7
 | .ownb t,x,n,r,K,S,m,ch,us,us',O,T,R,hcl,hT,h,hL,hK=>by
  unfold emM;obtain⟨l,v,rfl,hv,ha,rfl⟩:=h;refine og λhn=>?_;have hob:P5 (mi m n l []) n (.barr t x)=l.blks:=by cases l<;>first|(simp[P5,Loc.blks];done)|cases ha
  obtain⟨R',T',k'⟩:=R.adopt (l:=l) (ks:=[]) (v:=.barr t x) hn hcl A7 hT (λb hb=>by rw[hob]at hb;exact hb) (by rw[hob];exact Loc.blks_nodup l) ⟨l,az _ _ _ _,DR ha⟩;exact hK _ _ _ _ _ R' l7 T' k' (bn.box _ _ _) ⟨v,us',rfl,⟨l,az _ _ _ _,hv⟩,lV hv,BC k' hL⟩ l7
 | .owns md,x,n,r,K,S,m,ch,us,us',O,T,R,hcl,hT,h,hL,hK=>by
  unfold emM;obtain⟨hw,l,v,Os,rfl,hv,ha,rfl⟩:=yA.1 h;refine og λhn=>?_;have hob:P5 (mi m n l Os.flatten) n (.barrs md x none)=l.blks++Os.flatten:=by cases l<;>first|(simp[P5,Loc.blks];done)|cases ha
  obtain⟨R',T',k'⟩:=R.adopt (l:=l) (ks:=Os.flatten) (v:=.barrs md x none) hn hcl A7 hT (λb hb=>by rw[hob]at hb;exact hb) (by rw[hob];exact(J9.1 hT.nodup).1)
   ⟨hw,l,Os,az _ _ _ _,⟨ha,trivial⟩,A7⟩
  refine a8d ?_;have T2:=T'.killV R' (NK+n) (v:=.blen (x8 x) md.size) rfl (bs:=[]) (λb h=>by cases h) aW;rw[D8]at T2;exact hK _ _ _ _ _ (R'.mark (fQ _ _ _)) l7 T2 k' ((bn.box _ _ _).trans (bn.box _ _ _)) ⟨v,us',rfl,⟨l,az _ _ _ _,hv⟩,lV hv,BC k' hL⟩ l7
 | .pair p q,x,n,r,K,S,m,ch,us,us',O,T,R,hcl,hT,h,hL,hK=>by
  unfold emM;obtain⟨c,d,O1,O2,rfl,rfl,h1,h2⟩:=a7U.1 h;have hT1:Tk X S m ok w (O2++(O1++T)):=hT.perm (by rw[F5];exact(List.perm_append_comm_assoc _ _ _))
  refine Gw q R hcl hT1 h2 hL λS1 m1 cs1 n1 ch1 R1 c1 T1 k1 s1 l1 e1=>?_;refine Gw p R1 l7 T1 h1 l1 λS2 m2 cs2 n2 ch2 R2 c2 T2 k2 s2 l2 e2=>?_;exact hK _ _ _ _ _ R2 l7 T2 (λk l h=>k2 k l (k1 k l h)) (s1.trans s2) (by simpa using l2) l7
 | .unit,x,n,r,K,S,m,ch,us,us',O,T,R,hcl,hT,h,hL,hK=>by unfold emM;obtain⟨rfl,rfl⟩:=h;exact hK S m _ n ch R (dO _ _) (by simpa using hT) (λ_ _ h=>h) (bn.refl _) (by simpa using hL) (A8 _)
 | .box md,x,n,r,K,S,m,ch,us,us',O,T,R,hcl,hT,h,hL,hK=>by
  unfold emM;obtain⟨blk,arr,Tt,O',rfl,hh,hr,rfl⟩:=h;have hT1:Tk X S m ok w (O' ++([blk]++T)):=hT.perm (by simpa using List.perm_middle.symm);refine Gw md (r:=[]) (us' :=[]) R l7 hT1 hr rfl λS1 m1 cs1 n1 ch1 R1 c1 T1 k1 s1 l1 e1=>?_;refine og λhn=>?_;obtain⟨R',T',k'⟩:=R1.adopt (l:=.st blk) (ks:=[]) (v:=.bcells cs1) hn hcl A7 T1 (λb hb=>by
   simp only[P5,az]at hb;simp at hb;simp[hb]) (by simp[P5]) ⟨blk,arr,Tt,az _ _ _ _,hh,BC (λk l (h:m1 k=some l)=>by
    by_cases ek:k=n
    .subst ek;have:=R1.fresh k hcl hn;rw[this]at h;cases h
    .rw[jg _ _ _ ek];exact h) (by simpa using l1)⟩
  refine hK _ _ _ _ _ R' l7 T' (λk l h=>k' k l (k1 k l h)) (s1.trans (bn.box _ _ _)) ⟨_,us',rfl,⟨blk,az _ _ _ _,rfl⟩,rfl,BC k' (BC k1 hL)⟩ l7
 | .rp t,x,n,r,K,S,m,ch,us,us',O,T,R,hcl,hT,h,hL,hK=>by unfold emM;obtain⟨v,rfl,hv,rfl⟩:=h;exact hK S m _ n ch R (dO _ _) (by simpa using hT) (λ_ _ h=>h) (bn.refl _) ⟨v,us',rfl,hv,Ko hv,hL⟩ (A8 _)
 | .fn f ts,x,n,r,K,S,m,ch,us,us',O,T,R,hcl,hT,h,hL,hK=>by unfold emM;obtain⟨vs,rfl,hv,rfl⟩:=h;exact hK S m _ n ch R (dO _ _) (by simpa using hT) (λ_ _ h=>h) (bn.refl _) ⟨_,us',rfl,⟨vs,rfl,hv⟩,rfl,hL⟩ (A8 _)
 | .ifc t md,x,n,r,K,S,m,ch,us,us',O,T,R,hcl,hT,h,hL,hK=>by
  unfold emM;obtain⟨u,rfl,h1⟩:=h;refine Gw md (r:=[]) (us' :=[]) R hcl hT h1 rfl λS1 m1 cs1 n1 ch1 R1 c1 T1 k1 s1 l1 e1=>?_;split
  .rename_i c;obtain⟨v',r',e,h1',h2',h3'⟩:=l1;simp only[D8,P8,H9,G5]at e;obtain⟨rfl,rfl⟩:=e;exact hK _ _ _ _ _ R1 c1 T1 k1 s1 ⟨_,us',rfl,⟨u,rfl,h2',h1'⟩,rfl,BC k1 hL⟩ e1
  .trivial
 | .cell (some none),x,n,r,K,S,m,ch,us,us',O,T,R,hcl,hT,h,hL,hK=>by unfold emM;obtain⟨v,rfl,hv,h2,h4,rfl⟩:=h;exact hK S m _ n ch R (dO _ _) (by simpa using hT) (λ_ _ h=>h) (bn.refl _) ⟨v,us',rfl,h2 rfl,hv,hL⟩ (A8 _)
 | .cell (some (some b)),x,n,r,K,S,m,ch,us,us',O,T,R,hcl,hT,h,hL,hK=>by unfold emM;obtain⟨v,rfl,hv,h2,h4,rfl⟩:=h;exact hK S m _ n ch R (dO _ _) (by simpa using hT) (λ_ _ h=>h) (bn.refl _) ⟨v,us',rfl,h4 _ rfl,hv,hL⟩ (A8 _)
 | .cell none,x,n,r,K,S,m,ch,us,us',O,T,R,hcl,hT,h,hL,hK=>by unfold emM;obtain⟨v,rfl,hv,h2,h4,rfl⟩:=h;exact hK S m _ n ch R (dO _ _) (by simpa using hT) (λ_ _ h=>h) (bn.refl _) ⟨v,us',rfl,trivial,hv,hL⟩ (A8 _)
 | .lp t,x,n,r,K,S,m,ch,us,us',O,T,R,hcl,hT,h,hL,hK=>by unfold emM;obtain⟨v,rfl,hv,rfl⟩:=h;exact hK S m _ n ch R (dO _ _) (by simpa using hT) (λ_ _ h=>h) (bn.refl _) ⟨v,us',rfl,hv,Ko hv,hL⟩ (A8 _)
 | .dv ..,x,n,r,K,S,m,ch,us,us',O,T,R,hcl,hT,h,hL,hK=>by unfold emM;obtain⟨v,rfl,hv,rfl⟩:=h;exact hK S m _ n ch R (dO _ _) (by simpa using hT) (λ_ _ h=>h) (bn.refl _) ⟨v,us',rfl,trivial,hv,hL⟩ (A8 _)
 | .ownr md o,x,n,r,K,S,m,ch,us,us',O,T,R,hcl,hT,h,hL,hK=>by
  unfold emM;obtain⟨v,rfl,hv1,hw,h0,l,Os,hv,ha,rfl⟩:=h;refine og λhn=>?_;have hob:P5 (mi m n l Os.flatten) n (.barrp md x.1 x.2 o)=l.blks++Os.flatten:=by cases l<;>first|(simp[P5,Loc.blks];done)|cases ha
  obtain⟨R',T',k'⟩:=R.adopt (l:=l) (ks:=Os.flatten) (v:=.barrp md x.1 x.2 o) hn hcl A7 hT (λb hb=>by rw[hob]at hb;exact hb) (by rw[hob];exact(J9.1 hT.nodup).1)
   ⟨hw,h0,l,Os,az _ _ _ _,ha,A7⟩
  exact hK _ _ _ _ _ R' l7 T' k' (bn.box _ _ _) ⟨v,us',rfl,⟨l,az _ _ _ _,hv⟩,lV hv,BC k' hL⟩ l7
 | .sit,x,n,r,K,S,m,ch,us,us',O,T,R,hcl,hT,h,hL,hK=>by
  unfold emM;obtain⟨blk,s,q,rfl,hh,h2,h3,rfl⟩:=h;refine og λhn=>?_;obtain⟨R2,T2,k2⟩:=R.adopt (n:=n) (l:=.st blk) (ks:=[]) (v:=.biter x.1 x.2) hn hcl A7 hT (λb hb=>by simp only[P5,az]at hb;simp at hb;simp[hb]) (by simp[P5]) ⟨blk,s,q,az _ _ _ _,hh,h2,h3⟩
  exact hK _ _ _ _ _ R2 l7 T2 k2 (bn.box _ _ _) ⟨_,us',rfl,⟨blk,az _ _ _ _,rfl⟩,rfl,BC k2 hL⟩ l7
 | .sbx tb te,x,n,r,K,S,m,ch,us,us',O,T,R,hcl,hT,h,hL,hK=>by
  unfold emM;obtain⟨blk,a0,v,l,rfl,hh,hs,hv,ha,rfl⟩:=h;have hT1:Tk X S m ok w (l.blks++([blk]++T)):=hT.perm (by simpa using List.perm_middle.symm);refine og λhn1=>?_;have hob:P5 (mi m (n+1) l []) (n+1) (.brow te x)=l.blks:=by cases l<;>first|(simp[P5,Loc.blks];done)|cases ha
  obtain⟨R1,T1,k1⟩:=R.adopt (n:=n+1) (l:=l) (ks:=[]) (v:=.brow te x) hn1 l7 A7 hT1 (λb hb=>by rw[hob]at hb;exact hb) (by rw[hob];exact Loc.blks_nodup l) ⟨l,az _ _ _ _,ha⟩;refine og λhn=>?_;obtain⟨R2,T2,k2⟩:=R1.adopt (n:=n) (l:=.st blk) (ks:=[]) (v:=.bsb tb (.own (n+1) none)) hn hcl A7 T1 (λb hb=>by simp only[P5,az]at hb;simp at hb;simp[hb]) (by simp[P5]) ⟨blk,a0,v,az _ _ _ _,hh,hs,⟨l,(by rw[jg _ _ _ l7];exact az _ _ _ _),hv⟩⟩
  refine hK _ _ _ _ _ R2 l7 T2 (λk l h=>k2 k l (k1 k l h)) ((bn.box _ _ _).trans (bn.box _ _ _)) ⟨_,us',rfl,⟨blk,az _ _ _ _,rfl⟩,rfl,BC k2 (BC k1 hL)⟩ l7
 | .fr t,x,n,r,K,S,m,ch,us,us',O,T,R,hcl,hT,h,hL,hK=>by unfold emM;obtain⟨l,v,rfl,hv,ha,hk,rfl⟩:=h;refine og λhn=>?_;obtain⟨R',T',k'⟩:=R.adopt (l:=l) (ks:=[]) (v:=.bfrz t x) hn hcl A7 hT (λb hb=>by cases hb) aW ⟨l,az _ _ _ _,DR ha,hk⟩;exact hK _ _ _ _ _ R' l7 T' k' (bn.box _ _ _) ⟨v,us',rfl,⟨l,az _ _ _ _,hv⟩,lV hv,BC k' hL⟩ l7
theorem PY{ag:Bool}{cs:List V}{us:c5A}(hg:Ri ag x us)(hl:gX C cs us):lD C (mkV ag cs) x:=by
 cases ag
 .simp only[Ri]at hg;subst hg;cases cs with
  |nil=>simp[gX]at hl|cons c r=>
   obtain⟨v,r',e,h1,h2,h3⟩:=hl;simp at e;obtain⟨rfl,rfl⟩:=e;cases r with
   |nil=>exact M_ h1|cons d r=>obtain⟨_,_,e,_⟩:=h3;cases e
 .obtain⟨arr,rfl,rfl⟩:=hg;exact⟨arr,rfl,hl⟩
theorem Io{α:Type}{Q:α->Sm->Prop} :∀(ms:List MG) {x:X4 ms} {n:Nat} {K:List V->Nat->Cmd α} {S:Sm} {m:Mp} {ch:Nat} {xs:c5A} {O T:c5B}
  (R:Rel X cl ch S m ok a w) (hcl:cl<=n) (hT:Tk X S m ok w (O++T)) (h:lI w.heap ok ms x xs O)
  (hK:∀S' m' vs n' ch',Rel X cl ch' S' m' ok a w->ch' <=max ch n' ->Tk X S' m' ok w T->(∀k l,m k=some l->m' k=some l)->bn S S' ->iC ⟨w.heap,ok,m'⟩ vs xs->n<=n' ->(K vs n').post S' Q),
  (CZ ms x n K).post S Q
 |[],x,n,K,S,m,ch,xs,O,T,R,hcl,hT,h,hK=>by unfold CZ;obtain⟨rfl,rfl⟩:=h;exact hK S m [] n ch R (dO _ _) (by simpa using hT) (λ_ _ h=>h) (bn.refl _) rfl (A8 _)
 |[md],x,n,K,S,m,ch,xs,O,T,R,hcl,hT,h,hK=>by unfold CZ;obtain⟨v,cs,rfl,hg,hr⟩:=h;refine Gw md.2 (us' :=[]) R hcl hT hr rfl λS1 m1 cs1 n1 ch1 R1 c1 T1 k1 s1 l1 e1=>?_;exact hK _ _ _ _ _ R1 c1 T1 k1 s1 ⟨v,[],rfl,PY hg (by simpa using l1),rfl⟩ e1
 |md::md' ::r,x,n,K,S,m,ch,xs,O,T,R,hcl,hT,h,hK=>by unfold CZ;obtain⟨v,cs,vs',O1,O2,rfl,rfl,hg,h1,h2⟩:=h;refine Gw md.2 (us' :=[]) R hcl (by simpa using hT) h1 rfl λS1 m1 cs1 n1 ch1 R1 c1 T1 k1 s1 l1 e1=>?_;refine Io (md' ::r) R1 l7 T1 h2 λS2 m2 vs2 n2 ch2 R2 c2 T2 k2 s2 l2 e2=>?_;exact hK _ _ _ _ _ R2 l7 T2 (λk l h=>k2 k l (k1 k l h)) (s1.trans s2) ⟨v,vs',rfl,PY hg (BC k2 (by simpa using l1)),l2⟩ l7
theorem Jg{Q:Unit->Sm->Prop} :∀(ns:c5B) {vs:List V} {S:Sm} {K:Cmd Unit} (R:Rel X cl ch S m ok a w) (hv:iC ⟨w.heap,ok,m⟩ vs (ns.map λn=>a.tmps.getD n Go.undef))
  (hK:∀S',Rel X cl ch S' m ok a w->K.post S' Q),(FB ns vs K).post S Q
 |[],vs,S,K,R,hv,hK=>by
  simp only[jD]at hv;cases vs with
  |nil=>exact hK S R|cons _ _=>obtain⟨_,_,e,_⟩:=hv;cases e
 |n::ns,vs,S,K,R,hv,hK=>by
  cases vs with
  |nil=>trivial
  |cons v vs=>obtain⟨x,r,e,h1,h2⟩:=hv;simp only[aU,G5]at e;obtain⟨rfl,rfl⟩:=e;unfold FB;refine aN λhb=>?_;show Cmd.post _ (upd S n v) Q;exact Jg ns (R.slotV (by rw[aF]at hb;exact hb) h1) h2 hK
end
end Go.GP
namespace Go.GP
def b1Y(P:Program)(t:TypeId):TD->Prop
 | .bool=>P.underlying t=some .bool| .int k=>P.underlying t=some (.int k)| .str=>P.underlying t=some .string| .sl e=>P.underlying t=some (.slice e)| .ptr e=>P.underlying t=some (.pointer e)| .struct fs=>∃fields,P.underlying t=some (.struct fields)/\fields.toList.map (λf=>(f.type,f.offset))=fs| .arr n e=>P.underlying t=some (.array n e)| .map k e=>P.underlying t=some (.map k e)| .other=>∃d,P.underlying t=some d/\(match d with| .struct _| .array _ _=>False|_=>True)
structure TiOk (P:Program) (t:TypeId) (i:TI):Prop where
 info:∃inf,P.info? t=some inf/\inf.size=i.size/\inf.bytes=i.bytes/\
  (i.zero.length=i.size->∃z,inf.zero=some z/\gX ⟨#[],λ_ _=>False,nom⟩ i.zero z.cells.toList)/\
  (∀u,i.ty=some u->u.size=i.size/\∃z,inf.zero=some z/\lJ #[] (λ_ _=>False) u u.zero z.cells.toList)
 td:b1Y P t i.td
 one:bP i.td=false->i.size=1
 agg:∀inf z,P.info? t=some inf->inf.zero=some z->(bP i.td=true->∃arr,z= .agg arr)/\(bP i.td=false->z.oneCell' =true)
def Qv(n:Nat)(v:Value)(rs:c5A):Prop:=rs.length=n/\v=(match rs with|[x]=>x|l=> .tuple l.toArray)
def rM(h:Array Obj):List MG->c5A->c5A->c5B->Prop
 |[],[],os,B=>os=[]/\B=[]|(_,.box _)::ms,v::vs,os,B=>∃b arr T os' B',v= .pointer (some ⟨b,0,none⟩)/\h[b]? =some (.cells arr T (0,0))/\os= .agg arr::os' /\B=b::B' /\rM h ms vs os' B'|(_,.ifc _ (.box _))::ms,v::vs,os,B=>∃t b arr T os' B',v= .iface t (.pointer (some ⟨b,0,none⟩))/\h[b]? =some (.cells arr T (0,0))/\os= .agg arr::os' /\B=b::B' /\rM h ms vs os' B'|(_,.ownb _)::ms,v::vs,os,B=>∃os',os=v::os' /\rM h ms vs os' B|(_,.sbx _ _)::ms,v::vs,os,B=>∃os',os=v::os' /\rM h ms vs os' B|_::ms,_::vs,os,B=>rM h ms vs os B|_,_,_,_=>False
def Qu(h:Array Obj)(x:Value)(off sz fo:Nat)(y:Value):Prop:=∃blk o b bo n c,x= .pointer (some ⟨blk,o,none⟩)/\dJ h blk (o+off) 1=some [.slice (some ⟨b,bo,none⟩) n c]/\
 0<=Y5 .i64 (n:Int) 1/\Y5 .i64 (n:Int) 1<(n:Int)/\y= .pointer (some ⟨b,bo+(Y5 .i64 (n:Int) 1).toNat*sz+fo,none⟩)
theorem Qu.det{h:Array Obj}{x y z:Value}{off sz fo:Nat}(h1:Qu h x off sz fo y)(h2:Qu h x off sz fo z):y=z:=by obtain⟨blk,o,b,bo,n,c,rfl,e,_,_,rfl⟩:=h1;obtain⟨blk',o',b',bo',n',c',e1,e',_,_,rfl⟩:=h2;simp only[oG,F7,jd,and_true]at e1;obtain⟨rfl,rfl⟩:=e1;rw[e]at e';simp only[F7,G5,qE,jd,and_true]at e';obtain⟨⟨rfl,rfl⟩,rfl,rfl⟩:=e';rfl
def UE(h:Array Obj)(all:c5A):List MG->c5A->Prop
 |(_,.dv k off sz fo)::ms,v::vs=>(∃p,all[k]? =some p/\Qu h p off sz fo v)/\UE h all ms vs|_::ms,_::vs=>UE h all ms vs|_,_=>True
def a5f(P:Program)(f:FuncId)(off sz:Nat):Prop:=(∃fn,P.funcs[f]? =some fn/\fn.body.isSome=true/\(fn.name== "runtime.NumGoroutine")=false)/\
 ∀(w:World) (x y:Value),Qu w.heap x off sz 0 y->Calls P f #[x] w λe w' =>e= .returned y/\∃n,w' =w.drewN n
def PlP(P:Program)(f:FuncId)(off sz:Nat):Prop:=match sz with|0=>b8Q P f off|_+1=>a5f P f off sz
theorem PlP.snd{P:Program}{f:FuncId}{off sz:Nat}(h:PlP P f off sz)(hz:Nat.beq sz 0=false):a5f P f off sz:=by
 cases sz with
 |zero=>cases hz|succ n=>exact h
class GlNe (gl:List (Nat×(t:Ty)×List t.den)):Prop where
 ne:gl≠[]
def dI(P:Program)(gl:List (Nat×(t:Ty)×List t.den))(f:FuncId)(s:FSpec):Prop:=
 ∀(w:World) (ok:Nat->Ty->Prop) (O:c5B) (vals:c5A) (x:X4 s.ps) (r:X4 (s.rs++s.outs)),
  (∀b t,ok b t->b<w.heap.size)->O.Nodup->(∀b∈O,(∀t,¬ok b t)/\b<w.heap.size)->(∀g u,dL gl g=some u->Ia ⟨w.heap,ok,nom⟩ g u.1 u.2)->
  lI w.heap ok s.ps x vals O->UE w.heap vals s.ps vals->s.fn x=some r->
  Calls P f vals.toArray w λe w' =>∃v ok' O' rs os B,e= .returned v/\Frame' (gl=[]) w w' O/\(∀b t,ok b t->ok' b t)/\(∀b t,ok' b t->b<w'.heap.size/\(ok b t\/w.heap.size<=b\/b∈O))/\
   (O' ++B).Nodup/\(∀b∈O' ++B,(∀t,¬ok' b t)/\b<w'.heap.size/\(w.heap.size<=b\/b∈O))/\
   Qv s.rs.length v rs/\rM w'.heap s.ps vals os B/\lI w'.heap ok' (s.rs++s.outs) r (rs++os) O'
def b2I(P:Program):Nat:=P.types.toList.findIdx λi=>i.str== "amend.fault"
def yh(P:Program)(c:Int):List PanicEntry:=[{ v:=.iface (b2I P) (.agg #[.int .i64 c]),recovered:=false }]
def b2o(P:Program)(gl:List (Nat×(t:Ty)×List t.den))(f:FuncId)(ps rs outs:List MG)(fn:X4 ps->Option (X4 (cd::(rs++outs)))):Prop:=
 ∀(w:World) (ok:Nat->Ty->Prop) (O:c5B) (vals:c5A) (x:X4 ps) (r:X4 (cd::(rs++outs))),
  (∀b t,ok b t->b<w.heap.size)->O.Nodup->(∀b∈O,(∀t,¬ok b t)/\b<w.heap.size)->(∀g u,dL gl g=some u->Ia ⟨w.heap,ok,nom⟩ g u.1 u.2)->
  lI w.heap ok ps x vals O->UE w.heap vals ps vals->fn x=some r->
  Calls P f vals.toArray w λe w' =>(a3z (rs++outs) r=0/\∃v ok' O' rs' os B,e= .returned v/\Frame' (gl=[]) w w' O/\(∀b t,ok b t->ok' b t)/\(∀b t,ok' b t->b<w'.heap.size/\(ok b t\/w.heap.size<=b\/b∈O))/\
   (O' ++B).Nodup/\(∀b∈O' ++B,(∀t,¬ok' b t)/\b<w'.heap.size/\(w.heap.size<=b\/b∈O))/\
   Qv rs.length v rs' /\rM w'.heap ps vals os B/\lI w'.heap ok' (rs++outs) (tlT (rs++outs) r) (rs' ++os) O')\/
   (a3z (rs++outs) r≠0/\e= .panicked (yh P (a3z (rs++outs) r))/\Frame' (gl=[]) w w' O)
def b5I(P:Program)(gl:List (Nat×(t:Ty)×List t.den))(f:FuncId):FSpec->Prop
 |⟨ps,rs,outs,fn⟩=>∃(rs0:List MG) (h:rs=cd::rs0),b2o P gl f ps rs0 outs (λx=>(h▸fn:X4 ps->Option (X4 ((cd::rs0)++outs))) x)
def a6T(P:Program)(gl:List (Nat×(t:Ty)×List t.den))(p:Nat×FSpec):Prop:=bif Nat.ble PB p.1 then b5I P gl (p.1 -PB) p.2 else dI P gl p.1 p.2
def a7j(n:Nat):Nat:=bif Nat.ble PB n then n -PB else n
def kD:List Ty->c5A->Prop
 |[],vs=>vs=[]| .bool::ts,vs=>∃b r,vs= .bool b::r/\kD ts r| .int k::ts,vs=>∃b r,vs= .int k b::r/\kD ts r| .str::ts,vs=>∃b r,vs= .string b::r/\kD ts r|_::_,_=>False
def a8s(P:Program)(t:TypeId)(sh:List Ty):Prop:=
 ∀(w:World) (C:Cx) (cs ds:List V) (xs ys:Array Value) (e:Bool) (op:BinOp) (x y:Operand),AB sh cs=true->AB sh ds=true->gX C cs xs.toList->gX C ds ys.toList->zW cs ds=some e->
  (op= .eql\/op= .neq)->(do eqGuard op t x y (.agg xs) (.agg ys);binOp op t (.agg xs) (.agg ys):Sem Value).run P w= .ok (.bool (if op= .eql then e else !e)) w
def a0v(P:Program)(t:TypeId)(sh:List Ty):Prop:=
 (∃fs,P.underlying t=some (.struct fs))/\∀(w:World) (xs:Array Value),kD sh xs.toList->(∀em,(Instr.checkKey em 10000 t (.agg xs)).run P w= .ok () w)/\
  ∀ys:Array Value,kD sh ys.toList->∃r,(Op.equal t (.agg xs) (.agg ys)).run P w= .ok r w/\(r=true↔xs.toList=ys.toList)
def LK(P:Program)(t:TypeId)(sh:List Ty):Prop:=a8s P t sh/\a0v P t sh
def Zx(P:Program)(t:Nat)(n:String)(f:Nat)(d:Option Nat):Prop:=
 ∀(v:Value) (w:World),match d with
  |none=>(method (P.types.size+Made.depth) t v n).run P w= .ok (f,v) w
  |some e=>∀ad,v= .pointer (some ad)->(method (P.types.size+Made.depth) t v n).run P w=((loadVar e ad).run P w).andThen λu w' => .ok (f,u) w'
structure FxOk (X:Fx):Prop where
 nt:64*X.E.nt<=999936
 tt:∀t i,dL X.E.tt t=some i->TiOk X.P t i
 fs:∀p∈X.E.fs,a6T X.P X.E.gl p
 eqs:∀t sh,dL X.E.eqs t=some sh->LK X.P t sh
 ms:∀p∈X.E.ms,Zx X.P p.1.1 p.1.2 p.2.1 p.2.2
 fn:∀p∈X.E.fs,∃fn,X.P.funcs[a7j p.1]? =some fn/\fn.body.isSome=true/\(fn.name== "runtime.NumGoroutine")=false
 pl:∀p∈X.E.pl,PlP X.P p.1 p.2.1 p.2.2
 df:∀l,X.df=some l->∀p∈X.E.pl,Nat.beq p.2.2 0=false
theorem FxOk.ntB{X:Fx}(H:FxOk X):X.E.nt<=V6:=by have:=H.nt;show X.E.nt<=1000000;omega
def b4q(X:Fx)(cl ch:Nat)(o:Oper)(a:Act)(w:World)(m:Mp)(ok:Nat->Ty->Prop)(c:Int)(S' :Sm):Prop:=
 ∀(next:Act->World->Prop) (Q:Exit->Act->World->Prop),
  (∀m' ok' w',Rel X cl ch S' m' ok' a w' ->(∀k l,m k=some l->m' k=some l)->(∀b t,ok b t->ok' b t)->Q (.panic (yh X.P c)) a w')->o.wp X.P a w next Q
def jw(X:Fx)(cl ch:Nat)(o:Oper)(a:Act)(w:World)(m:Mp)(ok:Nat->Ty->Prop)(S' :Sm):Prop:=
 ∀(next:Act->World->Prop) (Q:Exit->Act->World->Prop),
  (∀m' ok' a' w',Rel X cl ch S' m' ok' a' w' ->(∀k l,m k=some l->m' k=some l)->(∀b t,ok b t->ok' b t)->next a' w')->o.wp X.P a w next Q
theorem Hf{α:Type}{ι:Sort _}{Q:ι->α->Sm->Prop} :∀{c:Cmd α} {S:Sm},(∀i,c.post S (Q i))->c.post S (λx S' =>∀i,Q i x S')
 | .ret x,S,h=>λi=>h i| .fail,S,h=>trivial| .get k c,S,h=>Hf (c:=c (S k)) h| .set k v c,S,h=>Hf (c:=c) h
 | .opt o c,S,h=>λx e=>Hf (c:=c x) λi=>h i x e| .br b c d,S,h=>⟨λe=>Hf (c:=c) λi=>(h i).1 e,λe=>Hf (c:=d) λi=>(h i).2 e⟩
variable {x:Operand}{k:IntKind}{y:Operand}{α:Type}{Q:α->Sm->Prop}{C:Cx}{v:Value}{op:BinOp}{t:TypeId}{yt:TypeId}
section
variable {X:Fx} {cl ch:Nat} {S:Sm} {m:Mp} {ok:Nat->Ty->Prop} {a:Act} {w:World} {o:Oper}
theorem bV{b:Bool}{c:Cmd α}{S:Sm}(h:b=true->c.post S Q):(bif b then c else Cmd.fail).post S Q:=by
 cases b
 .trivial
 .exact h rfl
theorem FP{a b:Nat}(h:Nat.blt a b=true):a<b:=by rw[aF]at h;exact h
theorem uu(H:FxOk X){S:Sm}{m0 m:Mp}{ok0 ok:Nat->Ty->Prop}{w0 w:World}{a:Act}(R:Rel X cl ch S m ok a w)(hm:∀k l,m0 k=some l->m k=some l)(hok:∀b t,ok0 b t->ok b t)
  {v:V} {x:Value} (hv:lD ⟨w.heap,ok,m⟩ v x) (run:(execOp a.eval o).run X.P w0= .ok (.value x) w):
  (dX X.E o.dst v).post S (λ_ S' =>jw X cl ch o a w0 m0 ok0 S'):=by
 unfold dX;cases hd:o.dst with
 |none=>
  intro next Q hn
  unfold Oper.wp;rw[run,cu,hd];exact hn m ok a w R hm hok
 |some d=>
  refine bV λhb=>?_;intro next Q hn
  unfold Oper.wp;rw[run,cu,hd];exact hn m ok _ w (R.put H.ntB hb hv) hm hok
theorem a3g(C:Cx)(v:Value):lD C (a3f v) v:=by unfold a3f;split<;>first|exact rfl|trivial
theorem bg(R:Rel X cl ch S m ok a w){K:V->Cmd α}(hK:∀v,lD ⟨w.heap,ok,m⟩ v (a.eval x)->(K v).post S Q):(sW x K).post S Q:=by
 unfold sW;cases x with
 |tmp t=>exact bV λhb=>hK (S t) (R.slot t (FP hb))|const v=>exact hK _ (a3g _ v)|global g=>exact hK _ rfl|func f=>exact hK _ rfl
theorem kJ{α:Type}{Q:α->Sm->Prop}(R:Rel X cl ch S m ok a w):∀(xs:List Operand) {K:List V->Cmd α} (hK:∀vs,iC ⟨w.heap,ok,m⟩ vs (xs.map a.eval)->(K vs).post S Q),(Jv xs K).post S Q
 |[],K,hK=>hK [] rfl
 |x::r,K,hK=>by unfold Jv;refine bg R λv hv=>?_;exact kJ R r λvs hvs=>hK _ ⟨_,_,rfl,hv,hvs⟩
theorem bu(H:FxOk X)(R:Rel X cl ch S m ok a w){v:V}{x:Value}(hv:lD ⟨w.heap,ok,m⟩ v x)(run:(execOp a.eval o).run X.P w= .ok (.value x) w):
  (dX X.E o.dst v).post S (λ_ S' =>jw X cl ch o a w m ok S'):=uu H R (λ_ _ h=>h) (λ_ _ h=>h) hv run
theorem Rj{x:Bool}(h:lD C (.b x) v):v= .bool x:=h
theorem uK{n:Int}(h:lD C (.i k n) v):v= .int k n:=h
theorem KX{l:c5y}(h:lD C (.s l) v):v= .string ⟨l.toArray⟩:=h
theorem a6g(H:FxOk X)(R:Rel X cl ch S m ok a w)(ho:o.op= .move x\/o.op= .assign x):(sW x λv=>dX X.E o.dst v).post S (λ_ S' =>jw X cl ch o a w m ok S'):=by refine bg R λv hv=>bu H R hv ?_;rcases ho with ho|ho<;>simp[execOp,ho]
theorem b3l(H:FxOk X)(R:Rel X cl ch S m ok a w){c x y:Operand}{q:Nat}(ho:o.op= .pick c x y):(dE X.E q o).post S (λ_ S' =>jw X cl ch o a w m ok S'):=by
 unfold dE;simp only[ho];refine bg R λv hv=>?_;split<;>try trivial
 rename_i t;have hc:=Rj hv;cases t
 .simp only[cond_false];refine bg R λv hv=>bu H R hv ?_;simp[execOp,ho,hc,asBool]
 .simp only[cond_true];refine bg R λv hv=>bu H R hv ?_;simp[execOp,ho,hc,asBool]
theorem dP{α β:Type}{Q:α->Sm->Prop}{x:Option β}{c:β->Cmd α}{S:Sm}(h:∀y,x=some y->(c y).post S Q):(Cmd.opt x c).post S Q:=h
theorem a6P{yc:Operand}{a:Act}{b:Int}(h:DC yc=false)(he:a.eval yc= .int k b):b≠0:=by
 unfold DC at h;split at h
 .simp[Act.eval]at he;obtain⟨_,rfl⟩:=he;simpa using h
 .simp at h
theorem a9F{yc:Operand}{a:Act}{b:Int}(h:GI yc=false)(he:a.eval yc= .int k b):¬b<0:=by
 unfold GI at h;split at h
 .simp[Act.eval]at he;obtain⟨_,rfl⟩:=he;simpa using h
 .simp at h
theorem a7E(H:FxOk X)(R:Rel X cl ch S m ok a w)(ho:o.op= .binOp op t x y yt){k k' :IntKind}{p q:Int}
  (hx:a.eval x= .int k p) (hy:a.eval y= .int k' q):(JQ X.E t op y (.i k p) (.i k' q) λv=>dX X.E o.dst v).post S (λ_ S' =>jw X cl ch o a w m ok S'):=by
 have run:∀v,(binOp op t (.int k p) (.int k' q)).run X.P w= .ok v w->(execOp a.eval o).run X.P w= .ok (.value v) w:=λv h=>by simp[execOp,ho,hx,hy,eqGuard_at_int,h]
 have fin:∀(v:V) (u:Value),lD ⟨w.heap,ok,m⟩ v u->(binOp op t (.int k p) (.int k' q)).run X.P w= .ok u w->(dX X.E o.dst v).post S (λ_ S' =>jw X cl ch o a w m ok S'):=
  λv u hv h=>bu H R hv (run u h)
 unfold JQ;cases op<;>simp only[]
 case shl=>
  cases hn:GI y
  .simp only[cond_false];have h0:=a9F hn hy;exact fin _ _ rfl (by simp[binOp,Op.shift,h0,JH])
  .simp only[cond_true];refine dP λr hr=>?_;unfold AQ at hr;split at hr
   .cases hr
   .rename_i h0;cases hr;exact fin _ _ rfl (by simp[binOp,Op.shift,h0,JH])
 case shr=>
  cases hn:GI y
  .simp only[cond_false];have h0:=a9F hn hy;exact fin _ _ rfl (by simp[binOp,Op.shift,h0,jh])
  .simp only[cond_true];refine dP λr hr=>?_;unfold EX at hr;split at hr
   .cases hr
   .rename_i h0;cases hr;exact fin _ _ rfl (by simp[binOp,Op.shift,h0,jh])
 all_goals
  refine bV λhk=>?_;have hk' :k=k' :=of_decide_eq_true hk;subst hk'
 case quo=>
  cases hz:DC y
  .simp only[cond_false];have h0:=a6P hz hy;exact fin _ _ rfl (by simp[binOp,Op.intDiv,h0,eP])
  .simp only[cond_true];refine dP λr hr=>?_;unfold b4E at hr;split at hr
   .cases hr
   .rename_i h0;cases hr;exact fin _ _ rfl (by simp[binOp,Op.intDiv,h0])
 case rem=>
  cases hz:DC y
  .simp only[cond_false];have h0:=a6P hz hy;exact fin _ _ rfl (by simp[binOp,Op.intDiv,h0,jB])
  .simp only[cond_true];refine dP λr hr=>?_;unfold b4F at hr;split at hr
   .cases hr
   .rename_i h0;cases hr;exact fin _ _ rfl (by simp[binOp,Op.intDiv,h0])
 case add=>exact fin _ _ rfl (by simp[binOp,Op.intArith,G6])
 case sub=>exact fin _ _ rfl (by simp[binOp,Op.intArith,Y5])
 case mul=>exact fin _ _ rfl (by simp[binOp,Op.intArith,Pn])
 case and=>exact fin _ _ rfl (by simp[binOp,Op.intBits,ak])
 case or=>exact fin _ _ rfl (by simp[binOp,Op.intBits,ior])
 case xor=>exact fin _ _ rfl (by simp[binOp,Op.intBits,JI])
 case andNot=>exact fin _ _ rfl (by simp[binOp,Op.intBits,sQ])
 case eql=>exact fin _ _ rfl (by simp[binOp,Op.intCmp,D6];rfl)
 case neq=>exact fin _ _ rfl (by simp[binOp,Op.intCmp,D6,J8];rfl)
 case lss=>exact fin _ _ rfl (by simp[binOp,Op.intCmp,I7])
 case leq=>exact fin _ _ rfl (by simp[binOp,Op.intCmp,X6])
 case gtr=>exact fin _ _ rfl (by simp[binOp,Op.intCmp,I7])
 case geq=>exact fin _ _ rfl (by simp[binOp,Op.intCmp,X6])
theorem a7F(H:FxOk X)(R:Rel X cl ch S m ok a w)(ho:o.op= .binOp op t x y yt){p q:c5y}
  (hx:a.eval x= .string ⟨p.toArray⟩) (hy:a.eval y= .string ⟨q.toArray⟩):(JQ X.E t op y (.s p) (.s q) λv=>dX X.E o.dst v).post S (λ_ S' =>jw X cl ch o a w m ok S'):=by
 have run:∀v,(Op.stringOp op ⟨p.toArray⟩ ⟨q.toArray⟩).run X.P w= .ok v w->(execOp a.eval o).run X.P w= .ok (.value v) w:=λv h=>by simp[execOp,ho,hx,hy,eqGuard_at_string,binOp,h]
 have fin:∀(v:V) (u:Value),lD ⟨w.heap,ok,m⟩ v u->(Op.stringOp op ⟨p.toArray⟩ ⟨q.toArray⟩).run X.P w= .ok u w->(dX X.E o.dst v).post S (λ_ S' =>jw X cl ch o a w m ok S'):=
  λv u hv h=>bu H R hv (run u h)
 unfold JQ;cases op<;>simp only[]<;>try trivial
 case add=>
  refine dP λr hr=>?_;unfold aO at hr;split at hr
  .rename_i hle;cases hr;have e:(⟨p.toArray⟩:ByteArray)++⟨q.toArray⟩=⟨(p++q).toArray⟩:=by
    apply ByteArray.ext;apply lC;simp[ByteArray.data_append]
   refine fin _ (.string ⟨(p++q).toArray⟩) rfl ?_;have hs:¬((9223372036854775807:Int)<(p.length:Int)+(q.length:Int)):=l7;simp[Op.stringOp,e,ByteArray.size,hs]
  .cases hr
 case eql=>exact fin _ _ rfl (by simp only[Op.stringOp,ByteArray.toList_mk,seq,aI];rw[show(p==q)=decide (p=q) by rw[lS];simp])
 case neq=>exact fin _ _ rfl (by simp only[Op.stringOp,ByteArray.toList_mk,seq,J8,aI];rw[show(p==q)=decide (p=q) by rw[lS];simp])
 case lss=>exact fin _ _ rfl (by simp[Op.stringOp,ByteArray.toList_mk,slt])
theorem a3M(H:FxOk X)(R:Rel X cl ch S m ok a w)(ho:o.op= .binOp op t x y yt){p q:Bool}
  (hx:a.eval x= .bool p) (hy:a.eval y= .bool q):(JQ X.E t op y (.b p) (.b q) λv=>dX X.E o.dst v).post S (λ_ S' =>jw X cl ch o a w m ok S'):=by
 unfold JQ;cases hi:dL X.E.tt t with
 |none=>trivial|some i=>
 have ht' :=(H.tt t i hi).td;simp only[];cases hd:i.td<;>try trivial
 rw[hd]at ht';have ht:X.P.underlying t=some .bool:=ht';have he' :∀d,(Op.equalIn (d+1) t (.bool p) (.bool q)).run X.P w= .ok (p==q) w:=λd=>by simp[Op.equalIn,run_underlying ht]
 have he:(Op.equal t (.bool p) (.bool q)).run X.P w= .ok (p==q) w:=he' 9999;have run:∀v,(binOp op t (.bool p) (.bool q)).run X.P w= .ok v w->(execOp a.eval o).run X.P w= .ok (.value v) w:=λv h=>by simp[execOp,ho,hx,hy,eqGuard_at_bool,h]
 have fin:∀(v:V) (u:Value),lD ⟨w.heap,ok,m⟩ v u->(binOp op t (.bool p) (.bool q)).run X.P w= .ok u w->(dX X.E o.dst v).post S (λ_ S' =>jw X cl ch o a w m ok S'):=
  λv u hv h=>bu H R hv (run u h)
 cases op<;>try trivial
 case eql=>exact fin _ _ rfl (by simp[binOp,he,UV])
 case neq=>exact fin _ _ rfl (by simp[binOp,he,UV,J8])
end
end Go.GP
namespace Go.GP
variable {x:Operand}{t:TypeId}{q:Nat}
section
variable {X:Fx} {cl ch:Nat} {S:Sm} {m:Mp} {ok:Nat->Ty->Prop} {a:Act} {w:World} {o:Oper}
theorem lu{α:Type}{Q:α->Sm->Prop}(H:FxOk X){t:Nat}{K:TI->Cmd α}(hK:∀i,TiOk X.P t i->(K i).post S Q):(tiC X.E t K).post S Q:=by
 unfold tiC;cases hi:dL X.E.tt t with
 |none=>trivial|some i=>exact hK i (H.tt t i hi)
theorem a8i{P:Program} :∀{d:TD},b1Y P t d->∃e,P.underlying t=some e
 | .bool,h=>⟨_,h⟩| .int _,h=>⟨_,h⟩| .str,h=>⟨_,h⟩| .sl _,h=>⟨_,h⟩| .ptr _,h=>⟨_,h⟩| .struct _,⟨_,h,_⟩=>⟨_,h⟩| .arr _ _,h=>⟨_,h⟩| .map _ _,h=>⟨_,h⟩| .other,⟨_,h,_⟩=>⟨_,h⟩
theorem z_(H:FxOk X)(R:Rel X cl ch S m ok a w){op:BinOp}{x y:Operand}{yt:TypeId}(ho:o.op= .binOp op t x y yt){ad:Option Addr}{n c:Nat}
  (hx:a.eval x= .slice ad n c) (hy:a.eval y= .slice none 0 0):(a9G X.E t op ad.isNone λv=>dX X.E o.dst v).post S (λ_ S' =>jw X cl ch o a w m ok S'):=by
 unfold a9G;cases hi:dL X.E.tt t with
 |none=>trivial|some i=>
 have ht' :=(H.tt t i hi).td;simp only[];cases hd:i.td<;>try trivial
 rename_i e;rw[hd]at ht';have ht:X.P.underlying t=some (.slice e):=ht';have he' :∀d,(Op.equalIn (d+1) t (.slice ad n c) (.slice none 0 0)).run X.P w= .ok ad.isNone w:=λd=>by cases ad<;>simp[Op.equalIn,run_underlying ht]
 have he:(Op.equal t (.slice ad n c) (.slice none 0 0)).run X.P w= .ok ad.isNone w:=he' 9999;have run:∀v,(binOp op t (.slice ad n c) (.slice none 0 0)).run X.P w= .ok v w->(execOp a.eval o).run X.P w= .ok (.value v) w:=λv h=>by simp[execOp,ho,hx,hy,eqGuard_at_slice,h]
 cases op<;>try trivial
 case eql=>exact bu H R (v:=.b ad.isNone) (x:=.bool ad.isNone) rfl (run _ (by simp[binOp,he]))
 case neq=>exact bu H R (v:=.b (J8 ad.isNone)) (x:=.bool (!ad.isNone)) rfl (run _ (by simp[binOp,he]))
theorem a9Q(H:FxOk X)(R:Rel X cl ch S m ok a w){op:BinOp}{x y:Operand}{yt:TypeId}(ho:o.op= .binOp op t x y yt):
  (dE X.E q o).post S (λ_ S' =>jw X cl ch o a w m ok S'):=by
 unfold dE;simp only[ho];refine bg R λu hu=>bg R λv hv=>?_;cases u<;>try (unfold JQ;trivial)
 case b p=>
  cases v<;>try (unfold JQ;trivial)
  exact a3M H R ho (Rj hu) (Rj hv)
 case i k p=>
  cases v<;>try (unfold JQ;trivial)
  exact a7E H R ho (uK hu) (uK hv)
 case s p=>
  cases v<;>try (unfold JQ;trivial)
  exact a7F H R ho (KX hu) (KX hv)
 case nl=>
  cases v<;>try (unfold JQ;trivial)
  exact z_ H R ho (ad:=none) (show a.eval x= .slice none 0 0 from hu) hv
 case ne=>
  cases v<;>try (unfold JQ;trivial)
  obtain⟨ad,c,hx,hb⟩:=hu;subst hb;exact z_ H R ho (ad:=ad) hx hv
 case sl t' xs=>
  cases v<;>try (unfold JQ;trivial)
  unfold JQ;simp only[];cases ht:t'.isEnt
  .simp only[cond_false];obtain⟨ad,c,hx,hle,hx'⟩:=(zo ht).1 (show lJ w.heap ok (.sl t') xs [a.eval x]from hu);cases xs with
   |nil=>exact⟨λ_=>trivial,λh=>by simp[D6,x8]at h⟩|cons z zs=>obtain⟨blk,off,es,rfl,_⟩:=hx' 0 z rfl;exact⟨λ_=>trivial,λ_=>z_ H R ho (ad:=some _) (by simpa using hx) hv⟩
  .trivial
 case agg cs=>
  cases v<;>try (unfold JQ;trivial)
  case agg ds=>
  obtain⟨xs,hx,hl⟩:=hu;obtain⟨ys,hy,hl'⟩:=hv;unfold JQ;simp only[];cases hq:dL X.E.eqs t with
  |none=>trivial|some sh=>
  simp only[];refine bV λhm=>?_;simp only[x9]at hm;have hE:=(H.eqs t sh hq).1;cases he:zW cs ds with
  |none=>cases op<;>trivial|some e=>
   cases op<;>try trivial
   case eql=>refine bu H R (v:=.b e) (x:=.bool e) rfl ?_;have h:=hE w _ cs ds xs ys e .eql x y hm.1 hm.2 hl hl' he (.inl rfl);simp only[execOp,ho,hx,hy];rw[H8,h];rfl
   case neq=>refine bu H R (v:=.b (J8 e)) (x:=.bool (!e)) rfl ?_;have h:=hE w _ cs ds xs ys e .neq x y hm.1 hm.2 hl hl' he (.inr rfl);simp only[execOp,ho,hx,hy];rw[H8,h];rfl
theorem b3n(H:FxOk X)(R:Rel X cl ch S m ok a w){op:UnOp}(ho:o.op= .unOp op t x):
  (dE X.E q o).post S (λ_ S' =>jw X cl ch o a w m ok S'):=by
 unfold dE;simp only[ho];refine bg R λu hu=>?_;cases u<;>cases op<;>try (unfold unC;trivial)
 case b.not p=>exact bu H R (v:=.b (J8 p)) (x:=.bool (!p)) rfl (by simp[execOp,ho,Rj hu,Op.unary])
 case i.neg k p=>exact bu H R (v:=.i k (Y5 k 0 p)) (x:=.int k (k.wrap (0 -p))) rfl (by simp[execOp,ho,uK hu,Op.unary,Op.intArith])
 case i.xor k p=>exact bu H R (v:=.i k (JI k (bif k.signed then -1 else k.max) p)) rfl (by simp only[execOp,ho,uK hu,Op.unary,Op.intBits,JI];cases k.signed<;>simp)
theorem b0f{α:Type}{Q:α->Sm->Prop}(R:Rel X cl ch S m ok a w){u:Ty}{y:V}{vy:Value}{K:List u.den->Cmd α}(hy:lD ⟨w.heap,ok,m⟩ y vy)
  (hK:∀xs,lJ w.heap (λ_ _=>True) (.sl u) xs [vy]->(K xs).post S Q):(a7L u y K).post S Q:=by
 unfold a7L;split<;>try trivial
 .have hv:vy= .slice none 0 0:=hy;subst hv;cases ht:u.isEnt
  .exact hK [] (.inl ⟨ht,none,0,rfl,A8 _,λi x hi=>by simp at hi⟩)
  .trivial
 .obtain⟨ad,c,rfl,_⟩:=(show ∃a c,vy=Value.slice a 0 c/\a.isNone=_ from hy);cases ht:u.isEnt
  .exact hK [] (.inl ⟨ht,ad,c,rfl,gV _,λi x hi=>by simp at hi⟩)
  .trivial
 .refine eU λe=>?_;subst e;exact hK _ (dU (λ_ _ _=>trivial) (λ_ _ _=>rfl) (show lJ w.heap ok (.sl _) _ [vy]from hy))
 .rename_i bx vw;obtain⟨l,hm,hv⟩:=hy;show Cmd.post (match S (V6+bx)with| .barr t' xs=>_| .bfrz t' xs=>_|_=>_) S Q;have hb:=R.box bx;split<;>try trivial
  .rename_i t' xs hS;rw[hS]at hb;obtain⟨l',hm',ha⟩:=hb;simp only at hm hm';rw[hm]at hm';cases hm';refine eU λe=>?_;subst e;exact hK _ (qg (C:=⟨w.heap,ok,m⟩) ha hv (λ_ _ _=>trivial) (λ_ _=>trivial))
  .rename_i t' xs hS;rw[hS]at hb;obtain⟨l',hm',ha,hok⟩:=hb;simp only at hm hm';rw[hm]at hm';cases hm';refine eU λe=>?_;subst e;exact hK _ (qg (C:=⟨w.heap,ok,m⟩) ha hv (λ_ _ _=>trivial) (λ_ _=>trivial))
theorem a1E(H:FxOk X)(R:Rel X cl ch S m ok a w){src t:TypeId}(ho:o.op= .convert src t x)
  (hB:∀l,a.eval x= .string ⟨l.toArray⟩->X.P.underlying src=some .string->(a8R X.E (L9 q o.dst) t l λv=>dX X.E o.dst v).post S (λ_ S' =>jw X cl ch o a w m ok S')):
  (dE X.E q o).post S (λ_ S' =>jw X cl ch o a w m ok S'):=by
 unfold dE;simp only[ho];refine bg R λu hu=>lu H λj hj=>lu H λi hi=>?_;obtain⟨e,he⟩:=a8i hj.td;have hd:=hi.td;split<;>try trivial
 .rename_i k' n k htd;rw[htd]at hd;exact bu H R (v:=.i k (wrap k n)) (x:=.int k (k.wrap n)) rfl (by simp[execOp,ho,uK hu,convert,run_underlying he,run_underlying (show X.P.underlying t=some (.int k)from hd),Conv.intToInt])
 .rename_i l htd;rw[htd]at hd;refine bu H R (v:=.s l) (x:=.string ⟨l.toArray⟩) rfl ?_;simp only[execOp,ho,KX hu,convert,H8,run_underlying he,run_underlying (show X.P.underlying t=some .string from hd),J3];cases e<;>simp
 .split<;>try trivial
  rename_i l _ _ _ hjd;have hjs:=hj.td;rw[hjd]at hjs;exact hB l (KX hu) hjs
 .rename_i hns htd;rw[htd]at hd;split<;>try trivial
  rename_i el hjd;have hjs:=hj.td;rw[hjd]at hjs;refine lu H λk hk=>?_;have hkd:=hk.td;split<;>try trivial
  rename_i hke;rw[hke]at hkd;refine b0f R hu λxs hr=>?_;obtain⟨ad,cap,hv,hcap,hcells⟩:=(zo rfl).1 hr;have hv:=(U6 hv).1;refine bu H R (v:=.s (JG xs)) (x:=.string ⟨(JG xs).toArray⟩) rfl ?_;have hh:(convert src t (a.eval x)).run X.P w= .ok (.string ⟨(JG xs).toArray⟩) w:=by
   rw[hv];cases xs with
   |nil=>
    have:=run_convert_bytes_nil (P:=X.P) w src el hjs hkd 0 cap t hd;cases ad with
    |none=>exact this|some ad=>obtain⟨b,o,s⟩:=ad;rw[run_convert_bytes_string w src t el _ _ cap hjs hkd hd];simp[Conv.bytesToString,JG];rfl
   |cons y ys=>
    obtain⟨blk,off,es,rfl,_,_,_⟩:=hcells 0 y rfl;have:=run_convert_bytes_arg (P:=X.P) w src el hjs hkd blk off (y::ys).length cap (y::ys) rfl (λi hi=>?_) t hd
    .exact this
    .obtain⟨blk2,off2,es2,e2,_,hc,hr2⟩:=hcells i _ (jk hi);simp only[F7,jd]at e2;obtain⟨rfl,rfl,_⟩:=e2;obtain⟨c,T,f,hb,hn,rfl⟩:=tJ hc;have hr3:((c.toList.drop (off+i*1)).take 1)=[.int .u8 (y::ys)[i]]:=hr2;have h5:=congrArg (λl=>l[0]?) hr3;simp only[bJ (show 0<1 by omega),O0,aX,bD,dZ,I4]at h5;simp only[World.cell?,hb,h5,Option.isSome_none];simp[List.getD,jk hi]
  simp only[execOp,ho];rw[H8,hh];rfl
theorem a3O(H:FxOk X)(R:Rel X cl ch S m ok a w){n:Nat}(ho:o.op= .extract x n):
  (dE X.E q o).post S (λ_ S' =>jw X cl ch o a w m ok S'):=by
 unfold dE;simp only[ho];refine bg R λu hu=>?_;cases u<;>try trivial
 case tup vs=>
 obtain⟨arr,hx,hl⟩:=hu;have key:∀(vs:List V) (us:c5A) (n:Nat) (v:V),L_ ⟨w.heap,ok,m⟩ vs us->vs[n]? =some v->∃u,us[n]? =some u/\lD ⟨w.heap,ok,m⟩ v u:=by
  intro vs;induction vs with
  |nil=>intro us n v _ h;simp at h|cons c cs ih=>
   rintro us n v ⟨u,r,rfl,h1,h2⟩ h;cases n with
   |zero=>simp at h;subst h;refine⟨u,rfl,?_⟩;cases c<;>first|exact h1|exact h1.elim
   |succ n=>simpa using ih r n v h2 (by simpa using h)
 simp only[];split
 .rename_i v hv;obtain⟨u,hu,hr⟩:=key vs arr.toList n v hl hv;refine bu H R hr ?_;have:arr[n]? =some u:=by simpa using hu
  simp[execOp,ho,hx,Instr.extract,this]
 .trivial
theorem a9T(H:FxOk X)(R:Rel X cl ch S m ok a w){x ix:Operand}(ho:o.op= .index t x ix):
  (dE X.E q o).post S (λ_ S' =>jw X cl ch o a w m ok S'):=by
 unfold dE;simp only[ho];refine bg R λu hu=>bg R λv hv=>lu H λi hi=>?_;have hd:=hi.td;split<;>try trivial
 rename_i l k n htd;rw[htd]at hd;refine dP λc hc=>?_;unfold sat at hc;split at hc
 .rename_i h0;cases hl:l[n.toNat]? with
  |none=>simp[hl]at hc|some b=>
   simp[hl]at hc;subst hc;refine bu H R (v:=.i .u8 b.toNat) (x:=.int .u8 b.toNat) rfl ?_;have e:(⟨l.toArray⟩:ByteArray)[n.toNat]? =some b:=by
    obtain⟨h1,h2⟩:=X9.1 hl;have hs:n.toNat<(⟨l.toArray⟩:ByteArray).size:=by simpa[ByteArray.size]using h1
    show decidableGetElem? _ _=_;unfold decidableGetElem?;rw[dif_pos hs,←h2];rfl
   simp[execOp,ho,KX hu,uK hv,Instr.index,asIntOf,run_underlying (show X.P.underlying t=some .string from hd),h0,e]
 .cases hc
theorem a1G(H:FxOk X)(R:Rel X cl ch S m ok a w)(ho:o.op= .nilCheck x):
  (dE X.E q o).post S (λ_ S' =>jw X cl ch o a w m ok S'):=by
 unfold dE;simp only[ho];refine bg R λu hu=>?_;cases u<;>try trivial
 case ptr bx f=>obtain⟨b,h1,h2⟩:=hu;exact bu H R (v:=.ptr bx f) ⟨b,h1,h2⟩ (by simp[execOp,ho,h2])
 case ep bx ix f=>obtain⟨_,_,_,_,_,h1,h2,h3⟩:=hu;exact bu H R (v:=.ep bx ix f) ⟨_,_,_,_,_,h1,h2,h3⟩ (by simp[execOp,ho,h3])
 case dp u y f=>obtain⟨_,_,_,h1,h2⟩:=hu;exact bu H R (v:=.dp u y f) ⟨_,_,_,h1,h2⟩ (by simp[execOp,ho,h1])
 case glob g=>exact bu H R (v:=.glob g) hu (by have hu:a.eval x=_:=hu;simp[execOp,ho,hu])
end
end Go.GP
namespace Go.GP
variable {n:Nat}{off:Nat}{blk:Nat}{es:c5A}
theorem wG{w:World}(e:dJ w.heap blk off n=some es){j:Nat}{v:Value}(h:es[j]? =some v):w.cell? ⟨blk,off+j,none⟩=some v:=by
 obtain⟨c,T,f,hb,hn,rfl⟩:=tJ e;rw[cell_of_row w blk (off+j) c T f hb];have hj:j<n:=by have:=(X9.1 h).1;simp at this;omega
 rw[Z9,if_pos hj,O0]at h;simpa using h
variable {t:TypeId}{P:Program}
theorem Ho{d:TD}(h:b1Y P t d)(w:World):(isAgg t).run P w= .ok (bP d) w:=by
 unfold isAgg;cases d<;>simp only[b1Y]at h
 case struct fs=>obtain⟨fields,hu,_⟩:=h;rw[H8,run_underlying hu];rfl
 case other=>obtain⟨e,hu,hn⟩:=h;rw[H8,run_underlying hu];cases e<;>first|rfl|exact hn.elim
 all_goals (rw[H8,run_underlying h];rfl)
variable {i:TI}
theorem vZ(h:TiOk P t i)(w:World):(sizeOf t).run P w= .ok i.size w:=by obtain⟨inf,h1,h2,_⟩:=h.info;simp[sizeOf,typeInfo,h1,h2]
def Zp(ag:Bool)(es:c5A):Value:=match ag with|true=> .agg es.toArray|false=>es.headD Go.undef
theorem tq(hi:TiOk P t i)(w:World)(e:dJ w.heap blk off i.size=some es):
  (loadVar t ⟨blk,off,none⟩).run P w= .ok (Zp (bP i.td) es) w:=by
 have hl:=oI e;unfold loadVar;rw[H8,Ho hi.td];simp only[J3];cases ha:bP i.td
 .have h1:=hi.one ha;rw[h1]at hl;obtain⟨v,rfl⟩:∃v,es=[v]:=by
   cases es with
   |nil=>simp at hl
   |cons v r=>cases r with
    |nil=>exact⟨v,rfl⟩|cons _ _=>simp at hl
  have hc:=wG e (j:=0) (v:=v) rfl;simp only[aX]at hc;simp[hc,Zp]
 .have hc:=run_loadCells_list (P:=P) w ⟨blk,off,none⟩ es (λj v h=>by rw[jC];exact wG e h);rw[hl]at hc;simp[vZ hi,hc,Zp]
variable {C:Cx}{cs:List V}
theorem ED{ag:Bool}(h:gX C cs es)(h1:ag=false->es.length=1):lD C (mkV ag cs) (Zp ag es):=by
 refine PY (us:=es) ?_ h;cases ag
 .have:=h1 rfl;obtain⟨v,rfl⟩:∃v,es=[v]:=by
   cases es with
   |nil=>simp at this
   |cons v r=>cases r with
    |nil=>exact⟨v,rfl⟩|cons _ _=>simp at this
  rfl
 .exact⟨es.toArray,rfl,A7⟩
theorem Vw:∀(n:Nat) (cs r:List V),Vu n cs=some r->n<=cs.length/\r=cs.drop n
 |0,cs,r,h=>by simp[Vu]at h;simp[h]|n+1,[],r,h=>by simp[Vu]at h|n+1,c::cs,r,h=>by obtain⟨h1,h2⟩:=Vw n cs r (by simpa[Vu]using h);exact⟨by simp;omega,by simpa using h2⟩
theorem Xn{α:Type}{Q:α->Sm->Prop}{S:Sm} :∀(n:Nat) (cs:List V) {K:List V->Cmd α} (hK:n<=cs.length->(K (cs.take n)).post S Q),(a2z n cs K .fail).post S Q
 |0,cs,K,hK=>by simpa[a2z]using hK (gV _)|n+1,[],K,hK=>trivial
 |n+1,c::cs,K,hK=>by unfold a2z;exact Xn n cs λh=>by simpa using hK F8
variable {α:Type}{Q:α->Sm->Prop}
theorem zI{S:Sm}{K:List V->Cmd α}(hK:off+n<=cs.length->(K ((cs.drop off).take n)).post S Q):(TS off n cs K .fail).post S Q:=by
 unfold TS;split
 .rename_i r hr;obtain⟨h1,rfl⟩:=Vw _ _ _ hr;refine Xn n _ λh=>hK ?_;simp at h;omega
 .trivial
def cO(off:Nat)(vs cs:List α):List α:=cs.take off++vs++cs.drop (off+vs.length)
theorem BA{α:Type}{Q:α->Sm->Prop}{S:Sm} :∀(off:Nat) (vs cs:List V) {K:List V->Cmd α} (hK:off+vs.length<=cs.length->(K (cO off vs cs)).post S Q),(PQ off vs cs K .fail).post S Q
 |0,[],cs,K,hK=>by have:=hK A7;cases cs<;>simpa[PQ,cO]using this|0,v::vs,[],K,hK=>by simp[PQ];trivial
 |0,v::vs,c::cs,K,hK=>by unfold PQ;exact BA 0 vs cs λh=>by simpa[cO]using hK (by simp at h ⊢;omega)|n+1,vs,[],K,hK=>by cases vs<;>simp[PQ]<;>trivial|n+1,vs,c::cs,K,hK=>by
  have e:PQ (n+1) vs (c::cs) K Cmd.fail=PQ n vs cs (λr=>K (c::r)) Cmd.fail:=by cases vs<;>rfl
  rw[e];refine BA n vs cs λh=>?_;have:=hK F8;have e2:n+1+vs.length=(n+vs.length)+1:=l7;simpa[cO,e2]using this
theorem CG{vs cs:List V}{us xs:c5A}(hv:gX C vs us)(hc:gX C cs xs):gX C (cO off vs cs) (cO off us xs):=by unfold cO;rw[←lU hv];exact xR (xR (wY off hc) hv) (uJ _ hc)
theorem BD{P:Program}(g o:Nat)(t:TypeId):∀(vs:c5A) (i:Nat) (cur:Array Value) (f:Nat×Nat) (w:World),w.heap[g]? =some (.cells cur t f)->(f=(0,0)\/f=(cur.size,cur.size+1))->o+i+vs.length<=cur.size->(∀v∈vs,v.oneCell' =true)->
  (storeCells ⟨g,o,none⟩ vs i).run P w= .ok () (w.setRow g (cur.toList.take (o+i)++vs++cur.toList.drop (o+i+vs.length)).toArray)
 |[],i,cur,f,w,hg,_,_,_=>by simp only[storeCells,D8,I5,aX,iR,Array.toArray_toList];rw[setRow_self w g cur t f hg];rfl|v::rest,i,cur,f,w,hg,hf,hl,h1=>by
  have hi:o+i<cur.size:=by simp at hl;omega
  have hadd:(⟨g,o,none⟩:Addr).add i=⟨g,o+i,none⟩:=by unfold Addr.add;split<;>simp_all
  have hcell:w.cell? ⟨g,o+i,none⟩=some cur[o+i]:=by simp[World.cell?,hg,hi]
  have hfro:w.frozen? ⟨g,o+i,none⟩=false:=by rcases hf with rfl|rfl<;>simp[World.frozen?,hg];omega
  have hst:(store ((⟨g,o,none⟩:Addr).add i) v).run P w= .ok () (w.setRow g (cur.setIfInBounds (o+i) v)):=by rw[hadd,run_store P w _ v _ (h1 v A7),hcell];simp[hfro,setCell_eq_setRow w g (o+i) cur t f v hg]
  have ih:=BD (P:=P) g o t rest (i+1) (cur.setIfInBounds (o+i) v) f (w.setRow g (cur.setIfInBounds (o+i) v)) (setRow_heap w g cur _ t _ hg) (by simpa using hf) (by simp at hl ⊢;omega) (λx hx=>h1 x (by simp[hx]));simp only[storeCells,H8,hst,J3,ih,setRow_setRow];congr 3;have e:=list_seg_step cur.toList (o+i) v rest (by simp at hl ⊢;omega);simpa[nK,jS]using e
theorem Az(hi:TiOk P t i)(w:World){c:Array Value}{T:TypeId}{f:Nat×Nat}(hb:w.heap[blk]? =some (.cells c T f))(hf:f=(0,0)\/f=(c.size,c.size+1)){v:Value}
  (hs:v.cells.size=i.size) (ho:off+i.size<=c.size) (h1:∀u∈v.cells.toList,u.oneCell' =true):
  (storeVar t ⟨blk,off,none⟩ v).run P w= .ok () (w.setRow blk (cO off v.cells.toList c.toList).toArray):=by
 have h:=BD (P:=P) blk off T v.cells.toList 0 c f w hb hf F8 h1;simp only[aX]at h;unfold storeVar;simp[vZ hi,hs,h,cO]
variable {v:V}{l:Loc}{obj:Obj}{q:Nat}{ks:c5B}
section
variable {X:Fx} {cl ch:Nat} {S:Sm} {m:Mp} {ok:Nat->Ty->Prop} {a:Act} {w:World} {o:Oper}
theorem Rel.own_cells(R:Rel X cl ch S m ok a w)(h:S (V6+n)= .bcells cs):∃blk arr T,m n=some (.st blk)/\w.heap[blk]? =some (.cells arr T (0,0))/\gX ⟨w.heap,ok,m⟩ cs arr.toList:=by have:=R.box n;rw[h]at this;exact this
theorem Rel.own_arr(R:Rel X cl ch S m ok a w){t:Ty}{xs:List t.den}(h:S (V6+n)= .barr t xs):∃l,m n=some l/\arrOk ⟨w.heap,ok,m⟩ t xs l:=by have:=R.box n;rw[h]at this;exact this
theorem Rel.own_frz(R:Rel X cl ch S m ok a w){t:Ty}{xs:List t.den}(h:S (V6+n)= .bfrz t xs):∃l,m n=some l/\arrOk ⟨w.heap,ok,m⟩ t xs l/\(∀blk,blk∈l.blks->ok blk t):=by have:=R.box n;rw[h]at this;exact this
theorem Rel.own_barrs(R:Rel X cl ch S m ok a w){md:M}{xs:List md.den}{hole:Option (Nat×Nat×Option Nat)}(h:S (V6+n)= .barrs md xs hole):md.el=true/\∃l Os,m n=some l/\a5p ⟨w.heap,ok,m⟩ md xs hole Os l/\m.kid n=Os.flatten:=by have:=R.box n;rw[h]at this;exact this
theorem Rel.own_barrp(R:Rel X cl ch S m ok a w){md:M}{xs:List md.den}{k:Int}{o:Nat}(h:S (V6+n)= .barrp md xs k o):md.el=true/\0<=k/\∃l Os,m n=some l/\vC w.heap md.size (λi x es O=>nG w.heap ok md (xe o k.toNat i) x es O) xs Os l/\m.kid n=Os.flatten:=by have:=R.box n;rw[h]at this;exact this
theorem Rel.own_fc(R:Rel X cl ch S m ok a w){t:Ty}{x:t.den}(h:S (V6+n)= .bfc t x):∃blk es,m n=some (.st blk)/\ok blk t/\dJ w.heap blk 0 t.size=some es/\lJ w.heap ok t x es:=by have:=R.box n;rw[h]at this;exact this
theorem zX:∀(m:M) (x:m.den) (r:List V),Js m x r=Js m x []++r
 | .dat t,x,r=>nI t x r| .pair a b,x,r=>by simp only[Js];rw[zX a x.1 (Js b x.2 r),zX b x.2 r,zX a x.1 (Js b x.2 [])];simp| .unit,_,_=>rfl| .own _,_,_=>rfl| .owns _,_,_=>rfl| .box _,_,_=>rfl| .ownb _,_,_=>rfl| .rp _,_,_=>rfl| .fn _ _,_,_=>rfl| .ifc _ _,_,_=>rfl| .cell _,_,_=>rfl| .fr _,_,_=>rfl| .sbx _ _,_,_=>rfl| .lp _,_,_=>rfl| .dv ..,_,_=>rfl| .ownr ..,_,_=>rfl| .sit,_,_=>rfl
theorem Ir:∀(m:M) (x:m.den),(Js m x []).length=m.size
 | .dat t,x=>oM t x| .pair a b,x=>by simp only[Js,M.size];rw[zX a,E8,Ir a x.1,Ir b x.2]| .unit,_=>rfl| .own _,_=>rfl| .owns _,_=>rfl| .box _,_=>rfl| .ownb _,_=>rfl| .rp _,_=>rfl| .fn _ _,_=>rfl| .ifc _ _,_=>rfl| .cell _,_=>rfl| .fr _,_=>rfl| .sbx _ _,_=>rfl| .lp _,_=>rfl| .dv ..,_=>rfl| .ownr ..,_=>rfl| .sit,_=>rfl
theorem mX{cs:c5A}(h:cs.length=1)(h1:∀v∈cs,v.oneCell' =true):gX C [.undef] cs:=by
 match cs,h with
 |[v],_=>exact⟨v,[],rfl,trivial,h1 v A7,rfl⟩
theorem Oq{C:Cx} :∀{m:M} {ho:Option Nat} {x:m.den} {cs:c5A} {O:c5B},nG C.h C.ok m ho x cs O->gX C (Js m x []) cs
 | .dat t,_,_,_,_,h=>ou h.1| .pair a b,_,x,_,_,h=>by obtain⟨c,d,O1,O2,rfl,rfl,h1,h2⟩:=h;simp only[Js];rw[zX a];exact xR (Oq h1) (Oq h2)
 | .unit,_,_,_,_,h=>by obtain⟨rfl,_⟩:=h;rfl
 | .own _,_,_,_,_,h=>mX (bf h) (oV h)| .owns _,_,_,_,_,h=>mX (bf h) (oV h)| .box _,_,_,_,_,h=>mX (bf h) (oV h)| .ownb _,_,_,_,_,h=>mX (bf h) (oV h)| .rp _,_,_,_,_,h=>mX (bf h) (oV h)| .fn _ _,_,_,_,_,h=>mX (bf h) (oV h)| .ifc _ _,_,_,_,_,h=>mX (bf h) (oV h)| .cell _,_,_,_,_,h=>mX (bf h) (oV h)| .fr _,_,_,_,_,h=>mX (bf h) (oV h)| .sbx _ _,_,_,_,_,h=>mX (bf h) (oV h)| .lp _,_,_,_,_,h=>mX (bf h) (oV h)| .dv ..,_,_,_,_,h=>mX (bf h) (oV h)| .ownr ..,_,_,_,_,h=>mX (bf h) (oV h)| .sit,_,_,_,_,h=>mX (bf h) (oV h)
theorem Y7{S:Sm}{k:Nat}{c:V->Cmd α}(h:(c (S k)).post S Q):(Cmd.get k c).post S Q:=h
theorem fP{S:Sm}{k:Nat}{c:Cmd α}(h:c.post (upd S k v) Q):(Cmd.set k v c).post S Q:=h
theorem Em(H:FxOk X)(R:Rel X cl ch S m ok a w){t:Nat}{p:V}{x:Value}(hp:lD ⟨w.heap,ok,m⟩ p x){K:V->Cmd α}
  (hK:∀v u ad,lD ⟨w.heap,ok,m⟩ v u->x= .pointer (some ad)->(loadVar t ad).run X.P w= .ok u w->(K v).post S Q):(GN X.E t p K).post S Q:=by
 unfold GN;refine lu H λi hi=>?_;cases p<;>try trivial
 case ptr bx off=>
  obtain⟨blk,hm,rfl⟩:=hp;refine Y7 ?_;split<;>try trivial
  .rename_i cs hS;obtain⟨blk',arr,T,hm',hh,hl⟩:=R.own_cells hS;simp only at hm;rw[hm]at hm';cases hm';refine zI λhle=>?_;have hlen:=lU hl;have e:=kE hh off i.size (by simp at hlen;omega);refine hK _ _ _ (ED (wY _ (uJ _ hl)) (λha=>by have:=oI e;rw[hi.one ha]at this;rw[hi.one ha];exact this)) rfl ?_;exact tq hi w e
  .rename_i u y hS;obtain⟨blk',es,hm',hok,he,hr⟩:=R.own_fc hS;simp only at hm;rw[hm]at hm';cases hm';refine zI λhle=>?_;rw[oM]at hle;have e:=qI he off i.size hle;rw[fG]at e;refine hK _ _ _ (ED (wY _ (uJ _ (ou (C:=⟨w.heap,ok,m⟩) hr))) (λha=>by have:=oI e;rw[hi.one ha]at this;rw[hi.one ha];exact this)) rfl ?_;exact tq hi w e
 case ep bx ix off=>
  obtain⟨blk,o',len,cap,sz,hm,hlt,rfl⟩:=hp;refine Y7 ?_;have key:∀{u:Ty} {xs:List u.den},arrOk ⟨w.heap,ok,m⟩ u xs (.arr blk o' len cap sz)->(Cmd.opt (dm xs ix) λx=>TS off i.size (flat u x []) (λr=>K (mkV (bP i.td) r)) Cmd.fail).post S Q:=by intro u xs ha;obtain⟨_,rfl,rfl,h3,c,T,f,hh,hz,hs,hx⟩:=ha;refine dP λy hy=>?_;obtain⟨es,he,hr⟩:=hx ix y hy;refine zI λhle=>?_;rw[oM]at hle;have e:=qI he off i.size hle;refine hK _ _ _ (ED (wY _ (uJ _ (ou (C:=⟨w.heap,ok,m⟩) hr))) (λha=>by have:=oI e;rw[hi.one ha]at this;rw[hi.one ha];exact this)) rfl ?_;exact tq hi w e
  split<;>try trivial
  .rename_i u xs hS;obtain⟨l,hm',ha⟩:=R.own_arr hS;simp only at hm;rw[hm]at hm';cases hm';exact key ha
  .rename_i u xs hS;obtain⟨l,hm',ha,_⟩:=R.own_frz hS;simp only at hm;rw[hm]at hm';cases hm';exact key ha
  .rename_i md xs hole hS;obtain⟨_,l,Os,hm',⟨ha,hho⟩,_⟩:=R.own_barrs hS;simp only at hm;rw[hm]at hm';cases hm';obtain⟨rfl,rfl,h3,h7,c,T,hh,hs,hx⟩:=ha;refine dP λy hy=>?_;obtain⟨es,O,hO,he,hr⟩:=hx ix y hy;refine zI λhle=>?_;rw[Ir]at hle;have e:=qI he off i.size hle;refine hK _ _ _ (ED (wY _ (uJ _ (Oq (C:=⟨w.heap,ok,m⟩) hr))) (λha=>by have:=oI e;rw[hi.one ha]at this;rw[hi.one ha];exact this)) rfl ?_;exact tq hi w e
 case dp u y off=>obtain⟨blk,o',es,rfl,hb,he,hr⟩:=hp;refine zI λhle=>?_;rw[oM]at hle;have e:=qI he off i.size hle;refine hK _ _ _ (ED (wY _ (uJ _ (ou (C:=⟨w.heap,ok,m⟩) hr))) (λha=>by have:=oI e;rw[hi.one ha]at this;rw[hi.one ha];exact this)) rfl ?_;exact tq hi w e
theorem wU(h:Array Obj)(o:Obj){b:Nat}(hb:b<h.size):(h.push o)[b]? =h[b]?:=by rw[Array.getElem?_push,if_neg l7]
theorem Rel.new(R:Rel X cl ch S m ok a w)(hn:S (V6+n)= .undef)(hcl:cl<=n)(hch:n<ch)(hv:v≠.undef)
  (hb:P5 (mi m n l ks) n v=[w.heap.size]) (hB:BB ⟨(w.alloc obj).heap,ok,mi m n l ks⟩ n v):
  Rel X cl ch (upd S (V6+n) v) (mi m n l ks) ok a (w.alloc obj):=by
 refine R.lay hn hcl hch hv rfl rfl rfl A7 (λb hb' _=>wU _ _ hb') (by rw[hb];simp) (λb h=>?_) hB;rw[hb]at h;simp only[iQ]at h;subst h;refine⟨λt h' =>rC _ (R.okLt _ t h'),A7,.inl R.frame.size,λk h' =>rC _ (R.sep k _ h').2.1⟩
theorem Rel.newK(R:Rel X cl ch S m ok a w){T:c5B}(hT:Tk X S m ok w T)(hn:S (V6+n)= .undef)(hcl:cl<=n)(hch:n<ch)(hv:v≠.undef)
  (hb:P5 (mi m n l ks) n v=w.heap.size::ks) (hnd:ks.Nodup) (hks:∀b∈ks,b∈T) (hB:BB ⟨(w.alloc obj).heap,ok,mi m n l ks⟩ n v):
  Rel X cl ch (upd S (V6+n) v) (mi m n l ks) ok a (w.alloc obj):=by
 refine R.lay hn hcl hch hv rfl rfl rfl A7 (λb hb' _=>wU _ _ hb') (by rw[hb];exact X3.2 ⟨λh=>rC _ (hT.free _ (hks _ h)).2.1,hnd⟩) (λb h=>?_) hB;rw[hb]at h;rcases D5.1 h with rfl|h
 .exact⟨λt h' =>rC _ (R.okLt _ t h'),A7,.inl R.frame.size,λk h' =>rC _ (R.sep k _ h').2.1⟩
 .obtain⟨h1,h2,h3,h4⟩:=hT.free b (hks b h);exact⟨h1,by simp;omega,h3,h4⟩
theorem Rel.le_new(R:Rel X cl ch S m ok a w)(hn:S (V6+n)= .undef)(hcl:cl<=n):Cx.le ⟨w.heap,ok,m⟩ ⟨(w.alloc obj).heap,ok,mi m n l ks⟩:=
 ⟨λ_ _ h=>h,λb t hb=>wU _ _ (R.okLt b t hb),λk x h=>by
  by_cases e:k=n
  .subst e;have:=R.fresh k hcl hn;simp only at h;rw[this]at h;cases h
  .show mi m n l ks k=some x;rw[jg _ _ _ e];exact h⟩
theorem pV(H:FxOk X)(d:Option Tmp)(hd:∀t,d=some t->t<X.E.nt):CB*q<=L9 q d/\L9 q d+64<=CB*q+CB:=by
 have:=H.nt;cases d with
 |none=>simp only[L9];show 1000000*q<=1000000*q+999936/\1000000*q+999936+64<=1000000*q+1000000;omega|some t=>simp only[L9];have h2:LT.lt (α:=Nat) t X.E.nt:=hd t rfl;clear hd;generalize X.E.nt=n at*;revert this h2;generalize (t:Nat)=t';intro this h2;show 1000000*q<=1000000*q+64*t' /\1000000*q+64*t' +64<=1000000*q+1000000;omega
theorem GX(H:FxOk X)(R:Rel X (CB*q) (CB*q+CB) S m ok a w){vv:V}{x:Value}(hv:v≠.undef)
  (hb:P5 (mi m (L9 q o.dst) l []) (L9 q o.dst) v=[w.heap.size]) (hB:S (V6+L9 q o.dst)= .undef->CB*q<=L9 q o.dst->BB ⟨(w.alloc obj).heap,ok,mi m (L9 q o.dst) l []⟩ (L9 q o.dst) v)
  (hx:lD ⟨(w.alloc obj).heap,ok,mi m (L9 q o.dst) l []⟩ vv x) (run:(execOp a.eval o).run X.P w= .ok (.value x) (w.alloc obj)):
  (uG (L9 q o.dst) v (dX X.E o.dst vv)).post S (λ_ S' =>jw X (CB*q) (CB*q+CB) o a w m ok S'):=by
 refine og λhn=>?_;cases hd:o.dst with
 |none=>have hin:=pV H (q:=q) none (λt h=>by cases h);rw[hd]at hn hB hb hx;have R' :=R.new hn hin.1 l7 hv hb (hB hn hin.1);have:=uu (o:=o) H R' (m0:=m) (ok0:=ok) (λk l' h=>(R.le_new (obj:=obj) hn hin.1).m k l' h) (λ_ _ h=>h) hx run;rw[hd]at this;exact this
 |some t=>unfold dX;refine bV λhb' =>?_;have hin:=pV H (q:=q) (some t) (λt' h=>by cases h;exact(jf hb').1);rw[hd]at hn hB hb hx;have R' :=R.new hn hin.1 l7 hv hb (hB hn hin.1);have:=uu (o:=o) H R' (m0:=m) (ok0:=ok) (λk l' h=>(R.le_new (obj:=obj) hn hin.1).m k l' h) (λ_ _ h=>h) hx run;rw[hd]at this;unfold dX at this;simp only[hb',cond_true]at this;exact this
theorem Oo :∀{cs:List V} {vs:c5A},gX ⟨#[],λ_ _=>False,nom⟩ cs vs->gX C cs vs:=by intro cs vs h;exact Fh (C:=⟨#[],λ_ _=>False,nom⟩) ⟨λ_ _ h=>h.elim,λ_ _ h=>h.elim,λ_ _ h=>by cases h⟩ h
theorem a9O(H:FxOk X)(R:Rel X (CB*q) (CB*q+CB) S m ok a w)(ho:o.op= .alloc t):(dE X.E q o).post S (λ_ S' =>jw X (CB*q) (CB*q+CB) o a w m ok S'):=by
 unfold dE;simp only[ho];refine lu H λi hi=>bV λhz=>?_;obtain⟨inf,h1,h2,h3,h4,h5⟩:=hi.info;obtain⟨z,hz1,hz2⟩:=h4 (fJ hz);have hex:(execOp a.eval o).run X.P w= .ok (.value (.pointer (some ⟨w.heap.size,0,none⟩))) (w.alloc (.cells z.cells t)):=by simp[execOp,ho,Instr.alloc,zeroValue,typeInfo,h1,hz1,newVar,newRow]
 unfold b9f;split
 .rename_i hz0;rw[hz0]at hz2;obtain⟨a0,r1,e1,g1,_,v0,r2,rfl,g2,_,g3⟩:=hz2;simp only[gX]at g3;subst g3;refine GX (l:=.st w.heap.size) (obj:=.cells z.cells t) H R A7 (by simp[P5]) (λhn hc=>?_) ⟨w.heap.size,A7,rfl⟩ hex;refine⟨w.heap.size,a0,v0,A7,?_,.inl g1,g2⟩;have:=heap_alloc_new w (.cells z.cells t);rw[show z.cells=#[a0,v0]from Array.toList_inj.1 e1]at this ⊢;exact this
 .refine GX (l:=.st w.heap.size) (obj:=.cells z.cells t) H R A7 (by simp[P5]) (λhn hc=>?_) ⟨w.heap.size,A7,rfl⟩ hex;exact⟨w.heap.size,z.cells,t,A7,heap_alloc_new w _,Oo hz2⟩
theorem b6E(H:FxOk X)(R:Rel X (CB*q) (CB*q+CB) S m ok a w){x:Operand}(ho:o.op= .box t x):(dE X.E q o).post S (λ_ S' =>jw X (CB*q) (CB*q+CB) o a w m ok S'):=by
 unfold dE;simp only[ho];refine bg R λu hu=>uV hu λcs hcs=>?_;refine GX (l:=.st w.heap.size) (obj:=.cells (a.eval x).cells t) H R A7 (by simp[P5]) (λhn hc=>?_) ⟨w.heap.size,A7,rfl⟩ ?_
 .exact⟨w.heap.size,(a.eval x).cells,t,A7,heap_alloc_new w _,Fh (R.le_new hn hc) hcs⟩
 .simp[execOp,ho,Instr.box,newVar,newRow]
end
end Go.GP
