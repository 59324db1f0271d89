import Derived.ProofKit
import Derived.Below
import Derived.Laws.CopyRow
import Derived.Laws.BytesArg
import Derived.Laws.Cells
import Derived.Laws.Append
import Derived.Laws.Strings
import Derived.Lib.SmallJoins
import Derived.Laws.MakeOwn
import Derived.ArgAppend
set_option linter.all false
namespace Go.GP
theorem l7{p:Prop}(h:p:=by omega):p:=h
theorem A7{p:Prop}(h:p:=by simp):p:=h
theorem D7{p:Prop}(h:p:=by decide):p:=h
theorem U6{p:Prop}(h:p:=by simp;omega):p:=h
theorem G6:True:=trivial
def P9:=@List.take_succ_eq_append_getElem
def jP:=@List.exists_of_findSome?_eq_some
def O6:=@Int.mul_le_mul_of_nonneg_right
def ae:=@List.take_append_of_le_length
def Y7:=@Array.getD_eq_getD_getElem?
def bn:=@Int.add_mul_emod_self_right
def aG:=@Array.getElem?_eq_some_iff
def F7:=@List.getElem?_append_right
def jm:=@Array.getElem?_append_left
def dU:=@Int.tmod_eq_emod_of_nonneg
def jo:=@List.findSome?_eq_none_iff
def J9:=@List.getElem?_append_left
def gZ:=@List.drop_eq_getElem_cons
def nV:=@List.extract_eq_take_drop
def P8:=@Array.getElem?_eq_getElem
def Y0:=@Classical.byContradiction
def nX:=@List.pairwise_iff_getElem
def CG:=@List.mem_take_iff_getElem
def di:=@List.getElem?_take_of_lt
def Dv:=@Option.isSome_iff_exists
def iC:=@List.eq_of_mem_replicate
def lm:=@List.getElem?_cons_zero
def O9:=@List.length_eq_zero_iff
def iW:=@List.getElem?_replicate
def gG:=@List.drop_eq_nil_of_le
def aU:=@List.take_of_length_le
def qo:=@List.pairwise_lt_range
def ql:=@List.getElem?_set_self
def lV:=@List.filter_eq_nil_iff
def ak:=@Int.add_mul_ediv_right
def lU:=@Int.ediv_eq_zero_of_lt
def jD:=@List.mem_append_right
def X4:=@Nat.le_of_ble_eq_true
def aC:=@Array.getElem?_toList
def qX:=@List.perm_append_comm
def ig:=@List.set_append_right
def eY:=@List.take_append_drop
def qU:=@Array.getElem?_modify
def bu:=@List.getElem?_eq_none
def bz:=@List.length_filter_le
def mf:=@List.findSome?_append
def qV:=@Int.le_ediv_of_mul_le
def U5:=@Int.ediv_mul_add_emod
def lZ:=@Int.ediv_lt_of_lt_mul
def dn:=@List.length_singleton
def mg:=@List.length_replicate
def aO:=@List.mem_append_left
def U4:=@List.mem_cons_of_mem
def I8:=@Nat.mul_le_mul_right
def nC:=@List.replicate_succ'
def rW:=@MapKept.run_checkKey
def jV:=@List.mem_of_mem_take
def yL:=@List.getElem?_zipIdx
def yM:=@List.mem_of_mem_drop
def dY:=@List.replicate_succ
def kW:=@List.flatten_append
def J7:=@List.getElem_of_mem
def bY:=@Array.length_toList
def cu:=@List.map_congr_left
def X0:=@Int.toNat_of_nonneg
def oD:=@List.replicate_zero
def uu:=@List.getElem?_range
def F8:=@List.length_append
def U8:=@List.getElem?_drop
def Z4:=@List.getElem?_take
def jg:=@List.mem_cons_self
def U3:=@List.mem_singleton
def pK:=@List.set_cons_zero
def bJ:=@Bool.false_eq_true
def jh:=@Nat.eq_zero_or_pos
def lN:=@List.zip_cons_cons
def c6x:=@Nat.lt_of_lt_of_le
def W9:=@List.pairwise_cons
def uY:=@List.filter_append
def N9:=@Int.emod_lt_of_pos
def jf:=@Int.mul_right_comm
def N8:=@List.nodup_append
def bZ:=@Bool.not_eq_true'
def E9:=@List.append_assoc
def I7:=@Result.andThen_ok
def G8:=@Option.some.injEq
def dV:=@List.ext_getElem?
def X3:=@List.getElem?_set
def fZ:=@List.getElem?_map
def jQ:=@List.size_toArray
def gm:=@List.length_range
def J5:=@Int.toNat_natCast
def iK:=@List.any_eq_false
def qj:=@Bool.not_eq_false
def qm:=@List.getElem_take
def dP:=@List.mem_flatten
def C9:=@Bool.and_eq_true
def S9:=@List.cons_append
def rO:=@List.drop_append
def F5:=@List.length_cons
def rM:=@Array.toList_map
def nH:=@List.ext_getElem
def nI:=@List.range'_succ
def aV:=@List.length_take
def aB:=@List.take_length
def rP:=@List.length_drop
def kQ:=@Nat.le_add_right
def ja:=@List.all_eq_true
def H7:=@List.getElem_mem
def kR:=@Option.bind_some
def ai:=@Option.getD_some
def kP:=@List.not_mem_nil
def fE:=@List.filter_cons
def wQ:=@List.drop_length
def kM:=@Bool.not_eq_true
def kN:=@List.any_eq_true
def dN:=@Int.ediv_le_self
def D8:=@List.mem_append
def H9:=@List.append_nil
def gq:=@Nat.le_max_left
def H6:=@List.nil_append
def H5:=@List.cons.injEq
def jA:=@Bool.eq_iff_iff
def gp:=@List.nodup_cons
def jE:=@Nat.min_eq_left
def iD:=@List.map_append
def sZ:=@Int.natCast_mul
def Y1:=@List.foldl_cons
def xB:=@List.length_set
def aP:=@List.length_nil
def X6:=@List.length_map
def Y2:=@Option.map_some
def dD:=@List.range_succ
def lL:=@Bool.or_eq_true
def aQ:=@List.mem_filter
def I4:=@Option.some.inj
def tu:=@List.any_append
def tq:=@Int.natCast_pow
def P5:=@Int.emod_nonneg
def V7:=@Int.ediv_nonneg
def jY:=@List.drop_take
def gV:=@List.take_take
def Z9:=@List.drop_drop
def fK:=@List.nodup_nil
def ay:=@List.mem_range
def P6:=@Int.mul_nonneg
def jX:=@Int.mul_le_mul
def A8:=@List.mem_cons
def iL:=@Nat.add_assoc
def jC:=@List.map_cons
def Y4:=@List.cons.inj
def qR:=@Addr.mk.injEq
def qY:=@Nat.lt_irrefl
def lw:=@Prod.mk.injEq
def nU:=@Bool.true_and
def qW:=@List.any_cons
def jB:=@Bool.not_true
def nT:=@Bool.false_or
def az:=@Nat.sub_self
def Be:=@List.map_nil
def Y8:=@Sem.run_pure
def G5:=@Sem.run_bind
def eP:=@Nat.add_zero
def kD:=@Addr.add_lit
def dM:=@Nat.zero_add
def wW:=@List.map_map
def ah:=@List.mem_map
def mi:=@Nat.lt_or_ge
def kE:=@Nat.le_trans
def F9:=@Nat.le_refl
def L6:=@Nat.add_mul
def nY:=@Nat.zero_le
def lQ:=@Nat.mul_one
def bC:=@Nat.one_mul
def ed:=@Int.le_refl
def gY:=@Int.add_mul
def eF:=@Int.one_mul
def lM:=@Int.sub_mul
def jO:=@Int.neg_mul
def fU:=@Nat.blt_eq
def lh:=@Array.ext'
def gW:=@Int.not_lt
def iV:=@Int.not_le
def aZ:=@Prod.ext
theorem Y6{α:Type _}{l:List α}{i:Nat}{a:α} :l[i]? =some a↔∃h:i<l.length,l[i]=a:=List.getElem?_eq_some_iff
theorem dX{α:Type _}{l:List α}{i:Nat}(h:i<l.length):l[i]? =some l[i]:=List.getElem?_eq_getElem h
theorem jy{n m:Nat}(h:Nat.beq n m=true):n=m:=Nat.eq_of_beq_eq_true h
theorem rV{α:Type _}{l:List α}{i:Nat}{a:α}(h:l[i]? =some a):a∈l:=List.mem_of_getElem? h
theorem AO{α:Type _}{l:List α}{i:Nat}{a:α} :l.getD i a=l[i]?.getD a:=List.getD_eq_getElem?_getD
universe u
set_option linter.unusedVariables false
inductive Ty where
 |bool|int (k:IntKind)|str|sl (t:Ty)|prod (a b:Ty)|unit|ent (ka va:Bool) (k v:Ty)
def tbb(a b:Bool):Bool:=bif a then b else !b
theorem a5i:∀{a b:Bool},tbb a b=true->a=b:=by decide
theorem a3d:∀(a:Bool),tbb a a=true:=by decide
def Ty.beq:Ty->Ty->Bool
 | .bool,b=>match b with| .bool=>true|_=>false
 | .int k,b=>match b with| .int k' =>decide (k=k')|_=>false
 | .str,b=>match b with| .str=>true|_=>false
 | .sl t,b=>match b with| .sl u=>Ty.beq t u|_=>false
 | .prod p q,b=>match b with| .prod p' q' =>bif Ty.beq p p' then Ty.beq q q' else false|_=>false
 | .unit,b=>match b with| .unit=>true|_=>false
 | .ent x y p q,b=>match b with| .ent x' y' p' q' =>bif tbb x x' &&tbb y y' then(bif Ty.beq p p' then Ty.beq q q' else false)else false|_=>false
theorem Ty.beq_eq:∀{a b:Ty},Ty.beq a b=true->a=b
 | .bool,b,h=>by cases b<;>first|rfl|cases h
 | .int k,b,h=>by cases b<;>first|(cases h;done)|(rename_i k';have:=of_decide_eq_true (show decide (k=k')=true from h);subst this;rfl)
 | .str,b,h=>by cases b<;>first|rfl|cases h
 | .sl t,b,h=>by cases b<;>first|(cases h;done)|(rename_i u;have:=Ty.beq_eq (show Ty.beq t u=true from h);subst this;rfl)
 | .prod p q,b,h=>by
  cases b<;>try (cases h;done)
  rename_i p' q';cases hp:Ty.beq p p'
  ·have h' :(bif Ty.beq p p' then Ty.beq q q' else false)=true:=h;rw[hp]at h';cases h'
  ·have h' :(bif Ty.beq p p' then Ty.beq q q' else false)=true:=h;rw[hp]at h';rw[Ty.beq_eq hp,Ty.beq_eq (show Ty.beq q q' =true from h')]
 | .unit,b,h=>by cases b<;>first|rfl|cases h
 | .ent x y p q,b,h=>by
  cases b<;>try (cases h;done)
  rename_i x' y' p' q';have h0:(bif tbb x x' &&tbb y y' then(bif Ty.beq p p' then Ty.beq q q' else false)else false)=true:=h;cases hx:tbb x x'<;>cases hy:tbb y y'<;>rw[hx,hy]at h0<;>try (cases h0;done)
  cases hp:Ty.beq p p'<;>rw[hp]at h0
  ·cases h0
  ·rw[a5i hx,a5i hy,Ty.beq_eq hp,Ty.beq_eq (show Ty.beq q q' =true from h0)]
theorem Ty.beq_refl:∀(a:Ty),Ty.beq a a=true
 | .bool=>rfl| .int k=>by show decide (k=k)=true;simp| .str=>rfl| .sl t=>Ty.beq_refl t| .prod p q=>by show(bif Ty.beq p p then Ty.beq q q else false)=true;rw[Ty.beq_refl p,Ty.beq_refl q];rfl| .unit=>rfl| .ent x y p q=>by show(bif tbb x x&&tbb y y then(bif Ty.beq p p then Ty.beq q q else false)else false)=true;rw[a3d,a3d,Ty.beq_refl p,Ty.beq_refl q];rfl
instance:DecidableEq Ty:=λa b=>match h:Ty.beq a b with
 |true=> .isTrue (Ty.beq_eq h)|false=> .isFalse (λe=>by subst e;rw[Ty.beq_refl]at h;cases h)
@[reducible] def Ty.den:Ty->Type
 | .bool=>Bool| .int _=>Int| .str=>List UInt8| .sl t=>List t.den| .prod a b=>a.den×b.den| .unit=>Unit| .ent _ _ a b=>a.den×b.den
def Ty.isEnt:Ty->Bool| .ent ..=>true|_=>false
def Ty.size:Ty->Nat
 | .bool| .int _| .str| .sl _=>1| .prod a b=>a.size+b.size| .unit=>0| .ent _ _ a b=>a.size+b.size
def Ty.flat:Ty->Bool
 | .bool| .int _| .str| .unit=>true| .sl _=>false| .prod a b=>a.flat&&b.flat
 | .ent ..=>false
def Ty.zero:(t:Ty)->t.den
 | .bool=>false| .int _=>(0:Int)| .str=>[]| .sl _=>[]| .prod a b=>(a.zero,b.zero)| .unit=>()| .ent _ _ a b=>(a.zero,b.zero)
inductive M where
 |dat (t:Ty)|own (t:Ty)|pair (a b:M)|unit|box (m:M)
 |owns (el:M)|ownb (t:Ty)|rp (t:Ty)|fn (f:Nat) (ts:List Ty)|ifc (t:Nat) (m:M)|cell (n:Option (Option Bool))|fr (t:Ty)
def M.beq:M->M->Bool
 | .dat t,b=>match b with| .dat u=>Ty.beq t u|_=>false
 | .own t,b=>match b with| .own u=>Ty.beq t u|_=>false
 | .pair p q,b=>match b with| .pair p' q' =>bif M.beq p p' then M.beq q q' else false|_=>false
 | .unit,b=>match b with| .unit=>true|_=>false
 | .owns m,b=>match b with| .owns m' =>M.beq m m'|_=>false
 |_,_=>false
theorem M.beq_eq:∀{a b:M},M.beq a b=true->a=b
 | .dat t,b,h=>by cases b<;>first|(cases h;done)|(rename_i u;have:=Ty.beq_eq (show Ty.beq t u=true from h);subst this;rfl)
 | .own t,b,h=>by cases b<;>first|(cases h;done)|(rename_i u;have:=Ty.beq_eq (show Ty.beq t u=true from h);subst this;rfl)
 | .pair p q,b,h=>by
  cases b<;>try (cases h;done)
  rename_i p' q';cases hp:M.beq p p'
  ·have h' :(bif M.beq p p' then M.beq q q' else false)=true:=h;rw[hp]at h';cases h'
  ·have h' :(bif M.beq p p' then M.beq q q' else false)=true:=h;rw[hp]at h';rw[M.beq_eq hp,M.beq_eq (show M.beq q q' =true from h')]
 | .unit,b,h=>by cases b<;>first|rfl|cases h
 | .owns m,b,h=>by cases b<;>first|(cases h;done)|(rename_i u;have:=M.beq_eq (show M.beq m u=true from h);subst this;rfl)
 | .box _,b,h=>by cases h| .ownb _,b,h=>by cases h| .rp _,b,h=>by cases h| .fn _ _,b,h=>by cases h| .ifc _ _,b,h=>by cases h| .cell _,b,h=>by cases h| .fr _,b,h=>by cases h
@[reducible] def Ti:List Ty->Type
 |[]=>Unit|[t]=>t.den|t::t' ::r=>t.den×Ti (t' ::r)
@[reducible] def M.den:M->Type
 | .dat t=>t.den| .own t=>List t.den| .pair a b=>a.den×b.den| .unit=>Unit| .box m=>m.den| .owns el=>List el.den| .ownb t=>List t.den| .rp t=>t.den| .fn _ ts=>Ti ts| .ifc _ m=>m.den| .cell _=>Unit| .fr t=>List t.den
def M.size:M->Nat
 | .dat t=>t.size| .own _=>1| .pair a b=>a.size+b.size| .unit=>0| .box _=>1| .owns _| .ownb _| .rp _| .fn _ _| .ifc _ _| .cell _| .fr _=>1
def M.el:M->Bool
 | .unit=>true| .dat t| .own t=> !t.isEnt| .owns m=>m.el| .pair a b=>a.el&&b.el|_=>false
def M.ty:M->Ty
 | .dat t=>t| .own t=> .sl t| .owns m=> .sl m.ty| .pair a b=> .prod a.ty b.ty|_=> .unit
theorem M.denEq:∀(m:M),m.el=true->m.den=m.ty.den
 | .dat _,_=>rfl| .own _,_=>rfl| .unit,_=>rfl| .owns m,h=>congrArg List (M.denEq m h)| .pair a b,h=>by
  have h' :a.el=true/\b.el=true:=by simpa[M.el]using h
  show(a.den×b.den)=(a.ty.den×b.ty.den);rw[M.denEq a h'.1,M.denEq b h'.2]
 | .box _,h=>by simp[M.el]at h| .ownb _,h=>by simp[M.el]at h| .rp _,h=>by simp[M.el]at h| .fn _ _,h=>by simp[M.el]at h| .ifc _ _,h=>by simp[M.el]at h| .cell _,h=>by simp[M.el]at h| .fr _,h=>by simp[M.el]at h
def M.zero:(m:M)->m.el=true->m.den
 |m,h=>cast (M.denEq m h).symm m.ty.zero
abbrev MG:=Bool×M
@[reducible] def iR:List MG->Type
 |[]=>Unit|[m]=>m.2.den|m::m' ::r=>m.2.den×iR (m' ::r)
inductive V where
 |undef
 |un
 |b (x:Bool)|i (k:IntKind) (n:Int)|s (l:List UInt8)
 |nl
 |sl (t:Ty) (xs:List t.den)
 |own (bx:Nat) (vw:Option (Nat×Nat))
 |ptr (bx off:Nat)
 |ep (bx idx off:Nat)
 |dp (t:Ty) (x:t.den) (off:Nat)
 |agg (cs:List V)|tup (cs:List V)
 |glob (g:Nat)|fnv (f:Nat)|clos (f:Nat) (caps:List ((t:Ty)×t.den))|ifc (t:Nat) (v:V)
 |bcells (cs:List V)|barr (t:Ty) (xs:List t.den)|bfrz (t:Ty) (xs:List t.den)|biter (l:List UInt8) (pos:Nat)
 |barrs (el:M) (xs:List el.den) (hole:Option (Nat×Nat×Option Nat))|bfc (t:Ty) (x:t.den)
 |dead|gone (t:Ty)|blen (n:Int) (sz:Nat)
 |ne (b:Bool)
def o5{α β:Type}(o:Option α)(f:α->Option β):Option β:=match o with|some x=>f x|none=>none
def l9{α:Type}(b:Bool)(x y:α):α:=match b with|true=>x|false=>y
def E8(a b:Int):Bool:=decide (a<b)
def L9(a b:Int):Bool:=decide (a<=b)
def x8(a b:Int):Bool:=decide (a=b)
def kU(a b:Bool):Bool:=a==b
def F6(a:Bool):Bool:=!a
def nN(a b:Bool):Bool:=a&&b
def seq(a b:List UInt8):Bool:=decide (a=b)
def slt(a b:List UInt8):Bool:=Op.bytesLess a b
def wrap(k:IntKind)(n:Int):Int:=k.wrap n
def D6(k:IntKind)(a b:Int):Int:=k.wrap (a+b)
def H8(k:IntKind)(a b:Int):Int:=k.wrap (a -b)
def dF(k:IntKind)(a b:Int):Int:=k.wrap (a*b)
def fQ(k:IntKind)(a b:Int):Int:=k.wrap (a.tdiv b)
def jk(a b:Int):Int:=a.tmod b
def FI(k:IntKind)(a b:Int):Option Int:=if b=0 then none else some (k.wrap (a.tdiv b))
def Le(a b:Int):Option Int:=if b=0 then none else some (a.tmod b)
def a1I(k:IntKind)(a b:Int):Int:=k.wrap (BitVec.ofInt k.bits a&&& BitVec.ofInt k.bits b).toNat
def ior(k:IntKind)(a b:Int):Int:=k.wrap (BitVec.ofInt k.bits a ||| BitVec.ofInt k.bits b).toNat
def a9E(k:IntKind)(a b:Int):Int:=k.wrap (BitVec.ofInt k.bits a^^^BitVec.ofInt k.bits b).toNat
def a5S(k:IntKind)(a b:Int):Int:=k.wrap (BitVec.ofInt k.bits a&&& ~~~(BitVec.ofInt k.bits b)).toNat
def a9D(k:IntKind)(a b:Int):Int:=k.wrap (a*2^(min b.toNat k.bits))
def ut(k:IntKind)(a b:Int):Int:=a.fdiv (2^(min b.toNat k.bits))
def Wu(k:IntKind)(a b:Int):Option Int:=if b<0 then none else some (a9D k a b)
def Wv(k:IntKind)(a b:Int):Option Int:=if b<0 then none else some (ut k a b)
def pF(a b:Int):Int:=if b<a then b else a
def kK(a b:Int):Int:=if a<b then b else a
def o9{α:Type}(l:List α):Int:=l.length
def fC(a b:List UInt8):Option (List UInt8):=if a.length+b.length<=4611686018427387904 then some (a++b)else none
def Ov(a b:Nat):Bool:=Nat.beq a b
def inb(i n:Int):Bool:=decide (0<=i/\i<n)
def G9{α:Type}(l:List α)(i:Int):Option α:=if 0<=i then l[i.toNat]? else none
def sat(l:List UInt8)(i:Int):Option Int:=if 0<=i then(l[i.toNat]?).map (λc=>(c.toNat:Int))else none
def af{α:Type}(l:List α)(i:Nat):Option α:=l[i]?
def cO{α:Type}(l:List α)(i:Nat)(x:α):List α:=l.set i x
def kL{α:Type}(l:List α)(lo hi:Int):Option (List α):=if 0<=lo/\lo<=hi/\hi<=l.length then some ((l.take hi.toNat).drop lo.toNat)else none
def oP{α:Type}(l:List α)(lo hi:Nat):List α:=(l.take hi).drop lo
def rC(lo hi n:Int):Bool:=decide (0<=lo/\lo<=hi/\hi<=n)
def iY{α:Type}(xs ys:List α):Option (List α):=if xs.length+ys.length<=1073741824 then some (xs++ys)else none
def vk{α:Type}(n:Int)(x:α):Option (List α):=if 0<=n/\n<=1073741824 then some (List.replicate n.toNat x)else none
def X8(i:Int):Nat:=i.toNat
def b9e(n:Int):UInt8:=UInt8.ofNat n.toNat
def a8Z(l:List Int):List UInt8:=l.map b9e
def a6e{α β:Type}(eq:α->α->Bool):List (α×β)->α->β->β
 |[],_,z=>z|p::r,k,z=>bif eq k p.1 then p.2 else a6e eq r k z
def a6f{α β:Type}(eq:α->α->Bool):List (α×β)->α->Bool
 |[],_=>false|p::r,k=>bif eq k p.1 then true else a6f eq r k
def a6k{α β:Type}(eq:α->α->Bool):List (α×β)->α->β->List (α×β)
 |[],k,x=>[(k,x)]|p::r,k,x=>bif eq k p.1 then(k,x)::r else p::a6k eq r k x
def b4b{α β:Type}(eq:α->α->Bool)(l:List (α×β))(k:α)(z:β):β:=a6e eq l k z
def b4c{α β:Type}(eq:α->α->Bool)(l:List (α×β))(k:α):Bool:=a6f eq l k
def a7w{α β:Type}(eq:α->α->Bool)(l:List (α×β))(k:α)(x:β):List (α×β):=a6k eq l k x
def keq:(t:Ty)->t.den->t.den->Bool
 | .bool=>λa b=>kU a b
 | .int _=>λa b=>x8 a b
 | .str=>λa b=>seq a b
 | .prod p q=>λa b=>nN (keq p a.1 b.1) (keq q a.2 b.2)
 |_=>λ_ _=>true
def b3S{α:Type}(eq:α->α->Bool):List α->List α->Bool
 |[],[]=>true|a::r,b::q=>eq a b&&b3S eq r q|_,_=>false
def VK:(t:Ty)->t.den->t.den->Bool
 | .bool=>λa b=>tbb a b
 | .int _=>λa b=>decide (a=b)
 | .str=>λa b=>decide (a=b)
 | .sl t=>λa b=>b3S (VK t) a b
 | .prod p q=>λa b=>VK p a.1 b.1&&VK q a.2 b.2
 | .unit=>λ_ _=>true
 | .ent _ _ p q=>λa b=>VK p a.1 b.1&&VK q a.2 b.2
def deq(t:Ty)(a b:t.den):Bool:=VK t a b
inductive Out (σ ε ρ:Type) where
 |nx (s:σ)|ex (e:ε)|rt (r:ρ)
def aj{σ ε α:Type}(o:σ⊕ε)(f:σ->α)(g:ε->α):α:=match o with| .inl s=>f s| .inr e=>g e
def ou{σ ε ρ:Type}(f:σ->Option (Out σ ε ρ)):Nat->σ->Option (ε⊕ρ)
 |0,_=>none
 |n+1,s=>match f s with
  |some (.nx s')=>ou f n s'|some (.ex e)=>some (.inl e)|some (.rt r)=>some (.inr r)|none=>none
def nZ{σ ε:Type}(f:σ->Option (σ⊕ε)):Nat->σ->Option ε
 |0,_=>none
 |n+1,s=>match f s with
  |some (.inl s')=>nZ f n s'|some (.inr e)=>some e|none=>none
def lg:Nat:=18446744073709551616
def X7{σ ε ρ:Type}(f:σ->Option (Out σ ε ρ))(s:σ):Option (ε⊕ρ):=ou f lg s
def aS{σ ε:Type}(f:σ->Option (σ⊕ε))(s:σ):Option ε:=nZ f lg s
inductive Cmd (α:Type):Type 1 where
 |ret (x:α)
 |fail
 |get (k:Nat) (c:V->Cmd α)
 |set (k:Nat) (v:V) (c:Cmd α)
 |opt {β:Type} (o:Option β) (c:β->Cmd α)
 |br (b:Bool) (c d:Cmd α)
inductive Ent where
 |kv (k:Nat) (v:V)|mask (lo hi:Nat)
abbrev St:=List Ent
def fF:St->Nat->V
 |[],_=> .undef| .kv k v::r,n=>bif Nat.beq k n then v else fF r n| .mask lo hi::r,n=>bif Nat.ble lo n&&Nat.blt n hi then .undef else fF r n
abbrev Tr:=List Nat×List Nat
def V.force{R:Type}(v:V)(K:V->R):R:=
 match v with
 | .undef=>K .undef| .un=>K .un| .b x=>K (.b x)
 | .i k n=>match k with
  | .i8=>K (.i .i8 n)| .i16=>K (.i .i16 n)| .i32=>K (.i .i32 n)| .i64=>K (.i .i64 n)| .u8=>K (.i .u8 n)| .u16=>K (.i .u16 n)| .u32=>K (.i .u32 n)| .u64=>K (.i .u64 n)
 | .s l=>K (.s l)| .nl=>K .nl| .ne z=>K (.ne z)| .sl t xs=>K (.sl t xs)
 | .own bx vw=>match vw with|none=>K (.own bx none)|some p=>K (.own bx (some p))
 | .ptr bx off=>K (.ptr bx off)| .ep bx idx off=>K (.ep bx idx off)| .dp t x off=>K (.dp t x off)| .agg cs=>K (.agg cs)| .tup cs=>K (.tup cs)| .glob g=>K (.glob g)| .fnv f=>K (.fnv f)| .clos f bs=>K (.clos f bs)
 | .ifc t v=>v.force λv=>K (.ifc t v)
 | .barrs t xs h=>match h with|none=>K (.barrs t xs none)|some (p1,p2,p3)=>match p3 with|none=>K (.barrs t xs (some (p1,p2,none)))|some p3=>K (.barrs t xs (some (p1,p2,some p3)))
 | .bfc t x=>K (.bfc t x)| .bcells cs=>K (.bcells cs)| .barr t xs=>K (.barr t xs)| .bfrz t xs=>K (.bfrz t xs)| .biter l p=>K (.biter l p)| .dead=>K .dead| .gone t=>K (.gone t)| .blen n sz=>K (.blen n sz)
def RF{R:Type} :List V->(List V->R)->R
 |[],K=>K []
 |v::r,K=>v.force λv' =>RF r λr' =>K (v' ::r')
def V.force2{R:Type}(v:V)(K:V->R):R:=
 v.force λv=>match v with
  | .agg cs=>RF cs λcs=>K (.agg cs)
  | .bcells cs=>RF cs λcs=>K (.bcells cs)
  | .tup cs=>RF cs λcs=>K (.tup cs)|v=>K v
def Cmd.runK{α R:Type} :Cmd α->St->Tr->(α->St->Tr->Option R)->Option R
 | .ret x,s,t,K=>K x s t| .fail,_,_,_=>none
 | .get k c,s,t,K=>(fF s k).force λv=>(c v).runK s (k::t.1,t.2) K
 | .set k v c,s,t,K=>v.force2 λv=>c.runK (.kv k v::s) (t.1,k::t.2) K
 | .opt o c,s,t,K=>o5 o λx=>(c x).runK s t K| .br b c d,s,t,K=>l9 b (c.runK s t K) (d.runK s t K)
def Cmd.bind{α β:Type} :Cmd α->(α->Cmd β)->Cmd β
 | .ret x,f=>f x| .fail,_=> .fail
 | .get k c,f=> .get k λv=>(c v).bind f| .set k v c,f=> .set k v (c.bind f)
 | .opt o c,f=> .opt o λx=>(c x).bind f| .br b c d,f=> .br b (c.bind f) (d.bind f)
inductive TD where
 |bool|int (k:IntKind)|str
 |sl (elem:Nat)|ptr (elem:Nat)
 |struct (fs:List (Nat×Nat))
 |arr (n elem:Nat)
 |map (key elem:Nat)
 |other
structure TI where
 size:Nat
 bytes:Nat
 td:TD
 ty:Option Ty
 zero:List V
def fH{α:Type} :List (Nat×α)->Nat->Option α
 |[],_=>none|(k,v)::r,n=>bif Nat.beq k n then some v else fH r n
structure FSpec where
 ps:List MG
 rs:List MG
 outs:List MG
 fn:iR ps->Option (iR (rs++outs))
structure Env where
 nt:Nat
 eqs:List (Nat×List Ty)
 tt:List (Nat×TI)
 gl:List (Nat×(t:Ty)×List t.den)
 fs:List (Nat×FSpec)
 om:List (Nat×M):=[]
 tk:List Nat:=[]
 ms:List ((Nat×String)×Nat×Option Nat):=[]
 kp:List Nat:=[]
 rc:List Nat:=[]
abbrev bf:Nat:=1000000
abbrev CB:Nat:=1000000
abbrev QT:Nat:=1000000000000
def Ty.castL{R:Type u}(a b:Ty)(xs:List a.den)(k:List b.den->R)(f:R):R:=if h:a=b then k (h▸xs)else f
def YR{R:Type u}(a b:Ty)(x:a.den)(k:b.den->R)(f:R):R:=if h:a=b then k (h▸x)else f
def flat:(t:Ty)->t.den->List V->List V
 | .bool,x,r=> .b x::r| .int k,n,r=> .i k n::r| .str,l,r=> .s l::r| .sl t,xs,r=> .sl t xs::r| .prod a b,x,r=>flat a x.1 (flat b x.2 r)| .unit,_,r=>r| .ent _ _ a b,x,r=>flat a x.1 (flat b x.2 r)
def jH{α:Type}(vw:Option (Nat×Nat))(xs:List α):List α:=match vw with|none=>xs|some (lo,hi)=>oP xs lo hi
def Ko:(m:M)->m.den->List V->List V
 | .dat t,x,r=>flat t x r| .pair a b,x,r=>Ko a x.1 (Ko b x.2 r)| .unit,_,r=>r|_,_,r=> .undef::r
def a5I{R:Type u}(a b:M)(xs:List a.den)(k:List b.den->R)(f:R):R:=match h:M.beq a b with
 |true=>k (M.beq_eq h▸xs)|false=>f
def a3T{R:Type u}(m:M)(t:Ty)(xs:List m.den)(k:List t.den->R)(f:R):R:=
 if h:m.el=true/\m.ty=t then k (cast (congrArg List ((M.denEq m h.1).trans (congrArg Ty.den h.2))) xs)else f
def M.owned:M->List Ty
 | .own t=>[t]| .owns m=>m.ty::m.owned| .pair a b=>a.owned++b.owned|_=>[]
def a0U(ln:Ty->Bool):List Ty->Bool|[]=>true|t::r=>bif ln t then a0U ln r else false
def qA{α:Type}(ln:Ty->Bool):(t:Ty)->List V->(t.den->List V->Cmd α)->Cmd α
 | .bool,cs,K=>match cs with| .b x::r=>K x r|_=> .fail
 | .int k,cs,K=>match cs with| .i k' n::r=>(bif decide (k=k')then K n r else Cmd.fail)|_=> .fail
 | .str,cs,K=>match cs with| .s l::r=>K l r|_=> .fail
 | .prod a b,cs,K=>qA ln a cs λx r=>qA ln b r λy r' =>K (x,y) r'| .unit,cs,K=>K () cs| .ent ..,_,_=> .fail
 | .sl t,cs,K=>match cs with
  | .nl::r=>bif t.isEnt then .fail else K [] r| .sl t' xs::r=>Ty.castL t' t xs (λys=>K ys r) Cmd.fail
  | .own bx vw::r=> .get (bf+bx) λ
   | .barr t' xs=>Ty.castL t' t xs (λys=>bif ln t then K (jH vw ys) r else Cmd.set (bf+bx) (.bfrz t ys) (K (jH vw ys) r)) Cmd.fail| .bfrz t' xs=>Ty.castL t' t xs (λys=>K (jH vw ys) r) Cmd.fail| .barrs el xs none=>a3T el t xs (λys=>bif ln t&&a0U ln el.owned then K (jH vw ys) r else Cmd.set (bf+bx) (.bfrz t ys) (K (jH vw ys) r)) Cmd.fail|_=> .fail
  |_=> .fail
def CP:Ty->Bool:=λ_=>false
def a7P{α:Type}(t:Ty)(v:V)(K:List t.den->Cmd α):Cmd α:=match v with
 | .nl=>bif t.isEnt then .fail else K []| .ne _=>bif t.isEnt then .fail else K []| .sl t' xs=>Ty.castL t' t xs K Cmd.fail
 | .own bx vw=> .get (bf+bx) λ
  | .barr t' xs=>Ty.castL t' t xs (λys=>K (jH vw ys)) Cmd.fail| .bfrz t' xs=>Ty.castL t' t xs (λys=>K (jH vw ys)) Cmd.fail|_=> .fail
 |_=> .fail
def rpC{α:Type}(t:Ty)(v:V)(K:t.den->Cmd α):Cmd α:=match v with
 | .dp t' x 0=>YR t' t x K .fail
 | .ptr bx 0=> .get (bf+bx) λ
  | .bfc t' x=>YR t' t x K .fail
  | .bcells bs=>qA CP t bs λx q=>(match q with
   |[]=> .get (bf+bx) λ
    | .bcells _=>Cmd.set (bf+bx) (.bfc t x) (K x)|_=> .fail
   |_=> .fail)
  |_=> .fail
 |_=> .fail
def Ob{α:Type} :(ts:List Ty)->List ((t:Ty)×t.den)->(Ti ts->Cmd α)->Cmd α
 |[],cs,K=>match cs with|[]=>K ()|_=> .fail
 |[t],cs,K=>match cs with|[⟨t',x⟩]=>YR t' t x K .fail|_=> .fail
 |t::t' ::r,cs,K=>match cs with
  |⟨u,x⟩::cs=>YR u t x (λx=>Ob (t' ::r) cs λy=>K (x,y)) .fail|[]=> .fail
def Tf:(ts:List Ty)->Ti ts->List ((t:Ty)×t.den)
 |[],_=>[]|[t],x=>[⟨t,x⟩]|t::t' ::r,x=>⟨t,x.1⟩::Tf (t' ::r) x.2
def exM{α:Type}(ln:Ty->Bool):(m:M)->List V->(m.den->List V->Cmd α)->Cmd α
 | .dat t,cs,K=>qA ln t cs K
 | .own t,cs,K=>match cs with
  | .nl::r=>bif t.isEnt then .fail else K [] r
  | .own bx vw::r=> .get (bf+bx) λ
   | .barr t' xs=>Ty.castL t' t xs (λys=>Cmd.set (bf+bx) .dead (K (jH vw ys) r)) Cmd.fail|_=> .fail
  |_=> .fail
 | .pair a b,cs,K=>exM CP a cs λx r=>exM CP b r λy r' =>K (x,y) r'| .unit,cs,K=>K () cs
 | .box m,cs,K=>match cs with
  | .ptr bx 0::r=> .get (bf+bx) λ
   | .bcells bs=>Cmd.set (bf+bx) .dead (exM CP m bs λx q=>match q with|[]=>K x r|_=> .fail)|_=> .fail
  |_=> .fail
 | .owns m,cs,K=>match cs with
  | .nl::r=>bif m.el then K [] r else .fail
  | .own bx none::r=> .get (bf+bx) λ
   | .barrs m' xs none=>a5I m' m xs (λys=>Cmd.set (bf+bx) .dead (K ys r)) Cmd.fail|_=> .fail
  |_=> .fail
 | .ownb t,cs,K=>match cs with
  | .nl::r=>bif t.isEnt then .fail else K [] r
  | .own bx none::r=> .get (bf+bx) λ
   | .barr t' xs=>Ty.castL t' t xs (λys=>Cmd.set (bf+bx) (.gone t) (K ys r)) Cmd.fail|_=> .fail
  |_=> .fail
 | .rp t,cs,K=>match cs with
  |v::r=>rpC t v λx=>K x r|_=> .fail
 | .fn f ts,cs,K=>match cs with
  | .clos g caps::r=>bif Nat.beq g f then Ob ts caps λx=>K x r else .fail
  | .fnv g::r=>bif Nat.beq g f then Ob ts [] λx=>K x r else .fail|_=> .fail
 | .ifc t m,cs,K=>match cs with
  | .ifc t' v::r=>bif Nat.beq t' t then exM CP m [v] λx q=>(match q with|[]=>K x r|_=> .fail)else .fail|_=> .fail
 | .cell (some none),cs,K=>match cs with
  | .nl::r=>K () r|_=> .fail
 | .cell (some (some b)),cs,K=>match cs with
  | .ne true::r=>bif b then K () r else .fail| .ne false::r=>bif b then .fail else K () r|_=> .fail
 | .cell none,cs,K=>match cs with
  |_::r=>K () r|_=> .fail
 | .fr t,cs,K=>match cs with
  | .nl::r=>bif t.isEnt then .fail else K [] r
  | .own bx none::r=> .get (bf+bx) λ
   | .barr t' xs=>Ty.castL t' t xs (λys=>Cmd.set (bf+bx) (.bfrz t ys) (K ys r)) Cmd.fail| .bfrz t' xs=>Ty.castL t' t xs (λys=>K ys r) Cmd.fail|_=> .fail
  |_=> .fail
def cellsOf(v:V):List V:=match v with| .agg cs=>cs|v=>[v]
def AP{α:Type}(n:Nat)(v:V)(K:Cmd α):Cmd α:=.get (bf+n) λ
 | .undef=> .set (bf+n) v K|_=> .fail
def emM{α:Type} :(m:M)->m.den->Nat->List V->(List V->Nat->Cmd α)->Cmd α
 | .dat t,x,n,r,K=>K (flat t x r) n| .own t,xs,n,r,K=>AP n (.barr t xs) (K (.own n none::r) (n+1))
 | .pair a b,x,n,r,K=>emM b x.2 n r λr' n' =>emM a x.1 n' r' K| .unit,_,n,r,K=>K r n
 | .box m,x,n,r,K=>emM m x (n+1) [] λcs n' =>AP n (.bcells cs) (K (.ptr n 0::r) n')| .owns m,xs,n,r,K=>AP n (.barrs m xs none) (.set (bf+(QT+n)) (.blen (o9 xs) m.size) (K (.own n none::r) (n+1)))| .ownb t,xs,n,r,K=>AP n (.barr t xs) (K (.own n none::r) (n+1))| .rp t,x,n,r,K=>K (.dp t x 0::r) n| .fn f ts,x,n,r,K=>K (.clos f (Tf ts x)::r) n
 | .ifc t m,x,n,r,K=>emM m x n [] λcs n' =>match cs with|[c]=>K (.ifc t c::r) n'|_=> .fail
 | .cell (some none),_,n,r,K=>K (.nl::r) n| .cell (some (some b)),_,n,r,K=>K (.ne b::r) n| .cell none,_,n,r,K=>K (.undef::r) n| .fr t,xs,n,r,K=>AP n (.bfrz t xs) (K (.own n none::r) (n+1))
structure Sig where
 ms:List (Nat×MG)
 als:List (Nat×Nat)
@[reducible] def rD (s:Sig):Type:=iR (s.ms.map (·.2))
def VA{α:Type}(ag:Bool)(v:V)(K:List V->Cmd α):Cmd α:=match ag,v with
 |true,.agg cs=>K cs|true,_=> .fail|false,.agg _=> .fail|false,.tup _=> .fail|false,.undef=> .fail|false,.un=> .fail|false,v=>K [v]
def Jj{α:Type}(v:V)(K:List V->Cmd α):Cmd α:=match v with
 | .agg cs=>K cs| .tup _=> .fail| .undef=> .fail| .un=> .fail|v=>K [v]
def M.isDat:M->Bool| .dat _=>true|_=>false
def VU{α:Type}(ln:Ty->Bool)(m:MG)(v:V)(K:m.2.den->Cmd α):Cmd α:=
 VA m.1 v λcs=>exM ln m.2 cs λx q=>match q with|[]=>K x|_=> .fail
def NH{α:Type}(ln:Ty->Bool):(ms:List MG)->List V->(iR ms->Cmd α)->Cmd α
 |[],vs,K=>match vs with|[]=>K ()|_=> .fail
 |[m],vs,K=>match vs with
  |[v]=>VU ln m v K|_=> .fail
 |m::m' ::r,vs,K=>match vs with
  |v::vs=>bif m.2.isDat then NH ln (m' ::r) vs λy=>VU ln m v λx=>K (x,y)
   else VU ln m v λx=>NH ln (m' ::r) vs λy=>K (x,y)
  |[]=> .fail
def E_{α:Type} :List Nat->(List V->Cmd α)->Cmd α
 |[],K=>K []
 |s::r,K=>bif Nat.blt s bf then .get s λv=>E_ r λvs=>K (v::vs)else .fail
def b5p:V->V->Bool
 | .own a none,.own b none=>Nat.beq a b|_,_=>false
def b3E{α:Type} :List (Nat×Nat)->Cmd α->Cmd α
 |[],K=>K
 |(n,k)::r,K=>bif Nat.blt n bf&&Nat.blt k bf then .get n λv=> .get k λu=>bif b5p v u then b3E r K else .fail else .fail
def a9s(s:Sig):Cmd (rD s):=b3E s.als (E_ (s.ms.map (·.1)) λvs=>NH CP (s.ms.map (·.2)) vs .ret)
def mkV(ag:Bool)(cs:List V):V:=match ag,cs with|true,cs=> .agg cs|false,[v]=>v|false,_=> .undef
def NG{α:Type} :(ms:List MG)->iR ms->Nat->(List V->Nat->Cmd α)->Cmd α
 |[],_,n,K=>K [] n
 |[m],x,n,K=>emM m.2 x n [] λcs n' =>K [mkV m.1 cs] n'
 |m::m' ::r,x,n,K=>emM m.2 x.1 n [] λcs n' =>NG (m' ::r) x.2 n' λvs n'' =>K (mkV m.1 cs::vs) n''
def XI:List Nat->List V->Cmd Unit
 |[],[]=> .ret ()|n::ns,v::vs=>bif Nat.blt n bf then .set n v (XI ns vs)else .fail|_,_=> .fail
def Va:List Nat->List V->Cmd Unit->Cmd Unit
 |[],[],K=>K|n::ns,v::vs,K=>bif Nat.blt n bf then .set n v (Va ns vs K)else .fail|_,_,_=> .fail
def a0w:List (Nat×Nat)->Cmd Unit
 |[]=> .ret ()
 |(n,k)::r=>bif Nat.blt n bf&&Nat.blt k bf then .get k λv=> .set n v (a0w r)else .fail
def a9n(s:Sig)(x:rD s)(nb lim:Nat):Cmd Unit:=
 NG (s.ms.map (·.2)) x nb λvs n=>bif Nat.ble n lim then Va (s.ms.map (·.1)) vs (a0w s.als)else .fail
def a3I:Value->V
 | .bool b=> .b b| .int k n=> .i k n| .string s=> .s s.data.toList| .slice none 0 0=> .nl|_=> .undef
def rX{α:Type}(x:Operand)(K:V->Cmd α):Cmd α:=
 match x with
 | .tmp t=>bif Nat.blt t bf then .get t K else .fail| .const v=>K (a3I v)| .global g=>K (.glob g)| .func f=>K (.fnv f)
def TW{α:Type} :List Operand->(List V->Cmd α)->Cmd α
 |[],K=>K []
 |x::r,K=>rX x λv=>TW r λvs=>K (v::vs)
def VO(n:Nat)(cs:List V):Option (List V):=match n,cs with
 |0,cs=>some cs|n+1,_::cs=>VO n cs|_+1,[]=>none
def a3c{R:Type u}(n:Nat)(cs:List V)(K:List V->R)(f:R):R:=match n,cs with
 |0,_=>K []|n+1,c::cs=>a3c n cs (λr=>K (c::r)) f|_+1,[]=>f
def Yz{R:Type u}(off n:Nat)(cs:List V)(K:List V->R)(f:R):R:=match VO off cs with|some r=>a3c n r K f|none=>f
def Su{R:Type u}(off:Nat)(vs cs:List V)(K:List V->R)(f:R):R:=match off,vs,cs with
 |0,[],cs=>K cs|0,v::vs,_::cs=>Su 0 vs cs (λr=>K (v::r)) f|n+1,vs,c::cs=>Su n vs cs (λr=>K (c::r)) f|_,_,[]=>f
def ES:Operand->Bool
 | .const (.int _ n)=>decide (n=0)|_=>true
def IR:Operand->Bool
 | .const (.int _ n)=>decide (n<0)|_=>true
def eq1:V->V->Option Bool
 | .b x,.b y=>some (kU x y)| .i j x,.i k y=>bif decide (j=k)then some (x8 x y)else none| .s x,.s y=>some (seq x y)|_,_=>none
def AZ:List V->List V->Option Bool
 |[],[]=>some true
 |a::r,b::q=>match eq1 a b with
  |none=>none
  |some e=>match r,q with
   |[],[]=>some e|_,_=>(match AZ r q with|some e' =>some (nN e e')|none=>none)
 |_,_=>none
def BK:List Ty->List V->Bool
 |[],[]=>true| .bool::ts,.b _::cs=>BK ts cs| .int k::ts,.i k' _::cs=>decide (k=k')&&BK ts cs| .str::ts,.s _::cs=>BK ts cs|_,_=>false
def FO(n:Nat):List Nat->Bool|[]=>false|k::r=>bif Nat.beq k n then true else FO n r
def b0d{α:Type}(E:Env)(t:Nat)(op:BinOp)(b:Bool)(K:V->Cmd α):Cmd α:=
 match fH E.tt t with
 |some i=>match i.td,op with
  | .sl _,.eql=>K (.b b)| .sl _,.neq=>K (.b (F6 b))|_,_=> .fail
 |none=> .fail
def KO{α:Type}(E:Env)(t:Nat)(op:BinOp)(yc:Operand)(x y:V)(K:V->Cmd α):Cmd α:=
 match x,y with
 | .i k a,.i k' b=>
  match op with
  | .shl=>bif IR yc then Cmd.opt (Wu k a b) λr=>K (.i k r)else K (.i k (a9D k a b))
  | .shr=>bif IR yc then Cmd.opt (Wv k a b) λr=>K (.i k r)else K (.i k (ut k a b))|_=>
  bif decide (k=k')then
   match op with
   | .add=>K (.i k (D6 k a b))| .sub=>K (.i k (H8 k a b))| .mul=>K (.i k (dF k a b))
   | .quo=>bif ES yc then Cmd.opt (FI k a b) λr=>K (.i k r)else K (.i k (fQ k a b))
   | .rem=>bif ES yc then Cmd.opt (Le a b) λr=>K (.i k r)else K (.i k (jk a b))| .and=>K (.i k (a1I k a b))| .or=>K (.i k (ior k a b))| .xor=>K (.i k (a9E k a b))| .andNot=>K (.i k (a5S k a b))| .eql=>K (.b (x8 a b))| .neq=>K (.b (F6 (x8 a b)))| .lss=>K (.b (E8 a b))| .leq=>K (.b (L9 a b))| .gtr=>K (.b (E8 b a))| .geq=>K (.b (L9 b a))|_=> .fail
  else .fail
 | .s a,.s b=>
  match op with
  | .add=>Cmd.opt (fC a b) λr=>K (.s r)| .eql=>K (.b (seq a b))| .neq=>K (.b (F6 (seq a b)))| .lss=>K (.b (slt a b))|_=> .fail
 | .b a,.b b=>
  match fH E.tt t with
  |some i=>match i.td,op with
   | .bool,.eql=>K (.b (kU a b))| .bool,.neq=>K (.b (F6 (kU a b)))|_,_=> .fail
  |none=> .fail
 | .agg xs,.agg ys=>
  match fH E.eqs t with
  |some sh=>bif BK sh xs&&BK sh ys then(match op,AZ xs ys with
   | .eql,some e=>K (.b e)| .neq,some e=>K (.b (F6 e))
   |_,_=> .fail)else .fail
  |none=> .fail
 | .nl,.nl=>b0d E t op true K| .ne b,.nl=>b0d E t op b K| .sl u xs,.nl=>bif u.isEnt then .fail else .br (x8 (o9 xs) 0) .fail (b0d E t op false K)|_,_=> .fail
def unC{α:Type}(op:UnOp)(x:V)(K:V->Cmd α):Cmd α:=
 match op,x with
 | .neg,.i k a=>K (.i k (H8 k 0 a))| .xor,.i k a=>K (.i k (a9E k (bif k.signed then -1 else k.max) a))| .not,.b a=>K (.b (F6 a))|_,_=> .fail
def ZF(E:Env)(t:Nat):Bool:=bif Nat.blt t E.nt then !(FO t E.kp)else false
def gJ(E:Env)(d:Option Tmp)(v:V):Cmd Unit:=match d with|some t=>bif ZF E t then .set t v (.ret ())else .fail|none=> .ret ()
def U0(q:Nat)(d:Option Tmp):Nat:=match d with|some t=>CB*q+64*t|none=>CB*q+999936
def tiC{α:Type}(E:Env)(t:Nat)(K:TI->Cmd α):Cmd α:=match fH E.tt t with|some i=>K i|none=> .fail
def bM:TD->Bool| .struct _| .arr _ _=>true|_=>false
def NL{α:Type}(E:Env)(t:Nat)(p:V)(K:V->Cmd α):Cmd α:=
 tiC E t λi=>match p with
 | .ptr bx off=> .get (bf+bx) λ
  | .bcells cs=>Yz off i.size cs (λr=>K (mkV (bM i.td) r)) Cmd.fail| .bfc u x=>Yz off i.size (flat u x []) (λr=>K (mkV (bM i.td) r)) Cmd.fail|_=> .fail
 | .ep bx idx off=> .get (bf+bx) λ
  | .barr u xs=>Cmd.opt (af xs idx) λx=>Yz off i.size (flat u x []) (λr=>K (mkV (bM i.td) r)) Cmd.fail
  | .bfrz u xs=>Cmd.opt (af xs idx) λx=>Yz off i.size (flat u x []) (λr=>K (mkV (bM i.td) r)) Cmd.fail
  | .barrs m xs _=>Cmd.opt (af xs idx) λx=>Yz off i.size (Ko m x []) (λr=>K (mkV (bM i.td) r)) Cmd.fail|_=> .fail
 | .dp u x off=>Yz off i.size (flat u x []) (λr=>K (mkV (bM i.td) r)) Cmd.fail|_=> .fail
def Xg{R:Type u} :(m:M)->Nat->m.den->(V->R)->R->R
 | .own t,off,xs,K,f=>bif Nat.beq off 0 then K (.barr t xs)else f| .owns m,off,xs,K,f=>bif Nat.beq off 0 then K (.barrs m xs none)else f| .pair a b,off,x,K,f=>bif Nat.blt off a.size then Xg a off x.1 K f else Xg b (off -a.size) x.2 K f|_,_,_,_,f=>f
def a4f{R:Type u} :(m:M)->Nat->V->m.den->(m.den->R)->R->R
 | .own t,off,v,_,K,f=>bif Nat.beq off 0 then(match v with| .barr t' ys=>Ty.castL t' t ys K f| .nl=>bif t.isEnt then f else K []|_=>f)else f| .owns m,off,v,_,K,f=>bif Nat.beq off 0 then(match v with| .barrs m' ys none=>a5I m' m ys K f| .nl=>K []|_=>f)else f| .pair a b,off,v,x,K,f=>bif Nat.blt off a.size then a4f a off v x.1 (λy=>K (y,x.2)) f else a4f b (off -a.size) v x.2 (λy=>K (x.1,y)) f|_,_,_,_,_,f=>f
def a6Z{α:Type} :(m:M)->Nat->List V->m.den->(m.den->Cmd α)->Cmd α
 | .dat t,off,vs,x,K=>bif t.flat then Su off vs (flat t x []) (λr=>qA CP t r λy q=>match q with|[]=>K y|_=> .fail) .fail else .fail| .pair a b,off,vs,x,K=>bif Nat.blt off a.size then a6Z a off vs x.1 (λy=>K (y,x.2))else a6Z b (off -a.size) vs x.2 (λy=>K (x.1,y))|_,_,_,_,_=> .fail
def M.ownAt:M->Nat->Bool
 | .own _,off=>Nat.beq off 0| .owns _,off=>Nat.beq off 0| .pair a b,off=>bif Nat.blt off a.size then a.ownAt off else b.ownAt (off -a.size)|_,_=>false
def G_(h:Option (Nat×Nat×Option Nat))(idx off:Nat):Bool:=match h with|none=>true|some (i,o,_)=>bif Nat.beq o off then Ov i idx else false
def b5h{α:Type}(E:Env)(d:Option Tmp)(nm t:Nat)(p:V)(K:V->Cmd α):Cmd α:=
 match p with
 | .ep bx idx off=> .get (bf+bx) λ
  | .barrs m xs none=>bif m.ownAt off then tiC E t λi=>(bif Nat.beq i.size 1&&!bM i.td then
     (bif FO (match d with|some d=>d|none=>bf) E.tk then
      Cmd.opt (af xs idx) λx=>Xg m off x (λv=>Cmd.set (bf+bx) (.barrs m xs (some (idx,off,none))) (AP nm v (Cmd.set (bf+bx) (.barrs m xs (some (idx,off,some nm))) (K (.own nm none))))) .fail
     else qA CP (.sl m.ty) [.own bx none] λ_ _=>NL E t p K)else .fail)
    else NL E t p K
  | .barrs m xs (some (i,o,some n))=>bif m.ownAt off then tiC E t λj=>(bif Nat.beq j.size 1&&!bM j.td then
     .br (G_ (some (i,o,some n)) idx off) (K (.own n none)) .fail else .fail)
    else NL E t p K
  |_=>NL E t p K
 |_=>NL E t p K
def a0F(bx idx off:Nat)(m:M)(xs:List m.den)(hole:Option (Nat×Nat×Option Nat))(v:V)(K:Cmd Unit):Cmd Unit:=
 .br (G_ hole idx off) (Cmd.opt (af xs idx) λx=>a4f m off v x (λy=>Cmd.set (bf+bx) (.barrs m (cO xs idx y) none) K) .fail) .fail
def b9v:V->Bool| .barr ..=>true| .barrs _ _ none=>true|_=>false
def b2Z(E:Env)(t:Nat)(p v:V):Cmd Unit:=
 tiC E t λi=>match p with
 | .ptr bx off=> .get (bf+bx) λ
  | .bcells cs=>Jj v λvs=>bif Nat.beq vs.length i.size then Su off vs cs (λr=>Cmd.set (bf+bx) (.bcells r) (.ret ())) Cmd.fail else .fail|_=> .fail
 | .ep bx idx off=> .get (bf+bx) λ
  | .barr u xs=>Cmd.opt (af xs idx) λx=>Jj v λvs=>bif Nat.beq vs.length i.size then Su off vs (flat u x []) (λr=>
    qA CP u r λy q=>match q with
     |[]=> .get (bf+bx) λ
      | .barr u' xs' =>Ty.castL u' u xs' (λxs' =>Cmd.set (bf+bx) (.barr u (cO xs' idx y)) (.ret ())) Cmd.fail|_=> .fail
     |_=> .fail) Cmd.fail else .fail
  | .barrs m xs hole=>bif m.ownAt off&&Nat.beq i.size 1&&!bM i.td then(match v with
    | .nl=>a0F bx idx off m xs hole .nl (.ret ())
    | .own b2 none=> .get (bf+b2) λw=>bif b9v w then Cmd.set (bf+b2) .dead (.get (bf+bx) λ
     | .barrs m xs hole=>a0F bx idx off m xs hole w (.ret ())
     |_=> .fail)else .fail
    |_=> .fail)
   else match hole with
    |none=>Jj v λvs=>bif Nat.beq vs.length i.size then Cmd.opt (af xs idx) λx=>a6Z m off vs x λy=>Cmd.set (bf+bx) (.barrs m (cO xs idx y) none) (.ret ())else .fail|some _=> .fail
  |_=> .fail
 |_=> .fail
def szB(sz:Nat)(u:Ty):Bool:=bif u.isEnt then false else Nat.beq sz u.size
def KY(E:Env)(t f:Nat):Option (Nat×Nat×Bool):=
 match fH E.tt t with
 |some i=>match i.td with
  | .struct fs=>match fs[f]? with
   |some (ft,off)=>match fH E.tt ft with|some j=>bif Nat.beq j.size 0 then none else some (off,j.size,bM j.td)|none=>none
   |none=>none
  |_=>none
 |none=>none
def a1T(vw:Option (Nat×Nat)):Nat:=match vw with|none=>0|some (lo,_)=>lo
def b6q(vw:Option (Nat×Nat))(n:Nat):Nat:=match vw with|none=>n|some (lo,_)=>lo+n
theorem b3X(vw:Option (Nat×Nat))(n:Nat):b6q vw n=a1T vw+n:=by cases vw<;>simp[b6q,a1T]
def Jk(E:Env)(t:Nat):Option (Bool×Nat×Nat):=
 match fH E.tt t with
 |some i=>match i.td with
  | .sl e=>match fH E.tt e with|some j=>some (false,0,j.size)|none=>none
  | .arr n e=>match fH E.tt e with|some j=>some (true,n,j.size)|none=>none
  |_=>none
 |none=>none
def Ws{α:Type}(E:Env)(t:Nat)(x ix:V)(K:V->Cmd α):Cmd α:=
 match ix,Jk E t with
 | .i _ n,some (false,_,sz)=>match x with
  | .sl u xs=>bif szB sz u then Cmd.opt (G9 xs n) λy=>K (.dp u y 0)else .fail
  | .own bx vw=> .get (bf+(QT+bx)) λ
   | .blen ln sz' =>(match vw with|none=>bif Nat.beq sz sz' then .br (inb n ln) (K (.ep bx (X8 n) 0)) .fail else .fail|_=> .fail)
   |_=> .get (bf+bx) λ
   | .barr u xs=>bif szB sz u then Cmd.opt (G9 (jH vw xs) n) λ_=>K (.ep bx (b6q vw (X8 n)) 0)else .fail
   | .bfrz u xs=>bif szB sz u then Cmd.opt (G9 (jH vw xs) n) λy=>K (.dp u y 0)else .fail| .barrs m xs _=>(match vw with|none=>bif Nat.beq sz m.size then Cmd.opt (G9 xs n) λ_=>K (.ep bx (X8 n) 0)else .fail|_=> .fail)|_=> .fail
  |_=> .fail
 | .i _ n,some (true,l,sz)=>match x with
  | .glob g=>match fH E.gl g with
   |some ⟨u,xs⟩=>bif Nat.beq sz u.size&&Nat.beq l xs.length then Cmd.opt (G9 xs n) λy=>K (.dp u y 0)else .fail|none=> .fail
  |_=> .fail
 |_,_=> .fail
def b9x{α:Type}(td:TD)(x:V)(K:V->Cmd α):Cmd α:=
 match td,x with
 | .str,.s l=>K (.i .i64 (o9 l))| .sl _,.sl t xs=>bif t.isEnt then .fail else K (.i .i64 (o9 xs))| .map ..,.sl t xs=>bif t.isEnt then K (.i .i64 (o9 xs))else .fail
 | .map ..,.own bx none=> .get (bf+bx) λ
  | .barr t xs=>bif t.isEnt then K (.i .i64 (o9 xs))else .fail| .bfrz t xs=>bif t.isEnt then K (.i .i64 (o9 xs))else .fail|_=> .fail
 | .sl _,.nl=>K (.i .i64 0)
 | .sl _,.own bx vw=> .get (bf+(QT+bx)) λ
  | .blen ln _=>(match vw with|none=>K (.i .i64 ln)|_=> .fail)
  |_=> .get (bf+bx) λ
  | .barr t xs=>bif t.isEnt then .fail else K (.i .i64 (o9 (jH vw xs)))| .bfrz t xs=>bif t.isEnt then .fail else K (.i .i64 (o9 (jH vw xs)))| .barrs _ xs _=>(match vw with|none=>K (.i .i64 (o9 xs))|_=> .fail)|_=> .fail
 |_,_=> .fail
def BZ(d:Int):Option V->Option Int
 |none=>some d|some (.i _ n)=>some n|some _=>none
def SV{α:Type}(E:Env)(t:Nat)(x:V)(lo hi:Option V)(K:V->Cmd α):Cmd α:=
 match x with
 | .s l=>tiC E t λi=>match i.td,BZ 0 lo,BZ (o9 l) hi with
  | .str,some a,some b=>Cmd.opt (kL l a b) λr=>K (.s r)|_,_,_=> .fail
 | .sl u l=>match Jk E t,BZ 0 lo,BZ (o9 l) hi with
  |some (false,_,sz),some a,some b=>bif szB sz u then Cmd.opt (kL l a b) λr=>K (.sl u r)else .fail|_,_,_=> .fail
 | .own bx none=> .get (bf+bx) λ
  | .barr u xs=>match Jk E t,BZ 0 lo,BZ (o9 xs) hi with
   |some (false,_,sz),some a,some b=>bif szB sz u then .br (rC a b (o9 xs)) (K (.own bx (some (X8 a,X8 b)))) .fail else .fail|_,_,_=> .fail
  | .bfrz u xs=>match Jk E t,BZ 0 lo,BZ (o9 xs) hi with
   |some (false,_,sz),some a,some b=>bif szB sz u then .br (rC a b (o9 xs)) (K (.own bx (some (X8 a,X8 b)))) .fail else .fail|_,_,_=> .fail
  |_=> .fail
 |_=> .fail
def Jm(E:Env)(t:Nat):Option (Nat×Ty):=
 match fH E.tt t with
 |some i=>match i.td with
  | .sl e=>match fH E.tt e with
   |some j=>match j.ty with|some u=>bif (Nat.beq u.size j.size&&Nat.ble j.bytes 65536&&!u.isEnt)then some (e,u)else none|none=>none
   |none=>none
  |_=>none
 |none=>none
def a5E(E:Env)(nm:Nat)(t:Nat)(x y:V)(K:V->Cmd Unit):Cmd Unit:=
 match Jm E t with
 |none=> .fail
 |some (_,u)=>match fH E.om t with
  |none=>
   a7P u y λys=>
   match x with
   | .nl=>Cmd.opt (iY [] ys) λzs=>AP nm (.barr u zs) (K (.own nm none))
   | .own bx vw=> .get (bf+bx) λ
    | .barr u' xs=>Ty.castL u' u xs (λxs=>Cmd.opt (iY (jH vw xs) ys) λzs=>Cmd.set (bf+bx) .dead (AP nm (.barr u zs) (K (.own nm none)))) Cmd.fail|_=> .fail
   |_=> .fail
  |some m=>bif Nat.beq m.size u.size then exM CP (.owns m) [y] λys _=>exM CP (.owns m) [x] λxs _=>Cmd.opt (iY xs ys) λzs=>AP nm (.barrs m zs none) (K (.own nm none))else .fail
def zU{α:Type}(u:Ty):List (Nat×V)->Nat->Nat->(List u.den->Cmd α)->Cmd α
 |[],_,0,K=>K []
 |(i,v)::r,n,m+1,K=>bif Nat.beq i n then Jj v λcs=>qA CP u cs λx q=>match q with|[]=>zU u r (n+1) m λxs=>K (x::xs)|_=> .fail else .fail
 |_,_,_,_=> .fail
def xh{α:Type}(m:M):List (Nat×V)->Nat->Nat->(List m.den->Cmd α)->Cmd α
 |[],_,0,K=>K []
 |(i,v)::r,n,k+1,K=>bif Nat.beq i n then Jj v λcs=>exM CP m cs λx q=>match q with|[]=>xh m r (n+1) k λxs=>K (x::xs)|_=> .fail else .fail
 |_,_,_,_=> .fail
def a5A(E:Env):List (Nat×Nat)->Bool
 |[]=>true
 |(t,_)::r=>match fH E.tt t with|some _=>a5A E r|none=>false
def DI{α:Type}(E:Env)(t:Nat):List (Nat×V)->List V->(List V->Cmd α)->Cmd α
 |[],cs,K=>K cs
 |(f,v)::r,cs,K=>match KY E t f with
  |some (off,n,_)=>Jj v λvs=>bif Nat.beq vs.length n then Su off vs cs (λcs' =>DI E t r cs' K) .fail else .fail|none=> .fail
def dG{α:Type} :List MG->List V->List V->Cmd α->Cmd α
 |(_,.box _)::ms,.ptr bx _::vs,.agg cs::os,K=> .get (bf+bx) λ
  | .dead=>Cmd.set (bf+bx) (.bcells cs) (dG ms vs os K)|_=> .fail
 |(_,.box _)::_,_,_,_=> .fail
 |(_,.ifc _ (.box _))::ms,.ifc _ (.ptr bx _)::vs,.agg cs::os,K=> .get (bf+bx) λ
  | .dead=>Cmd.set (bf+bx) (.bcells cs) (dG ms vs os K)|_=> .fail
 |(_,.ifc _ (.box _))::_,_,_,_=> .fail
 |(_,.ownb _)::ms,.own bx none::vs,.own nm none::os,K=> .get (bf+nm) λ
  | .barr u xs=>Cmd.set (bf+nm) .dead (.get (bf+bx) λ
   | .gone t=>Ty.castL u t xs (λxs=>Cmd.set (bf+bx) (.barr t xs) (dG ms vs os K)) .fail
   |_=> .fail)
  |_=> .fail
 |(_,.ownb _)::ms,.nl::vs,.own nm none::os,K=>Cmd.set (bf+nm) .dead (dG ms vs os K)|(_,.ownb _)::_,_,_,_=> .fail|_::ms,_::vs,os,K=>dG ms vs os K|[],[],[],K=>K|_,_,_,_=> .fail
def Ty.occ(t:Ty):Ty->Bool
 | .sl u=>decide (t=u) || Ty.occ t u| .prod a b=>Ty.occ t a || Ty.occ t b| .ent _ _ a b=>Ty.occ t a || Ty.occ t b|_=>false
def TU(t:Ty):List Ty->Bool|[]=>false|u::r=>decide (t=u) || Ty.occ t u || TU t r
def M.occ(t:Ty):M->Bool
 | .dat u=>Ty.occ t u| .own u=>Ty.occ t u| .pair a b=>a.occ t || b.occ t| .unit=>false| .box m=>m.occ t| .owns m=>m.occ t| .ownb u=>Ty.occ t u| .rp u=>decide (t=u) || Ty.occ t u| .fn _ ts=>TU t ts| .ifc _ m=>m.occ t| .cell _=>false| .fr u=>decide (t=u) || Ty.occ t u
def Ls(t:Ty):List MG->Bool|[]=>false|m::r=>m.2.occ t || Ls t r
def K_(s:FSpec):Ty->Bool:=λt=> !(Ls t s.rs || Ls t s.outs)
def JP:Nat->List V->Option (List V×List V)
 |0,vs=>some ([],vs)
 |n+1,v::vs=>match JP n vs with|some (a,b)=>some (v::a,b)|none=>none
 |_+1,[]=>none
def Ia:List V->Bool|[]=>false| .tup _::_=>true|_::r=>Ia r
def b4t:List V->V|[v]=>v|vs=> .tup vs
def Rw:List MG->List V->Bool
 |(_,.fn g _)::ms,.clos f _::vs=>Nat.beq f g&&Rw ms vs|(_,.fn g _)::ms,.fnv f::vs=>Nat.beq f g&&Rw ms vs|(_,.ifc t _)::ms,.ifc t' _::vs=>Nat.beq t t' &&Rw ms vs|_::ms,_::vs=>Rw ms vs|_,_=>true
def a2r:List (Nat×FSpec)->Nat->List V->Option FSpec
 |[],_,_=>none|(g,s)::r,f,vs=>bif Nat.beq g f&&Rw s.ps vs then some s else a2r r f vs
def YQ(E:Env)(q:Nat)(d:Option Tmp)(f:Nat)(vs:List V):Cmd Unit:=
 match a2r E.fs f vs with
 |none=> .fail|some s=>
  NH (K_ s) s.ps vs λx=>Cmd.opt (s.fn x) λr=>
   NG (s.rs++s.outs) r (U0 q d) λws n' =>bif Nat.ble n' (U0 q d+64)then(match JP s.rs.length ws with
    |some (a,o)=>bif Ia a then .fail else dG s.ps vs o (gJ E d (b4t a))
    |none=> .fail)else .fail
def BU{α:Type} :List MG->List V->(List ((t:Ty)×t.den)->Cmd α)->Cmd α
 |(_,.rp t)::ms,v::vs,K=>rpC t v λx=>BU ms vs λcs=>K (⟨t,x⟩::cs)|[],[],K=>K []|_,_,_=> .fail
def b9u(c:(t:Ty)×t.den):V:=.dp c.1 c.2 0
def WL:List ((Nat×String)×Nat×Option Nat)->Nat->String->Option (Nat×Option Nat)
 |[],_,_=>none|((t,n),r)::l,u,m=>bif Nat.beq t u&&(n==m)then some r else WL l u m
def Ty.leaves:Ty->List Ty
 | .prod a b=>a.leaves++b.leaves| .unit=>[]|t=>[t]
def SQ:List Ty->List Ty->Bool
 |[],[]=>true|a::r,b::q=>bif Ty.beq a b then SQ r q else false|_,_=>false
def a1L(E:Env)(ke:Nat)(td:TD)(k:Ty):Bool:=
 match td,k with
 | .bool,.bool=>true| .int i,.int j=>decide (i=j)| .str,.str=>true| .struct _,k=>bif k.flat then(match fH E.eqs ke with|some sh=>SQ sh k.leaves|none=>false)else false|_,_=>false
structure MT where
 ke:Nat
 el:Nat
 ka:Bool
 va:Bool
 k:Ty
 v:Ty
abbrev MT.ent(m:MT):Ty:=.ent m.ka m.va m.k m.v
def PT(E:Env)(t:Nat):Option MT:=
 match fH E.tt t with
 |some i=>match i.td with
  | .map ke el=>match fH E.tt ke,fH E.tt el with
   |some a,some b=>(match a.ty,b.ty with
    |some k,some v=>bif a1L E ke a.td k&&k.flat then some ⟨ke,el,bM a.td,bM b.td,k,v⟩else none
    |_,_=>none)
   |_,_=>none
  |_=>none
 |none=>none
def a9g{α:Type}(ag:Bool)(t:Ty)(v:V)(K:t.den->Cmd α):Cmd α:=
 VA ag v λcs=>qA CP t cs λx q=>match q with|[]=>K x|_=> .fail
def b0H{α:Type}(u:Ty)(v:V)(K:List u.den->Cmd α):Cmd α:=
 match v with
 | .sl t xs=>Ty.castL t u xs K .fail
 | .own bx none=> .get (bf+bx) λ
  | .barr t xs=>Ty.castL t u xs K .fail| .bfrz t xs=>Ty.castL t u xs K .fail|_=> .fail
 |_=> .fail
def Lm(E:Env)(nm t:Nat)(K:V->Cmd Unit):Cmd Unit:=
 match PT E t with
 |some m=>AP nm (.barr m.ent []) (K (.own nm none))|none=> .fail
def a6a(E:Env)(t:Nat)(ok:Bool)(x ix:V)(K:V->Cmd Unit):Cmd Unit:=
 match PT E t with
 |some m=>a9g m.ka m.k ix λkey=>b0H m.ent x λes=>
   bif ok then K (.tup [mkV m.va (flat m.v (b4b (keq m.k) es key m.v.zero) []),.b (b4c (keq m.k) es key)])
   else K (mkV m.va (flat m.v (b4b (keq m.k) es key m.v.zero) []))
 |none=> .fail
def a0I(E:Env)(t:Nat)(x ix y:V):Cmd Unit:=
 match PT E t with
 |some m=>a9g m.ka m.k ix λkey=>a9g m.va m.v y λz=>match x with
  | .own bx none=> .get (bf+bx) λ
   | .barr u xs=>Ty.castL u m.ent xs (λes=>Cmd.set (bf+bx) (.barr m.ent (a7w (keq m.k) es key z)) (.ret ())) .fail|_=> .fail
  |_=> .fail
 |none=> .fail
def TT:M->List V->Bool
 | .dat _,_=>true| .unit,_=>true
 | .own t,cs=>match cs with| .nl::_=> !t.isEnt|_=>false
 | .owns _,cs=>match cs with| .nl::_=>true|_=>false
 | .pair a b,cs=>match VO a.size cs with|some r=>bif TT a cs then TT b r else false|none=>false
 |_,_=>false
def a6N(E:Env)(t:Nat)(m:M):Bool:=
 match Jm E t with
 |some (e,_)=>match fH E.tt e with|some j=>bif Nat.beq j.zero.length j.size then TT m j.zero else false|none=>false
 |none=>false
def XG:Operand->Operand->Bool
 | .tmp a,.tmp b=>Nat.beq a b|_,_=>false
def dI(E:Env)(q:Nat)(o:Oper):Cmd Unit:=
 match o.op with
 | .move x| .assign x=>rX x λv=>gJ E o.dst v
 | .pick c a b=>rX c λ
  | .b t=>bif t then rX a λva=>gJ E o.dst va else rX b λvb=>gJ E o.dst vb|_=> .fail
 | .alloc t=>tiC E t λi=>bif Nat.beq i.zero.length i.size then AP (U0 q o.dst) (.bcells i.zero) (gJ E o.dst (.ptr (U0 q o.dst) 0))else .fail
 | .box _ x=>rX x λv=>Jj v λcs=>AP (U0 q o.dst) (.bcells cs) (gJ E o.dst (.ptr (U0 q o.dst) 0))
 | .build t ps=>tiC E t λi=>match i.td with
  | .struct fs=>bif a5A E fs&&Nat.beq i.zero.length i.size then(TW (ps.toList.map (·.2)) λvs=>
    DI E t ((ps.toList.map (·.1)).zip vs) i.zero (λcs=>gJ E o.dst (.agg cs)))else .fail
  |_=> .fail
 | .buildSlice t n ps=>match Jm E t with
  |some (_,u)=>bif Nat.ble (n*u.size) 16777216 then(TW (ps.toList.map (·.2)) λvs=>match fH E.om t with
    |none=>zU u ((ps.toList.map (·.1)).zip vs) 0 n λxs=>AP (U0 q o.dst) (.barr u xs) (gJ E o.dst (.own (U0 q o.dst) none))
    |some m=>bif Nat.beq m.size u.size&&m.el then xh m ((ps.toList.map (·.1)).zip vs) 0 n λxs=>AP (U0 q o.dst) (.barrs m xs none) (gJ E o.dst (.own (U0 q o.dst) none))else .fail)else .fail
  |none=> .fail
 | .load t x=>rX x λp=>b5h E o.dst (U0 q o.dst) t p λv=>gJ E o.dst v
 | .store t x y=>match o.dst with|none=>rX x λp=>rX y λv=>b2Z E t p v|some _=> .fail
 | .binOp op t x y _=>rX x λa=>rX y λb=>KO E t op y a b λv=>gJ E o.dst v
 | .unOp op _ x=>rX x λa=>unC op a λv=>gJ E o.dst v
 | .convert src t x=>rX x λa=>tiC E src λj=>tiC E t λi=>match a,i.td with
  | .i _ n,.int k=>gJ E o.dst (.i k (wrap k n))| .s l,.str=>gJ E o.dst (.s l)
  |_,.str=>(match j.td with
   | .sl e=>tiC E e λk=>(match k.td with
    | .int .u8=>a7P (.int .u8) a λxs=>gJ E o.dst (.s (a8Z xs))
    |_=> .fail)
   |_=> .fail)
  |_,_=> .fail
 | .makeSlice t l c=>match fH E.om t with
  |some m=>(match Jm E t with
   |some (_,u)=>rX l λ
    | .i _ n=>bif XG l c&&Nat.beq m.size u.size&&a6N E t m then(if h:m.el=true/\m.ty=u then Cmd.opt (vk n (m.zero h.1)) λxs=>AP (U0 q o.dst) (.barrs m xs none) (.set (bf+(QT+U0 q o.dst)) (.blen (o9 xs) m.size) (gJ E o.dst (.own (U0 q o.dst) none)))else .fail)else .fail|_=> .fail
   |none=> .fail)
  |none=>match Jm E t with
  |some (_,u)=>rX l λ
   | .i _ n=>bif XG l c then
     Cmd.opt (vk n u.zero) λxs=>AP (U0 q o.dst) (.barr u xs) (gJ E o.dst (.own (U0 q o.dst) none))
    else rX c λ
     | .i _ k=>Cmd.br (rC n k 1073741824) (Cmd.opt (vk n u.zero) λxs=>AP (U0 q o.dst) (.barr u xs) (gJ E o.dst (.own (U0 q o.dst) none))) .fail|_=> .fail
   |_=> .fail
  |none=> .fail
 | .slice t x lo hi none=>rX x λv=>TW (lo.toList++hi.toList) λbs=>
   match lo,hi,bs with
   |none,none,[]=>SV E t v none none λr=>gJ E o.dst r
   |some _,none,[a]=>SV E t v (some a) none λr=>gJ E o.dst r
   |none,some _,[b]=>SV E t v none (some b) λr=>gJ E o.dst r
   |some _,some _,[a,b]=>SV E t v (some a) (some b) λr=>gJ E o.dst r|_,_,_=> .fail
 | .fieldAddr t x f=>rX x λp=>match KY E t f with
  |some (off,_,_)=>match p with
   | .ptr bx o' =>gJ E o.dst (.ptr bx (o' +off))| .ep bx ix o' =>gJ E o.dst (.ep bx ix (o' +off))| .dp u y o' =>gJ E o.dst (.dp u y (o' +off))|_=> .fail
  |none=> .fail
 | .field t x f=>rX x λp=>match KY E t f with
  |some (off,n,ag)=>VA true p λps=>Yz off n ps (λcs=>gJ E o.dst (mkV ag cs)) Cmd.fail|none=> .fail
 | .indexAddr t x ix=>rX x λv=>rX ix λn=>Ws E t v n λr=>gJ E o.dst r
 | .index t x ix=>rX x λv=>rX ix λn=>tiC E t λi=>match i.td,v,n with
  | .str,.s l,.i _ k=>Cmd.opt (sat l k) λc=>gJ E o.dst (.i .u8 c)|_,_,_=> .fail
 | .extract x n=>rX x λ
  | .tup vs=>match vs[n]? with|some v=>gJ E o.dst v|none=> .fail
  |_=> .fail
 | .nilCheck x=>rX x λv=>match v with
  | .ptr ..| .ep ..| .dp ..| .glob _=>gJ E o.dst v|_=> .fail
 | .call c=>TW c.args.toList λvs=>match c.callee with
  | .builtin .len=>(match c.argTypes.toList,vs with
   |t::_,[x]=>tiC E t λi=>b9x i.td x λv=>gJ E o.dst v
   |_,_=> .fail)
  | .builtin .append=>(match c.argTypes.toList,vs with
   |[t,t'],[x,y]=>bif Nat.beq t t' then a5E E (U0 q o.dst) t x y λv=>gJ E o.dst v else .fail
   |_,_=> .fail)
  | .builtin .min=>(match vs with|[.i k a,.i k' b]=>bif decide (k=k')then gJ E o.dst (.i k (pF a b))else .fail|_=> .fail)| .builtin .max=>(match vs with|[.i k a,.i k' b]=>bif decide (k=k')then gJ E o.dst (.i k (kK a b))else .fail|_=> .fail)| .value (.func f)=>YQ E q o.dst f vs
  | .value x=>rX x λ
   | .clos f caps=>YQ E q o.dst f (vs++caps.map b9u)|_=> .fail
  | .invoke x n=>rX x λ
   | .ifc t v=>(match WL E.ms t n with
    |some (f,none)=>YQ E q o.dst f (v::vs)
    |some (f,some e)=>NL E e v λr=>YQ E q o.dst f (r::vs)
    |none=> .fail)
   |_=> .fail
  |_=> .fail
 | .makeFunc (.func f) first caps=>bif Nat.beq first.size 0 then(match fH E.fs f with
   |some s=>TW caps.toList λvs=>BU (s.ps.drop (s.ps.length -vs.length)) vs λcs=>gJ E o.dst (.clos f cs)
   |none=> .fail)else .fail
 | .makeInterface t x=>tiC E t λi=>(match i.td with
  | .bool| .int _| .str| .ptr _=>rX x λv=>(match v with
   | .b ..| .i ..| .s ..| .ptr ..=>gJ E o.dst (.ifc t v)
   |_=> .fail)
  |_=> .fail)
 | .typeAssert x _ t ok=>tiC E t λi=>(match i.td with
  | .other=> .fail
  |_=>rX x λ
   | .ifc t' v=>bif Nat.beq t' t then gJ E o.dst (bif ok then .tup [v,.b true]else v)else .fail
   |_=> .fail)
 | .makeMap t r=>(match r with
  |none=>Lm E (U0 q o.dst) t λv=>gJ E o.dst v
  |some h=>rX h λ
   | .i _ _=>Lm E (U0 q o.dst) t λv=>gJ E o.dst v
   |_=> .fail)
 | .lookup t x ix ok=>rX x λm=>rX ix λk=>a6a E t ok m k λv=>gJ E o.dst v
 | .mapUpdate t x ix y| .insert t x ix y=>match o.dst with|none=>rX x λm=>rX ix λk=>rX y λv=>a0I E t m k v|some _=> .fail
 |_=> .fail
def pO(E:Env)(q:Nat)(ops:List Oper)(o:Oper):Cmd Unit:=
 match o.guard with
 |none=>dI E q o
 |some (j,want)=>match ops[j]? with
  |some p=>match p.dst with
   |some t=>bif Nat.blt t bf then(.get t λ
    | .b y=>bif (bif want then y else !y)then dI E q o else gJ E o.dst .un| .un=>gJ E o.dst .un
    |_=> .fail)else .fail
   |none=> .fail
  |none=> .fail
def UV{R:Type}(t:Nat)(s:St)(K:St->Option R):Option R:=
 (fF s t).force λ
  | .b y=>l9 y (K (.kv t (.b true)::s)) (K (.kv t (.b false)::s))| .un=>K s|_=>none
def b5d(ops:List Oper)(o:Oper):Option Nat:=
 match o.guard with
 |some (j,_)=>match ops[j]? with|some p=>p.dst|none=>none
 |none=>match o.op with| .pick (.tmp t) _ _=>some t|_=>none
abbrev Trs:=List Tr
def OI{R:Type}(E:Env)(q:Nat)(all:List Oper):List Oper->St->Trs->(St->Trs->Option R)->Option R
 |[],s,t,K=>K s t
 |o::r,s,t,K=>match b5d all o with
  |none=>(pO E q all o).runK s ([],[]) λ_ s' tr=>OI E q all r s' (tr::t) K
  |some p=>UV p s λs=>(pO E q all o).runK s ([],[]) λ_ s' tr=>OI E q all r s' (tr::t) K
def LW:List Nat->List Nat->Bool
 |[],[]=>true|a::r,b::q=>bif Nat.beq a b then LW r q else false|_,_=>false
def pY(o:Oper):Bool:=match o.op with| .call ..=>true|_=>false
def C_(E:Env)(o:Oper):Bool:=!pY o&&(match o.dst with|some d=>FO d E.rc|none=>false)
def a9q(E:Env)(all:List Oper)(i:Nat):Bool:=match all[i]? with|some o=>C_ E o|none=>false
def u_(all:List Oper)(i:Nat):Bool:=match all[i]? with|some o=>pY o|none=>false
def b3v{R:Type}(a b:V)(K:Option R):Option R:=
 a.force λa=>b.force λb=>match a with
  | .i k n=>(match b with| .i k' n' =>bif decide (k=k')then l9 (x8 n n') K none else none|_=>none)| .sl t xs=>(match b with| .sl u ys=>Ty.castL u t ys (λys=>l9 (deq (.sl t) xs ys) K none) none|_=>none)| .b x=>(match b with| .b y=>l9 (kU x y) K none|_=>none)| .s x=>(match b with| .s y=>l9 (seq x y) K none|_=>none)|_=>none
abbrev a6P:=List (Oper×Tr×V)
def ZP{R:Type}(E:Env)(q:Nat)(all:List Oper)(s:St):a6P->Option R->Option R
 |[],K=>K
 |(o,tr,v)::p,K=>(pO E q all o).runK s ([],[]) λ_ s2 tr2=>match o.dst with
  |some d=>bif LW tr.1 tr2.1&&LW tr.2 tr2.2&&LW tr2.2 [d]then b3v v (fF s2 d) (ZP E q all s p K)else none|none=>none
def Xi(E:Env)(o:Oper)(s:St)(tr:Tr)(p:a6P):a6P:=
 bif C_ E o then(match o.dst with|some d=>(o,tr,fF s d)::p|none=>p)else p
def BI{R:Type}(E:Env)(q:Nat)(all:List Oper):List Oper->St->Trs->a6P->(St->Trs->Option R)->Option R
 |[],s,t,_,K=>K s t
 |o::r,s,t,p,K=>match b5d all o with
  |none=>(pO E q all o).runK s ([],[]) λ_ s' tr=>bif pY o then ZP E q all s' p (BI E q all r s' (tr::t) p K)else BI E q all r s' (tr::t) (Xi E o s' tr p) K
  |some g=>UV g s λs=>(pO E q all o).runK s ([],[]) λ_ s' tr=>bif pY o then ZP E q all s' p (BI E q all r s' (tr::t) p K)else BI E q all r s' (tr::t) (Xi E o s' tr p) K
def UB(a b:List Nat):Bool:=match a with|[]=>true|k::r=>bif FO k b then false else UB r b
def a4n(ordered:Bool)(x y:Tr):Bool:=bif ordered then true else(UB x.2 y.1&&UB x.2 y.2&&UB x.1 y.2)
def UT(mask:Nat)(y:Tr):Trs->Nat->Bool
 |[],_=>true|x::r,i=>a4n (Nat.testBit mask (i -1)) x y&&UT mask y r (i -1)
def Xc:List Nat->Trs->Bool
 |m::ms,y::r=>UT m y r r.length&&Xc ms r|[],[]=>true|_,_=>false
def a6g(mask:Nat)(x:Tr):List (Nat×Tr)->Bool
 |[]=>true|(m,z)::r=>(Nat.testBit mask m || UB x.1 z.2)&&a6g mask x r
def a6p(ordered ex:Bool)(mask:Nat)(x y:Tr)(mids:List (Nat×Tr)):Bool:=
 bif ordered then true else(UB x.2 y.1&&UB x.2 y.2&&(bif UB x.1 y.2 then true else(ex&&UB x.2 x.1&&a6g mask x mids)))
def Qe(E:Env)(all:List Oper)(mask:Nat)(y:Tr)(cy:Bool):Trs->Nat->List (Nat×Tr)->Bool
 |[],_,_=>true|x::r,i,mids=>a6p (Nat.testBit mask (i -1)) (cy&&a9q E all (i -1)) mask x y mids&&Qe E all mask y cy r (i -1) ((i -1,x)::mids)
def Qh(E:Env)(all:List Oper):List Nat->Trs->Bool
 |m::ms,y::r=>Qe E all m y (u_ all r.length) r r.length []&&Qh E all ms r|[],[]=>true|_,_=>false
inductive Flow (ρ:Type) where
 |nm|ex (id:Nat)|rt (r:ρ)
def NF(acc:List Nat)(n:Nat):List Edge->Nat->Option Nat
 |[],m=>some m
 |e::r,m=>match e.ground with
  | .textOnly _=>NF acc n r m| .gcOnly _=>NF acc n r m|_=>bif Nat.blt e.on n then NF acc n r (m ||| 2^e.on ||| acc.getD (n -1 -e.on) 0)else none
def a0b:List Oper->Nat->List Nat->Option (List Nat)
 |[],_,acc=>some acc
 |o::r,n,acc=>match NF acc n o.after.toList 0 with
  |some m=>a0b r (n+1) (m::acc)|none=>none
def OD(md:Region.Mode)(done:List Nat):List Edge->Bool
 |[]=>true|e::r=>bif (!Region.binds md e || FO e.on done)then OD md done r else false
def xw(md:Region.Mode)(done:List Nat):List Oper->Nat->Option Nat
 |[],_=>none|o::r,n=>bif FO n done then xw md done r (n+1)else bif OD md done o.after.toList then some n else xw md done r (n+1)
def a5z:Nat->List Nat->Bool
 |0,_=>true|n+1,d=>FO n d&&a5z n d
def a0G(md:Region.Mode)(ops:List Oper):Nat->List Nat->Bool
 |0,d=>a5z ops.length d
 |k+1,done=>match xw md done ops 0 with|some n=>a0G md ops k (n::done)|none=>false
def Sl:List Edge->Bool
 |[]=>true
 |e::r=>match e.ground with| .textOnly _=>false| .gcOnly _=>false|_=>Sl r
def FW:List Oper->Bool|[]=>true|o::r=>bif Sl o.after.toList then FW r else false
def a9m(ops:List Oper)(t:Trs):Bool:=
 match a0b ops 0 []with
 |some ms=>bif Xc ms t then(bif FW ops then true else a0G .text ops ops.length []&&a0G .gc ops ops.length [])else false|none=>false
def a5N(E:Env)(ops:List Oper)(t:Trs):Bool:=
 match a0b ops 0 []with
 |some ms=>bif Qh E ops ms t then(bif FW ops then true else a0G .text ops ops.length []&&a0G .gc ops ops.length [])else false|none=>false
abbrev Rgs:=List (Nat×Nat)
inductive Ann where
 |leaf
 |seq (a b:Ann)|cond (a b:Ann)|blk (a:Ann)
 |loop (rs:Rgs) (hd:Sig) (xid:Nat) (xs:Sig) (body:Ann)
 |loopR (rs:Rgs) (hd:Sig) (xid:Nat) (xs:Sig) (body:Ann)
 |join (rs:Rgs) (nm:Sig) (inner:Ann)
 |joinR (rs:Rgs) (nm:Sig) (inner:Ann)
structure Ret where
 rs:List (ResultVar×MG)
 outs:List (Nat×MG)
@[reducible] def Ret.den (r:Ret):Type:=iR (r.rs.map (·.2)++r.outs.map (·.2))
def SK{α:Type}(E:Env):List ResultVar->(List V->Cmd α)->Cmd α
 |[],K=>K []| .tmp t::r,K=>bif Nat.blt t bf then(.get t λv=>SK E r λvs=>K (v::vs))else .fail| .cell a t::r,K=>bif Nat.blt a bf then(.get a λp=>NL E t p λv=>SK E r λvs=>K (v::vs))else .fail
def RZ{α:Type} :List Nat->(List V->Cmd α)->Cmd α
 |[],K=>K []
 |n::r,K=>bif Nat.blt n bf then .get n λv=>(match v with
  | .ptr bx 0=> .get (bf+bx) λ
   | .bcells cs=>Cmd.set (bf+bx) .dead (RZ r λvs=>K (.agg cs::vs))|_=> .fail
  | .ifc _ u=>(match u with
   | .ptr bx 0=> .get (bf+bx) λ
    | .bcells cs=>Cmd.set (bf+bx) .dead (RZ r λvs=>K (.agg cs::vs))|_=> .fail
   |_=> .fail)
  | .own bx none=>RZ r λvs=>K (.own bx none::vs)
  |_=> .fail)else .fail
def b4x(E:Env)(r:Ret):Cmd r.den:=
 SK E (r.rs.map (·.1)) λvs=>RZ (r.outs.map (·.1)) λws=>NH CP (r.rs.map (·.2)++r.outs.map (·.2)) (vs++ws) .ret
def Ann.l:Ann->Ann| .seq a _=>a| .cond a _=>a| .blk a=>a|_=> .leaf
def Ann.r:Ann->Ann| .seq _ b=>b| .cond _ b=>b|_=> .leaf
def Ac:Code->Nat
 | .region ..=>2| .seq x y=>1+Ac x+Ac y| .cond _ x y=>1+Ac x+Ac y| .block _ x=>1+Ac x| .loop x=>3+Ac x|_=>1
abbrev Den(ρ:Type):=Nat->Ann->St->Rgs->(R:Type)->(Flow ρ->St->Rgs->Option R)->Option R
def a7o(lo hi:Nat):Rgs->Bool|[]=>false|(a,b)::r=>bif Nat.ble a lo&&Nat.ble hi b then true else a7o lo hi r
def VF(lim:Nat)(rs:Rgs):Rgs->Bool|[]=>true|(a,b)::w=>bif Nat.ble lim a || a7o a b rs then VF lim rs w else false
def PM(ks:List Nat)(w:Rgs):Rgs:=match ks with|[]=>w|k::r=>(k,k+1)::PM r w
def FN(rs:Rgs)(s:St):St:=match rs with|[]=>s|(a,b)::r=> .mask a b::FN r s
def NK{R:Type}(q:Nat)(sg:Sig)(rs:Rgs)(s:St)(w:Rgs)(K:rD sg->Option R):Option R:=
 (a9s sg).runK s ([],[]) λx _ tr=>bif VF (bf+CB*q) rs (PM tr.2 w)then K x else none
def enter{R:Type}(q:Nat)(sg:Sig)(rs:Rgs)(s:St)(x:rD sg)(K:St->Rgs->Option R):Option R:=
 (a9n sg x (CB*q) (CB*q+CB)).runK (FN rs s) ([],[]) λ_ s' tr=>K s' (PM tr.2 rs)
def Vm(a b:Rgs):Rgs:=match a with|[]=>b|x::r=>x::Vm r b
def KA{ρ:Type}(core:Den ρ):Den ρ:=λq a s w R K=>
 match a with
 | .join rs nm a=>o5 (core (q+1) a s [] (rD nm) λfl s' w' =>match fl with
   | .nm=>NK q nm rs s' w' some
   |_=>none) λx=>enter q nm rs s x λs' w' =>K .nm s' (Vm w' w)
 | .joinR rs nm a=>o5 (core (q+1) a s [] (rD nm⊕ρ) λfl s' w' =>match fl with
   | .nm=>NK q nm rs s' w' λx=>some (Sum.inl x)| .rt r=>some (Sum.inr r)
   |_=>none) λo=>aj o (λx=>enter q nm rs s x λs' w' =>K .nm s' (Vm w' w)) (λr=>K (.rt r) [] [])
 |a=>core (q+1) a s w R K
def b1x{ρ:Type}(core:Den ρ)(q:Nat)(rs:Rgs)(hd:Sig)(xid:Nat)(xs:Sig)(a:Ann)(s:St)(x:rD hd):Option (rD hd⊕rD xs):=
 enter q hd rs s x λs w=>core (q+2) a s w (rD hd⊕rD xs) λfl s' w' =>match fl with
  | .nm=>NK q hd rs s' w' λx=>some (Sum.inl x)
  | .ex id=>bif Nat.beq id xid then NK q xs rs s' w' λy=>some (Sum.inr y)else none| .rt _=>none
def b1y{ρ:Type}(core:Den ρ)(q:Nat)(rs:Rgs)(hd:Sig)(xid:Nat)(xs:Sig)(a:Ann)(s:St)(x:rD hd):Option (Out (rD hd) (rD xs) ρ):=
 enter q hd rs s x λs w=>core (q+2) a s w (Out (rD hd) (rD xs) ρ) λfl s' w' =>match fl with
  | .nm=>NK q hd rs s' w' λx=>some (.nx x)
  | .ex id=>bif Nat.beq id xid then NK q xs rs s' w' λy=>some (.ex y)else none| .rt r=>some (.rt r)
def a1V{ρ:Type}(core:Den ρ):Den ρ:=λq a s w R K=>
 match a with
 | .loop rs hd xid xs a=>NK q hd rs s [] λx0=>
  o5 (aS (λx=>b1x core q rs hd xid xs a s x) x0) λy=>enter (q+1) xs rs s y λs' w' =>K (.ex xid) s' (Vm w' w)
 | .loopR rs hd xid xs a=>NK q hd rs s [] λx0=>
  o5 (X7 (λx=>b1y core q rs hd xid xs a s x) x0) λo=>aj o (λy=>enter (q+1) xs rs s y λs' w' =>K (.ex xid) s' (Vm w' w)) (λr=>K (.rt r) [] [])
 |_=>none
def Ec(t:Trs)(w:Rgs):Rgs:=match t with|[]=>w|x::r=>PM x.2 (Ec r w)
def a0m{R:Type}(E:Env)(q:Nat)(ops:Array Oper)(draw:Bool)(s:St)(w:Rgs)(K:St->Rgs->Option R):Option R:=
 match E.rc with
 |[]=>OI E q ops.toList ops.toList s [] λs' t=>
  bif draw then(bif a9m ops.toList t then K s' (Ec t w)else none)else K s' (Ec t w)
 |_::_=>BI E q ops.toList ops.toList s [] [] λs' t=>
  bif draw then(bif a5N E ops.toList t then K s' (Ec t w)else none)else K s' (Ec t w)
def den(E:Env)(rt:Ret):Code->Den rt.den
 | .skip=>KA λ_ _ s w _ K=>K .nm s w
 | .label _=>KA λ_ _ s w _ K=>K .nm s w
 | .region _ ops draw=>KA λq _ s w _ K=>a0m E q ops draw s w λs' w' =>K .nm s' w'
 | .seq x y=>KA λq a s w R K=>den E rt x q a.l s w R λfl s' w' =>match fl with
   | .nm=>den E rt y (q+Ac x) a.r s' w' R K| .ex id=>K (.ex id) s' w'| .rt r=>K (.rt r) s' w'
 | .cond c x y=>KA λq a s w R K=>(rX c λv=>Cmd.ret v:Cmd V).runK s ([],[]) λv s' _=>match v with
   | .b t=>l9 t (den E rt x q a.l s' w R K) (den E rt y (q+Ac x) a.r s' w R K)|_=>none
 | .block id x=>KA λq a s w R K=>den E rt x q a.l s w R λfl s' w' =>match fl with
   | .nm=>K .nm s' w'| .ex j=>bif Nat.beq j id then K .nm s' w' else K (.ex j) s' w'| .rt r=>K (.rt r) s' w'
 | .loop x=>KA (a1V λq a s w R K=>den E rt x q a s w R K)
 | .exit id=>KA λ_ _ s w _ K=>K (.ex id) s w
 | .ret=>KA λ_ _ s _ _ K=>(b4x E rt).runK s ([],[]) λr _ _=>K (.rt r) [] []
 |_=>λ_ _ _ _ _ _=>none
def mD:List MG->Nat->List Nat
 |[],_=>[]|(_,.box _)::ms,n=>n::mD ms (n+1)|(_,.ifc _ (.box _))::ms,n=>n::mD ms (n+1)|(_,.ownb _)::ms,n=>n::mD ms (n+1)|_::ms,n=>mD ms (n+1)
def b3c:List Nat->List Nat->Bool
 |[],_=>true|a::r,b=>bif FO a b then b3c r b else false
def b3R(E:Env)(ps:List MG)(rt:Ret)(body:Code)(a:Ann)(x:iR ps):Option rt.den:=
 bif Nat.ble ps.length E.nt&&LW (rt.outs.map (·.1)) (mD ps 0)&&b3c (rt.outs.map (·.1)) E.kp then
 (NG ps x 0 λvs n=>bif Nat.ble n CB then XI (List.range vs.length) vs else .fail).runK [] ([],[]) λ_ s _=>
  den E rt body 1 a s [] rt.den λfl s' _=>match fl with
   | .rt r=>some r
   | .nm=>(b4x E rt).runK s' ([],[]) λr _ _=>some r| .ex _=>none
 else none
end Go.GP
namespace Go.GP
open RowKit
def fD(h:Array Obj)(blk off n:Nat):Option (List Value):=
 match h[blk]? with
 |some (.cells c _ _)=>if off+n<=c.size then some ((c.toList.drop off).take n)else none|_=>none
theorem uj{h h' :Array Obj}{blk:Nat}(e:h'[blk]? =h[blk]?)(off n:Nat):fD h' blk off n=fD h blk off n:=by simp[fD,e]
theorem qN{h:Array Obj}{blk off n:Nat}{es:List Value}(e:fD h blk off n=some es):es.length=n:=by
 unfold fD at e;split at e
 ·split at e
  ·cases e;simp;omega
  ·cases e
 ·cases e
theorem nP{h:Array Obj}{blk:Nat}{c:Array Value}{T:TypeId}{f:Nat×Nat}(hb:h[blk]? =some (.cells c T f))(off n:Nat)(hn:off+n<=c.size):
  fD h blk off n=some ((c.toList.drop off).take n):=by simp[fD,hb,hn]
theorem xk{h:Array Obj}{blk off n:Nat}{es:List Value}(e:fD h blk off n=some es):
  ∃c T f,h[blk]? =some (.cells c T f)/\off+n<=c.size/\es=(c.toList.drop off).take n:=by
 unfold fD at e;split at e
 ·rename_i c T f hb;split at e
  ·cases e;exact⟨c,T,f,hb,by assumption,rfl⟩
  ·cases e
 ·cases e
theorem Dq{h:Array Obj}{blk off n:Nat}{es:List Value}(e:fD h blk off n=some es)(a k:Nat)(hk:a+k<=n):
  fD h blk (off+a) k=some ((es.drop a).take k):=by
 obtain⟨c,T,f,hb,hn,rfl⟩:=xk e;rw[nP hb _ _ l7];congr 1;rw[jY,gV,Z9];congr 1;omega
def uV(ag:Bool)(v:Value):List Value:=match ag with
 |true=>v.cells.toList|false=>[v]
def gok(ag:Bool)(v:Value):Prop:=match ag with
 |true=>∃arr,v= .agg arr|false=>v.oneCell' =true
def AX(t:Ty)(e:MapEntry):List Value:=match t with
 | .ent ka va _ _=>uV ka e.key++uV va e.val|_=>[]
def Pm(t:Ty)(e:MapEntry):Prop:=match t with
 | .ent ka va k v=>gok ka e.key/\gok va e.val/\(uV ka e.key).length=k.size|_=>False
def mJ(h:Array Obj)(ok:Nat->Ty->Prop):(t:Ty)->t.den->List Value->Prop
 | .ent _ _ a b,x,cs=>∃c d,cs=c++d/\mJ h ok a x.1 c/\mJ h ok b x.2 d| .bool,x,cs=>cs=[.bool x]| .int k,n,cs=>cs=[.int k n]| .str,l,cs=>cs=[.string ⟨l.toArray⟩]| .prod a b,x,cs=>∃c d,cs=c++d/\mJ h ok a x.1 c/\mJ h ok b x.2 d| .unit,_,cs=>cs=[]
 | .sl t,xs,cs=>(t.isEnt=false/\∃a cap,cs=[.slice a xs.length cap]/\xs.length<=cap/\
   ∀i x,xs[i]? =some x->∃blk off es,a=some ⟨blk,off,none⟩/\ok blk t/\fD h blk (off+i*t.size) t.size=some es/\mJ h ok t x es)\/
   (t.isEnt=true/\∃mv,cs=[.map mv]/\(mv=none->xs=[])/\∀blk,mv=some blk->ok blk t/\∃(es:Array MapEntry) (ck:Nat),h[blk]? =some (.map es ck)/\es.size=(xs:List t.den).length/\
    ∀(i:Nat) (x:t.den),(xs:List t.den)[i]? =some x->∃e:MapEntry,es[i]? =some e/\Pm t e/\mJ h ok t x (AX t e))
theorem Ea{h:Array Obj}{ok:Nat->Ty->Prop}{t:Ty}{xs:List t.den}{cs:List Value}(ht:t.isEnt=false):mJ h ok (.sl t) xs cs↔∃a cap,cs=[.slice a xs.length cap]/\xs.length<=cap/\
   ∀i x,xs[i]? =some x->∃blk off es,a=some ⟨blk,off,none⟩/\ok blk t/\fD h blk (off+i*t.size) t.size=some es/\mJ h ok t x es:=by
 constructor
 ·rintro(h|h)
  ·exact h.2
  ·rw[ht]at h;cases h.1
 ·exact λh=> .inl ⟨ht,h⟩
theorem a4E{h:Array Obj}{ok:Nat->Ty->Prop}{t:Ty}{xs:List t.den}{cs:List Value}(ht:t.isEnt=true):mJ h ok (.sl t) xs cs↔∃mv,cs=[.map mv]/\(mv=none->xs=[])/\∀blk,mv=some blk->ok blk t/\∃(es:Array MapEntry) (ck:Nat),h[blk]? =some (.map es ck)/\es.size=(xs:List t.den).length/\
    ∀(i:Nat) (x:t.den),(xs:List t.den)[i]? =some x->∃e:MapEntry,es[i]? =some e/\Pm t e/\mJ h ok t x (AX t e):=by
 constructor
 ·rintro(h|h)
  ·rw[ht]at h;cases h.1
  ·exact h.2
 ·exact λh=> .inr ⟨ht,h⟩
theorem ik{h:Array Obj}{ok:Nat->Ty->Prop} :∀{t:Ty} {x:t.den} {cs:List Value},mJ h ok t x cs->cs.length=t.size
 | .bool,_,_,e=>by simp[mJ]at e;simp[e,Ty.size]| .int _,_,_,e=>by simp[mJ]at e;simp[e,Ty.size]| .str,_,_,e=>by simp[mJ]at e;simp[e,Ty.size]| .unit,_,_,e=>by simp[mJ]at e;simp[e,Ty.size]| .prod a b,_,_,e=>by obtain⟨c,d,rfl,h1,h2⟩:=e;simp[ik h1,ik h2,Ty.size]
 | .ent _ _ a b,_,_,e=>by obtain⟨c,d,rfl,h1,h2⟩:=e;simp[ik h1,ik h2,Ty.size]
 | .sl t,_,_,e=>by rcases e with⟨_,a,cap,rfl,_⟩|⟨_,mv,rfl,_⟩<;>simp[Ty.size]
theorem fB{h h' :Array Obj}{ok ok' :Nat->Ty->Prop}(hok:∀b t,ok b t->ok' b t)(hh:∀b t,ok b t->h'[b]? =h[b]?):
  ∀{t:Ty} {x:t.den} {cs:List Value},mJ h ok t x cs->mJ h' ok' t x cs
 | .bool,_,_,e=>e| .int _,_,_,e=>e| .str,_,_,e=>e| .unit,_,_,e=>e| .prod a b,_,_,e=>by obtain⟨c,d,rfl,h1,h2⟩:=e;exact⟨c,d,rfl,fB hok hh h1,fB hok hh h2⟩
 | .ent _ _ a b,_,_,e=>by obtain⟨c,d,rfl,h1,h2⟩:=e;exact⟨c,d,rfl,fB hok hh h1,fB hok hh h2⟩
 | .sl t,xs,_,e=>by
  rcases e with⟨ht,a,cap,rfl,hc,hx⟩|⟨ht,mv,rfl,hn,hx⟩
  ·refine .inl ⟨ht,a,cap,rfl,hc,λi x hi=>?_⟩;obtain⟨blk,off,es,ha,hb,he,hr⟩:=hx i x hi;exact⟨blk,off,es,ha,hok _ _ hb,by rw[uj (hh _ _ hb)];exact he,fB hok hh hr⟩
  ·refine .inr ⟨ht,mv,rfl,hn,λblk hb=>?_⟩;obtain⟨ho,es,ck,he,hs,hi⟩:=hx blk hb;refine⟨hok _ _ ho,es,ck,by rw[hh _ _ ho];exact he,hs,λi x hx=>?_⟩;obtain⟨e,h1,h2,h3⟩:=hi i x hx;exact⟨e,h1,h2,fB hok hh h3⟩
theorem BH{h h' :Array Obj}{ok ok' :Nat->Ty->Prop} :∀{t:Ty} {x:t.den} {cs:List Value},t.flat=true->mJ h ok t x cs->mJ h' ok' t x cs
 | .bool,_,_,_,e=>e| .int _,_,_,_,e=>e| .str,_,_,_,e=>e| .unit,_,_,_,e=>e| .prod a b,_,_,f,e=>by simp[Ty.flat]at f;obtain⟨c,d,rfl,h1,h2⟩:=e;exact⟨c,d,rfl,BH f.1 h1,BH f.2 h2⟩
 | .sl t,xs,_,f,e=>by simp[Ty.flat]at f| .ent ..,xs,_,f,e=>by simp[Ty.flat]at f
theorem xP{h:Array Obj}{ok:Nat->Ty->Prop} :∀{t:Ty} {x:t.den} {cs:List Value},mJ h ok t x cs->∀v∈cs,v.oneCell' =true
 | .bool,_,_,e=>by simp[mJ]at e;subst e;simp[Value.oneCell']| .int _,_,_,e=>by simp[mJ]at e;subst e;simp[Value.oneCell']| .str,_,_,e=>by simp[mJ]at e;subst e;simp[Value.oneCell']| .unit,_,_,e=>by simp[mJ]at e;subst e;simp| .prod a b,_,_,e=>by
  obtain⟨c,d,rfl,h1,h2⟩:=e;intro v hv;rcases D8.1 hv with hv|hv
  ·exact xP h1 v hv
  ·exact xP h2 v hv
 | .ent _ _ a b,_,_,e=>by
  obtain⟨c,d,rfl,h1,h2⟩:=e;intro v hv;rcases D8.1 hv with hv|hv
  ·exact xP h1 v hv
  ·exact xP h2 v hv
 | .sl t,xs,_,e=>by rcases e with⟨_,a,cap,rfl,_⟩|⟨_,mv,rfl,_⟩<;>simp[Value.oneCell']
theorem zK{h:Array Obj}{ok ok' :Nat->Ty->Prop} :∀{t:Ty} {x:t.den} {cs:List Value},(∀b u,ok b u->Ty.occ u t=true->ok' b u)->mJ h ok t x cs->mJ h ok' t x cs
 | .bool,_,_,_,e=>e| .int _,_,_,_,e=>e| .str,_,_,_,e=>e| .unit,_,_,_,e=>e| .prod a b,_,_,f,e=>by obtain⟨c,d,rfl,h1,h2⟩:=e;exact⟨c,d,rfl,zK (λb u h k=>f b u h (by simp[Ty.occ,k])) h1,zK (λb u h k=>f b u h (by simp[Ty.occ,k])) h2⟩
 | .ent _ _ a b,_,_,f,e=>by obtain⟨c,d,rfl,h1,h2⟩:=e;exact⟨c,d,rfl,zK (λb u h k=>f b u h (by simp[Ty.occ,k])) h1,zK (λb u h k=>f b u h (by simp[Ty.occ,k])) h2⟩
 | .sl t,xs,_,f,e=>by
  rcases e with⟨ht,a,cap,rfl,hc,hx⟩|⟨ht,mv,rfl,hn,hx⟩
  ·refine .inl ⟨ht,a,cap,rfl,hc,λi x hi=>?_⟩;obtain⟨blk,off,es,ha,hb,he,hr⟩:=hx i x hi;exact⟨blk,off,es,ha,f _ _ hb (by simp[Ty.occ]),he,zK (λb u h k=>f b u h (by simp[Ty.occ,k])) hr⟩
  ·refine .inr ⟨ht,mv,rfl,hn,λblk hb=>?_⟩;obtain⟨ho,es,ck,he,hs,hi⟩:=hx blk hb;refine⟨f _ _ ho (by simp[Ty.occ]),es,ck,he,hs,λi x hx=>?_⟩;obtain⟨e,h1,h2,h3⟩:=hi i x hx;exact⟨e,h1,h2,zK (λb u h k=>f b u h (by simp[Ty.occ,k])) h3⟩
inductive Loc where
 |nil|arr (blk off len cap sz:Nat)|st (blk:Nat)|mp (blk:Nat)
structure Mp where
 loc:Nat->Option Loc
 kid:Nat->List Nat
instance:CoeFun Mp (λ_=>Nat->Option Loc):=⟨Mp.loc⟩
def nom:Mp:=⟨λ_=>none,λ_=>[]⟩
structure Cx where
 h:Array Obj
 ok:Nat->Ty->Prop
 m:Mp
def Loc.view:Loc->Option (Nat×Nat)->Value->Prop
 | .nil,none,v=>v= .slice none 0 0| .nil,some (lo,hi),v=>lo=0/\hi=0/\v= .slice none 0 0| .arr blk off len cap _,none,v=>v= .slice (some ⟨blk,off,none⟩) len cap| .arr blk off len cap sz,some (lo,hi),v=>lo<=hi/\hi<=len/\v= .slice (some (if cap=lo then⟨blk,off,none⟩else⟨blk,off+lo*sz,none⟩)) (hi -lo) (cap -lo)| .st _,_,_=>False| .mp b,none,v=>v= .map (some b)| .mp _,some _,_=>False
def Loc.blks:Loc->List Nat
 | .nil=>[]| .arr b _ _ _ _=>[b]| .st b=>[b]| .mp b=>[b]
def a3O(h:Array Obj)(ok:Nat->Ty->Prop)(t:Ty)(x:t.den)(o:Nat)(v:Value):Prop:=
 ∃blk off es,v= .pointer (some ⟨blk,off+o,none⟩)/\ok blk t/\fD h blk off t.size=some es/\mJ h ok t x es
def Fh(h:Array Obj)(ok:Nat->Ty->Prop):List ((t:Ty)×t.den)->List Value->Prop
 |[],vs=>vs=[]|c::cs,vs=>∃v r,vs=v::r/\a3O h ok c.1 c.2 0 v/\Fh h ok cs r
def zf(C:Cx):V->Value->Prop
 | .undef,_=>True| .un,v=>v=Go.undef| .b x,v=>v= .bool x| .i k n,v=>v= .int k n| .s l,v=>v= .string ⟨l.toArray⟩| .nl,v=>v= .slice none 0 0| .ne b,v=>∃a c,v= .slice a 0 c/\a.isNone=b| .sl t xs,v=>mJ C.h C.ok (.sl t) xs [v]| .own bx vw,v=>∃loc,C.m bx=some loc/\loc.view vw v| .ptr bx o,v=>∃blk,C.m bx=some (.st blk)/\v= .pointer (some ⟨blk,o,none⟩)| .ep bx ix o,v=>∃blk off len cap sz,C.m bx=some (.arr blk off len cap sz)/\ix<len/\v= .pointer (some ⟨blk,off+ix*sz+o,none⟩)| .dp t x o,v=>a3O C.h C.ok t x o v| .glob g,v=>v= .pointer (some ⟨g,0,none⟩)| .fnv f,v=>v= .func (.func f) #[] #[]| .clos f caps,v=>∃vs,v= .func (.func f) #[] vs/\Fh C.h C.ok caps vs.toList| .ifc t c,v=>∃u,v= .iface t u/\u.oneCell' =true/\zf C c u|_,_=>False
def iP(C:Cx):List V->List Value->Prop
 |[],vs=>vs=[]|c::cs,vs=>∃v r,vs=v::r/\zf C c v/\v.oneCell' =true/\iP C cs r
def Xx(C:Cx):V->Value->Prop
 | .agg cs,v=>∃arr,v= .agg arr/\iP C cs arr.toList|c,v=>zf C c v
def a0p(C:Cx):List V->List Value->Prop
 |[],vs=>vs=[]|c::cs,vs=>∃v r,vs=v::r/\Xx C c v/\a0p C cs r
def pg(C:Cx):V->Value->Prop
 | .tup cs,v=>∃arr,v= .tuple arr/\a0p C cs arr.toList|c,v=>Xx C c v
def arrOk(C:Cx)(t:Ty)(xs:List t.den):Loc->Prop
 | .nil=>xs=[]/\t.isEnt=false| .arr blk off len cap sz=>t.isEnt=false/\sz=t.size/\len=xs.length/\len<=cap/\∃c T,C.h[blk]? =some (.cells c T (0,0))/\off+cap*sz<=c.size/\
   ∀i x,xs[i]? =some x->∃es,fD C.h blk (off+i*sz) sz=some es/\mJ C.h C.ok t x es
 | .st _=>False| .mp blk=>t.isEnt=true/\∃(es:Array MapEntry) (ck:Nat),C.h[blk]? =some (.map es ck)/\es.size=xs.length/\
   ∀(i:Nat) (x:t.den),(xs:List t.den)[i]? =some x->∃e:MapEntry,es[i]? =some e/\Pm t e/\mJ C.h C.ok t x (AX t e)
def DN{α:Type}(h:Array Obj)(sz:Nat)(R:Nat->α->List Value->List Nat->Prop)(xs:List α)(Os:List (List Nat)):Loc->Prop
 | .nil=>xs=[]/\Os=[]| .arr blk off len cap sz' =>sz' =sz/\len=xs.length/\len<=cap/\Os.length=xs.length/\∃c T,h[blk]? =some (.cells c T (0,0))/\off+cap*sz<=c.size/\
   ∀i x,xs[i]? =some x->∃es O,Os[i]? =some O/\fD h blk (off+i*sz) sz=some es/\R i x es O
 | .st _=>False| .mp _=>False
def qy(h:Array Obj)(ok:Nat->Ty->Prop):(m:M)->Option Nat->m.den->List Value->List Nat->Prop
 | .dat t,_,x,cs,O=>mJ h ok t x cs/\O=[]| .own t,ho,xs,cs,O=>∃v,cs=[v]/\v.oneCell' =true/\(match ho with|some 0=>O=[]|_=>∃l,l.view none v/\arrOk ⟨h,ok,nom⟩ t xs l/\O=l.blks)| .pair a b,ho,x,cs,O=>∃c d O1 O2,cs=c++d/\O=O1++O2/\qy h ok a (match ho with|some o=>if o<a.size then some o else none|none=>none) x.1 c O1/\
   qy h ok b (match ho with|some o=>if o<a.size then none else some (o -a.size)|none=>none) x.2 d O2
 | .unit,_,_,cs,O=>cs=[]/\O=[]| .box m,_,x,cs,O=>∃blk arr T O',cs=[.pointer (some ⟨blk,0,none⟩)]/\h[blk]? =some (.cells arr T (0,0))/\qy h ok m none x arr.toList O' /\O=blk::O'| .owns m,ho,xs,cs,O=>∃v,cs=[v]/\v.oneCell' =true/\(match ho with|some 0=>O=[]|_=>m.el=true/\∃l Os,l.view none v/\DN h m.size (λ_ x es O=>qy h ok m none x es O) xs Os l/\O=l.blks++Os.flatten)| .ownb t,_,xs,cs,O=>∃l v,cs=[v]/\l.view none v/\arrOk ⟨h,ok,nom⟩ t xs l/\O=l.blks| .rp t,_,x,cs,O=>∃v,cs=[v]/\a3O h ok t x 0 v/\O=[]| .fn f ts,_,x,cs,O=>∃vs,cs=[.func (.func f) #[] vs]/\Fh h ok (Tf ts x) vs.toList/\O=[]| .ifc t m,_,x,cs,O=>∃u,cs=[.iface t u]/\qy h ok m none x [u] O| .cell b,_,x,cs,O=>∃v,cs=[v]/\v.oneCell' =true/\(b=some none->v= .slice none 0 0)/\(∀b',b=some (some b')->∃a c,v= .slice a 0 c/\a.isNone=b')/\O=[]| .fr t,_,xs,cs,O=>∃l v,cs=[v]/\l.view none v/\arrOk ⟨h,ok,nom⟩ t xs l/\(∀b∈l.blks,ok b t)/\O=[]
def Yi(hole:Option (Nat×Nat×Option Nat))(i:Nat):Option Nat:=match hole with|some (j,o,_)=>if i=j then some o else none|none=>none
def Wp(C:Cx)(sz:Nat)(l:Loc):Option (Nat×Nat×Option Nat)->Prop
 |none=>True|some (_,_,none)=>True|some (i,o,some n)=>∃blk off len cap u l',l= .arr blk off len cap sz/\fD C.h blk (off+i*sz+o) 1=some [u]/\C.m n=some l' /\l'.view none u
def a5G(C:Cx)(m:M)(xs:List m.den)(hole:Option (Nat×Nat×Option Nat))(Os:List (List Nat))(l:Loc):Prop:=
 DN C.h m.size (λi x es O=>qy C.h C.ok m (Yi hole i) x es O) xs Os l/\Wp C m.size l hole
def Gi(C:Cx)(n:Nat):V->Prop
 | .bcells cs=>∃blk arr T,C.m n=some (.st blk)/\C.h[blk]? =some (.cells arr T (0,0))/\iP C cs arr.toList| .barr t xs=>∃loc,C.m n=some loc/\arrOk C t xs loc| .bfrz t xs=>∃loc,C.m n=some loc/\arrOk C t xs loc/\(∀blk,blk∈loc.blks->C.ok blk t)| .barrs m xs hole=>m.el=true/\∃loc Os,C.m n=some loc/\a5G C m xs hole Os loc/\C.m.kid n=Os.flatten| .bfc t x=>∃blk es,C.m n=some (.st blk)/\C.ok blk t/\fD C.h blk 0 t.size=some es/\mJ C.h C.ok t x es| .gone t=>∃l,C.m n=some l/\∀blk off len cap sz,l= .arr blk off len cap sz->sz=t.size| .blen ln sz=>∃k l,n=QT+k/\C.m k=some l/\(match l with| .arr _ _ len _ sz' =>ln=(len:Int)/\sz=sz'| .nil=>ln=0| .st _=>False| .mp _=>False)|_=>True
def Y5(m:Mp)(n:Nat):V->List Nat
 | .bcells _=>match m n with|some (.st blk)=>[blk]|_=>[]
 | .barr _ _=>match m n with|some (.arr blk _ _ _ _)=>[blk]|some (.mp blk)=>[blk]|_=>[]
 | .barrs _ _ _=>(match m n with|some (.arr blk _ _ _ _)=>[blk]|_=>[])++m.kid n|_=>[]
def b0y:V->List Ty
 | .barr t _=>[t]| .barrs m _ _=>m.ty::m.owned|_=>[]
structure Cx.le (C D:Cx):Prop where
 ok:∀b t,C.ok b t->D.ok b t
 h:∀b t,C.ok b t->D.h[b]? =C.h[b]?
 m:∀n l,C.m n=some l->D.m n=some l
theorem Cx.le.refl(C:Cx):C.le C:=⟨λ_ _ h=>h,λ_ _ _=>rfl,λ_ _ h=>h⟩
theorem Cx.le.trans{A B C:Cx}(h:A.le B)(k:B.le C):A.le C:=
 ⟨λb t x=>k.ok _ _ (h.ok _ _ x),λb t x=>(k.h _ _ (h.ok _ _ x)).trans (h.h _ _ x),λn l x=>k.m _ _ (h.m _ _ x)⟩
theorem MQ{h h' :Array Obj}{ok ok' :Nat->Ty->Prop}(hok:∀b t,ok b t->ok' b t)(hh:∀b t,ok b t->h'[b]? =h[b]?){t:Ty}{x:t.den}{o:Nat}{v:Value}(hr:a3O h ok t x o v):a3O h' ok' t x o v:=by obtain⟨b,o',es,hv,hb,hc,hp⟩:=hr;exact⟨b,o',es,hv,hok _ _ hb,by rw[uj (hh _ _ hb)];exact hc,fB hok hh hp⟩
theorem KQ{h h' :Array Obj}{ok ok' :Nat->Ty->Prop}(hok:∀b t,ok b t->ok' b t)(hh:∀b t,ok b t->h'[b]? =h[b]?):∀{cs:List ((t:Ty)×t.den)} {vs:List Value},Fh h ok cs vs->Fh h' ok' cs vs
 |[],_,hr=>hr|_::_,_,⟨v,r,e,h1,h2⟩=>⟨v,r,e,MQ hok hh h1,KQ hok hh h2⟩
theorem a6v{C D:Cx}(h:C.le D):∀{c:V} {v:Value},zf C c v->zf D c v:=by
 intro c;induction c using V.rec (motive_2:=λ_=>True)<;>try trivial
 all_goals
  intro v hr;simp only[zf]at hr ⊢
  try exact hr
 case sl t xs=>exact fB h.ok h.h hr
 case own bx vw=>obtain⟨l,hm,hv⟩:=hr;exact⟨l,h.m _ _ hm,hv⟩
 case ptr bx o=>obtain⟨b,hm,hv⟩:=hr;exact⟨b,h.m _ _ hm,hv⟩
 case ep bx ix o=>obtain⟨b,o',l,c,s,hm,hv⟩:=hr;exact⟨b,o',l,c,s,h.m _ _ hm,hv⟩
 case dp t x o=>exact MQ h.ok h.h hr
 case clos f caps=>obtain⟨vs,e,hc⟩:=hr;exact⟨vs,e,KQ h.ok h.h hc⟩
 case ifc t c ih=>obtain⟨u,e,h1,hc⟩:=hr;exact⟨u,e,h1,ih hc⟩
theorem Hq{C D:Cx}(h:C.le D):∀{cs:List V} {vs:List Value},iP C cs vs->iP D cs vs
 |[],_,hr=>hr|_::_,_,⟨v,r,e,h1,h2,h3⟩=>⟨v,r,e,a6v h h1,h2,Hq h h3⟩
theorem a6u{C D:Cx}(h:C.le D){c:V}{v:Value}(hr:Xx C c v):Xx D c v:=by
 cases c<;>simp only[Xx]at hr ⊢<;>try exact a6v h hr
 case agg cs=>obtain⟨arr,e,hl⟩:=hr;exact⟨arr,e,Hq h hl⟩
theorem a6w{C D:Cx}(h:C.le D):∀{cs:List V} {vs:List Value},a0p C cs vs->a0p D cs vs
 |[],_,hr=>hr|_::_,_,⟨v,r,e,h1,h3⟩=>⟨v,r,e,a6u h h1,a6w h h3⟩
theorem Qx{C D:Cx}(h:C.le D){c:V}{v:Value}(hr:pg C c v):pg D c v:=by
 cases c<;>simp only[pg]at hr ⊢<;>try exact a6u h hr
 case tup cs=>obtain⟨arr,e,hl⟩:=hr;exact⟨arr,e,a6w h hl⟩
theorem xf{h h' :Array Obj}{ok ok' :Nat->Ty->Prop}{m m' :Mp}{t:Ty}{xs:List t.den}{l:Loc}(hok:∀b t,ok b t->ok' b t)(hh:∀b t,ok b t->h'[b]? =h[b]?)
  (hb:∀b∈l.blks,h'[b]? =h[b]?) (hr:arrOk ⟨h,ok,m⟩ t xs l):arrOk ⟨h',ok',m'⟩ t xs l:=by
 cases l with
 |nil=>exact hr|st b=>exact hr|mp blk=>have e:=hb blk (by simp[Loc.blks]);obtain⟨h1,es,ck,h2,h3,h4⟩:=hr;refine⟨h1,es,ck,by show h'[blk]? =_;rw[e];exact h2,h3,λi x hi=>?_⟩;obtain⟨en,a1,a2,a3⟩:=h4 i x hi;exact⟨en,a1,a2,fB hok hh a3⟩
 |arr blk off len cap sz=>have e:=hb blk (by simp[Loc.blks]);obtain⟨h0,h1,h2,h3,c,T,h4,h5,h6⟩:=hr;refine⟨h0,h1,h2,h3,c,T,by show h'[blk]? =_;rw[e];exact h4,h5,λi x hi=>?_⟩;obtain⟨es,he,hp⟩:=h6 i x hi;exact⟨es,by show fD h' _ _ _=_;rw[uj e];exact he,fB hok hh hp⟩
theorem a0Y{C D:Cx}(h:C.le D){t:Ty}{xs:List t.den}{l:Loc}(hb:∀b∈l.blks,D.h[b]? =C.h[b]?)(hr:arrOk C t xs l):arrOk D t xs l:=
 xf h.ok h.h hb hr
theorem Gx{α:Type}{h h' :Array Obj}{sz:Nat}{R R' :Nat->α->List Value->List Nat->Prop}{xs:List α}{Os:List (List Nat)}{l:Loc}(hb:∀b∈l.blks,h'[b]? =h[b]?)
  (hR:∀i x es O,O∈Os->R i x es O->R' i x es O) (hr:DN h sz R xs Os l):DN h' sz R' xs Os l:=by
 cases l with
 |nil=>exact hr|st b=>exact hr|mp b=>exact hr|arr blk off len cap sz=>have e:=hb blk (by simp[Loc.blks]);obtain⟨h1,h2,h3,h7,c,T,h4,h5,h6⟩:=hr;refine⟨h1,h2,h3,h7,c,T,by rw[e];exact h4,h5,λi x hi=>?_⟩;obtain⟨es,O,hO,he,hp⟩:=h6 i x hi;exact⟨es,O,hO,by rw[uj e];exact he,hR _ _ _ _ (rV hO) hp⟩
theorem kS{h h' :Array Obj}{ok ok' :Nat->Ty->Prop}(hok:∀b t,ok b t->ok' b t)(hh:∀b t,ok b t->h'[b]? =h[b]?):
  ∀{m:M} {ho:Option Nat} {x:m.den} {cs:List Value} {O:List Nat},(∀b∈O,h'[b]? =h[b]?)->qy h ok m ho x cs O->qy h' ok' m ho x cs O
 | .dat t,_,_,_,_,_,e=>⟨fB hok hh e.1,e.2⟩| .own t,ho,_,_,O,hb,⟨v,e,h1,ha⟩=>by
  refine⟨v,e,h1,?_⟩;split at ha
  ·exact ha
  ·obtain⟨l,hv,ha,ho⟩:=ha;exact⟨l,hv,xf hok hh (by subst ho;exact hb) ha,ho⟩
 | .pair a b,_,_,_,_,hb,⟨c,d,O1,O2,e,eo,h1,h2⟩=>by subst eo;exact⟨c,d,O1,O2,e,rfl,kS hok hh (λb h=>hb b (by simp[h])) h1,kS hok hh (λb h=>hb b (by simp[h])) h2⟩| .unit,_,_,_,_,_,e=>e| .box m,_,_,_,_,hb,⟨blk,arr,T,O',e,hh',hr,eo⟩=>by subst eo;exact⟨blk,arr,T,O',e,by rw[hb blk A7];exact hh',kS hok hh (λb h=>hb b (by simp[h])) hr,rfl⟩| .owns m,ho,_,_,O,hb,⟨v,e,h1,ha⟩=>by
  refine⟨v,e,h1,?_⟩;split at ha
  ·exact ha
  ·obtain⟨he,l,Os,hv,ha,ho⟩:=ha;subst ho;exact⟨he,l,Os,hv,Gx (λb h=>hb b (by simp[h])) (λi x es O hO hr=>kS hok hh (λb h=>hb b (by simp only[D8,dP];exact .inr ⟨O,hO,h⟩)) hr) ha,rfl⟩
 | .ownb t,_,_,_,_,hb,⟨l,v,e,hv,ha,ho⟩=>⟨l,v,e,hv,xf hok hh (by subst ho;exact hb) ha,ho⟩| .rp t,_,_,_,_,_,⟨v,e,h1,h2⟩=>⟨v,e,MQ hok hh h1,h2⟩| .fn f ts,_,_,_,_,_,⟨vs,e,h1,h2⟩=>⟨vs,e,KQ hok hh h1,h2⟩| .ifc t m,_,_,_,_,hb,⟨u,e,h1⟩=>⟨u,e,kS hok hh hb h1⟩| .cell b,_,_,_,_,_,h=>h| .fr t,_,_,_,_,_,⟨l,v,e,hv,ha,hk,ho⟩=>⟨l,v,e,hv,xf hok hh (λb h=>hh _ _ (hk b h)) ha,λb h=>hok _ _ (hk b h),ho⟩
theorem UW{C D:Cx}(h:C.le D){n:Nat}{v:V}(hk:D.m.kid n=C.m.kid n)(hb:∀b∈Y5 C.m n v,D.h[b]? =C.h[b]?)(hr:Gi C n v):Gi D n v:=by
 cases v<;>simp only[Gi]at hr ⊢
 case bcells cs=>obtain⟨blk,arr,T,hm,hh,hl⟩:=hr;exact⟨blk,arr,T,h.m _ _ hm,by rw[hb blk (by simp[Y5,hm])];exact hh,Hq h hl⟩
 case barr t xs=>
  obtain⟨l,hm,ha⟩:=hr;refine⟨l,h.m _ _ hm,a0Y h ?_ ha⟩;intro b hbl;refine hb b ?_;cases l<;>simp[Loc.blks]at hbl
  ·subst hbl;simp[Y5,hm]
  ·cases ha
  ·subst hbl;simp[Y5,hm]
 case bfrz t xs=>obtain⟨l,hm,ha,hok⟩:=hr;refine⟨l,h.m _ _ hm,a0Y h ?_ ha,λblk e=>h.ok _ _ (hok _ e)⟩;intro b hbl;exact h.h _ _ (hok _ hbl)
 case barrs m xs hole=>
  obtain⟨he,l,Os,hm,ha,ho⟩:=hr;obtain⟨ha,hh⟩:=ha;refine⟨he,l,Os,h.m _ _ hm,⟨Gx ?_ ?_ ha,?_⟩,hk.trans ho⟩
  ·intro b hbl;refine hb b ?_;cases l<;>simp[Loc.blks]at hbl
   ·subst hbl;simp[Y5,hm]
   ·cases ha
   ·cases ha
  ·intro i x es O hO hr;refine kS h.ok h.h (λb hbO=>hb b ?_) hr;simp only[Y5,D8];right;rw[ho];exact dP.2 ⟨O,hO,hbO⟩
  ·rcases hole with _|⟨i,o,_|k⟩
   ·trivial
   ·trivial
   ·obtain⟨blk,off,len,cap,u,l',rfl,h1,h2,h3⟩:=hh;exact⟨blk,off,len,cap,u,l',rfl,by rw[uj (hb blk (by simp[Y5,hm]))];exact h1,h.m _ _ h2,h3⟩
 case bfc t x=>obtain⟨blk,es,hm,hok,he,hr⟩:=hr;exact⟨blk,es,h.m _ _ hm,h.ok _ _ hok,by rw[uj (h.h _ _ hok)];exact he,fB h.ok h.h hr⟩
 case gone t=>obtain⟨l,hm,hs⟩:=hr;exact⟨l,h.m _ _ hm,hs⟩
 case blen ln sz=>obtain⟨k,l,e,hm,hs⟩:=hr;exact⟨k,l,e,h.m _ _ hm,hs⟩
theorem oZ{C:Cx} :∀{cs:List V} {vs:List Value},iP C cs vs->cs.length=vs.length
 |[],_,h=>by simp[iP]at h;simp[h]|_::_,_,⟨v,r,e,_,_,h3⟩=>by subst e;simp[oZ h3]
theorem xM{C:Cx} :∀{a:List V} {va:List Value} {b:List V} {vb:List Value},iP C a va->iP C b vb->iP C (a++b) (va++vb)
 |[],_,_,_,h,k=>by simp[iP]at h;subst h;exact k|_::_,_,_,_,⟨v,r,e,h1,h2,h3⟩,k=>by subst e;exact⟨v,r++_,rfl,h1,h2,xM h3 k⟩
theorem Qv{C:Cx} :∀{cs:List V} {vs:List Value},iP C cs vs->∀v∈vs,v.oneCell' =true
 |[],_,h=>by simp[iP]at h;simp[h]|_::_,_,⟨v,r,e,_,h2,h3⟩=>by
  subst e;intro u hu;rcases A8.1 hu with rfl|hu
  ·exact h2
  ·exact Qv h3 u hu
theorem yG{C:Cx} :∀(n:Nat) {cs:List V} {vs:List Value},iP C cs vs->iP C (cs.drop n) (vs.drop n)
 |0,_,_,h=>by simpa using h|n+1,[],_,h=>by simp[iP]at h;subst h;simp[iP]|n+1,_::_,_,⟨v,r,e,_,_,h3⟩=>by subst e;simpa using yG n h3
theorem AA{C:Cx} :∀(n:Nat) {cs:List V} {vs:List Value},iP C cs vs->iP C (cs.take n) (vs.take n)
 |0,_,_,h=>by simp[iP]|n+1,[],_,h=>by simp[iP]at h;subst h;simp[iP]|n+1,_::_,_,⟨v,r,e,h1,h2,h3⟩=>by subst e;exact⟨v,r.take n,A7,h1,h2,AA n h3⟩
theorem mP:∀(t:Ty) (x:t.den) (r:List V),flat t x r=flat t x []++r
 | .bool,_,_=>rfl| .int _,_,_=>rfl| .str,_,_=>rfl| .sl _,_,_=>rfl| .unit,_,_=>rfl| .prod a b,x,r=>by simp only[flat];rw[mP a x.1 (flat b x.2 r),mP b x.2 r,mP a x.1 (flat b x.2 [])];simp| .ent _ _ a b,x,r=>by simp only[flat];rw[mP a x.1 (flat b x.2 r),mP b x.2 r,mP a x.1 (flat b x.2 [])];simp
theorem sO{C:Cx} :∀{t:Ty} {x:t.den} {cs:List Value},mJ C.h C.ok t x cs->iP C (flat t x []) cs
 | .bool,x,_,h=>by simp[mJ]at h;subst h;exact⟨_,_,rfl,rfl,rfl,rfl⟩| .int _,x,_,h=>by simp[mJ]at h;subst h;exact⟨_,_,rfl,rfl,rfl,rfl⟩| .str,x,_,h=>by simp[mJ]at h;subst h;exact⟨_,_,rfl,rfl,rfl,rfl⟩| .unit,_,_,h=>by simp[mJ]at h;subst h;rfl
 | .sl t,xs,_,h=>by have h' :=h;rcases h with⟨_,a,cap,rfl,_⟩|⟨_,mv,rfl,_⟩<;>exact⟨_,_,rfl,h',rfl,rfl⟩
 | .ent _ _ a b,x,_,h=>by obtain⟨c,d,rfl,h1,h2⟩:=h;simp only[flat];rw[mP a];exact xM (sO h1) (sO h2)
 | .prod a b,x,_,h=>by obtain⟨c,d,rfl,h1,h2⟩:=h;simp only[flat];rw[mP a];exact xM (sO h1) (sO h2)
theorem qH:∀(t:Ty) (x:t.den),(flat t x []).length=t.size
 | .bool,_=>rfl| .int _,_=>rfl| .str,_=>rfl| .sl _,_=>rfl| .unit,_=>rfl| .prod a b,x=>by simp only[flat,Ty.size];rw[mP a,F8,qH a x.1,qH b x.2]| .ent _ _ a b,x=>by simp only[flat,Ty.size];rw[mP a,F8,qH a x.1,qH b x.2]
theorem rf{C:Cx}{ok' :Nat->Ty->Prop}{t:Ty}{xs:List t.den}{l:Loc}{vw:Option (Nat×Nat)}{v:Value}(ha:arrOk C t xs l)(hv:l.view vw v)
  (hok:∀b t,C.ok b t->ok' b t) (hb:∀blk,blk∈l.blks->ok' blk t):mJ C.h ok' (.sl t) (jH vw xs) [v]:=by
 cases l with
 |st b=>cases ha|mp b=>
  obtain⟨h0,es,ck,h1,h2,h3⟩:=ha;cases vw with
  |some p=>cases hv|none=>simp only[Loc.view]at hv;subst hv;refine .inr ⟨h0,some b,rfl,(λh=>nomatch h),λblk e=>?_⟩;cases e;refine⟨hb b (by simp[Loc.blks]),es,ck,h1,h2,λi x hi=>?_⟩;obtain⟨en,a1,a2,a3⟩:=h3 i x hi;exact⟨en,a1,a2,fB hok (λ_ _ _=>rfl) a3⟩
 |nil=>
  obtain⟨ha,h0⟩:=ha;subst ha;cases vw with
  |none=>simp only[Loc.view]at hv;subst hv;exact .inl ⟨h0,none,0,rfl,F9 _,λi x hi=>by simp[jH]at hi⟩|some p=>obtain⟨lo,hi⟩:=p;obtain⟨rfl,rfl,rfl⟩:=hv;exact .inl ⟨h0,none,0,by simp[jH,oP],by simp[jH,oP],λi x hi=>by simp[jH,oP]at hi⟩
 |arr blk off len cap sz=>
  obtain⟨h0,rfl,rfl,hc,c,T,hh,hs,hx⟩:=ha;have hbk:=hb blk (by simp[Loc.blks]);cases vw with
  |none=>simp only[Loc.view]at hv;subst hv;refine .inl ⟨h0,_,cap,rfl,hc,λi x hi=>?_⟩;obtain⟨es,he,hr⟩:=hx i x hi;exact⟨blk,off,es,rfl,hbk,he,fB hok (λ_ _ _=>rfl) hr⟩
  |some p=>
   obtain⟨lo,hi⟩:=p;obtain⟨h1,h2,rfl⟩:=hv;have hl:(jH (some (lo,hi)) xs).length=hi -lo:=by simp[jH,oP];omega
   refine .inl ⟨h0,_,cap -lo,by rw[hl],by rw[hl];omega,λi x hix=>?_⟩;have hi' :i<hi -lo:=by rw[←hl];exact(Y6.1 hix).1
   have hx' :xs[lo+i]? =some x:=by
    simp only[jH,oP,U8,Z4]at hix;split at hix
    ·exact hix
    ·cases hix
   obtain⟨es,he,hr⟩:=hx _ x hx';have hne:cap≠lo:=l7;refine⟨blk,off+lo*t.size,es,by simp[hne],hbk,?_,fB hok (λ_ _ _=>rfl) hr⟩;rw[←he];congr 1;rw[L6];omega
end Go.GP
namespace Go.GP
abbrev Sm:=Nat->V
def upd(S:Sm)(k:Nat)(v:V):Sm:=λn=>if n=k then v else S n
@[simp] theorem mO (S:Sm) (k:Nat) (v:V):upd S k v k=v:=by simp[upd]
theorem bP(S:Sm){k n:Nat}(v:V)(h:n≠k):upd S k v n=S n:=by simp[upd,h]
def Cmd.eval{α:Type} :Cmd α->Sm->Tr->Option (α×Sm×Tr)
 | .ret x,S,t=>some (x,S,t)| .fail,_,_=>none| .get k c,S,t=>(c (S k)).eval S (k::t.1,t.2)| .set k v c,S,t=>c.eval (upd S k v) (t.1,k::t.2)
 | .opt o c,S,t=>match o with|some x=>(c x).eval S t|none=>none
 | .br b c d,S,t=>if b=true then c.eval S t else d.eval S t
def Cmd.post{α:Type} :Cmd α->Sm->(α->Sm->Prop)->Prop
 | .ret x,S,Q=>Q x S| .fail,_,_=>True| .get k c,S,Q=>(c (S k)).post S Q| .set k v c,S,Q=>c.post (upd S k v) Q| .opt o c,S,Q=>∀x,o=some x->(c x).post S Q| .br b c d,S,Q=>(b=true->c.post S Q)/\(b=false->d.post S Q)
theorem vG{α:Type}{Q:α->Sm->Prop} :∀{c:Cmd α} {S S' :Sm} {t t' :Tr} {x:α},c.post S Q->c.eval S t=some (x,S',t')->Q x S'
 | .ret x,_,_,_,_,_,h,e=>by simp[Cmd.eval]at e;obtain⟨rfl,rfl,rfl⟩:=e;exact h
 | .fail,_,_,_,_,_,h,e=>by simp[Cmd.eval]at e| .get k c,_,_,_,_,_,h,e=>vG (c:=c _) h e| .set k v c,_,_,_,_,_,h,e=>vG (c:=c) h e| .opt o c,_,_,_,_,_,h,e=>by
  cases o with
  |none=>simp[Cmd.eval]at e|some x=>exact vG (c:=c x) (h x rfl) e
 | .br b c d,_,_,_,_,_,h,e=>by
  cases b
  ·exact vG (c:=d) (h.2 rfl) (by simpa[Cmd.eval]using e)
  ·exact vG (c:=c) (h.1 rfl) (by simpa[Cmd.eval]using e)
theorem CU{α:Type}{Q Q' :α->Sm->Prop}(hq:∀x S,Q x S->Q' x S):∀{c:Cmd α} {S:Sm},c.post S Q->c.post S Q'
 | .ret x,_,h=>hq _ _ h| .fail,_,_=>trivial| .get k c,_,h=>CU hq (c:=c _) h| .set k v c,_,h=>CU hq (c:=c) h
 | .opt o c,_,h=>λx e=>CU hq (c:=c x) (h x e)| .br b c d,_,h=>⟨λe=>CU hq (c:=c) (h.1 e),λe=>CU hq (c:=d) (h.2 e)⟩
theorem IP{R:Type} :∀(v:V) (K:V->R),v.force K=K v:=by
 intro v;induction v using V.rec (motive_2:=λ_=>True)<;>try trivial
 all_goals intro K
 all_goals try rfl
 case i k n=>cases k<;>rfl
 case own bx vw=>cases vw<;>rfl
 case barrs m xs h=>rcases h with _|⟨p,q,_|r⟩<;>rfl
 case ifc t v ih=>simp only[V.force];rw[ih]
theorem Zg{R:Type} :∀(l:List V) (K:List V->R),RF l K=K l
 |[],_=>rfl|v::r,K=>by simp[RF,IP,Zg r]
theorem a7h{R:Type}(v:V)(K:V->R):v.force2 K=K v:=by unfold V.force2;rw[IP];cases v<;>simp[Zg]
theorem a5Z(k:Nat)(v:V)(s:St):fF (.kv k v::s)=upd (fF s) k v:=by
 funext n;simp only[fF,upd];by_cases h:n=k
 ·subst h;simp
 ·have:Nat.beq k n=false:=by
   cases hb:Nat.beq k n with
   |false=>rfl|true=>exact absurd (jy hb).symm h
  simp[h,this]
theorem FU{α β:Type}{o:Option α}{f:α->Option β}{r:β}(h:o5 o f=some r):∃x,o=some x/\f x=some r:=by
 cases o with
 |none=>simp[o5]at h|some x=>exact⟨x,rfl,h⟩
theorem qM{α R:Type} :∀{c:Cmd α} {s:St} {t:Tr} {K:α->St->Tr->Option R} {r:R},c.runK s t K=some r->
  ∃x s' t',c.eval (fF s) t=some (x,fF s',t')/\K x s' t' =some r
 | .ret x,s,t,K,r,h=>⟨x,s,t,rfl,h⟩| .fail,_,_,_,_,h=>by simp[Cmd.runK]at h| .get k c,s,t,K,r,h=>by simp only[Cmd.runK,IP]at h;exact qM (c:=c _) h| .set k v c,s,t,K,r,h=>by simp only[Cmd.runK,a7h]at h;obtain⟨x,s',t',e,hk⟩:=qM (c:=c) h;exact⟨x,s',t',by simpa[Cmd.eval,a5Z]using e,hk⟩
 | .opt o c,s,t,K,r,h=>by simp only[Cmd.runK]at h;obtain⟨y,rfl,h⟩:=FU h;exact qM (c:=c y) h
 | .br b c d,s,t,K,r,h=>by
  simp only[Cmd.runK]at h;cases b
  ·obtain⟨x,s',t',e,hk⟩:=qM (c:=d) (show d.runK s t K=some r from h);exact⟨x,s',t',by simpa[Cmd.eval]using e,hk⟩
  ·obtain⟨x,s',t',e,hk⟩:=qM (c:=c) (show c.runK s t K=some r from h);exact⟨x,s',t',by simpa[Cmd.eval]using e,hk⟩
theorem Ci{α:Type} :∀{c:Cmd α} {S S' :Sm} {t t' :Tr} {x:α},c.eval S t=some (x,S',t')->(∀k∈t.1,k∈t'.1)/\(∀k∈t.2,k∈t'.2)
 | .ret x,_,_,_,_,_,e=>by simp[Cmd.eval]at e;obtain⟨rfl,rfl,rfl⟩:=e;exact⟨λ_ h=>h,λ_ h=>h⟩
 | .fail,_,_,_,_,_,e=>by simp[Cmd.eval]at e| .get k c,_,_,_,_,_,e=>by have h:=Ci (c:=c _) e;exact⟨λn hn=>h.1 n (by simp[hn]),h.2⟩| .set k v c,_,_,_,_,_,e=>by have h:=Ci (c:=c) e;exact⟨h.1,λn hn=>h.2 n (by simp[hn])⟩| .opt o c,_,_,_,_,_,e=>by
  cases o with
  |none=>simp[Cmd.eval]at e|some x=>exact Ci (c:=c x) e
 | .br b c d,_,_,_,_,_,e=>by
  cases b
  ·exact Ci (c:=d) (by simpa[Cmd.eval]using e)
  ·exact Ci (c:=c) (by simpa[Cmd.eval]using e)
theorem zX{α:Type} :∀{c:Cmd α} {S S' :Sm} {t t' :Tr} {x:α},c.eval S t=some (x,S',t')->∀T:Sm,(∀k∈t'.1,T k=S k)->
  ∃T',c.eval T t=some (x,T',t')/\(∀k,T k=S k->T' k=S' k)/\(∀k,k∉t'.2->T' k=T k)/\(∀k,k∈t'.2->k∉t.2->T' k=S' k)
 | .ret x,_,_,_,_,_,e,T,hT=>by simp[Cmd.eval]at e;obtain⟨rfl,rfl,rfl⟩:=e;exact⟨T,rfl,λk h=>h,λ_ _=>rfl,λk h1 h2=>absurd h1 h2⟩
 | .fail,_,_,_,_,_,e,_,_=>by simp[Cmd.eval]at e| .get k c,S,_,t,t',_,e,T,hT=>by have hk:T k=S k:=hT k ((Ci (c:=c _) e).1 k A7);obtain⟨T',h1,h2,h3,h4⟩:=zX (c:=c _) e T hT;exact⟨T',by simpa[Cmd.eval,hk]using h1,h2,h3,h4⟩
 | .set k v c,S,_,t,t',_,e,T,hT=>by
  obtain⟨T',h1,h2,h3,h4⟩:=zX (c:=c) e (upd T k v) (λn hn=>by
   by_cases h:n=k
   ·subst h;simp
   ·rw[bP _ _ h,bP _ _ h];exact hT n hn)
  have hkin:k∈t'.2:=(Ci (c:=c) e).2 k A7;refine⟨T',h1,λn hn=>h2 n ?_,λn hn=>?_,λn hn hn' =>?_⟩
  ·by_cases h:n=k
   ·subst h;simp
   ·rw[bP _ _ h,bP _ _ h];exact hn
  ·have:n≠k:=λh=>hn (h▸hkin);rw[h3 n hn,bP _ _ this]
  ·by_cases h:n=k
   ·subst h;exact h2 n A7
   ·exact h4 n hn (by simp[h,hn'])
 | .opt o c,_,_,_,_,_,e,T,hT=>by
  cases o with
  |none=>simp[Cmd.eval]at e|some x=>exact zX (c:=c x) e T hT
 | .br b c d,_,_,_,_,_,e,T,hT=>by
  cases b
  ·obtain⟨T',h1,h2⟩:=zX (c:=d) (by simpa[Cmd.eval]using e) T hT;exact⟨T',by simpa[Cmd.eval]using h1,h2⟩
  ·obtain⟨T',h1,h2⟩:=zX (c:=c) (by simpa[Cmd.eval]using e) T hT;exact⟨T',by simpa[Cmd.eval]using h1,h2⟩
theorem Jq{α:Type}{c:Cmd α}{S S' :Sm}{t t' :Tr}{x:α}(e:c.eval S t=some (x,S',t'))(k:Nat)(h:k∉t'.2):S' k=S k:=by obtain⟨T',h1,_,h3,_⟩:=zX e S (λ_ _=>rfl);rw[e]at h1;simp at h1;rw[h1];exact h3 k h
section draws
variable {n:Nat} {c:Nat->Cmd Unit} {S:Nat->Sm} {T:Nat->Tr}
def SD(S:Nat->Sm)(T:Nat->Tr)(D:List Nat):Nat->Sm
 |0=>S 0
 |m+1=>λk=>if m∈D/\k∈(T m).2 then S (m+1) k else SD S T D m k
theorem MJ(hs:∀i,i<n->(c i).eval (S i) ([],[])=some ((),S (i+1),T i))(D:List Nat)(k:Nat):
  ∀m,m<=n->(∀j,j<m->k∈(T j).2->j∈D)->SD S T D m k=S m k
 |0,_,_=>rfl|m+1,hm,h=>by
  have ih:=MJ hs D k m l7 (λj hj=>h j l7);simp only[SD];by_cases hk:k∈(T m).2
  ·rw[if_pos ⟨h m l7 hk,hk⟩]
  ·rw[if_neg (λx=>hk x.2),ih,Jq (hs m l7) k hk]
theorem Vj(D:List Nat)(k i:Nat):∀m,i<=m->(∀j,i<=j->j<m->k∈(T j).2->j∉D)->SD S T D m k=SD S T D i k
 |m,hm,h=>by
  induction m with
  |zero=>have:i=0:=l7;subst this;rfl|succ m ih=>
   by_cases e:i=m+1
   ·subst e;rfl
   ·simp only[SD];rw[if_neg (λx=>h m l7 l7 x.2 x.1)];exact ih l7 (λj h1 h2=>h j h1 l7)
theorem a5x(D:List Nat)(i k:Nat)(hk:k∉(T i).2):∀m,SD S T (i::D) m k=SD S T D m k
 |0=>rfl|m+1=>by
  simp only[SD,a5x D i k hk m];by_cases e:m=i
  ·subst e;simp[hk]
  ·simp[A8,e]
theorem a8I(hs:∀i,i<n->(c i).eval (S i) ([],[])=some ((),S (i+1),T i)){D:List Nat}(hD:∀i,i<n->i∈D):SD S T D n=S n:=by funext k;exact MJ hs D k n l7 (λj hj _=>hD j hj)
theorem b5K(n:Nat):SD S T [] n=S 0:=by
 induction n with
 |zero=>rfl|succ m ih=>funext k;simp[SD,ih]
end draws
end Go.GP
namespace Go.GP
structure Fx where
 P:Program
 E:Env
 w0:World
 O:List Nat
 ok0:Nat->Ty->Prop
 tm0:Array Value
structure Frame' (w0 w:World) (O:List Nat):Prop where
 os:w.os=w0.os
 tape:w.tape=w0.tape
 output:w.output=w0.output
 size:w0.heap.size<=w.heap.size
 block:∀b,b<w0.heap.size->b∉O->w.heap[b]? =w0.heap[b]?
theorem Frame'.refl(w:World)(O:List Nat):Frame' w w O:=⟨rfl,rfl,rfl,F9 _,λ_ _ _=>rfl⟩
def b5a(h:Array Obj)(g n:Nat):Prop:=∃c T f,h[g]? =some (.cells c T f)/\c.size=n
def OL(C:Cx)(g:Nat)(t:Ty)(xs:List t.den):Prop:=
 C.ok g t/\b5a C.h g (xs.length*t.size)/\∀i x,xs[i]? =some x->∃es,fD C.h g (i*t.size) t.size=some es/\mJ C.h C.ok t x es
theorem OL.le{C D:Cx}(h:C.le D){g:Nat}{t:Ty}{xs:List t.den}(k:OL C g t xs):OL D g t xs:=by obtain⟨h1,h3,h2⟩:=k;refine⟨h.ok _ _ h1,by unfold b5a at h3 ⊢;rw[h.h _ _ h1];exact h3,λi x hi=>?_⟩;obtain⟨es,he,hr⟩:=h2 i x hi;exact⟨es,by rw[uj (h.h _ _ h1)];exact he,fB h.ok h.h hr⟩
structure Rel (X:Fx) (cl ch:Nat) (S:Sm) (m:Mp) (ok:Nat->Ty->Prop) (a:Act) (w:World):Prop where
 size:a.tmps.size=X.E.nt
 nodef:a.defers=[]
 slot:∀n,n<bf->pg ⟨w.heap,ok,m⟩ (S n) (a.tmps.getD n Go.undef)
 box:∀n,Gi ⟨w.heap,ok,m⟩ n (S (bf+n))
 inj:∀n n' b,b∈Y5 m n (S (bf+n))->b∈Y5 m n' (S (bf+n'))->n=n'
 nd:∀n,(Y5 m n (S (bf+n))).Nodup
 sep:∀n b,b∈Y5 m n (S (bf+n))->(∀t,¬ok b t)/\b<w.heap.size/\(X.w0.heap.size<=b\/b∈X.O)
 okLt:∀b t,ok b t->b<w.heap.size
 okIn:∀b t,X.ok0 b t->ok b t
 okOut:∀b t,ok b t->X.ok0 b t\/X.w0.heap.size<=b\/b∈X.O
 frame:Frame' X.w0 w X.O
 fresh:∀n,cl<=n->S (bf+n)= .undef->m n=none
 strict:∀n,ch<=n->m n=none
 gl:∀g u,fH X.E.gl g=some u->OL ⟨w.heap,ok,m⟩ g u.1 u.2
 kept:∀n∈X.E.kp,a.tmps.getD n Go.undef=X.tm0.getD n Go.undef
def pI(m:Mp)(n:Nat)(l:Loc)(ks:List Nat):Mp:=⟨λk=>if k=n then some l else m k,λk=>if k=n then ks else m.kid k⟩
@[simp] theorem fV (m:Mp) (n:Nat) (l:Loc) (ks:List Nat):pI m n l ks n=some l:=by simp[pI]
theorem lF(m:Mp){n k:Nat}(l:Loc)(ks:List Nat)(h:k≠n):pI m n l ks k=m k:=by simp[pI,h]
@[simp] theorem c5H (m:Mp) (n:Nat) (l:Loc) (ks:List Nat):(pI m n l ks).kid n=ks:=by simp[pI]
theorem Tj(m:Mp){n k:Nat}(l:Loc)(ks:List Nat)(h:k≠n):(pI m n l ks).kid k=m.kid k:=by simp[pI,h]
def Gv(m:Mp)(n:Nat)(ks:List Nat):Mp:=⟨m.loc,λk=>if k=n then ks else m.kid k⟩
@[simp] theorem c4s (m:Mp) (n k:Nat) (ks:List Nat):Gv m n ks k=m k:=rfl
@[simp] theorem c4r (m:Mp) (n:Nat) (ks:List Nat):(Gv m n ks).kid n=ks:=by simp[Gv]
theorem ZX(m:Mp){n k:Nat}(ks:List Nat)(h:k≠n):(Gv m n ks).kid k=m.kid k:=by simp[Gv,h]
theorem yH(m:Mp)(n:Nat):Gv m n (m.kid n)=m:=by
 cases m with|mk l k=>
 simp only[Gv,Mp.mk.injEq,true_and];funext j;split
 ·rename_i e;rw[e]
 ·rfl
theorem JB{m m' :Mp}{n:Nat}{v:V}(h:m' n=m n)(k:m'.kid n=m.kid n):Y5 m' n v=Y5 m n v:=by cases v<;>simp only[Y5,h,k]
theorem Yh{tmps:Array Value}{d:Nat}(h:d<tmps.size)(x e:Value):(tmps.setIfInBounds d x).getD d e=x:=by simp[Array.getD,h]
theorem KZ{tmps:Array Value}{d n:Nat}(h:n≠d)(x e:Value):(tmps.setIfInBounds d x).getD n e=tmps.getD n e:=by simp only[Y7];rw[Array.getElem?_setIfInBounds];simp[Ne.symm h]
structure Tk (X:Fx) (S:Sm) (m:Mp) (ok:Nat->Ty->Prop) (w:World) (T:List Nat):Prop where
 nodup:T.Nodup
 free:∀b∈T,(∀t,¬ok b t)/\b<w.heap.size/\(X.w0.heap.size<=b\/b∈X.O)/\∀n,b∉Y5 m n (S (bf+n))
theorem Tk.nil{X:Fx}{S:Sm}{m:Mp}{ok:Nat->Ty->Prop}{w:World} :Tk X S m ok w []:=⟨fK,λb h=>by cases h⟩
def okW(ok:Nat->Ty->Prop)(bs:List Nat)(Ts:List Ty):Nat->Ty->Prop:=λb t=>ok b t\/(b∈bs/\t∈Ts)
section
variable {X:Fx} {cl ch:Nat} {S:Sm} {m:Mp} {ok:Nat->Ty->Prop} {a:Act} {w:World} {T:List Nat}
theorem Tk.perm{T T' :List Nat}(h:Tk X S m ok w T)(p:T.Perm T'):Tk X S m ok w T' :=
 ⟨p.nodup_iff.1 h.nodup,λb hb=>h.free b (p.mem_iff.2 hb)⟩
theorem Tk.left{T T' :List Nat}(h:Tk X S m ok w (T++T')):Tk X S m ok w T:=
 ⟨(N8.1 h.nodup).1,λb hb=>h.free b (aO _ hb)⟩
theorem Tk.right{T T' :List Nat}(h:Tk X S m ok w (T++T')):Tk X S m ok w T' :=
 ⟨(N8.1 h.nodup).2.1,λb hb=>h.free b (jD _ hb)⟩
theorem WI{n:Nat} :∀{l:List Nat},FO n l=false->n∉l
 |[],_,h=>by cases h|k::r,hb,h=>by
  unfold FO at hb;cases hk:Nat.beq k n<;>rw[hk]at hb
  ·rcases A8.1 h with e|h
   ·subst e;rw[show Nat.beq n n=true from Nat.beq_refl n]at hk;cases hk
   ·exact WI hb h
  ·cases hb
theorem Zy{n:Nat} :∀{l:List Nat},FO n l=true->n∈l
 |[],h=>by cases h|k::r,hb=>by
  unfold FO at hb;cases hk:Nat.beq k n<;>rw[hk]at hb
  ·exact U4 _ (Zy hb)
  ·have:=jy hk;subst this;exact jg
theorem CQ{E:Env}{t:Nat}(h:ZF E t=true):t<E.nt/\t∉E.kp:=by
 unfold ZF at h;cases hb:Nat.blt t E.nt<;>rw[hb]at h
 ·cases h
 ·simp only[cond_true,bZ]at h;exact⟨by rw[fU]at hb;exact hb,WI h⟩
theorem Rel.put(R:Rel X cl ch S m ok a w)(hnt:X.E.nt<=bf){d:Nat}{v:V}{x:Value}(hd:ZF X.E d=true)(hv:pg ⟨w.heap,ok,m⟩ v x):
  Rel X cl ch (upd S d v) m ok (a.put (some d) x) w:=by
 obtain⟨hd,hkp⟩:=CQ hd;have hb:∀n,upd S d v (bf+n)=S (bf+n):=λn=>bP _ _ l7;have hkept:∀n∈X.E.kp,(a.put (some d) x).tmps.getD n Go.undef=X.tm0.getD n Go.undef:=λn hn=>by have e:n≠d:=λe=>hkp (e▸hn);simp only[Act.put];rw[KZ e];exact R.kept n hn
 refine { R with size:=(by simp[Act.put,R.size]),nodef:=(by simp[Act.put,R.nodef]),slot:=λn hn=>?_,box:=λn=>(by rw[hb];exact R.box n),inj:=λn n' b=>(by rw[hb,hb];exact R.inj n n' b),nd:=λn=>(by rw[hb];exact R.nd n),sep:=λn b=>(by rw[hb];exact R.sep n b),fresh:=λn h1 h2=>R.fresh n h1 (by rwa[hb]at h2),kept:=hkept };by_cases e:n=d
 ·subst e;simp only[mO,Act.put];rw[Yh (by rw[R.size];exact hd)];exact hv
 ·rw[bP _ _ e];simp only[Act.put];rw[KZ e];exact R.slot n hn
theorem Rel.slotV(R:Rel X cl ch S m ok a w){d:Nat}{v:V}(hd:d<bf)(hv:pg ⟨w.heap,ok,m⟩ v (a.tmps.getD d Go.undef)):
  Rel X cl ch (upd S d v) m ok a w:=by
 have hb:∀n,upd S d v (bf+n)=S (bf+n):=λn=>bP _ _ l7;refine { R with slot:=λn hn=>?_,box:=λn=>(by rw[hb];exact R.box n),inj:=λn n' b=>(by rw[hb,hb];exact R.inj n n' b),nd:=λn=>(by rw[hb];exact R.nd n),sep:=λn b=>(by rw[hb];exact R.sep n b),fresh:=λn h1 h2=>R.fresh n h1 (by rwa[hb]at h2) };by_cases e:n=d
 ·subst e;simp only[mO];exact hv
 ·rw[bP _ _ e];exact R.slot n hn
theorem Rel.world(R:Rel X cl ch S m ok a w){ok' :Nat->Ty->Prop}{w' :World}(hos:w'.os=w.os)(htp:w'.tape=w.tape)(hout:w'.output=w.output)(hsz:w.heap.size<=w'.heap.size)
  (hkeep:∀b,b<w.heap.size->((∃t,ok b t)\/(∃n,b∈Y5 m n (S (bf+n)))\/¬(X.w0.heap.size<=b\/b∈X.O))->w'.heap[b]? =w.heap[b]?)
  (hok:∀b t,ok b t->ok' b t) (hok' :∀b t,ok' b t->b<w'.heap.size/\(ok b t\/((X.w0.heap.size<=b\/b∈X.O)/\∀n,b∉Y5 m n (S (bf+n))))):
  Rel X cl ch S m ok' a w' :=by
 have hle:Cx.le ⟨w.heap,ok,m⟩ ⟨w'.heap,ok',m⟩:=⟨hok,λb t hb=>hkeep b (R.okLt b t hb) (.inl ⟨t,hb⟩),λ_ _ h=>h⟩;refine { kept:=R.kept,size:=R.size,nodef:=R.nodef,inj:=R.inj,nd:=R.nd,fresh:=R.fresh,strict:=R.strict,slot:=λn hn=>Qx hle (R.slot n hn),box:=λn=>UW hle rfl (λb hb=>hkeep b (R.sep n b hb).2.1 (.inr (.inl ⟨n,hb⟩))) (R.box n),sep:=λn b hb=>?_,okLt:=λb t hb=>(hok' b t hb).1,okIn:=λb t hb=>hok b t (R.okIn b t hb),okOut:=λb t hb=>?_,frame:=?_,gl:=λg u hg=>OL.le hle (R.gl g u hg) }
 ·obtain⟨h1,h2,h3⟩:=R.sep n b hb;refine⟨λt h=>?_,l7,h3⟩;rcases(hok' b t h).2 with h|⟨_,h⟩
  ·exact h1 t h
  ·exact h n hb
 ·rcases(hok' b t hb).2 with h|⟨h,_⟩
  ·exact R.okOut b t h
  ·exact .inr h
 ·obtain⟨f1,f2,f3,f4,f5⟩:=R.frame;refine⟨hos.trans f1,htp.trans f2,hout.trans f3,l7,λb hb hO=>?_⟩;rw[hkeep b l7 (.inr (.inr (by simp[hO];omega)))];exact f5 b hb hO
theorem Rel.same(R:Rel X cl ch S m ok a w){w' :World}(hos:w'.os=w.os)(htp:w'.tape=w.tape)(hout:w'.output=w.output)(hh:w'.heap=w.heap):Rel X cl ch S m ok a w' :=by refine R.world hos htp hout (by rw[hh];exact F9 _) (λb _ _=>by rw[hh]) (λ_ _ h=>h) (λb t h=>⟨by rw[hh];exact R.okLt b t h,.inl h⟩)
theorem CS{n k b:Nat}{v:V}(hv:Y5 m n v=[])(h:b∈Y5 m k (upd S (bf+n) v (bf+k))):k≠n/\b∈Y5 m k (S (bf+k)):=by
 by_cases e:k=n
 ·subst e;rw[mO,hv]at h;cases h
 ·rw[bP _ _ l7]at h;exact⟨e,h⟩
theorem Rel.killV(R:Rel X cl ch S m ok a w)(n:Nat){v:V}(hv:v≠.undef)(hw:Y5 m n v=[])(hB:Gi ⟨w.heap,ok,m⟩ n v):Rel X cl ch (upd S (bf+n) v) m ok a w:=by
 have ho:∀k b,b∈Y5 m k (upd S (bf+n) v (bf+k))->k≠n/\b∈Y5 m k (S (bf+k)):=λk b h=>CS hw h;refine { R with slot:=λk hk=>(by rw[bP _ _ l7];exact R.slot k hk),box:=λk=>?_,inj:=λk k' b h h' =>R.inj k k' b (ho _ _ h).2 (ho _ _ h').2,nd:=λk=>?_,sep:=λk b h=>R.sep k b (ho _ _ h).2,fresh:=λk h1 h2=>?_ }
 ·by_cases e:k=n
  ·subst e;rw[mO];exact hB
  ·rw[bP _ _ l7];exact R.box k
 ·by_cases e:k=n
  ·subst e;rw[mO,hw];exact fK
  ·rw[bP _ _ l7];exact R.nd k
 ·by_cases e:k=n
  ·subst e;rw[mO]at h2;exact absurd h2 hv
  ·rw[bP _ _ l7]at h2;exact R.fresh k h1 h2
theorem Rel.kill(R:Rel X cl ch S m ok a w)(n:Nat):Rel X cl ch (upd S (bf+n) .dead) m ok a w:=R.killV n A7 rfl trivial
theorem Tk.killV(R:Rel X cl ch S m ok a w)(h:Tk X S m ok w T)(n:Nat){v:V}(hw:Y5 m n v=[]){bs:List Nat}(hbs:∀b,b∈bs->b∈Y5 m n (S (bf+n)))(hnd:bs.Nodup):
  Tk X (upd S (bf+n) v) m ok w (T++bs):=by
 refine⟨N8.2 ⟨h.nodup,hnd,λx hx y hy e=>?_⟩,λb hb=>?_⟩
 ·subst e;exact(h.free x hx).2.2.2 n (hbs x hy)
 ·rcases D8.1 hb with hb|hb
  ·obtain⟨h1,h2,h3,h4⟩:=h.free b hb;exact⟨h1,h2,h3,λk e=>h4 k (CS hw e).2⟩
  ·obtain⟨h1,h2,h3⟩:=R.sep n b (hbs b hb);exact⟨h1,h2,h3,λk e=>(CS hw e).1 (R.inj k n b (CS hw e).2 (hbs b hb))⟩
theorem Rel.mark(R:Rel X cl ch S m ok a w){n:Nat}{md:M}{xs:List md.den}(hS:S (bf+n)= .barrs md xs none):Rel X cl ch (upd S (bf+(QT+n)) (.blen (o9 xs) md.size)) m ok a w:=by
 refine R.killV (QT+n) A7 rfl ?_;have hb:=R.box n;rw[hS]at hb;obtain⟨_,l,Os,hm,⟨ha,hho⟩,_⟩:=hb;refine⟨n,l,rfl,hm,?_⟩;cases l with
 |nil=>obtain⟨rfl,_⟩:=ha;rfl
 |st b=>cases ha|mp b=>cases ha|arr blk off len cap sz=>exact⟨by rw[ha.2.1];rfl,ha.1.symm⟩
theorem Tk.kill(R:Rel X cl ch S m ok a w)(h:Tk X S m ok w T)(n:Nat){bs:List Nat}(hbs:∀b,b∈bs->b∈Y5 m n (S (bf+n)))(hnd:bs.Nodup):
  Tk X (upd S (bf+n) .dead) m ok w (T++bs):=h.killV R n rfl hbs hnd
theorem Rel.lay(R:Rel X cl ch S m ok a w){n:Nat}{l:Loc}{ks:List Nat}{v:V}{w' :World}(hn:S (bf+n)= .undef)(hcl:cl<=n)(hch:n<ch)(hv:v≠.undef)
  (hos:w'.os=w.os) (htp:w'.tape=w.tape) (hout:w'.output=w.output) (hsz:w.heap.size<=w'.heap.size)
  (hkeep:∀b,b<w.heap.size->b∉Y5 (pI m n l ks) n v->w'.heap[b]? =w.heap[b]?)
  (hnd:(Y5 (pI m n l ks) n v).Nodup)
  (hfree:∀b∈Y5 (pI m n l ks) n v,(∀t,¬ok b t)/\b<w'.heap.size/\(X.w0.heap.size<=b\/b∈X.O)/\∀k,b∉Y5 m k (S (bf+k)))
  (hB:Gi ⟨w'.heap,ok,pI m n l ks⟩ n v):Rel X cl ch (upd S (bf+n) v) (pI m n l ks) ok a w' :=by
 have hm:m n=none:=R.fresh n hcl hn;have hR:Rel X cl ch S m ok a w' :=by
  refine R.world hos htp hout hsz (λb hb h=>?_) (λ_ _ h=>h) (λb t h=>⟨by have:=R.okLt b t h;omega,.inl h⟩);refine hkeep b hb (λe=>?_);obtain⟨h1,h2,h3,h4⟩:=hfree b e;rcases h with⟨t,h⟩|⟨k,h⟩|h
  ·exact h1 t h
  ·exact h4 k h
  ·exact h h3
 have hle:Cx.le ⟨w'.heap,ok,m⟩ ⟨w'.heap,ok,pI m n l ks⟩:=⟨λ_ _ h=>h,λ_ _ _=>rfl,λk x h=>by
  by_cases e:k=n
  ·subst e;simp[hm]at h
  ·show pI m n l ks k=some x;rw[lF _ _ _ e];exact h⟩
 have hob:∀k,k≠n->Y5 (pI m n l ks) k (upd S (bf+n) v (bf+k))=Y5 m k (S (bf+k)):=λk e=>by rw[bP _ _ l7];exact JB (lF _ _ _ e) (Tj _ _ _ e)
 have hobn:Y5 (pI m n l ks) n (upd S (bf+n) v (bf+n))=Y5 (pI m n l ks) n v:=by rw[mO]
 refine { kept:=hR.kept,size:=hR.size,nodef:=hR.nodef,okLt:=hR.okLt,okIn:=hR.okIn,okOut:=hR.okOut,frame:=hR.frame,slot:=λk hk=>(by rw[bP _ _ l7];exact Qx hle (hR.slot k hk)),box:=λk=>?_,inj:=λk k' b h h' =>?_,nd:=λk=>?_,sep:=λk b h=>?_,fresh:=λk h1 h2=>?_,strict:=λk h=>?_,gl:=λg u hg=>OL.le hle (hR.gl g u hg) }
 ·by_cases e:k=n
  ·subst e;rw[mO];exact hB
  ·rw[bP _ _ l7];refine UW hle (Tj _ _ _ e) (λb hb=>rfl) (hR.box k)
 ·by_cases e:k=n
  ·by_cases e' :k' =n
   ·rw[e,e']
   ·subst e;rw[hobn]at h;rw[hob k' e']at h';exact absurd h' ((hfree b h).2.2.2 k')
  ·by_cases e' :k' =n
   ·subst e';rw[hobn]at h';rw[hob k e]at h;exact absurd h ((hfree b h').2.2.2 k)
   ·rw[hob k e]at h;rw[hob k' e']at h';exact R.inj k k' b h h'
 ·by_cases e:k=n
  ·subst e;rw[hobn];exact hnd
  ·rw[hob k e];exact R.nd k
 ·by_cases e:k=n
  ·subst e;rw[hobn]at h;obtain⟨h1,h2,h3,_⟩:=hfree b h;exact⟨h1,h2,h3⟩
  ·rw[hob k e]at h;exact hR.sep k b h
 ·by_cases e:k=n
  ·subst e;rw[mO]at h2;exact absurd h2 hv
  ·rw[bP _ _ l7]at h2;rw[lF _ _ _ e];exact R.fresh k h1 h2
 ·have e:k≠n:=l7;rw[lF _ _ _ e];exact R.strict k h
theorem Rel.modK(R:Rel X cl ch S m ok a w)(hT:Tk X S m ok w T){n:Nat}{v:V}{ks:List Nat}{w' :World}(hv:v≠.undef)
  (hnd:(Y5 (Gv m n ks) n v).Nodup) (hsub:∀b∈Y5 (Gv m n ks) n v,b∈Y5 m n (S (bf+n))\/b∈T)
  (hos:w'.os=w.os) (htp:w'.tape=w.tape) (hout:w'.output=w.output) (hsz:w'.heap.size=w.heap.size)
  (hkeep:∀b,b∉Y5 m n (S (bf+n))->w'.heap[b]? =w.heap[b]?) (hB:Gi ⟨w'.heap,ok,Gv m n ks⟩ n v)
  {T' :List Nat} (hnd' :T'.Nodup) (hT' :∀b∈T',(b∈Y5 m n (S (bf+n))\/b∈T)/\b∉Y5 (Gv m n ks) n v):
  Rel X cl ch (upd S (bf+n) v) (Gv m n ks) ok a w' /\Tk X (upd S (bf+n) v) (Gv m n ks) ok w' T' :=by
 have hsep:∀b,b∈Y5 m n (S (bf+n))\/b∈T->(∀t,¬ok b t)/\b<w.heap.size/\(X.w0.heap.size<=b\/b∈X.O)/\∀k,k≠n->b∉Y5 m k (S (bf+k)):=λb h=>by
  rcases h with h|h
  ·obtain⟨h1,h2,h3⟩:=R.sep n b h;exact⟨h1,h2,h3,λk e h' =>e (R.inj k n b h' h)⟩
  ·obtain⟨h1,h2,h3,h4⟩:=hT.free b h;exact⟨h1,h2,h3,λk _=>h4 k⟩
 have hle:Cx.le ⟨w.heap,ok,m⟩ ⟨w'.heap,ok,Gv m n ks⟩:=⟨λ_ _ h=>h,λb t hb=>hkeep b (λe=>(R.sep n b e).1 t hb),λ_ _ h=>h⟩;have hob:∀k,k≠n->Y5 (Gv m n ks) k (upd S (bf+n) v (bf+k))=Y5 m k (S (bf+k)):=λk e=>by rw[bP _ _ l7];exact JB rfl (ZX _ _ e)
 have hobn:Y5 (Gv m n ks) n (upd S (bf+n) v (bf+n))=Y5 (Gv m n ks) n v:=by rw[mO]
 refine⟨?_,hnd',λb hb=>?_⟩
 ·refine { kept:=R.kept,size:=R.size,nodef:=R.nodef,okLt:=λb t hb=>(by rw[hsz];exact R.okLt b t hb),okIn:=R.okIn,okOut:=R.okOut,strict:=R.strict,slot:=λk hk=>(by rw[bP _ _ l7];exact Qx hle (R.slot k hk)),box:=λk=>?_,inj:=λk k' b h h' =>?_,nd:=λk=>?_,sep:=λk b h=>?_,fresh:=λk h1 h2=>?_,frame:=?_,gl:=λg u hg=>OL.le hle (R.gl g u hg) }
  ·by_cases e:k=n
   ·subst e;rw[mO];exact hB
   ·rw[bP _ _ l7];refine UW hle (ZX _ _ e) (λb hb=>hkeep b (λe' =>e (R.inj k n b hb e'))) (R.box k)
  ·by_cases e:k=n
   ·by_cases e' :k' =n
    ·rw[e,e']
    ·subst e;rw[hobn]at h;rw[hob k' e']at h';exact absurd h' ((hsep b (hsub b h)).2.2.2 k' e')
   ·by_cases e' :k' =n
    ·subst e';rw[hobn]at h';rw[hob k e]at h;exact absurd h ((hsep b (hsub b h')).2.2.2 k e)
    ·rw[hob k e]at h;rw[hob k' e']at h';exact R.inj k k' b h h'
  ·by_cases e:k=n
   ·subst e;rw[hobn];exact hnd
   ·rw[hob k e];exact R.nd k
  ·by_cases e:k=n
   ·subst e;rw[hobn]at h;obtain⟨h1,h2,h3,_⟩:=hsep b (hsub b h);exact⟨h1,by rw[hsz];exact h2,h3⟩
   ·rw[hob k e]at h;obtain⟨h1,h2,h3⟩:=R.sep k b h;exact⟨h1,by rw[hsz];exact h2,h3⟩
  ·obtain⟨f1,f2,f3,f4,f5⟩:=R.frame;refine⟨hos.trans f1,htp.trans f2,hout.trans f3,by rw[hsz];exact f4,λb hb hO=>?_⟩;rw[hkeep b (λe=>?_)]
   ·exact f5 b hb hO
   ·rcases(R.sep n b e).2.2 with h|h
    ·omega
    ·exact hO h
  ·by_cases e:k=n
   ·subst e;rw[mO]at h2;exact absurd h2 hv
   ·rw[bP _ _ l7]at h2;exact R.fresh k h1 h2
 ·obtain⟨h0,h0'⟩:=hT' b hb;obtain⟨h1,h2,h3,h4⟩:=hsep b h0;refine⟨h1,by rw[hsz];exact h2,h3,λk h=>?_⟩;by_cases e:k=n
  ·subst e;rw[hobn]at h;exact h0' h
  ·rw[hob k e]at h;exact h4 k e h
theorem Rel.mod(R:Rel X cl ch S m ok a w){n:Nat}{v:V}{w' :World}(ho:Y5 m n v=Y5 m n (S (bf+n)))(hv:v≠.undef)
  (hos:w'.os=w.os) (htp:w'.tape=w.tape) (hout:w'.output=w.output) (hsz:w'.heap.size=w.heap.size)
  (hkeep:∀b,b∉Y5 m n (S (bf+n))->w'.heap[b]? =w.heap[b]?) (hB:Gi ⟨w'.heap,ok,m⟩ n v):Rel X cl ch (upd S (bf+n) v) m ok a w' :=by
 have h:=R.modK (T:=[]) Tk.nil (n:=n) (v:=v) (ks:=m.kid n) (w' :=w') (T' :=[]) hv (by rw[yH,ho];exact R.nd n) (by rw[yH,ho];exact λb h=> .inl h) hos htp hout hsz hkeep (by rw[yH];exact hB) fK (λb h=>by cases h);rw[yH]at h;exact h.1
theorem Rel.widen(R:Rel X cl ch S m ok a w){n:Nat}{v:V}(hv:v≠.undef)(ho:Y5 m n v=[]){Ts:List Ty}{bs:List Nat}(hbs:∀b∈bs,b∈Y5 m n (S (bf+n)))
  (hB:Gi ⟨w.heap,okW ok bs Ts,m⟩ n v):Rel X cl ch (upd S (bf+n) v) m (okW ok bs Ts) a w:=by
 have hmono:∀b t,ok b t->okW ok bs Ts b t:=λb t h=> .inl h;have hob:∀k b,b∈Y5 m k (upd S (bf+n) v (bf+k))->k≠n/\b∈Y5 m k (S (bf+k)):=λk b h=>CS ho h;have hle:Cx.le ⟨w.heap,ok,m⟩ ⟨w.heap,okW ok bs Ts,m⟩:=⟨hmono,λ_ _ _=>rfl,λ_ _ h=>h⟩;refine { kept:=R.kept,size:=R.size,nodef:=R.nodef,strict:=R.strict,frame:=R.frame,okIn:=λb t h=>hmono b t (R.okIn b t h),slot:=λk hk=>(by rw[bP _ _ l7];exact Qx hle (R.slot k hk)),box:=λk=>?_,inj:=λk k' b h h' =>R.inj k k' b (hob _ _ h).2 (hob _ _ h').2,nd:=λk=>?_,sep:=λk b h=>?_,okLt:=λb t h=>?_,okOut:=λb t h=>?_,fresh:=λk h1 h2=>?_,gl:=λg u hg=>OL.le hle (R.gl g u hg) }
 ·by_cases e:k=n
  ·subst e;rw[mO];exact hB
  ·rw[bP _ _ l7];exact UW hle rfl (λb hb=>rfl) (R.box k)
 ·by_cases e:k=n
  ·subst e;rw[mO,ho];exact fK
  ·rw[bP _ _ l7];exact R.nd k
 ·obtain⟨e,h⟩:=hob k b h;obtain⟨h1,h2,h3⟩:=R.sep k b h;refine⟨λt h' =>?_,h2,h3⟩;rcases h' with h'|⟨h',_⟩
  ·exact h1 t h'
  ·exact e (R.inj k n b h (hbs b h'))
 ·rcases h with h|⟨h,_⟩
  ·exact R.okLt b t h
  ·exact(R.sep n b (hbs b h)).2.1
 ·rcases h with h|⟨h,_⟩
  ·exact R.okOut b t h
  ·exact .inr (R.sep n b (hbs b h)).2.2
 ·by_cases e:k=n
  ·subst e;rw[mO]at h2;exact absurd h2 hv
  ·rw[bP _ _ l7]at h2;exact R.fresh k h1 h2
theorem Tk.widen(h:Tk X S m ok w T){n:Nat}{v:V}(ho:Y5 m n v=[]){Ts:List Ty}{bs:List Nat}(hbs:∀b∈bs,b∈Y5 m n (S (bf+n))):
  Tk X (upd S (bf+n) v) m (okW ok bs Ts) w T:=by
 refine⟨h.nodup,λb hb=>?_⟩;obtain⟨h1,h2,h3,h4⟩:=h.free b hb;refine⟨λt e=>?_,h2,h3,λk e=>h4 k (CS ho e).2⟩;rcases e with e|⟨e,_⟩
 ·exact h1 t e
 ·exact h4 n (hbs b e)
theorem Rel.backV(R:Rel X cl ch S m ok a w){n:Nat}{v:V}{O1 B:List Nat}(hv:v≠.undef)(hT:Tk X S m ok w (O1++B))(ho:Y5 m n v=O1)(hB:Gi ⟨w.heap,ok,m⟩ n v):
  Rel X cl ch (upd S (bf+n) v) m ok a w/\Tk X (upd S (bf+n) v) m ok w B:=by
 have hnd:=N8.1 hT.nodup;have h:=R.modK hT (n:=n) (v:=v) (ks:=m.kid n) (w' :=w) (T' :=B) hv (by rw[yH,ho];exact hnd.1) (by rw[yH,ho];exact λb h=> .inr (by simp[h])) rfl rfl rfl rfl (λ_ _=>rfl) (by rw[yH];exact hB) hnd.2.1
  (λb hb=>⟨.inr (by simp[hb]),by rw[yH,ho];exact λh=>hnd.2.2 b h b hb rfl⟩)
 rw[yH]at h;exact h
end
end Go.GP
namespace Go.GP
def JV:Loc->Option (Nat×Nat)->Loc
 | .arr blk off len cap sz,some (lo,hi)=>if cap=lo then .arr blk off 0 0 sz else .arr blk (off+lo*sz) (hi -lo) (cap -lo) sz|l,_=>l
theorem Jh{C:Cx}{t:Ty}{xs:List t.den}{l:Loc}{vw:Option (Nat×Nat)}{v:Value}(ha:arrOk C t xs l)(hv:l.view vw v):
  arrOk C t (jH vw xs) (JV l vw)/\(JV l vw).view none v/\(JV l vw).blks=l.blks:=by
 cases l with
 |st b=>cases ha|mp b=>
  cases vw with
  |none=>exact⟨ha,hv,rfl⟩|some p=>cases hv
 |nil=>
  obtain⟨ha,h0⟩:=ha;subst ha;cases vw with
  |none=>exact⟨⟨rfl,h0⟩,hv,rfl⟩|some p=>obtain⟨lo,hi⟩:=p;obtain⟨rfl,rfl,rfl⟩:=hv;exact⟨⟨rfl,h0⟩,rfl,rfl⟩
 |arr blk off len cap sz=>
  cases vw with
  |none=>exact⟨ha,hv,rfl⟩|some p=>
   obtain⟨lo,hi⟩:=p;obtain⟨h0,rfl,rfl,hc,c,T,hh,hs,hx⟩:=ha;obtain⟨h1,h2,rfl⟩:=hv;have hl:(jH (some (lo,hi)) xs).length=hi -lo:=by simp[jH,oP];omega
   by_cases e:cap=lo
   ·subst e;have e2:hi=cap:=l7;subst e2;simp only[JV,if_true,Loc.view,az];refine⟨⟨h0,rfl,by rw[hl];omega,F9 _,c,T,hh,?_,λi x hi=>?_⟩,trivial,rfl⟩
    ·have:=nY (hi*t.size);omega
    ·have:i<0:=by
      have:=(Y6.1 hi).1;rw[hl]at this;omega
     omega
   ·simp only[JV,e,if_false,Loc.view];refine⟨⟨h0,rfl,by rw[hl],l7,c,T,hh,?_,λi x hix=>?_⟩,trivial,rfl⟩
    ·have:off+lo*t.size+(cap -lo)*t.size=off+cap*t.size:=by
      rw[iL,←L6];congr 2;omega
     rw[this];exact hs
    ·have hi' :i<hi -lo:=by rw[←hl];exact(Y6.1 hix).1
     have hx' :xs[lo+i]? =some x:=by
      simp only[jH,oP,U8,Z4]at hix;split at hix
      ·exact hix
      ·cases hix
     obtain⟨es,he,hr⟩:=hx _ x hx';refine⟨es,?_,hr⟩;rw[←he];congr 1;rw[L6];omega
def SB(ag:Bool)(v:Value)(cs:List Value):Prop:=match ag with
 |true=>∃arr,v= .agg arr/\arr.toList=cs|false=>cs=[v]
def wo(h:Array Obj)(ok:Nat->Ty->Prop):(ms:List MG)->iR ms->List Value->List Nat->Prop
 |[],_,vs,O=>vs=[]/\O=[]|[m],x,vs,O=>∃v cs,vs=[v]/\SB m.1 v cs/\qy h ok m.2 none x cs O|m::m' ::r,x,vs,O=>∃v cs vs' O1 O2,vs=v::vs' /\O=O1++O2/\SB m.1 v cs/\qy h ok m.2 none x.1 cs O1/\wo h ok (m' ::r) x.2 vs' O2
theorem uf{l:Loc}{vw:Option (Nat×Nat)}{v:Value}(h:l.view vw v):v.oneCell' =true:=by
 cases l<;>rcases vw with _|⟨lo,hi⟩<;>simp only[Loc.view]at h
 ·subst h;rfl
 ·obtain⟨_,_,rfl⟩:=h;rfl
 ·subst h;rfl
 ·obtain⟨_,_,rfl⟩:=h;rfl
 ·subst h;rfl
theorem VN{h:Array Obj}{ok:Nat->Ty->Prop}{t:Ty}{x:t.den}{o:Nat}{v:Value}(k:a3O h ok t x o v):v.oneCell' =true:=by obtain⟨_,_,_,rfl,_⟩:=k;rfl
section
variable {h:Array Obj} {ok:Nat->Ty->Prop}
theorem zg{t:Ty}{xs:List t.den}{cs:List Value}{O:List Nat} :qy h ok (.own t) none xs cs O↔∃l v,cs=[v]/\l.view none v/\arrOk ⟨h,ok,nom⟩ t xs l/\O=l.blks:=by
 constructor
 ·rintro⟨v,e,_,l,hv,ha,ho⟩;exact⟨l,v,e,hv,ha,ho⟩
 ·rintro⟨l,v,e,hv,ha,ho⟩;exact⟨v,e,uf hv,l,hv,ha,ho⟩
theorem AB{m:M}{xs:List m.den}{cs:List Value}{O:List Nat} :qy h ok (.owns m) none xs cs O↔m.el=true/\∃l v Os,cs=[v]/\l.view none v/\
  DN h m.size (λ_ x es O=>qy h ok m none x es O) xs Os l/\O=l.blks++Os.flatten:=by
 constructor
 ·rintro⟨v,e,_,he,l,Os,hv,ha,ho⟩;exact⟨he,l,v,Os,e,hv,ha,ho⟩
 ·rintro⟨he,l,v,Os,e,hv,ha,ho⟩;exact⟨v,e,uf hv,he,l,Os,hv,ha,ho⟩
theorem a7X{a b:M}{x:a.den×b.den}{cs:List Value}{O:List Nat} :qy h ok (.pair a b) none x cs O↔∃c d O1 O2,cs=c++d/\O=O1++O2/\qy h ok a none x.1 c O1/\qy h ok b none x.2 d O2:=Iff.rfl
theorem xO:∀{m:M} {ho:Option Nat} {x:m.den} {cs:List Value} {O:List Nat},qy h ok m ho x cs O->∀v∈cs,v.oneCell' =true
 | .dat t,_,_,_,_,e=>xP e.1| .own t,_,_,_,_,⟨v,e,hv,_⟩=>by subst e;simp[hv]| .owns t,_,_,_,_,⟨v,e,hv,_⟩=>by subst e;simp[hv]| .ownb t,_,_,_,_,⟨l,v,e,hv,_⟩=>by subst e;simp[uf hv]| .pair a b,_,_,_,_,⟨c,d,_,_,e,_,h1,h2⟩=>by
  subst e;intro v hv;rcases D8.1 hv with hv|hv
  ·exact xO h1 v hv
  ·exact xO h2 v hv
 | .unit,_,_,_,_,⟨e,_⟩=>by subst e;simp| .box m,_,_,_,_,⟨_,_,_,_,e,_⟩=>by subst e;simp[Value.oneCell']| .rp t,_,_,_,_,⟨v,e,hv,_⟩=>by subst e;simp[VN hv]| .fn f ts,_,_,_,_,⟨vs,e,_⟩=>by subst e;simp[Value.oneCell']| .ifc t m,_,_,_,_,⟨u,e,_⟩=>by subst e;simp[Value.oneCell']| .cell _,_,_,_,_,⟨v,e,h,_⟩=>by subst e;simp[h]| .fr t,_,_,_,_,⟨l,v,e,hv,_⟩=>by subst e;simp[uf hv]
theorem QY{α β α' β' :Type}(ea:α=α')(eb:β=β')(e:(α×β)=(α' ×β'))(x:α×β):cast e x=(cast ea x.1,cast eb x.2):=by subst ea;subst eb;rfl
theorem M.ty_size:∀{m:M},m.el=true->m.ty.size=m.size
 | .dat _,_=>rfl| .own _,_=>rfl| .owns _,_=>rfl| .unit,_=>rfl| .pair a b,h=>by
  have h' :a.el=true/\b.el=true:=by simpa[M.el]using h
  simp[M.ty,Ty.size,M.size,M.ty_size h'.1,M.ty_size h'.2]
 | .box _,h=>by simp[M.el]at h| .ownb _,h=>by simp[M.el]at h| .rp _,h=>by simp[M.el]at h| .fn _ _,h=>by simp[M.el]at h| .ifc _ _,h=>by simp[M.el]at h| .cell _,h=>by simp[M.el]at h| .fr _,h=>by simp[M.el]at h
theorem gu:∀{m:M} {ho:Option Nat} {x:m.den} {cs:List Value} {O:List Nat},qy h ok m ho x cs O->cs.length=m.size
 | .dat t,_,_,_,_,e=>ik e.1| .own t,_,_,_,_,⟨v,e,hv,_⟩=>by subst e;rfl| .owns t,_,_,_,_,⟨v,e,hv,_⟩=>by subst e;rfl| .ownb t,_,_,_,_,⟨l,v,e,hv,_⟩=>by subst e;rfl| .pair a b,_,_,_,_,⟨c,d,_,_,e,_,h1,h2⟩=>by subst e;simp[gu h1,gu h2,M.size]| .unit,_,_,_,_,⟨e,_⟩=>by subst e;rfl| .box m,_,_,_,_,⟨_,_,_,_,e,_⟩=>by subst e;rfl| .rp t,_,_,_,_,⟨v,e,hv,_⟩=>by subst e;rfl| .fn f ts,_,_,_,_,⟨vs,e,_⟩=>by subst e;rfl| .ifc t m,_,_,_,_,⟨u,e,_⟩=>by subst e;rfl| .cell _,_,_,_,_,⟨v,e,_⟩=>by subst e;rfl| .fr t,_,_,_,_,⟨l,v,e,hv,_⟩=>by subst e;rfl
theorem a0Z{ok' :Nat->Ty->Prop}{α:Type}{t:Ty}{sz:Nat}{mp:Mp}(h0:t.isEnt=false)(e:α=t.den)(e' :List α=List t.den)(hs:t.size=sz){R:Nat->α->List Value->List Nat->Prop}{xs:List α}{Os:List (List Nat)}{l:Loc}
  (hR:∀i x es O,O∈Os->R i x es O->mJ h ok' t (cast e x) es) (ha:DN h sz R xs Os l):arrOk ⟨h,ok',mp⟩ t (cast e' xs) l:=by
 subst e;simp only[cast_eq]at hR ⊢;cases l with
 |nil=>exact⟨ha.1,h0⟩|st b=>exact ha|mp b=>exact ha.elim|arr blk off len cap sz' =>obtain⟨h1,h2,h3,h7,c,T,h4,h5,h6⟩:=ha;refine⟨h0,by rw[hs];exact h1,h2,h3,c,T,h4,by rw[h1];exact h5,λi x hi=>?_⟩;obtain⟨es,O,hO,hc,hr⟩:=h6 i x hi;exact⟨es,by rw[h1];exact hc,hR i x es O (rV hO) hr⟩
theorem M.ty_ent:∀{m:M},m.el=true->m.ty.isEnt=false
 | .dat t,h=>by simpa[M.el,M.ty]using h| .own _,_=>rfl| .owns _,_=>rfl| .unit,_=>rfl| .pair _ _,_=>rfl| .box _,h=>by simp[M.el]at h| .ownb _,h=>by simp[M.el]at h| .rp _,h=>by simp[M.el]at h| .fn _ _,h=>by simp[M.el]at h| .ifc _ _,h=>by simp[M.el]at h| .cell _,h=>by simp[M.el]at h| .fr _,h=>by simp[M.el]at h
theorem Qw{ok' :Nat->Ty->Prop}(hok:∀b t,ok b t->ok' b t):∀{m:M} (he:m.el=true) {x:m.den} {cs:List Value} {O:List Nat},(∀b∈O,∀t∈m.owned,ok' b t)->qy h ok m none x cs O->mJ h ok' m.ty (cast (M.denEq m he) x) cs
 | .dat t,_,_,_,_,_,e=>fB hok (λ_ _ _=>rfl) e.1| .unit,_,_,_,_,_,e=>e.1| .own t,he,xs,_,_,hO,e=>by obtain⟨l,v,rfl,hv,ha,rfl⟩:=zg.1 e;exact rf (C:=⟨h,ok,nom⟩) (vw:=none) ha hv hok (λblk hb=>hO blk hb t (by simp[M.owned]))
 | .pair a b,he,x,_,_,hO,e=>by
  obtain⟨c,d,O1,O2,rfl,rfl,h1,h2⟩:=e;have h' :a.el=true/\b.el=true:=by simpa[M.el]using he
  have e:cast (M.denEq (.pair a b) he) x=(cast (M.denEq a h'.1) x.1,cast (M.denEq b h'.2) x.2):=QY _ _ _ _;refine⟨c,d,rfl,?_,?_⟩
  ·rw[e];exact Qw hok h'.1 (λb hb t ht=>hO b (by simp[hb]) t (by simp[M.owned,ht])) h1
  ·rw[e];exact Qw hok h'.2 (λb hb t ht=>hO b (by simp[hb]) t (by simp[M.owned,ht])) h2
 | .owns m,he,xs,_,_,hO,e=>by
  obtain⟨_,l,v,Os,rfl,hv,ha,rfl⟩:=AB.1 e;have he' :m.el=true:=he;have hA:arrOk ⟨h,ok',nom⟩ m.ty (cast (congrArg List (M.denEq m he')) xs) l:=a0Z (M.ty_ent he') (M.denEq m he') _ (M.ty_size he') (λi x es O hOi hr=>Qw hok he' (λb hb t ht=>hO b (by simp only[D8,dP];exact .inr ⟨O,hOi,hb⟩) t (by simp[M.owned,ht])) hr) ha
  exact rf (C:=⟨h,ok',nom⟩) (t:=m.ty) (vw:=none) hA hv (λ_ _ h=>h) (λblk hb=>hO blk (by simp[hb]) m.ty (by simp[M.owned]))
 | .box _,h,_,_,_,_,_=>by simp[M.el]at h| .ownb _,h,_,_,_,_,_=>by simp[M.el]at h| .rp _,h,_,_,_,_,_=>by simp[M.el]at h| .fn _ _,h,_,_,_,_,_=>by simp[M.el]at h| .ifc _ _,h,_,_,_,_,_=>by simp[M.el]at h| .cell _,h,_,_,_,_,_=>by simp[M.el]at h| .fr _,h,_,_,_,_,_=>by simp[M.el]at h
theorem NC{ok' :Nat->Ty->Prop}{m:M}{mp:Mp}(he:m.el=true)(hok:∀b t,ok b t->ok' b t){xs:List m.den}{Os:List (List Nat)}{l:Loc}(hO:∀b∈Os.flatten,∀t∈m.owned,ok' b t)
  (ha:DN h m.size (λ_ x es O=>qy h ok m none x es O) xs Os l):arrOk ⟨h,ok',mp⟩ m.ty (cast (congrArg List (M.denEq m he)) xs) l:=
 a0Z (M.ty_ent he) (M.denEq m he) _ (M.ty_size he) (λi x es O hOi hr=>Qw hok he (λb hb t ht=>hO b (dP.2 ⟨O,hOi,hb⟩) t ht) hr) ha
end
theorem Uh{h h' :Array Obj}{ok ok' :Nat->Ty->Prop}(hok:∀b t,ok b t->ok' b t)(hh:∀b t,ok b t->h'[b]? =h[b]?):
  ∀{ms:List MG} {x:iR ms} {vs:List Value} {O:List Nat},(∀b∈O,h'[b]? =h[b]?)->wo h ok ms x vs O->wo h' ok' ms x vs O
 |[],_,_,_,_,e=>e|[m],_,_,_,hb,⟨v,cs,e,hg,hr⟩=>⟨v,cs,e,hg,kS hok hh hb hr⟩|m::m' ::r,_,_,_,hb,⟨v,cs,vs',O1,O2,e,eo,hg,h1,h2⟩=>by subst eo;exact⟨v,cs,vs',O1,O2,e,rfl,hg,kS hok hh (λb h=>hb b (by simp[h])) h1,Uh hok hh (λb h=>hb b (by simp[h])) h2⟩
section
variable {X:Fx} {cl ch:Nat} {S:Sm} {m:Mp} {ok:Nat->Ty->Prop} {a:Act} {w:World} {T:List Nat}
theorem iJ{α:Type}{Q:α->Sm->Prop}{p q:Ty}{xs:List p.den}{k:List q.den->Cmd α}{S:Sm}
  (h:∀e:p=q,(k (e▸xs)).post S Q):(Ty.castL p q xs k .fail).post S Q:=by
 unfold Ty.castL;split
 ·rename_i e;exact h e
 ·trivial
theorem iG{α:Type}{Q:α->Sm->Prop}{b:Bool}{c:Cmd α}{S:Sm}(h:b=true->c.post S Q):(bif b then c else Cmd.fail).post S Q:=by
 cases b
 ·trivial
 ·exact h rfl
theorem Ji{α:Type}{Q:α->Sm->Prop}{p q:Ty}{x:p.den}{k:q.den->Cmd α}{S:Sm}
  (h:∀e:p=q,(k (e▸x)).post S Q):(YR p q x k .fail).post S Q:=by
 unfold YR;split
 ·rename_i e;exact h e
 ·trivial
theorem Vz{α:Type}{Q:α->Sm->Prop}{p q:M}{xs:List p.den}{k:List q.den->Cmd α}{S:Sm}
  (h:∀e:p=q,(k (e▸xs)).post S Q):(a5I p q xs k .fail).post S Q:=by
 unfold a5I;split
 ·rename_i e;exact h (M.beq_eq e)
 ·trivial
theorem a1r{α:Type}{Q:α->Sm->Prop}{p:M}{t:Ty}{xs:List p.den}{k:List t.den->Cmd α}{S:Sm}
  (h:∀(e:p.el=true) (e' :p.ty=t),(k (e' ▸cast (congrArg List (M.denEq p e)) xs)).post S Q):(a3T p t xs k .fail).post S Q:=by
 unfold a3T;split
 ·rename_i e;obtain⟨e,rfl⟩:=e;exact h e rfl
 ·trivial
theorem Qu{h:Array Obj}{ok ok' :Nat->Ty->Prop}{m:Mp}(k:∀b t,ok b t->ok' b t){cs:List V}{vs:List Value}(hr:iP ⟨h,ok,m⟩ cs vs):iP ⟨h,ok',m⟩ cs vs:=
 Hq (C:=⟨h,ok,m⟩) (D:=⟨h,ok',m⟩) ⟨k,λ_ _ _=>rfl,λ_ _ h=>h⟩ hr
theorem Nl{h:Array Obj}{ok ok' :Nat->Ty->Prop}{m:Mp}(k:∀b t,ok b t->ok' b t){c:V}{v:Value}(hr:pg ⟨h,ok,m⟩ c v):pg ⟨h,ok',m⟩ c v:=
 Qx (C:=⟨h,ok,m⟩) (D:=⟨h,ok',m⟩) ⟨k,λ_ _ _=>rfl,λ_ _ h=>h⟩ hr
theorem OA{bs:List Nat}{Ts:List Ty} :∀b t,ok b t->okW ok bs Ts b t:=λ_ _ h=> .inl h
def okL(ln:Ty->Bool)(S:Sm)(m:Mp)(ok:Nat->Ty->Prop):Nat->Ty->Prop:=λb t=>ok b t\/(ln t=true/\∃n,b∈Y5 m n (S (bf+n))/\t∈b0y (S (bf+n)))
theorem b0m:okL CP S m ok=ok:=by funext b t;simp[okL,CP]
theorem ZG{ln:Ty->Bool}{n:Nat}{v:V}(hv:Y5 m n v=[]){Ts:List Ty}{bs:List Nat}(hbs:Y5 m n (S (bf+n)) ⊆ bs)(hTs:b0y (S (bf+n)) ⊆ Ts):
  ∀b t,okL ln S m ok b t->okL ln (upd S (bf+n) v) m (okW ok bs Ts) b t:=by
 intro b t h;rcases h with h|⟨hl,k,hk,ht⟩
 ·exact .inl (.inl h)
 ·by_cases e:k=n
  ·subst e;exact .inl (.inr ⟨hbs hk,hTs ht⟩)
  ·exact .inr ⟨hl,k,by rw[bP _ _ l7];exact⟨hk,ht⟩⟩
def eU(S S' :Sm):Prop:=∀n,n<bf->S' n=S n
theorem eU.refl(S:Sm):eU S S:=λ_ _=>rfl
theorem eU.trans{A B C:Sm}(h:eU A B)(k:eU B C):eU A C:=λn hn=>(k n hn).trans (h n hn)
theorem eU.box(S:Sm)(n:Nat)(v:V):eU S (upd S (bf+n) v):=λk hk=>bP _ _ l7
theorem YH{ln:Ty->Bool} :∀{ts:List Ty},a0U ln ts=true->∀t∈ts,ln t=true
 |[],_,_,h=>by cases h|u::r,e,t,h=>by
  unfold a0U at e;cases hl:ln u with
  |false=>rw[hl]at e;cases e|true=>
   rw[hl]at e;rcases A8.1 h with rfl|h
   ·exact hl
   ·exact YH e t h
theorem Hy{α:Type}{Q:α->Sm->Prop}(ln:Ty->Bool):∀(t:Ty) {cs:List V} {K:t.den->List V->Cmd α} {S:Sm} {ok:Nat->Ty->Prop} {vs:List Value} (R:Rel X cl ch S m ok a w) (hT:Tk X S m ok w T)
  (hL:iP ⟨w.heap,ok,m⟩ cs vs)
  (hK:∀S' ok' x r us us',Rel X cl ch S' m ok' a w->Tk X S' m ok' w T->(∀b t,ok b t->ok' b t)->(∀b t,okL ln S m ok b t->okL ln S' m ok' b t)->eU S S' ->vs=us++us' ->mJ w.heap (okL ln S' m ok') t x us->iP ⟨w.heap,ok',m⟩ r us' ->(K x r).post S' Q),
  (qA ln t cs K).post S Q
 | .bool,cs,K,S,ok,vs,R,hT,hL,hK=>by
  unfold qA;split
  ·obtain⟨v,r,rfl,h1,_,h3⟩:=hL;exact hK _ _ _ _ [v] r R hT (λ_ _ h=>h) (λ_ _ h=>h) (eU.refl _) rfl (by simp only[zf]at h1;simp[mJ,h1]) h3
  ·trivial
 | .int k,cs,K,S,ok,vs,R,hT,hL,hK=>by
  unfold qA;split
  ·rename_i k' n r0;obtain⟨v,r,rfl,h1,_,h3⟩:=hL;by_cases e:k=k'
   ·subst e;simp only[decide_true,cond_true];exact hK _ _ _ _ [v] r R hT (λ_ _ h=>h) (λ_ _ h=>h) (eU.refl _) rfl (by simp only[zf]at h1;simp[mJ,h1]) h3
   ·simp only[e,decide_false,cond_false];trivial
  ·trivial
 | .str,cs,K,S,ok,vs,R,hT,hL,hK=>by
  unfold qA;split
  ·obtain⟨v,r,rfl,h1,_,h3⟩:=hL;exact hK _ _ _ _ [v] r R hT (λ_ _ h=>h) (λ_ _ h=>h) (eU.refl _) rfl (by simp only[zf]at h1;simp[mJ,h1]) h3
  ·trivial
 | .unit,cs,K,S,ok,vs,R,hT,hL,hK=>by unfold qA;exact hK _ _ _ _ [] vs R hT (λ_ _ h=>h) (λ_ _ h=>h) (eU.refl _) rfl rfl hL
 | .prod p q,cs,K,S,ok,vs,R,hT,hL,hK=>by unfold qA;refine Hy ln p R hT hL λS1 ok1 x r us us' R1 T1 k1 g1 s1 e1 h1 l1=>?_;refine Hy ln q R1 T1 l1 λS2 ok2 y r' vs2 vs2' R2 T2 k2 g2 s2 e2 h2 l2=>?_;subst e1;subst e2;exact hK _ _ _ _ (us++vs2) vs2' R2 T2 (λb t h=>k2 b t (k1 b t h)) (λb t h=>g2 b t (g1 b t h)) (s1.trans s2) A7 ⟨us,vs2,rfl,fB g2 (λ_ _ _=>rfl) h1,h2⟩ l2| .ent ..,cs,K,S,ok,vs,R,hT,hL,hK=>by unfold qA;trivial| .sl t,cs,K,S,ok,vs,R,hT,hL,hK=>by
  unfold qA;split
  ·obtain⟨v,r,rfl,h1,_,h3⟩:=hL;simp only[zf]at h1;subst h1;cases ht:t.isEnt
   ·exact hK _ _ _ _ [_] r R hT (λ_ _ h=>h) (λ_ _ h=>h) (eU.refl _) rfl (.inl ⟨ht,none,0,rfl,F9 _,λi x hi=>by simp at hi⟩) h3
   ·trivial
  ·rename_i t' xs r0;obtain⟨v,r,rfl,h1,_,h3⟩:=hL;refine iJ λe=>?_;subst e;exact hK _ _ _ _ [v] r R hT (λ_ _ h=>h) (λ_ _ h=>h) (eU.refl _) rfl (fB (λ_ _ h=> .inl h) (λ_ _ _=>rfl) h1) h3
  ·rename_i bx vw r0;obtain⟨v,r,rfl,h1,_,h3⟩:=hL;obtain⟨l,hm,hv⟩:=h1;show Cmd.post (match S (bf+bx)with| .barr t' xs=>_| .bfrz t' xs=>_| .barrs el xs none=>_|_=>_) S Q;have hb:=R.box bx;split
   ·rename_i t' xs hS;rw[hS]at hb;obtain⟨l',hm',ha⟩:=hb;simp only at hm hm';rw[hm]at hm';cases hm';refine iJ λe=>?_;subst e;have hob:Y5 m bx (S (bf+bx))=l.blks:=by
     rw[hS];cases l<;>first|(simp[Y5,hm,Loc.blks];done)|cases ha
    cases hl:ln t'
    ·simp only[cond_false];show Cmd.post _ (upd S (bf+bx) (.bfrz t' xs)) Q;have hbs:∀b∈l.blks,b∈Y5 m bx (S (bf+bx)):=λb h=>by rw[hob];exact h
     refine hK _ (okW ok l.blks [t']) _ _ [v] r (R.widen A7 rfl hbs ?_) (hT.widen rfl hbs) OA (ZG rfl (by rw[hob];exact λ_ h=>h) (by rw[hS];exact λ_ h=>h)) (eU.box _ _ _) rfl ?_ (Qu OA h3)
     ·exact⟨l,hm,xf OA (λ_ _ _=>rfl) (λ_ _=>rfl) ha,λblk hb=> .inr ⟨hb,A7⟩⟩
     ·exact rf (C:=⟨w.heap,ok,m⟩) ha hv (λb t h=> .inl (.inl h)) (λblk hb=> .inl (.inr ⟨hb,A7⟩))
    ·simp only[cond_true];refine hK _ _ _ _ [v] r R hT (λ_ _ h=>h) (λ_ _ h=>h) (eU.refl _) rfl ?_ h3;refine rf (C:=⟨w.heap,ok,m⟩) ha hv (λb t h=> .inl h) (λblk hb=> .inr ⟨hl,bx,?_,by rw[hS];simp[b0y]⟩);rw[hob];exact hb
   ·rename_i t' xs hS;rw[hS]at hb;obtain⟨l',hm',ha,hok⟩:=hb;simp only at hm hm';rw[hm]at hm';cases hm';refine iJ λe=>?_;subst e;exact hK _ _ _ _ [v] r R hT (λ_ _ h=>h) (λ_ _ h=>h) (eU.refl _) rfl (rf (C:=⟨w.heap,ok,m⟩) ha hv (λ_ _ h=> .inl h) (λblk e=> .inl (hok _ e))) h3
   ·rename_i md xs hS;rw[hS]at hb;obtain⟨hel,l',Os,hm',⟨ha,hho⟩,hk⟩:=hb;simp only at hm hm' hk;rw[hm]at hm';cases hm';refine a1r λe e' =>?_;subst e';have hob:Y5 m bx (S (bf+bx))=l.blks++Os.flatten:=by
     rw[hS];simp only[Y5];rw[hk];cases l<;>first|(simp[hm,Loc.blks];done)|cases ha
    simp only;cases hl:(ln md.ty&&a0U ln md.owned)
    ·simp only[cond_false];show Cmd.post _ (upd S (bf+bx) (.bfrz md.ty _)) Q;have hbs:∀b∈l.blks++Os.flatten,b∈Y5 m bx (S (bf+bx)):=λb h=>by rw[hob];exact h
     have ha' :arrOk ⟨w.heap,okW ok (l.blks++Os.flatten) (md.ty::md.owned),m⟩ md.ty (cast (congrArg List (M.denEq md e)) xs) l:=
      NC e OA (λb hb t ht=> .inr ⟨by simp[hb],by simp[ht]⟩) ha
     refine hK _ (okW ok (l.blks++Os.flatten) (md.ty::md.owned)) _ _ [v] r (R.widen A7 rfl hbs ?_) (hT.widen rfl hbs) OA (ZG rfl (by rw[hob];exact λ_ h=>h) (by rw[hS];exact λ_ h=>h)) (eU.box _ _ _) rfl ?_ (Qu OA h3)
     ·exact⟨l,hm,ha',λblk hb=> .inr ⟨by simp[hb],A7⟩⟩
     ·exact rf (C:=⟨w.heap,okW ok (l.blks++Os.flatten) (md.ty::md.owned),m⟩) ha' hv (λb t h=> .inl h) (λblk hb=> .inl (.inr ⟨by simp[hb],A7⟩))
    ·simp only[cond_true];simp only[C9]at hl;have ha' :arrOk ⟨w.heap,okL ln S m ok,m⟩ md.ty (cast (congrArg List (M.denEq md e)) xs) l:=
      NC e (λb t h=> .inl h) (λb hb t ht=> .inr ⟨YH hl.2 t ht,bx,by rw[hob];simp[hb],by rw[hS];simp[b0y,ht]⟩) ha
     refine hK _ _ _ _ [v] r R hT (λ_ _ h=>h) (λ_ _ h=>h) (eU.refl _) rfl ?_ h3;refine rf (C:=⟨w.heap,okL ln S m ok,m⟩) ha' hv (λb t h=>h) (λblk hb=> .inr ⟨hl.1,bx,?_,by rw[hS];simp[b0y]⟩);rw[hob];simp[hb]
   ·trivial
  ·trivial
theorem Fa{α:Type}{Q:α->Sm->Prop}(t:Ty){cs:List V}{K:t.den->List V->Cmd α}{S:Sm}{ok:Nat->Ty->Prop}{vs:List Value}(R:Rel X cl ch S m ok a w)(hT:Tk X S m ok w T)
  (hL:iP ⟨w.heap,ok,m⟩ cs vs)
  (hK:∀S' ok' x r us us',Rel X cl ch S' m ok' a w->Tk X S' m ok' w T->(∀b t,ok b t->ok' b t)->eU S S' ->vs=us++us' ->mJ w.heap ok' t x us->iP ⟨w.heap,ok',m⟩ r us' ->(K x r).post S' Q):
  (qA CP t cs K).post S Q:=
 Hy CP t R hT hL λS' ok' x r us us' R' T' k g s e h l=>hK S' ok' x r us us' R' T' k s e (by rw[b0m]at h;exact h) l
theorem Loc.blks_nodup(l:Loc):l.blks.Nodup:=by cases l<;>simp[Loc.blks]
theorem a2F{α:Type}{Q:α->Sm->Prop}(t:Ty){c:V}{K:t.den->Cmd α}{S:Sm}{ok:Nat->Ty->Prop}{v:Value}(R:Rel X cl ch S m ok a w)(hT:Tk X S m ok w T)
  (hv:zf ⟨w.heap,ok,m⟩ c v)
  (hK:∀S' ok' x,Rel X cl ch S' m ok' a w->Tk X S' m ok' w T->(∀b t,ok b t->ok' b t)->eU S S' ->a3O w.heap ok' t x 0 v->(K x).post S' Q):(rpC t c K).post S Q:=by
 unfold rpC;split
 ·refine Ji λe=>?_;subst e;exact hK _ _ _ R hT (λ_ _ h=>h) (eU.refl _) hv
 ·rename_i bx;obtain⟨blk,hm,rfl⟩:=hv;show Cmd.post (match S (bf+bx)with| .bfc t' x=>_| .bcells bs=>_|_=>_) S Q;have hb:=R.box bx;split
  ·rename_i t' x hS;rw[hS]at hb;obtain⟨blk',es,hm',hok,hc,hr⟩:=hb;simp only at hm hm';rw[hm]at hm';cases hm';refine Ji λe=>?_;subst e;exact hK _ _ _ R hT (λ_ _ h=>h) (eU.refl _) ⟨blk,0,es,rfl,hok,hc,hr⟩
  ·rename_i bs hS;rw[hS]at hb;obtain⟨blk',arr,Ty',hm',hh,hl⟩:=hb;simp only at hm hm';rw[hm]at hm';cases hm';refine Fa t R hT hl λS1 ok1 x q us us' R1 T1 k1 s1 e1 h1 l1=>?_;cases q with
   |cons c q=>trivial|nil=>
    simp only[iP]at l1;subst l1;simp only[H9]at e1;show Cmd.post (match S1 (bf+bx)with| .bcells _=>_|_=>_) S1 Q;split
    ·rename_i bs' hS';show Cmd.post _ (upd S1 (bf+bx) (.bfc t x)) Q;have hbs:∀b∈[blk],b∈Y5 m bx (S1 (bf+bx)):=λb h=>by rw[hS'];simp at h;subst h;simp[Y5,hm]
     have hce:fD w.heap blk 0 t.size=some us:=by rw[nP hh 0 t.size (by have:=ik h1;rw[←e1]at this;simp at this;omega)];rw[e1,←ik h1];simp
     have hr:=fB (OA (bs:=[blk]) (Ts:=[t])) (λ_ _ _=>rfl) h1;refine hK _ (okW ok1 [blk] [t]) _ (R1.widen A7 rfl hbs ?_) (T1.widen rfl hbs) (λb t h=> .inl (k1 b t h)) (s1.trans (eU.box _ _ _)) ?_
     ·exact⟨blk,us,hm,.inr ⟨A7,A7⟩,hce,hr⟩
     ·exact⟨blk,0,us,rfl,.inr ⟨A7,A7⟩,hce,hr⟩
    ·trivial
  ·trivial
 ·trivial
theorem KR{α:Type}{Q:α->Sm->Prop}{h:Array Obj}{ok:Nat->Ty->Prop} :∀(ts:List Ty) {cs:List ((t:Ty)×t.den)} {vs:List Value} {K:Ti ts->Cmd α} {S:Sm}
  (hc:Fh h ok cs vs) (hK:∀x,Fh h ok (Tf ts x) vs->(K x).post S Q),(Ob ts cs K).post S Q
 |[],cs,vs,K,S,hc,hK=>by
  unfold Ob;split
  ·exact hK _ hc
  ·trivial
 |[t],cs,vs,K,S,hc,hK=>by
  unfold Ob;split
  ·refine Ji λe=>?_;subst e;exact hK _ hc
  ·trivial
 |t::t' ::r,cs,vs,K,S,hc,hK=>by
  unfold Ob;split
  ·obtain⟨v,vs',rfl,h1,h2⟩:=hc;refine Ji λe=>?_;subst e;exact KR (t' ::r) h2 λy hy=>hK _ ⟨v,vs',rfl,h1,hy⟩
  ·trivial
theorem Fz{α:Type}{Q:α->Sm->Prop} :∀(md:M) {cs:List V} {K:md.den->List V->Cmd α} {S:Sm} {ok:Nat->Ty->Prop} {vs:List Value} {T:List Nat} (R:Rel X cl ch S m ok a w) (hT:Tk X S m ok w T)
  (hL:iP ⟨w.heap,ok,m⟩ cs vs)
  (hK:∀S' ok' x r us us' O,Rel X cl ch S' m ok' a w->Tk X S' m ok' w (T++O)->(∀b t,ok b t->ok' b t)->eU S S' ->vs=us++us' ->qy w.heap ok' md none x us O->iP ⟨w.heap,ok',m⟩ r us' ->(K x r).post S' Q),
  (exM CP md cs K).post S Q
 | .dat t,cs,K,S,ok,vs,T,R,hT,hL,hK=>by unfold exM;exact Fa t R hT hL λS' ok' x r us us' R' T' k s e h l=>hK S' ok' x r us us' [] R' (by simpa using T') k s e ⟨h,rfl⟩ l| .own t,cs,K,S,ok,vs,T,R,hT,hL,hK=>by
  unfold exM;split
  ·obtain⟨v,r,rfl,h1,_,h3⟩:=hL;simp only[zf]at h1;subst h1;cases ht:t.isEnt
   ·exact hK _ _ _ _ [_] r [] R (by simpa using hT) (λ_ _ h=>h) (eU.refl _) rfl (zg.2 ⟨.nil,_,rfl,rfl,⟨rfl,ht⟩,rfl⟩) h3
   ·trivial
  ·rename_i bx vw r0;obtain⟨v,r,rfl,h1,_,h3⟩:=hL;obtain⟨l,hm,hv⟩:=h1;show Cmd.post (match S (bf+bx)with| .barr t' xs=>_|_=>_) S Q;have hb:=R.box bx;split
   ·rename_i t' xs hS;rw[hS]at hb;obtain⟨l',hm',ha⟩:=hb;simp only at hm hm';rw[hm]at hm';cases hm';refine iJ λe=>?_;subst e;obtain⟨a1,a2,a3⟩:=Jh (C:=⟨w.heap,ok,m⟩) ha hv;show Cmd.post _ (upd S (bf+bx) .dead) Q;refine hK _ ok _ _ [v] r (JV l vw).blks (R.kill bx) ?_ (λ_ _ h=>h) (eU.box _ _ _) rfl (zg.2 ⟨_,v,rfl,a2,xf (λ_ _ h=>h) (λ_ _ _=>rfl) (λ_ _=>rfl) a1,rfl⟩) h3;rw[a3];refine hT.kill R bx (λb hb=>?_) (Loc.blks_nodup l);cases l with
    |nil=>simp[Loc.blks]at hb|st _=>cases ha|arr blk off len cap sz=>simp[Loc.blks]at hb;subst hb;simp[Y5,hS,hm]|mp blk=>simp[Loc.blks]at hb;subst hb;simp[Y5,hS,hm]
   ·trivial
  ·trivial
 | .ownb t,cs,K,S,ok,vs,T,R,hT,hL,hK=>by
  unfold exM;split
  ·obtain⟨v,r,rfl,h1,_,h3⟩:=hL;simp only[zf]at h1;subst h1;cases ht:t.isEnt
   ·exact hK _ _ _ _ [_] r [] R (by simpa using hT) (λ_ _ h=>h) (eU.refl _) rfl ⟨.nil,_,rfl,rfl,⟨rfl,ht⟩,rfl⟩ h3
   ·trivial
  ·rename_i bx r0;obtain⟨v,r,rfl,h1,_,h3⟩:=hL;obtain⟨l,hm,hv⟩:=h1;show Cmd.post (match S (bf+bx)with| .barr t' xs=>_|_=>_) S Q;have hb:=R.box bx;split
   ·rename_i t' xs hS;rw[hS]at hb;obtain⟨l',hm',ha⟩:=hb;simp only at hm hm';rw[hm]at hm';cases hm';refine iJ λe=>?_;subst e;show Cmd.post _ (upd S (bf+bx) (.gone t')) Q;refine hK _ ok _ _ [v] r l.blks (R.killV bx A7 rfl ⟨l,hm,λblk off len cap sz e=>by subst e;exact ha.2.1⟩) ?_ (λ_ _ h=>h) (eU.box _ _ _) rfl ⟨l,v,rfl,hv,xf (λ_ _ h=>h) (λ_ _ _=>rfl) (λ_ _=>rfl) ha,rfl⟩ h3;refine hT.killV R bx rfl (λb hb=>?_) (Loc.blks_nodup l);cases l with
    |nil=>simp[Loc.blks]at hb|st _=>cases ha|arr blk off len cap sz=>simp[Loc.blks]at hb;subst hb;simp[Y5,hS,hm]|mp blk=>simp[Loc.blks]at hb;subst hb;simp[Y5,hS,hm]
   ·trivial
  ·trivial
 | .owns md,cs,K,S,ok,vs,T,R,hT,hL,hK=>by
  unfold exM;split
  ·obtain⟨v,r,rfl,h1,_,h3⟩:=hL;simp only[zf]at h1;subst h1;refine iG λhe=>?_;exact hK _ _ _ _ [_] r [] R (by simpa using hT) (λ_ _ h=>h) (eU.refl _) rfl (AB.2 ⟨he,.nil,_,[],rfl,rfl,⟨rfl,rfl⟩,rfl⟩) h3
  ·rename_i bx r0;obtain⟨v,r,rfl,h1,_,h3⟩:=hL;obtain⟨l,hm,hv⟩:=h1;show Cmd.post (match S (bf+bx)with| .barrs m' xs none=>_|_=>_) S Q;have hb:=R.box bx;split
   ·rename_i md' xs hS;rw[hS]at hb;obtain⟨hel,l',Os,hm',⟨ha,hho⟩,hk⟩:=hb;simp only at hm hm' hk;rw[hm]at hm';cases hm';refine Vz λe=>?_;subst e;have hob:Y5 m bx (S (bf+bx))=l.blks++Os.flatten:=by
     rw[hS];simp only[Y5];rw[hk];cases l<;>first|(simp[hm,Loc.blks];done)|cases ha
    show Cmd.post _ (upd S (bf+bx) .dead) Q;refine hK _ ok _ _ [v] r (l.blks++Os.flatten) (R.kill bx) ?_ (λ_ _ h=>h) (eU.box _ _ _) rfl (AB.2 ⟨hel,l,v,Os,rfl,hv,ha,rfl⟩) h3;refine hT.kill R bx (λb hb=>by rw[hob];exact hb) (by rw[←hob];exact R.nd bx)
   ·trivial
  ·trivial
 | .unit,cs,K,S,ok,vs,T,R,hT,hL,hK=>by unfold exM;exact hK _ _ _ _ [] vs [] R (by simpa using hT) (λ_ _ h=>h) (eU.refl _) rfl ⟨rfl,rfl⟩ hL
 | .pair p q,cs,K,S,ok,vs,T,R,hT,hL,hK=>by unfold exM;refine Fz p R hT hL λS1 ok1 x r us us' O1 R1 T1 k1 s1 e1 h1 l1=>?_;refine Fz q R1 T1 l1 λS2 ok2 y r' vs2 vs2' O2 R2 T2 k2 s2 e2 h2 l2=>?_;subst e1;subst e2;exact hK _ _ _ _ (us++vs2) vs2' (O1++O2) R2 (by simpa using T2) (λb t h=>k2 b t (k1 b t h)) (s1.trans s2) A7 ⟨us,vs2,O1,O2,rfl,rfl,kS k2 (λ_ _ _=>rfl) (λ_ _=>rfl) h1,h2⟩ l2| .box md,cs,K,S,ok,vs,T,R,hT,hL,hK=>by
  unfold exM;split
  ·rename_i bx r0;obtain⟨v,r,rfl,h1,_,h3⟩:=hL;obtain⟨blk,hm,hv⟩:=h1;show Cmd.post (match S (bf+bx)with| .bcells bs=>_|_=>_) S Q;have hb:=R.box bx;split
   ·rename_i bs hS;rw[hS]at hb;obtain⟨blk',arr,Ty',hm',hh,hl⟩:=hb;simp only at hm hm' hv;rw[hm]at hm';cases hm';subst hv;show Cmd.post _ (upd S (bf+bx) .dead) Q;have hT1:Tk X (upd S (bf+bx) .dead) m ok w (T++[blk]):=hT.kill R bx (λb hb=>by simp at hb;subst hb;simp[Y5,hS,hm]) A7;refine Fz md (R.kill bx) hT1 hl λS1 ok1 x q us us' O R1 T1 k1 s1 e1 h1 l1=>?_;cases q with
    |nil=>simp only[iP]at l1;subst l1;simp only[H9]at e1;refine hK _ _ _ _ [_] r (blk::O) R1 (by simpa using T1) k1 ((eU.box _ _ _).trans s1) rfl ⟨blk,arr,Ty',O,rfl,hh,by rw[e1];exact h1,rfl⟩ (Qu k1 h3)|cons c q=>trivial
   ·trivial
  ·trivial
 | .rp t,cs,K,S,ok,vs,T,R,hT,hL,hK=>by
  unfold exM;split
  ·obtain⟨v,r,rfl,h1,_,h3⟩:=hL;refine a2F t R hT h1 λS1 ok1 x R1 T1 k1 s1 h1=>?_;exact hK _ _ _ _ [v] r [] R1 (by simpa using T1) k1 s1 rfl ⟨v,rfl,h1,rfl⟩ (Qu k1 h3)
  ·trivial
 | .fn f ts,cs,K,S,ok,vs,T,R,hT,hL,hK=>by
  unfold exM;split
  ·rename_i g caps r0;obtain⟨v,r,rfl,⟨us,rfl,hc⟩,_,h3⟩:=hL;cases hb:Nat.beq g f
   ·trivial
   ·simp only[cond_true];have e:=jy hb;subst e;exact KR ts hc λx hx=>hK _ _ _ _ [_] r [] R (by simpa using hT) (λ_ _ h=>h) (eU.refl _) rfl ⟨us,rfl,hx,rfl⟩ h3
  ·rename_i g r0;obtain⟨v,r,rfl,h1,_,h3⟩:=hL;have h1:v= .func (.func g) #[] #[]:=h1;subst h1;cases hb:Nat.beq g f
   ·trivial
   ·simp only[cond_true];have e:=jy hb;subst e;exact KR (cs:=[]) (vs:=[]) ts rfl λx hx=>hK _ _ _ _ [_] r [] R (by simpa using hT) (λ_ _ h=>h) (eU.refl _) rfl ⟨#[],rfl,hx,rfl⟩ h3
  ·trivial
 | .ifc t md,cs,K,S,ok,vs,T,R,hT,hL,hK=>by
  unfold exM;split
  ·rename_i t' c r0;obtain⟨v,r,rfl,⟨u,rfl,hu,hc⟩,_,h3⟩:=hL;cases hb:Nat.beq t' t
   ·trivial
   ·simp only[cond_true];have e:=jy hb;subst e;refine Fz md (vs:=[u]) R hT ⟨u,[],rfl,hc,hu,rfl⟩ λS1 ok1 x q us us' O R1 T1 k1 s1 e1 h1 l1=>?_;cases q with
    |cons c q=>trivial|nil=>simp only[iP]at l1;subst l1;simp only[H9]at e1;subst e1;exact hK _ _ _ _ [_] r O R1 T1 k1 s1 rfl ⟨u,rfl,h1⟩ (Qu k1 h3)
  ·trivial
 | .cell (some none),cs,K,S,ok,vs,T,R,hT,hL,hK=>by
  unfold exM;split
  ·obtain⟨v,r,rfl,h1,h2,h3⟩:=hL;exact hK _ _ _ _ [v] r [] R (by simpa using hT) (λ_ _ h=>h) (eU.refl _) rfl ⟨v,rfl,h2,λ_=>h1,(λ_ h=>nomatch h),rfl⟩ h3
  ·trivial
 | .cell (some (some b)),cs,K,S,ok,vs,T,R,hT,hL,hK=>by
  unfold exM;split
  ·obtain⟨v,r,rfl,h1,h2,h3⟩:=hL;cases b
   ·trivial
   ·exact hK _ _ _ _ [v] r [] R (by simpa using hT) (λ_ _ h=>h) (eU.refl _) rfl ⟨v,rfl,h2,(λh=>nomatch h),(λb' h=>by cases h;exact h1),rfl⟩ h3
  ·obtain⟨v,r,rfl,h1,h2,h3⟩:=hL;cases b
   ·exact hK _ _ _ _ [v] r [] R (by simpa using hT) (λ_ _ h=>h) (eU.refl _) rfl ⟨v,rfl,h2,(λh=>nomatch h),(λb' h=>by cases h;exact h1),rfl⟩ h3
   ·trivial
  ·trivial
 | .cell none,cs,K,S,ok,vs,T,R,hT,hL,hK=>by
  unfold exM;split
  ·obtain⟨v,r,rfl,h1,h2,h3⟩:=hL;exact hK _ _ _ _ [v] r [] R (by simpa using hT) (λ_ _ h=>h) (eU.refl _) rfl ⟨v,rfl,h2,(λh=>nomatch h),(λ_ h=>nomatch h),rfl⟩ h3
  ·trivial
 | .fr t,cs,K,S,ok,vs,T,R,hT,hL,hK=>by
  unfold exM;split
  ·obtain⟨v,r,rfl,h1,_,h3⟩:=hL;simp only[zf]at h1;subst h1;cases ht:t.isEnt
   ·exact hK _ _ _ _ [_] r [] R (by simpa using hT) (λ_ _ h=>h) (eU.refl _) rfl ⟨.nil,_,rfl,rfl,⟨rfl,ht⟩,(λb h=>by cases h),rfl⟩ h3
   ·trivial
  ·rename_i bx r0;obtain⟨v,r,rfl,h1,_,h3⟩:=hL;obtain⟨l,hm,hv⟩:=h1;show Cmd.post (match S (bf+bx)with| .barr t' xs=>_| .bfrz t' xs=>_|_=>_) S Q;have hb:=R.box bx;split
   ·rename_i t' xs hS;rw[hS]at hb;obtain⟨l',hm',ha⟩:=hb;simp only at hm hm';rw[hm]at hm';cases hm';refine iJ λe=>?_;subst e;have hob:Y5 m bx (S (bf+bx))=l.blks:=by
     rw[hS];cases l<;>first|(simp[Y5,hm,Loc.blks];done)|cases ha
    show Cmd.post _ (upd S (bf+bx) (.bfrz t' xs)) Q;have hbs:∀b∈l.blks,b∈Y5 m bx (S (bf+bx)):=λb h=>by rw[hob];exact h
    have ha' :arrOk ⟨w.heap,okW ok l.blks [t'],nom⟩ t' xs l:=xf (m:=m) OA (λ_ _ _=>rfl) (λ_ _=>rfl) ha;exact hK _ (okW ok l.blks [t']) _ _ [v] r [] (R.widen A7 rfl hbs ⟨l,hm,xf OA (λ_ _ _=>rfl) (λ_ _=>rfl) ha,λblk hb=> .inr ⟨hb,A7⟩⟩) (by simpa using hT.widen rfl hbs) OA (eU.box _ _ _) rfl ⟨l,v,rfl,hv,ha',λb hb=> .inr ⟨hb,A7⟩,rfl⟩ (Qu OA h3)
   ·rename_i t' xs hS;rw[hS]at hb;obtain⟨l',hm',ha,hk⟩:=hb;simp only at hm hm';rw[hm]at hm';cases hm';refine iJ λe=>?_;subst e;exact hK _ ok _ _ [v] r [] R (by simpa using hT) (λ_ _ h=>h) (eU.refl _) rfl ⟨l,v,rfl,hv,xf (m:=m) (λ_ _ h=>h) (λ_ _ _=>rfl) (λ_ _=>rfl) ha,hk,rfl⟩ h3
   ·trivial
  ·trivial
end
end Go.GP
namespace Go.GP
def jK(C:Cx):List V->List Value->Prop
 |[],vs=>vs=[]|c::cs,vs=>∃v r,vs=v::r/\pg C c v/\jK C cs r
theorem LK{h:Array Obj}{ok ok' :Nat->Ty->Prop}{m:Mp}(k:∀b t,ok b t->ok' b t):∀{cs:List V} {vs:List Value},jK ⟨h,ok,m⟩ cs vs->jK ⟨h,ok',m⟩ cs vs
 |[],_,e=>e|_::_,_,⟨v,r,e,h1,h2⟩=>⟨v,r,e,Nl k h1,LK k h2⟩
theorem LJ{h:Array Obj}{ok:Nat->Ty->Prop}{m m' :Mp}(k:∀n l,m n=some l->m' n=some l){cs:List V}{vs:List Value}(hr:iP ⟨h,ok,m⟩ cs vs):iP ⟨h,ok,m'⟩ cs vs:=
 Hq (C:=⟨h,ok,m⟩) (D:=⟨h,ok,m'⟩) ⟨λ_ _ h=>h,λ_ _ _=>rfl,k⟩ hr
theorem a2y{C:Cx}{c:V}{v:Value}(h1:c≠.undef)(h2:c≠.un)(h:zf C c v):v.oneCell' =true:=by
 cases c<;>simp only[zf]at h<;>try (subst h;rfl)
 case ne=>obtain⟨_,_,rfl,_⟩:=h;rfl
 ·exact absurd rfl h1
 ·exact absurd rfl h2
 ·rcases h with⟨_,a,cap,e,_⟩|⟨_,mv,e,_⟩<;>(simp at e;subst e;rfl)
 ·obtain⟨l,_,hv⟩:=h;exact uf hv
 ·obtain⟨b,_,rfl⟩:=h;rfl
 ·obtain⟨_,_,_,_,_,_,_,rfl⟩:=h;rfl
 ·exact VN h
 all_goals first|exact h.elim|(obtain⟨_,rfl,_⟩:=h;rfl)|(obtain⟨_,_,rfl⟩:=h;rfl)
theorem EG{C:Cx}{c:V}{v:Value}(h:zf C c v):pg C c v:=by
 cases c<;>simp only[zf]at h<;>try exact h
 all_goals exact h.elim
section
variable {X:Fx} {cl ch:Nat} {S:Sm} {m:Mp} {ok:Nat->Ty->Prop} {a:Act} {w:World} {T:List Nat}
theorem Gy{α:Type}{Q:α->Sm->Prop}{ag:Bool}{v:V}{x:Value}{K:List V->Cmd α}{S:Sm}{C:Cx}(hv:pg C v x)
  (hK:∀cs us,SB ag x us->iP C cs us->(K cs).post S Q):(VA ag v K).post S Q:=by
 unfold VA;split<;>try trivial
 ·obtain⟨arr,rfl,hl⟩:=hv;exact hK _ _ ⟨arr,rfl,rfl⟩ hl
 ·rename_i h1 h2 h3 h4;have hc:zf C v x:=by cases v<;>first|exact hv|exact absurd rfl (h1 _)|exact absurd rfl (h2 _)
  exact hK [v] [x] rfl ⟨x,[],rfl,hc,a2y (λe=>h3 e) (λe=>h4 e) hc,rfl⟩
theorem xm{α:Type}{Q:α->Sm->Prop}{v:V}{x:Value}{K:List V->Cmd α}{S:Sm}{C:Cx}(hv:pg C v x)
  (hK:∀cs,iP C cs x.cells.toList->(K cs).post S Q):(Jj v K).post S Q:=by
 unfold Jj;split<;>try trivial
 ·obtain⟨arr,rfl,hl⟩:=hv;exact hK _ hl
 ·rename_i h1 h2 h3 h4;have hc:zf C v x:=by cases v<;>first|exact hv|exact absurd rfl (h1 _)|exact absurd rfl (h2 _)
  have h1' :=a2y (λe=>h3 e) (λe=>h4 e) hc;have e:x.cells.toList=[x]:=by cases x<;>simp[Value.cells]<;>simp[Value.oneCell']at h1'
  refine hK [v] ?_;rw[e];exact⟨x,[],rfl,hc,h1',rfl⟩
theorem a1v{α:Type}{Q:α->Sm->Prop}{md:MG}{v:V}{x:Value}{K:md.2.den->Cmd α}(R:Rel X cl ch S m ok a w)(hT:Tk X S m ok w T)(hv:pg ⟨w.heap,ok,m⟩ v x)
  (hK:∀S' ok' y cs O,Rel X cl ch S' m ok' a w->Tk X S' m ok' w (T++O)->(∀b t,ok b t->ok' b t)->eU S S' ->SB md.1 x cs->qy w.heap ok' md.2 none y cs O->(K y).post S' Q):
  (VU CP md v K).post S Q:=by
 refine Gy hv λcs us hg hl=>?_;refine Fz md.2 R hT hl λS1 ok1 y r us1 us' O R1 T1 k1 s1 e1 h1 l1=>?_;cases r with
 |cons c q=>trivial|nil=>simp only[iP]at l1;subst l1;simp only[H9]at e1;subst e1;exact hK _ _ _ _ _ R1 T1 k1 s1 hg h1
theorem a9r{α:Type}{ln:Ty->Bool}{md:M}(hd:md.isDat=false)(cs:List V)(K:md.den->List V->Cmd α):exM ln md cs K=exM CP md cs K:=by cases md<;>first|rfl|(simp[M.isDat]at hd;done)|(rename_i b;cases b<;>first|rfl|(rename_i b;cases b<;>rfl))
theorem YY{α:Type}{Q:α->Sm->Prop}{ln:Ty->Bool}{md:MG}(hd:md.2.isDat=true){v:V}{x:Value}{K:md.2.den->Cmd α}(R:Rel X cl ch S m ok a w)(hT:Tk X S m ok w T)(hv:pg ⟨w.heap,ok,m⟩ v x)
  (hK:∀S' ok' y cs,Rel X cl ch S' m ok' a w->Tk X S' m ok' w T->(∀b t,ok b t->ok' b t)->(∀b t,okL ln S m ok b t->okL ln S' m ok' b t)->eU S S' ->SB md.1 x cs->qy w.heap (okL ln S' m ok') md.2 none y cs []->(K y).post S' Q):
  (VU ln md v K).post S Q:=by
 obtain⟨ag,mm⟩:=md;cases mm<;>simp[M.isDat]at hd;refine Gy hv λcs us hg hl=>?_;dsimp only;unfold exM;refine Hy ln _ R hT hl λS1 ok1 y r us1 us' R1 T1 k1 g1 s1 e1 h1 l1=>?_;cases r with
 |cons c q=>trivial|nil=>simp only[iP]at l1;subst l1;simp only[H9]at e1;subst e1;exact hK _ _ _ _ R1 T1 k1 g1 s1 hg ⟨h1,rfl⟩
theorem b6x{ln:Ty->Bool} :∀b t,ok b t->okL ln S m ok b t:=λ_ _ h=> .inl h
theorem Jr{α:Type}{Q:α->Sm->Prop}{ln:Ty->Bool} :∀(ms:List MG) {vs:List V} {xs:List Value} {K:iR ms->Cmd α} {S:Sm} {ok:Nat->Ty->Prop} {T:List Nat} (R:Rel X cl ch S m ok a w) (hT:Tk X S m ok w T)
  (hv:jK ⟨w.heap,ok,m⟩ vs xs)
  (hK:∀S' ok' y O,Rel X cl ch S' m ok' a w->Tk X S' m ok' w (T++O)->(∀b t,ok b t->ok' b t)->eU S S' ->wo w.heap (okL ln S' m ok') ms y xs O->(K y).post S' Q),
  (NH ln ms vs K).post S Q
 |[],vs,xs,K,S,ok,T,R,hT,hv,hK=>by
  unfold NH;split
  ·simp only[jK]at hv;subst hv;exact hK _ _ _ [] R (by simpa using hT) (λ_ _ h=>h) (eU.refl _) ⟨rfl,rfl⟩
  ·trivial
 |[md],vs,xs,K,S,ok,T,R,hT,hv,hK=>by
  unfold NH;split
  ·obtain⟨x,r,rfl,h1,h2⟩:=hv;simp only[jK]at h2;subst h2;cases hd:md.2.isDat
   ·unfold VU;simp only[a9r hd];exact a1v R hT h1 λS' ok' y cs O R' T' k s g h=>hK _ _ _ O R' T' k s ⟨x,cs,rfl,g,kS b6x (λ_ _ _=>rfl) (λ_ _=>rfl) h⟩
   ·exact YY hd R hT h1 λS' ok' y cs R' T' k g s hg h=>hK _ _ _ [] R' (by simpa using T') k s ⟨x,cs,rfl,hg,h⟩
  ·trivial
 |md::md' ::r,vs,xs,K,S,ok,T,R,hT,hv,hK=>by
  unfold NH;split
  ·obtain⟨x,xr,rfl,h1,h2⟩:=hv;cases hd:md.2.isDat
   ·simp only[cond_false];unfold VU;simp only[a9r hd];refine a1v R hT h1 λS1 ok1 y cs O R1 T1 k1 s1 g1 h1' =>?_;refine Jr (md' ::r) R1 T1 (LK k1 h2) λS2 ok2 z O2 R2 T2 k2 s2 h2' =>?_;exact hK _ _ _ (O++O2) R2 (by simpa using T2) (λb t h=>k2 b t (k1 b t h)) (s1.trans s2) ⟨x,cs,xr,O,O2,rfl,rfl,g1,kS (λb t h=> .inl (k2 b t h)) (λ_ _ _=>rfl) (λ_ _=>rfl) h1',h2'⟩
   ·simp only[cond_true];refine Jr (md' ::r) R hT h2 λS2 ok2 z O2 R2 T2 k2 s2 h2' =>?_;refine YY hd R2 T2 (Nl k2 h1) λS1 ok1 y cs R1 T1 k1 g1 s1 hg h1' =>?_;exact hK _ _ _ ([]++O2) R1 (by simpa using T1) (λb t h=>k1 b t (k2 b t h)) (s2.trans s1) ⟨x,cs,xr,[],O2,rfl,rfl,hg,h1',Uh g1 (λ_ _ _=>rfl) (λ_ _=>rfl) h2'⟩
  ·trivial
theorem a1u{α:Type}{Q:α->Sm->Prop}(ms:List MG){vs:List V}{xs:List Value}{K:iR ms->Cmd α}{S:Sm}{ok:Nat->Ty->Prop}{T:List Nat}(R:Rel X cl ch S m ok a w)(hT:Tk X S m ok w T)
  (hv:jK ⟨w.heap,ok,m⟩ vs xs)
  (hK:∀S' ok' y O,Rel X cl ch S' m ok' a w->Tk X S' m ok' w (T++O)->(∀b t,ok b t->ok' b t)->eU S S' ->wo w.heap ok' ms y xs O->(K y).post S' Q):
  (NH CP ms vs K).post S Q:=
 Jr ms R hT hv λS' ok' y O R' T' k s h=>hK S' ok' y O R' T' k s (by rw[b0m]at h;exact h)
theorem TB{α:Type}{Q:α->Sm->Prop}{tmps:Array Value}{C:Cx} :∀(ns:List Nat) {K:List V->Cmd α} {S:Sm} (hs:∀n,n<bf->pg C (S n) (tmps.getD n Go.undef))
  (hK:∀vs,jK C vs (ns.map λn=>tmps.getD n Go.undef)->(K vs).post S Q),(E_ ns K).post S Q
 |[],K,S,hs,hK=>hK [] rfl|n::ns,K,S,hs,hK=>by
  unfold E_;cases hb:Nat.blt n bf
  ·trivial
  ·simp only[cond_true];show Cmd.post _ S Q;refine TB ns hs λvs hvs=>?_;exact hK _ ⟨_,_,rfl,hs n (by rw[fU]at hb;exact hb),hvs⟩
def a3t(h:Array Obj)(ok:Nat->Ty->Prop)(sg:Sig)(x:rD sg)(tmps:Array Value)(O:List Nat):Prop:=
 wo h ok (sg.ms.map (·.2)) x ((sg.ms.map (·.1)).map λn=>tmps.getD n Go.undef) O/\∀p∈sg.als,tmps.getD p.1 Go.undef=tmps.getD p.2 Go.undef
theorem b1W{C:Cx}{v u:V}{x y:Value}(h:b5p v u=true)(hv:pg C v x)(hu:pg C u y):x=y:=by
 cases v<;>try (cases h;done)
 case own a vw=>
 cases u<;>try (cases vw<;>cases h;done)
 case own b vu=>
 cases vw<;>cases vu<;>try (cases h;done)
 have:=jy (show Nat.beq a b=true from h);subst this;obtain⟨l,hm,h1⟩:=hv;obtain⟨l',hm',h2⟩:=hu;rw[hm]at hm';cases hm';cases l with
 |nil=>exact(show x=_ from h1).trans (show y=_ from h2).symm|st b=>cases h1|mp b=>exact(show x=_ from h1).trans (show y=_ from h2).symm|arr blk off len cap sz=>exact(show x=_ from h1).trans (show y=_ from h2).symm
theorem YJ{α:Type}{Q:α->Sm->Prop}{tmps:Array Value}{C:Cx} :∀(als:List (Nat×Nat)) {K:Cmd α} {S:Sm} (hs:∀n,n<bf->pg C (S n) (tmps.getD n Go.undef))
  (hK:(∀p∈als,tmps.getD p.1 Go.undef=tmps.getD p.2 Go.undef)->K.post S Q),(b3E als K).post S Q
 |[],K,S,hs,hK=>hK (λp hp=>by cases hp)|(n,k)::r,K,S,hs,hK=>by
  unfold b3E;refine iG λhb=>?_;simp only[C9]at hb;show Cmd.post _ S Q;refine iG λhv=>YJ r hs λh=>hK λp hp=>?_;rcases A8.1 hp with rfl|hp
  ·have h1:=hb.1;have h2:=hb.2;rw[fU]at h1 h2;exact b1W hv (hs n h1) (hs k h2)
  ·exact h p hp
theorem a3V{sg:Sig}{Q:rD sg->Sm->Prop}(R:Rel X cl ch S m ok a w)
  (hK:∀S' ok' y O,Rel X cl ch S' m ok' a w->Tk X S' m ok' w O->(∀b t,ok b t->ok' b t)->eU S S' ->
   a3t w.heap ok' sg y a.tmps O->Q y S'):(a9s sg).post S Q:=by
 unfold a9s;refine YJ _ R.slot λhals=>TB _ R.slot λvs hvs=>?_;refine a1u (T:=[]) _ R Tk.nil hvs λS' ok' y O R' T' k s h=>?_;exact hK S' ok' y O R' T' k s ⟨h,hals⟩
theorem Rel.chmono(R:Rel X cl ch S m ok a w){ch' :Nat}(h:ch<=ch'):Rel X cl ch' S m ok a w:={ R with strict:=λn hn=>R.strict n l7 }
theorem Au{α:Type}{Q:α->Sm->Prop}{n:Nat}{v:V}{K:Cmd α}(hK:S (bf+n)= .undef->K.post (upd S (bf+n) v) Q):(AP n v K).post S Q:=by
 unfold AP;show Cmd.post (match S (bf+n)with| .undef=>_|_=>_) S Q;split
 ·rename_i h;exact hK h
 ·trivial
theorem Rel.adopt(R:Rel X cl ch S m ok a w){n:Nat}{l:Loc}{ks:List Nat}{v:V}{O:List Nat}(hn:S (bf+n)= .undef)(hcl:cl<=n)(hv:v≠.undef)
  (hT:Tk X S m ok w (O++T)) (ho:∀b∈Y5 (pI m n l ks) n v,b∈O) (hnd:(Y5 (pI m n l ks) n v).Nodup) (hB:Gi ⟨w.heap,ok,pI m n l ks⟩ n v):
  Rel X cl (max ch (n+1)) (upd S (bf+n) v) (pI m n l ks) ok a w/\Tk X (upd S (bf+n) v) (pI m n l ks) ok w T/\(∀k l',m k=some l' ->pI m n l ks k=some l'):=by
 have hm:m n=none:=R.fresh n hcl hn;refine⟨(R.chmono (gq ch (n+1))).lay hn hcl l7 hv rfl rfl rfl (F9 _) (λ_ _ _=>rfl) hnd (λb hb=>hT.free b (by simp[ho b hb])) hB,⟨?_,λb hb=>?_⟩,λk l' h=>?_⟩
 ·exact(N8.1 hT.nodup).2.1
 ·obtain⟨h1,h2,h3,h4⟩:=hT.free b (by simp[hb]);refine⟨h1,h2,h3,λk e=>?_⟩;by_cases ek:k=n
  ·subst ek;rw[mO]at e;exact(N8.1 hT.nodup).2.2 b (ho b e) b hb rfl
  ·rw[bP _ _ l7]at e;refine h4 k ?_;rw[←JB (m:=m) (lF m l ks ek) (Tj m l ks ek)];exact e
 ·by_cases ek:k=n
  ·subst ek;simp[hm]at h
  ·rw[lF _ _ _ ek];exact h
theorem OW{h:Array Obj}{ok:Nat->Ty->Prop}{m m' :Mp}{t:Ty}{xs:List t.den}{l:Loc}(hr:arrOk ⟨h,ok,m⟩ t xs l):arrOk ⟨h,ok,m'⟩ t xs l:=by cases l<;>exact hr
theorem a8i{α:Type}{Q:α->Sm->Prop}{S:Sm}{k:Nat}{v:V}{c:Cmd α}(h:c.post (upd S k v) Q):(Cmd.set k v c).post S Q:=h
theorem IC{α:Type}{Q:α->Sm->Prop} :∀(md:M) {x:md.den} {n:Nat} {r:List V} {K:List V->Nat->Cmd α} {S:Sm} {m:Mp} {ch:Nat} {us us' :List Value} {O T:List Nat}
  (R:Rel X cl ch S m ok a w) (hcl:cl<=n) (hT:Tk X S m ok w (O++T)) (h:qy w.heap ok md none x us O) (hL:iP ⟨w.heap,ok,m⟩ r us')
  (hK:∀S' m' cs n' ch',Rel X cl ch' S' m' ok a w->ch' <=max ch n' ->Tk X S' m' ok w T->(∀k l,m k=some l->m' k=some l)->eU S S' ->iP ⟨w.heap,ok,m'⟩ cs (us++us')->n<=n' ->(K cs n').post S' Q),
  (emM md x n r K).post S Q
 | .dat t,x,n,r,K,S,m,ch,us,us',O,T,R,hcl,hT,h,hL,hK=>by unfold emM;obtain⟨hr,rfl⟩:=h;refine hK S m _ n ch R (gq _ _) (by simpa using hT) (λ_ _ h=>h) (eU.refl _) ?_ (F9 _);rw[mP];exact xM (sO (C:=⟨w.heap,ok,m⟩) hr) hL
 | .own t,x,n,r,K,S,m,ch,us,us',O,T,R,hcl,hT,h,hL,hK=>by
  unfold emM;obtain⟨l,v,rfl,hv,ha,rfl⟩:=zg.1 h;refine Au λhn=>?_;have hob:Y5 (pI m n l []) n (.barr t x)=l.blks:=by cases l<;>first|(simp[Y5,Loc.blks];done)|cases ha
  obtain⟨R',T',k'⟩:=R.adopt (l:=l) (ks:=[]) (v:=.barr t x) hn hcl A7 hT (λb hb=>by rw[hob]at hb;exact hb) (by rw[hob];exact Loc.blks_nodup l) ⟨l,fV _ _ _ _,OW ha⟩;exact hK _ _ _ _ _ R' l7 T' k' (eU.box _ _ _) ⟨v,us',rfl,⟨l,fV _ _ _ _,hv⟩,uf hv,LJ k' hL⟩ l7
 | .ownb t,x,n,r,K,S,m,ch,us,us',O,T,R,hcl,hT,h,hL,hK=>by
  unfold emM;obtain⟨l,v,rfl,hv,ha,rfl⟩:=h;refine Au λhn=>?_;have hob:Y5 (pI m n l []) n (.barr t x)=l.blks:=by cases l<;>first|(simp[Y5,Loc.blks];done)|cases ha
  obtain⟨R',T',k'⟩:=R.adopt (l:=l) (ks:=[]) (v:=.barr t x) hn hcl A7 hT (λb hb=>by rw[hob]at hb;exact hb) (by rw[hob];exact Loc.blks_nodup l) ⟨l,fV _ _ _ _,OW ha⟩;exact hK _ _ _ _ _ R' l7 T' k' (eU.box _ _ _) ⟨v,us',rfl,⟨l,fV _ _ _ _,hv⟩,uf hv,LJ k' hL⟩ l7
 | .owns md,x,n,r,K,S,m,ch,us,us',O,T,R,hcl,hT,h,hL,hK=>by
  unfold emM;obtain⟨hw,l,v,Os,rfl,hv,ha,rfl⟩:=AB.1 h;refine Au λhn=>?_;have hob:Y5 (pI m n l Os.flatten) n (.barrs md x none)=l.blks++Os.flatten:=by cases l<;>first|(simp[Y5,Loc.blks];done)|cases ha
  obtain⟨R',T',k'⟩:=R.adopt (l:=l) (ks:=Os.flatten) (v:=.barrs md x none) hn hcl A7 hT (λb hb=>by rw[hob]at hb;exact hb) (by rw[hob];exact(N8.1 hT.nodup).1)
   ⟨hw,l,Os,fV _ _ _ _,⟨ha,trivial⟩,A7⟩
  refine a8i ?_;have T2:=T'.killV R' (QT+n) (v:=.blen (o9 x) md.size) rfl (bs:=[]) (λb h=>by cases h) fK;rw[H9]at T2;exact hK _ _ _ _ _ (R'.mark (mO _ _ _)) l7 T2 k' ((eU.box _ _ _).trans (eU.box _ _ _)) ⟨v,us',rfl,⟨l,fV _ _ _ _,hv⟩,uf hv,LJ k' hL⟩ l7
 | .pair p q,x,n,r,K,S,m,ch,us,us',O,T,R,hcl,hT,h,hL,hK=>by
  unfold emM;obtain⟨c,d,O1,O2,rfl,rfl,h1,h2⟩:=a7X.1 h;have hT1:Tk X S m ok w (O2++(O1++T)):=hT.perm (by rw[E9];exact(List.perm_append_comm_assoc _ _ _))
  refine IC q R hcl hT1 h2 hL λS1 m1 cs1 n1 ch1 R1 c1 T1 k1 s1 l1 e1=>?_;refine IC p R1 l7 T1 h1 l1 λS2 m2 cs2 n2 ch2 R2 c2 T2 k2 s2 l2 e2=>?_;exact hK _ _ _ _ _ R2 l7 T2 (λk l h=>k2 k l (k1 k l h)) (s1.trans s2) (by simpa using l2) l7
 | .unit,x,n,r,K,S,m,ch,us,us',O,T,R,hcl,hT,h,hL,hK=>by unfold emM;obtain⟨rfl,rfl⟩:=h;exact hK S m _ n ch R (gq _ _) (by simpa using hT) (λ_ _ h=>h) (eU.refl _) (by simpa using hL) (F9 _)
 | .box md,x,n,r,K,S,m,ch,us,us',O,T,R,hcl,hT,h,hL,hK=>by
  unfold emM;obtain⟨blk,arr,Tt,O',rfl,hh,hr,rfl⟩:=h;have hT1:Tk X S m ok w (O' ++([blk]++T)):=hT.perm (by simpa using List.perm_middle.symm);refine IC md (r:=[]) (us' :=[]) R l7 hT1 hr rfl λS1 m1 cs1 n1 ch1 R1 c1 T1 k1 s1 l1 e1=>?_;refine Au λhn=>?_;obtain⟨R',T',k'⟩:=R1.adopt (l:=.st blk) (ks:=[]) (v:=.bcells cs1) hn hcl A7 T1 (λb hb=>by
   simp only[Y5,fV]at hb;simp at hb;simp[hb]) (by simp[Y5]) ⟨blk,arr,Tt,fV _ _ _ _,hh,LJ (λk l (h:m1 k=some l)=>by
    by_cases ek:k=n
    ·subst ek;have:=R1.fresh k hcl hn;rw[this]at h;cases h
    ·rw[lF _ _ _ ek];exact h) (by simpa using l1)⟩
  refine hK _ _ _ _ _ R' l7 T' (λk l h=>k' k l (k1 k l h)) (s1.trans (eU.box _ _ _)) ⟨_,us',rfl,⟨blk,fV _ _ _ _,rfl⟩,rfl,LJ k' (LJ k1 hL)⟩ l7
 | .rp t,x,n,r,K,S,m,ch,us,us',O,T,R,hcl,hT,h,hL,hK=>by unfold emM;obtain⟨v,rfl,hv,rfl⟩:=h;exact hK S m _ n ch R (gq _ _) (by simpa using hT) (λ_ _ h=>h) (eU.refl _) ⟨v,us',rfl,hv,VN hv,hL⟩ (F9 _)
 | .fn f ts,x,n,r,K,S,m,ch,us,us',O,T,R,hcl,hT,h,hL,hK=>by unfold emM;obtain⟨vs,rfl,hv,rfl⟩:=h;exact hK S m _ n ch R (gq _ _) (by simpa using hT) (λ_ _ h=>h) (eU.refl _) ⟨_,us',rfl,⟨vs,rfl,hv⟩,rfl,hL⟩ (F9 _)
 | .ifc t md,x,n,r,K,S,m,ch,us,us',O,T,R,hcl,hT,h,hL,hK=>by
  unfold emM;obtain⟨u,rfl,h1⟩:=h;refine IC md (r:=[]) (us' :=[]) R hcl hT h1 rfl λS1 m1 cs1 n1 ch1 R1 c1 T1 k1 s1 l1 e1=>?_;split
  ·rename_i c;obtain⟨v',r',e,h1',h2',h3'⟩:=l1;simp only[H9,S9,H6,H5]at e;obtain⟨rfl,rfl⟩:=e;exact hK _ _ _ _ _ R1 c1 T1 k1 s1 ⟨_,us',rfl,⟨u,rfl,h2',h1'⟩,rfl,LJ k1 hL⟩ e1
  ·trivial
 | .cell (some none),x,n,r,K,S,m,ch,us,us',O,T,R,hcl,hT,h,hL,hK=>by unfold emM;obtain⟨v,rfl,hv,h2,h4,rfl⟩:=h;exact hK S m _ n ch R (gq _ _) (by simpa using hT) (λ_ _ h=>h) (eU.refl _) ⟨v,us',rfl,h2 rfl,hv,hL⟩ (F9 _)
 | .cell (some (some b)),x,n,r,K,S,m,ch,us,us',O,T,R,hcl,hT,h,hL,hK=>by unfold emM;obtain⟨v,rfl,hv,h2,h4,rfl⟩:=h;exact hK S m _ n ch R (gq _ _) (by simpa using hT) (λ_ _ h=>h) (eU.refl _) ⟨v,us',rfl,h4 _ rfl,hv,hL⟩ (F9 _)
 | .cell none,x,n,r,K,S,m,ch,us,us',O,T,R,hcl,hT,h,hL,hK=>by unfold emM;obtain⟨v,rfl,hv,h2,h4,rfl⟩:=h;exact hK S m _ n ch R (gq _ _) (by simpa using hT) (λ_ _ h=>h) (eU.refl _) ⟨v,us',rfl,trivial,hv,hL⟩ (F9 _)
 | .fr t,x,n,r,K,S,m,ch,us,us',O,T,R,hcl,hT,h,hL,hK=>by unfold emM;obtain⟨l,v,rfl,hv,ha,hk,rfl⟩:=h;refine Au λhn=>?_;obtain⟨R',T',k'⟩:=R.adopt (l:=l) (ks:=[]) (v:=.bfrz t x) hn hcl A7 hT (λb hb=>by cases hb) fK ⟨l,fV _ _ _ _,OW ha,hk⟩;exact hK _ _ _ _ _ R' l7 T' k' (eU.box _ _ _) ⟨v,us',rfl,⟨l,fV _ _ _ _,hv⟩,uf hv,LJ k' hL⟩ l7
theorem Qy{C:Cx}{ag:Bool}{cs:List V}{us:List Value}{x:Value}(hg:SB ag x us)(hl:iP C cs us):pg C (mkV ag cs) x:=by
 cases ag
 ·simp only[SB]at hg;subst hg;cases cs with
  |nil=>simp[iP]at hl|cons c r=>
   obtain⟨v,r',e,h1,h2,h3⟩:=hl;simp at e;obtain⟨rfl,rfl⟩:=e;cases r with
   |nil=>exact EG h1|cons d r=>obtain⟨_,_,e,_⟩:=h3;cases e
 ·obtain⟨arr,rfl,rfl⟩:=hg;exact⟨arr,rfl,hl⟩
theorem Jn{α:Type}{Q:α->Sm->Prop} :∀(ms:List MG) {x:iR ms} {n:Nat} {K:List V->Nat->Cmd α} {S:Sm} {m:Mp} {ch:Nat} {xs:List Value} {O T:List Nat}
  (R:Rel X cl ch S m ok a w) (hcl:cl<=n) (hT:Tk X S m ok w (O++T)) (h:wo w.heap ok ms x xs O)
  (hK:∀S' m' vs n' ch',Rel X cl ch' S' m' ok a w->ch' <=max ch n' ->Tk X S' m' ok w T->(∀k l,m k=some l->m' k=some l)->eU S S' ->jK ⟨w.heap,ok,m'⟩ vs xs->n<=n' ->(K vs n').post S' Q),
  (NG ms x n K).post S Q
 |[],x,n,K,S,m,ch,xs,O,T,R,hcl,hT,h,hK=>by unfold NG;obtain⟨rfl,rfl⟩:=h;exact hK S m [] n ch R (gq _ _) (by simpa using hT) (λ_ _ h=>h) (eU.refl _) rfl (F9 _)
 |[md],x,n,K,S,m,ch,xs,O,T,R,hcl,hT,h,hK=>by unfold NG;obtain⟨v,cs,rfl,hg,hr⟩:=h;refine IC md.2 (us' :=[]) R hcl hT hr rfl λS1 m1 cs1 n1 ch1 R1 c1 T1 k1 s1 l1 e1=>?_;exact hK _ _ _ _ _ R1 c1 T1 k1 s1 ⟨v,[],rfl,Qy hg (by simpa using l1),rfl⟩ e1
 |md::md' ::r,x,n,K,S,m,ch,xs,O,T,R,hcl,hT,h,hK=>by unfold NG;obtain⟨v,cs,vs',O1,O2,rfl,rfl,hg,h1,h2⟩:=h;refine IC md.2 (us' :=[]) R hcl (by simpa using hT) h1 rfl λS1 m1 cs1 n1 ch1 R1 c1 T1 k1 s1 l1 e1=>?_;refine Jn (md' ::r) R1 l7 T1 h2 λS2 m2 vs2 n2 ch2 R2 c2 T2 k2 s2 l2 e2=>?_;exact hK _ _ _ _ _ R2 l7 T2 (λk l h=>k2 k l (k1 k l h)) (s1.trans s2) ⟨v,vs',rfl,Qy hg (LJ k2 (by simpa using l1)),l2⟩ l7
theorem Uo{Q:Unit->Sm->Prop} :∀(ns:List Nat) {vs:List V} {S:Sm} (R:Rel X cl ch S m ok a w) (hv:jK ⟨w.heap,ok,m⟩ vs (ns.map λn=>a.tmps.getD n Go.undef))
  (hK:∀S',Rel X cl ch S' m ok a w->Q () S'),(XI ns vs).post S Q
 |[],vs,S,R,hv,hK=>by
  cases vs with
  |nil=>exact hK S R|cons v vs=>trivial
 |n::ns,vs,S,R,hv,hK=>by
  cases vs with
  |nil=>trivial|cons v vs=>
   unfold XI;obtain⟨x,r,e,h1,h2⟩:=hv;simp only[jC,H5]at e;obtain⟨rfl,rfl⟩:=e;cases hb:Nat.blt n bf
   ·trivial
   ·simp only[cond_true];show Cmd.post _ (upd S n v) Q;exact Uo ns (R.slotV (by rw[fU]at hb;exact hb) h1) h2 hK
theorem QG{Q:Unit->Sm->Prop} :∀(ns:List Nat) {vs:List V} {S:Sm} {K:Cmd Unit} (R:Rel X cl ch S m ok a w) (hv:jK ⟨w.heap,ok,m⟩ vs (ns.map λn=>a.tmps.getD n Go.undef))
  (hK:∀S',Rel X cl ch S' m ok a w->K.post S' Q),(Va ns vs K).post S Q
 |[],vs,S,K,R,hv,hK=>by
  simp only[Be]at hv;cases vs with
  |nil=>exact hK S R|cons _ _=>obtain⟨_,_,e,_⟩:=hv;cases e
 |n::ns,vs,S,K,R,hv,hK=>by
  cases vs with
  |nil=>trivial
  |cons v vs=>obtain⟨x,r,e,h1,h2⟩:=hv;simp only[jC,H5]at e;obtain⟨rfl,rfl⟩:=e;unfold Va;refine iG λhb=>?_;show Cmd.post _ (upd S n v) Q;exact QG ns (R.slotV (by rw[fU]at hb;exact hb) h1) h2 hK
theorem Ur{Q:Unit->Sm->Prop} :∀(als:List (Nat×Nat)) {S:Sm} (R:Rel X cl ch S m ok a w) (h:∀p∈als,a.tmps.getD p.1 Go.undef=a.tmps.getD p.2 Go.undef)
  (hK:∀S',Rel X cl ch S' m ok a w->Q () S'),(a0w als).post S Q
 |[],S,R,h,hK=>hK S R
 |(n,k)::r,S,R,h,hK=>by unfold a0w;refine iG λhb=>?_;simp only[C9]at hb;have h1:=hb.1;have h2:=hb.2;rw[fU]at h1 h2;show Cmd.post _ (upd S n (S k)) Q;refine Ur r (R.slotV h1 ?_) (λp hp=>h p (U4 _ hp)) hK;rw[h (n,k) jg];exact R.slot k h2
theorem a3Q{sg:Sig}{x:rD sg}{nb lim:Nat}{Q:Unit->Sm->Prop}{O:List Nat}(R:Rel X cl ch S m ok a w)(hcl:cl<=nb)(hT:Tk X S m ok w O)
  (h:a3t w.heap ok sg x a.tmps O)
  (hK:∀S' m',Rel X cl (max ch lim) S' m' ok a w->(∀k l,m k=some l->m' k=some l)->Q () S'):(a9n sg x nb lim).post S Q:=by
 unfold a9n;refine Jn (T:=[]) _ R hcl (by simpa using hT) h.1 λS1 m1 vs n1 ch1 R1 c1 T1 k1 s1 l1 e1=>?_;cases hb:Nat.ble n1 lim
 ·trivial
 ·simp only[cond_true];have:n1<=lim:=X4 hb;exact QG _ (R1.chmono (ch' :=max ch lim) l7) l1 λS' R' =>Ur _ R' h.2 λS'' R'' =>hK S'' m1 R'' k1
end
end Go.GP
namespace Go.GP
def b3i(P:Program)(t:TypeId):TD->Prop
 | .bool=>P.underlying t=some .bool| .int k=>P.underlying t=some (.int k)| .str=>P.underlying t=some .string| .sl e=>P.underlying t=some (.slice e)| .ptr e=>P.underlying t=some (.pointer e)| .struct fs=>∃fields,P.underlying t=some (.struct fields)/\fields.toList.map (λf=>(f.type,f.offset))=fs| .arr n e=>P.underlying t=some (.array n e)| .map k e=>P.underlying t=some (.map k e)| .other=>∃d,P.underlying t=some d/\(match d with| .struct _| .array _ _=>False|_=>True)
structure TiOk (P:Program) (t:TypeId) (i:TI):Prop where
 info:∃inf,P.info? t=some inf/\inf.size=i.size/\inf.bytes=i.bytes/\
  (i.zero.length=i.size->∃z,inf.zero=some z/\iP ⟨#[],λ_ _=>False,nom⟩ i.zero z.cells.toList)/\
  (∀u,i.ty=some u->u.size=i.size/\∃z,inf.zero=some z/\mJ #[] (λ_ _=>False) u u.zero z.cells.toList)
 td:b3i P t i.td
 one:bM i.td=false->i.size=1
 agg:∀inf z,P.info? t=some inf->inf.zero=some z->(bM i.td=true->∃arr,z= .agg arr)/\(bM i.td=false->z.oneCell' =true)
def a3r(n:Nat)(v:Value)(rs:List Value):Prop:=rs.length=n/\v=(match rs with|[x]=>x|l=> .tuple l.toArray)
def zT(h:Array Obj):List MG->List Value->List Value->List Nat->Prop
 |[],[],os,B=>os=[]/\B=[]|(_,.box _)::ms,v::vs,os,B=>∃b arr T os' B',v= .pointer (some ⟨b,0,none⟩)/\h[b]? =some (.cells arr T (0,0))/\os= .agg arr::os' /\B=b::B' /\zT h ms vs os' B'|(_,.ifc _ (.box _))::ms,v::vs,os,B=>∃t b arr T os' B',v= .iface t (.pointer (some ⟨b,0,none⟩))/\h[b]? =some (.cells arr T (0,0))/\os= .agg arr::os' /\B=b::B' /\zT h ms vs os' B'|(_,.ownb _)::ms,v::vs,os,B=>∃os',os=v::os' /\zT h ms vs os' B|_::ms,_::vs,os,B=>zT h ms vs os B|_,_,_,_=>False
def pR(P:Program)(gl:List (Nat×(t:Ty)×List t.den))(f:FuncId)(s:FSpec):Prop:=
 ∀(w:World) (ok:Nat->Ty->Prop) (O:List Nat) (vals:List Value) (x:iR s.ps) (r:iR (s.rs++s.outs)),
  (∀b t,ok b t->b<w.heap.size)->O.Nodup->(∀b∈O,(∀t,¬ok b t)/\b<w.heap.size)->(∀g u,fH gl g=some u->OL ⟨w.heap,ok,nom⟩ g u.1 u.2)->
  wo w.heap ok s.ps x vals O->s.fn x=some r->
  Calls P f vals.toArray w λe w' =>∃v ok' O' rs os B,e= .returned v/\Frame' w w' O/\(∀b t,ok b t->ok' b t)/\(∀b t,ok' b t->b<w'.heap.size/\(ok b t\/w.heap.size<=b\/b∈O))/\
   (O' ++B).Nodup/\(∀b∈O' ++B,(∀t,¬ok' b t)/\b<w'.heap.size/\(w.heap.size<=b\/b∈O))/\
   a3r s.rs.length v rs/\zT w'.heap s.ps vals os B/\wo w'.heap ok' (s.rs++s.outs) r (rs++os) O'
def jW:List Ty->List Value->Prop
 |[],vs=>vs=[]| .bool::ts,vs=>∃b r,vs= .bool b::r/\jW ts r| .int k::ts,vs=>∃b r,vs= .int k b::r/\jW ts r| .str::ts,vs=>∃b r,vs= .string b::r/\jW ts r|_::_,_=>False
def a8E(P:Program)(t:TypeId)(sh:List Ty):Prop:=
 ∀(w:World) (C:Cx) (cs ds:List V) (xs ys:Array Value) (e:Bool) (op:BinOp) (x y:Operand),BK sh cs=true->BK sh ds=true->iP C cs xs.toList->iP C ds ys.toList->AZ cs ds=some e->
  (op= .eql\/op= .neq)->(do eqGuard op t x y (.agg xs) (.agg ys);binOp op t (.agg xs) (.agg ys):Sem Value).run P w= .ok (.bool (if op= .eql then e else !e)) w
def a0P(P:Program)(t:TypeId)(sh:List Ty):Prop:=
 (∃fs,P.underlying t=some (.struct fs))/\∀(w:World) (xs:Array Value),jW sh xs.toList->(∀em,(Instr.checkKey em 10000 t (.agg xs)).run P w= .ok () w)/\
  ∀ys:Array Value,jW sh ys.toList->∃r,(Op.equal t (.agg xs) (.agg ys)).run P w= .ok r w/\(r=true↔xs.toList=ys.toList)
def MI(P:Program)(t:TypeId)(sh:List Ty):Prop:=a8E P t sh/\a0P P t sh
def Ff(P:Program)(t:Nat)(n:String)(f:Nat)(d:Option Nat):Prop:=
 ∀(v:Value) (w:World),match d with
  |none=>(method (P.types.size+Made.depth) t v n).run P w= .ok (f,v) w
  |some e=>∀ad,v= .pointer (some ad)->(method (P.types.size+Made.depth) t v n).run P w=((loadVar e ad).run P w).andThen λu w' => .ok (f,u) w'
structure FxOk (X:Fx):Prop where
 nt:64*X.E.nt<=999936
 tt:∀t i,fH X.E.tt t=some i->TiOk X.P t i
 fs:∀p∈X.E.fs,pR X.P X.E.gl p.1 p.2
 eqs:∀t sh,fH X.E.eqs t=some sh->MI X.P t sh
 ms:∀p∈X.E.ms,Ff X.P p.1.1 p.1.2 p.2.1 p.2.2
 fn:∀p∈X.E.fs,∃fn,X.P.funcs[p.1]? =some fn/\fn.body.isSome=true/\(fn.name== "runtime.NumGoroutine")=false
theorem FxOk.ntB{X:Fx}(H:FxOk X):X.E.nt<=bf:=by have:=H.nt;show X.E.nt<=1000000;omega
def kT(X:Fx)(cl ch:Nat)(o:Oper)(a:Act)(w:World)(m:Mp)(ok:Nat->Ty->Prop)(S' :Sm):Prop:=
 ∀(next:Act->World->Prop) (Q:Exit->Act->World->Prop),
  (∀m' ok' a' w',Rel X cl ch S' m' ok' a' w' ->(∀k l,m k=some l->m' k=some l)->(∀b t,ok b t->ok' b t)->next a' w')->o.wp X.P a w next Q
theorem IZ{α:Type}{ι:Sort _}{Q:ι->α->Sm->Prop} :∀{c:Cmd α} {S:Sm},(∀i,c.post S (Q i))->c.post S (λx S' =>∀i,Q i x S')
 | .ret x,S,h=>λi=>h i| .fail,S,h=>trivial| .get k c,S,h=>IZ (c:=c (S k)) h| .set k v c,S,h=>IZ (c:=c) h
 | .opt o c,S,h=>λx e=>IZ (c:=c x) λi=>h i x e| .br b c d,S,h=>⟨λe=>IZ (c:=c) λi=>(h i).1 e,λe=>IZ (c:=d) λi=>(h i).2 e⟩
section
variable {X:Fx} {cl ch:Nat} {S:Sm} {m:Mp} {ok:Nat->Ty->Prop} {a:Act} {w:World} {o:Oper}
theorem fM{α:Type}{Q:α->Sm->Prop}{b:Bool}{c:Cmd α}{S:Sm}(h:b=true->c.post S Q):(bif b then c else Cmd.fail).post S Q:=by
 cases b
 ·trivial
 ·exact h rfl
theorem NZ{a b:Nat}(h:Nat.blt a b=true):a<b:=by rw[fU]at h;exact h
theorem yN(H:FxOk X){S:Sm}{m0 m:Mp}{ok0 ok:Nat->Ty->Prop}{w0 w:World}{a:Act}(R:Rel X cl ch S m ok a w)(hm:∀k l,m0 k=some l->m k=some l)(hok:∀b t,ok0 b t->ok b t)
  {v:V} {x:Value} (hv:pg ⟨w.heap,ok,m⟩ v x) (run:(execOp a.eval o).run X.P w0= .ok (.value x) w):
  (gJ X.E o.dst v).post S (λ_ S' =>kT X cl ch o a w0 m0 ok0 S'):=by
 unfold gJ;cases hd:o.dst with
 |none=>
  intro next Q hn
  unfold Oper.wp;rw[run,Oper.upon_value,hd];exact hn m ok a w R hm hok
 |some d=>
  refine fM λhb=>?_;intro next Q hn
  unfold Oper.wp;rw[run,Oper.upon_value,hd];exact hn m ok _ w (R.put H.ntB hb hv) hm hok
theorem a3J(C:Cx)(v:Value):pg C (a3I v) v:=by unfold a3I;split<;>first|exact rfl|trivial
theorem aI{α:Type}{Q:α->Sm->Prop}(R:Rel X cl ch S m ok a w){x:Operand}{K:V->Cmd α}(hK:∀v,pg ⟨w.heap,ok,m⟩ v (a.eval x)->(K v).post S Q):(rX x K).post S Q:=by
 unfold rX;cases x with
 |tmp t=>exact fM λhb=>hK (S t) (R.slot t (NZ hb))|const v=>exact hK _ (a3J _ v)|global g=>exact hK _ rfl|func f=>exact hK _ rfl
theorem pW{α:Type}{Q:α->Sm->Prop}(R:Rel X cl ch S m ok a w):∀(xs:List Operand) {K:List V->Cmd α} (hK:∀vs,jK ⟨w.heap,ok,m⟩ vs (xs.map a.eval)->(K vs).post S Q),(TW xs K).post S Q
 |[],K,hK=>hK [] rfl
 |x::r,K,hK=>by unfold TW;refine aI R λv hv=>?_;exact pW R r λvs hvs=>hK _ ⟨_,_,rfl,hv,hvs⟩
theorem aX(H:FxOk X)(R:Rel X cl ch S m ok a w){v:V}{x:Value}(hv:pg ⟨w.heap,ok,m⟩ v x)(run:(execOp a.eval o).run X.P w= .ok (.value x) w):
  (gJ X.E o.dst v).post S (λ_ S' =>kT X cl ch o a w m ok S'):=yN H R (λ_ _ h=>h) (λ_ _ h=>h) hv run
theorem SC{C:Cx}{x:Bool}{v:Value}(h:pg C (.b x) v):v= .bool x:=h
theorem vM{C:Cx}{k:IntKind}{n:Int}{v:Value}(h:pg C (.i k n) v):v= .int k n:=h
theorem OG{C:Cx}{l:List UInt8}{v:Value}(h:pg C (.s l) v):v= .string ⟨l.toArray⟩:=h
theorem a6q(H:FxOk X)(R:Rel X cl ch S m ok a w){x:Operand}(ho:o.op= .move x\/o.op= .assign x):(rX x λv=>gJ X.E o.dst v).post S (λ_ S' =>kT X cl ch o a w m ok S'):=by refine aI R λv hv=>aX H R hv ?_;rcases ho with ho|ho<;>simp[execOp,ho]
theorem b4j(H:FxOk X)(R:Rel X cl ch S m ok a w){c x y:Operand}{q:Nat}(ho:o.op= .pick c x y):(dI X.E q o).post S (λ_ S' =>kT X cl ch o a w m ok S'):=by
 unfold dI;simp only[ho];refine aI R λv hv=>?_;split<;>try trivial
 rename_i t;have hc:=SC hv;cases t
 ·simp only[cond_false];refine aI R λv hv=>aX H R hv ?_;simp[execOp,ho,hc,asBool]
 ·simp only[cond_true];refine aI R λv hv=>aX H R hv ?_;simp[execOp,ho,hc,asBool]
theorem iF{α β:Type}{Q:α->Sm->Prop}{x:Option β}{c:β->Cmd α}{S:Sm}(h:∀y,x=some y->(c y).post S Q):(Cmd.opt x c).post S Q:=h
theorem a6M{yc:Operand}{a:Act}{k:IntKind}{b:Int}(h:ES yc=false)(he:a.eval yc= .int k b):b≠0:=by
 unfold ES at h;split at h
 ·simp[Act.eval]at he;obtain⟨_,rfl⟩:=he;simpa using h
 ·simp at h
theorem b0b{yc:Operand}{a:Act}{k:IntKind}{b:Int}(h:IR yc=false)(he:a.eval yc= .int k b):¬b<0:=by
 unfold IR at h;split at h
 ·simp[Act.eval]at he;obtain⟨_,rfl⟩:=he;simpa using h
 ·simp at h
theorem a7H(H:FxOk X)(R:Rel X cl ch S m ok a w){op:BinOp}{t:TypeId}{x y:Operand}{yt:TypeId}(ho:o.op= .binOp op t x y yt){k k' :IntKind}{p q:Int}
  (hx:a.eval x= .int k p) (hy:a.eval y= .int k' q):(KO X.E t op y (.i k p) (.i k' q) λv=>gJ X.E o.dst v).post S (λ_ S' =>kT X cl ch o a w m ok S'):=by
 have run:∀v,(binOp op t (.int k p) (.int k' q)).run X.P w= .ok v w->(execOp a.eval o).run X.P w= .ok (.value v) w:=λv h=>by simp[execOp,ho,hx,hy,eqGuard_at_int,h]
 have fin:∀(v:V) (u:Value),pg ⟨w.heap,ok,m⟩ v u->(binOp op t (.int k p) (.int k' q)).run X.P w= .ok u w->(gJ X.E o.dst v).post S (λ_ S' =>kT X cl ch o a w m ok S'):=
  λv u hv h=>aX H R hv (run u h)
 unfold KO;cases op<;>simp only[]
 case shl=>
  cases hn:IR y
  ·simp only[cond_false];have h0:=b0b hn hy;exact fin _ _ rfl (by simp[binOp,Op.shift,h0,a9D])
  ·simp only[cond_true];refine iF λr hr=>?_;unfold Wu at hr;split at hr
   ·cases hr
   ·rename_i h0;cases hr;exact fin _ _ rfl (by simp[binOp,Op.shift,h0,a9D])
 case shr=>
  cases hn:IR y
  ·simp only[cond_false];have h0:=b0b hn hy;exact fin _ _ rfl (by simp[binOp,Op.shift,h0,ut])
  ·simp only[cond_true];refine iF λr hr=>?_;unfold Wv at hr;split at hr
   ·cases hr
   ·rename_i h0;cases hr;exact fin _ _ rfl (by simp[binOp,Op.shift,h0,ut])
 all_goals
  refine fM λhk=>?_;have hk' :k=k' :=of_decide_eq_true hk;subst hk'
 case quo=>
  cases hz:ES y
  ·simp only[cond_false];have h0:=a6M hz hy;exact fin _ _ rfl (by simp[binOp,Op.intDiv,h0,fQ])
  ·simp only[cond_true];refine iF λr hr=>?_;unfold FI at hr;split at hr
   ·cases hr
   ·rename_i h0;cases hr;exact fin _ _ rfl (by simp[binOp,Op.intDiv,h0])
 case rem=>
  cases hz:ES y
  ·simp only[cond_false];have h0:=a6M hz hy;exact fin _ _ rfl (by simp[binOp,Op.intDiv,h0,jk])
  ·simp only[cond_true];refine iF λr hr=>?_;unfold Le at hr;split at hr
   ·cases hr
   ·rename_i h0;cases hr;exact fin _ _ rfl (by simp[binOp,Op.intDiv,h0])
 case add=>exact fin _ _ rfl (by simp[binOp,Op.intArith,D6])
 case sub=>exact fin _ _ rfl (by simp[binOp,Op.intArith,H8])
 case mul=>exact fin _ _ rfl (by simp[binOp,Op.intArith,dF])
 case and=>exact fin _ _ rfl (by simp[binOp,Op.intBits,a1I])
 case or=>exact fin _ _ rfl (by simp[binOp,Op.intBits,ior])
 case xor=>exact fin _ _ rfl (by simp[binOp,Op.intBits,a9E])
 case andNot=>exact fin _ _ rfl (by simp[binOp,Op.intBits,a5S])
 case eql=>exact fin _ _ rfl (by simp[binOp,Op.intCmp,x8];rfl)
 case neq=>exact fin _ _ rfl (by simp[binOp,Op.intCmp,x8,F6];rfl)
 case lss=>exact fin _ _ rfl (by simp[binOp,Op.intCmp,E8])
 case leq=>exact fin _ _ rfl (by simp[binOp,Op.intCmp,L9])
 case gtr=>exact fin _ _ rfl (by simp[binOp,Op.intCmp,E8])
 case geq=>exact fin _ _ rfl (by simp[binOp,Op.intCmp,L9])
theorem a7I(H:FxOk X)(R:Rel X cl ch S m ok a w){op:BinOp}{t:TypeId}{x y:Operand}{yt:TypeId}(ho:o.op= .binOp op t x y yt){p q:List UInt8}
  (hx:a.eval x= .string ⟨p.toArray⟩) (hy:a.eval y= .string ⟨q.toArray⟩):(KO X.E t op y (.s p) (.s q) λv=>gJ X.E o.dst v).post S (λ_ S' =>kT X cl ch o a w m ok S'):=by
 have run:∀v,(Op.stringOp op ⟨p.toArray⟩ ⟨q.toArray⟩).run X.P w= .ok v w->(execOp a.eval o).run X.P w= .ok (.value v) w:=λv h=>by simp[execOp,ho,hx,hy,eqGuard_at_string,binOp,h]
 have fin:∀(v:V) (u:Value),pg ⟨w.heap,ok,m⟩ v u->(Op.stringOp op ⟨p.toArray⟩ ⟨q.toArray⟩).run X.P w= .ok u w->(gJ X.E o.dst v).post S (λ_ S' =>kT X cl ch o a w m ok S'):=
  λv u hv h=>aX H R hv (run u h)
 unfold KO;cases op<;>simp only[]<;>try trivial
 case add=>
  refine iF λr hr=>?_;unfold fC at hr;split at hr
  ·rename_i hle;cases hr;have e:(⟨p.toArray⟩:ByteArray)++⟨q.toArray⟩=⟨(p++q).toArray⟩:=by
    apply ByteArray.ext;apply lh;simp[ByteArray.data_append]
   refine fin _ (.string ⟨(p++q).toArray⟩) rfl ?_;have hs:¬((9223372036854775807:Int)<(p.length:Int)+(q.length:Int)):=l7;simp[Op.stringOp,e,ByteArray.size,hs]
  ·cases hr
 case eql=>exact fin _ _ rfl (by simp only[Op.stringOp,ByteArray.toList_mk,seq,Y8];rw[show(p==q)=decide (p=q) by rw[jA];simp])
 case neq=>exact fin _ _ rfl (by simp only[Op.stringOp,ByteArray.toList_mk,seq,F6,Y8];rw[show(p==q)=decide (p=q) by rw[jA];simp])
 case lss=>exact fin _ _ rfl (by simp[Op.stringOp,ByteArray.toList_mk,slt])
theorem a4r(H:FxOk X)(R:Rel X cl ch S m ok a w){op:BinOp}{t:TypeId}{x y:Operand}{yt:TypeId}(ho:o.op= .binOp op t x y yt){p q:Bool}
  (hx:a.eval x= .bool p) (hy:a.eval y= .bool q):(KO X.E t op y (.b p) (.b q) λv=>gJ X.E o.dst v).post S (λ_ S' =>kT X cl ch o a w m ok S'):=by
 unfold KO;cases hi:fH X.E.tt t with
 |none=>trivial|some i=>
 have ht' :=(H.tt t i hi).td;simp only[];cases hd:i.td<;>try trivial
 rw[hd]at ht';have ht:X.P.underlying t=some .bool:=ht';have he' :∀d,(Op.equalIn (d+1) t (.bool p) (.bool q)).run X.P w= .ok (p==q) w:=λd=>by simp[Op.equalIn,run_underlying ht]
 have he:(Op.equal t (.bool p) (.bool q)).run X.P w= .ok (p==q) w:=he' 9999;have run:∀v,(binOp op t (.bool p) (.bool q)).run X.P w= .ok v w->(execOp a.eval o).run X.P w= .ok (.value v) w:=λv h=>by simp[execOp,ho,hx,hy,eqGuard_at_bool,h]
 have fin:∀(v:V) (u:Value),pg ⟨w.heap,ok,m⟩ v u->(binOp op t (.bool p) (.bool q)).run X.P w= .ok u w->(gJ X.E o.dst v).post S (λ_ S' =>kT X cl ch o a w m ok S'):=
  λv u hv h=>aX H R hv (run u h)
 cases op<;>try trivial
 case eql=>exact fin _ _ rfl (by simp[binOp,he,kU])
 case neq=>exact fin _ _ rfl (by simp[binOp,he,kU,F6])
end
end Go.GP
namespace Go.GP
section
variable {X:Fx} {cl ch:Nat} {S:Sm} {m:Mp} {ok:Nat->Ty->Prop} {a:Act} {w:World} {o:Oper}
theorem tY{α:Type}{Q:α->Sm->Prop}(H:FxOk X){t:Nat}{K:TI->Cmd α}(hK:∀i,TiOk X.P t i->(K i).post S Q):(tiC X.E t K).post S Q:=by
 unfold tiC;cases hi:fH X.E.tt t with
 |none=>trivial|some i=>exact hK i (H.tt t i hi)
theorem a8n{P:Program}{t:TypeId} :∀{d:TD},b3i P t d->∃e,P.underlying t=some e
 | .bool,h=>⟨_,h⟩| .int _,h=>⟨_,h⟩| .str,h=>⟨_,h⟩| .sl _,h=>⟨_,h⟩| .ptr _,h=>⟨_,h⟩| .struct _,⟨_,h,_⟩=>⟨_,h⟩| .arr _ _,h=>⟨_,h⟩| .map _ _,h=>⟨_,h⟩| .other,⟨_,h,_⟩=>⟨_,h⟩
theorem U_(H:FxOk X)(R:Rel X cl ch S m ok a w){op:BinOp}{t:TypeId}{x y:Operand}{yt:TypeId}(ho:o.op= .binOp op t x y yt){ad:Option Addr}{n c:Nat}
  (hx:a.eval x= .slice ad n c) (hy:a.eval y= .slice none 0 0):(b0d X.E t op ad.isNone λv=>gJ X.E o.dst v).post S (λ_ S' =>kT X cl ch o a w m ok S'):=by
 unfold b0d;cases hi:fH X.E.tt t with
 |none=>trivial|some i=>
 have ht' :=(H.tt t i hi).td;simp only[];cases hd:i.td<;>try trivial
 rename_i e;rw[hd]at ht';have ht:X.P.underlying t=some (.slice e):=ht';have he' :∀d,(Op.equalIn (d+1) t (.slice ad n c) (.slice none 0 0)).run X.P w= .ok ad.isNone w:=λd=>by cases ad<;>simp[Op.equalIn,run_underlying ht]
 have he:(Op.equal t (.slice ad n c) (.slice none 0 0)).run X.P w= .ok ad.isNone w:=he' 9999;have run:∀v,(binOp op t (.slice ad n c) (.slice none 0 0)).run X.P w= .ok v w->(execOp a.eval o).run X.P w= .ok (.value v) w:=λv h=>by simp[execOp,ho,hx,hy,eqGuard_at_slice,h]
 cases op<;>try trivial
 case eql=>exact aX H R (v:=.b ad.isNone) (x:=.bool ad.isNone) rfl (run _ (by simp[binOp,he]))
 case neq=>exact aX H R (v:=.b (F6 ad.isNone)) (x:=.bool (!ad.isNone)) rfl (run _ (by simp[binOp,he]))
theorem b0p(H:FxOk X)(R:Rel X cl ch S m ok a w){op:BinOp}{t:TypeId}{x y:Operand}{yt:TypeId}{q:Nat}(ho:o.op= .binOp op t x y yt):
  (dI X.E q o).post S (λ_ S' =>kT X cl ch o a w m ok S'):=by
 unfold dI;simp only[ho];refine aI R λu hu=>aI R λv hv=>?_;cases u<;>try (unfold KO;trivial)
 case b p=>
  cases v<;>try (unfold KO;trivial)
  exact a4r H R ho (SC hu) (SC hv)
 case i k p=>
  cases v<;>try (unfold KO;trivial)
  exact a7H H R ho (vM hu) (vM hv)
 case s p=>
  cases v<;>try (unfold KO;trivial)
  exact a7I H R ho (OG hu) (OG hv)
 case nl=>
  cases v<;>try (unfold KO;trivial)
  exact U_ H R ho (ad:=none) (show a.eval x= .slice none 0 0 from hu) hv
 case ne=>
  cases v<;>try (unfold KO;trivial)
  obtain⟨ad,c,hx,hb⟩:=hu;subst hb;exact U_ H R ho (ad:=ad) hx hv
 case sl t' xs=>
  cases v<;>try (unfold KO;trivial)
  unfold KO;simp only[];cases ht:t'.isEnt
  ·simp only[cond_false];obtain⟨ad,c,hx,hle,hx'⟩:=(Ea ht).1 (show mJ w.heap ok (.sl t') xs [a.eval x]from hu);cases xs with
   |nil=>exact⟨λ_=>trivial,λh=>by simp[x8,o9]at h⟩|cons z zs=>obtain⟨blk,off,es,rfl,_⟩:=hx' 0 z rfl;exact⟨λ_=>trivial,λ_=>U_ H R ho (ad:=some _) (by simpa using hx) hv⟩
  ·trivial
 case agg cs=>
  cases v<;>try (unfold KO;trivial)
  case agg ds=>
  obtain⟨xs,hx,hl⟩:=hu;obtain⟨ys,hy,hl'⟩:=hv;unfold KO;simp only[];cases hq:fH X.E.eqs t with
  |none=>trivial|some sh=>
  simp only[];refine fM λhm=>?_;simp only[C9]at hm;have hE:=(H.eqs t sh hq).1;cases he:AZ cs ds with
  |none=>cases op<;>trivial|some e=>
   cases op<;>try trivial
   case eql=>refine aX H R (v:=.b e) (x:=.bool e) rfl ?_;have h:=hE w _ cs ds xs ys e .eql x y hm.1 hm.2 hl hl' he (.inl rfl);simp only[execOp,ho,hx,hy];rw[G5,h];rfl
   case neq=>refine aX H R (v:=.b (F6 e)) (x:=.bool (!e)) rfl ?_;have h:=hE w _ cs ds xs ys e .neq x y hm.1 hm.2 hl hl' he (.inr rfl);simp only[execOp,ho,hx,hy];rw[G5,h];rfl
theorem b4k(H:FxOk X)(R:Rel X cl ch S m ok a w){op:UnOp}{t:TypeId}{x:Operand}{q:Nat}(ho:o.op= .unOp op t x):
  (dI X.E q o).post S (λ_ S' =>kT X cl ch o a w m ok S'):=by
 unfold dI;simp only[ho];refine aI R λu hu=>?_;cases u<;>cases op<;>try (unfold unC;trivial)
 case b.not p=>exact aX H R (v:=.b (F6 p)) (x:=.bool (!p)) rfl (by simp[execOp,ho,SC hu,Op.unary])
 case i.neg k p=>exact aX H R (v:=.i k (H8 k 0 p)) (x:=.int k (k.wrap (0 -p))) rfl (by simp[execOp,ho,vM hu,Op.unary,Op.intArith])
 case i.xor k p=>exact aX H R (v:=.i k (a9E k (bif k.signed then -1 else k.max) p)) rfl (by simp only[execOp,ho,vM hu,Op.unary,Op.intBits,a9E];cases k.signed<;>simp)
theorem b0I{α:Type}{Q:α->Sm->Prop}(R:Rel X cl ch S m ok a w){u:Ty}{y:V}{vy:Value}{K:List u.den->Cmd α}(hy:pg ⟨w.heap,ok,m⟩ y vy)
  (hK:∀xs,mJ w.heap (λ_ _=>True) (.sl u) xs [vy]->(K xs).post S Q):(a7P u y K).post S Q:=by
 unfold a7P;split<;>try trivial
 ·have hv:vy= .slice none 0 0:=hy;subst hv;cases ht:u.isEnt
  ·exact hK [] (.inl ⟨ht,none,0,rfl,F9 _,λi x hi=>by simp at hi⟩)
  ·trivial
 ·obtain⟨ad,c,rfl,_⟩:=(show ∃a c,vy=Value.slice a 0 c/\a.isNone=_ from hy);cases ht:u.isEnt
  ·exact hK [] (.inl ⟨ht,ad,c,rfl,nY _,λi x hi=>by simp at hi⟩)
  ·trivial
 ·refine iJ λe=>?_;subst e;exact hK _ (fB (λ_ _ _=>trivial) (λ_ _ _=>rfl) (show mJ w.heap ok (.sl _) _ [vy]from hy))
 ·rename_i bx vw;obtain⟨l,hm,hv⟩:=hy;show Cmd.post (match S (bf+bx)with| .barr t' xs=>_| .bfrz t' xs=>_|_=>_) S Q;have hb:=R.box bx;split<;>try trivial
  ·rename_i t' xs hS;rw[hS]at hb;obtain⟨l',hm',ha⟩:=hb;simp only at hm hm';rw[hm]at hm';cases hm';refine iJ λe=>?_;subst e;exact hK _ (rf (C:=⟨w.heap,ok,m⟩) ha hv (λ_ _ _=>trivial) (λ_ _=>trivial))
  ·rename_i t' xs hS;rw[hS]at hb;obtain⟨l',hm',ha,hok⟩:=hb;simp only at hm hm';rw[hm]at hm';cases hm';refine iJ λe=>?_;subst e;exact hK _ (rf (C:=⟨w.heap,ok,m⟩) ha hv (λ_ _ _=>trivial) (λ_ _=>trivial))
theorem a4s(H:FxOk X)(R:Rel X cl ch S m ok a w){src t:TypeId}{x:Operand}{q:Nat}(ho:o.op= .convert src t x):
  (dI X.E q o).post S (λ_ S' =>kT X cl ch o a w m ok S'):=by
 unfold dI;simp only[ho];refine aI R λu hu=>tY H λj hj=>tY H λi hi=>?_;obtain⟨e,he⟩:=a8n hj.td;have hd:=hi.td;split<;>try trivial
 ·rename_i k' n k htd;rw[htd]at hd;exact aX H R (v:=.i k (wrap k n)) (x:=.int k (k.wrap n)) rfl (by simp[execOp,ho,vM hu,convert,run_underlying he,run_underlying (show X.P.underlying t=some (.int k)from hd),Conv.intToInt])
 ·rename_i l htd;rw[htd]at hd;refine aX H R (v:=.s l) (x:=.string ⟨l.toArray⟩) rfl ?_;simp only[execOp,ho,OG hu,convert,G5,run_underlying he,run_underlying (show X.P.underlying t=some .string from hd),I7];cases e<;>simp
 ·rename_i hns htd;rw[htd]at hd;split<;>try trivial
  rename_i el hjd;have hjs:=hj.td;rw[hjd]at hjs;refine tY H λk hk=>?_;have hkd:=hk.td;split<;>try trivial
  rename_i hke;rw[hke]at hkd;refine b0I R hu λxs hr=>?_;obtain⟨ad,cap,hv,hcap,hcells⟩:=(Ea rfl).1 hr;have hv:=(Y4 hv).1;refine aX H R (v:=.s (a8Z xs)) (x:=.string ⟨(a8Z xs).toArray⟩) rfl ?_;have hh:(convert src t (a.eval x)).run X.P w= .ok (.string ⟨(a8Z xs).toArray⟩) w:=by
   rw[hv];cases xs with
   |nil=>
    have:=run_convert_bytes_nil (P:=X.P) w src el hjs hkd 0 cap t hd;cases ad with
    |none=>exact this|some ad=>obtain⟨b,o,s⟩:=ad;rw[run_convert_bytes_string w src t el _ _ cap hjs hkd hd];simp[Conv.bytesToString,a8Z];rfl
   |cons y ys=>
    obtain⟨blk,off,es,rfl,_,_,_⟩:=hcells 0 y rfl;have:=run_convert_bytes_arg (P:=X.P) w src el hjs hkd blk off (y::ys).length cap (y::ys) rfl (λi hi=>?_) t hd
    ·exact this
    ·obtain⟨blk2,off2,es2,e2,_,hc,hr2⟩:=hcells i _ (dX hi);simp only[G8,qR]at e2;obtain⟨rfl,rfl,_⟩:=e2;obtain⟨c,T,f,hb,hn,rfl⟩:=xk hc;have hr3:((c.toList.drop (off+i*1)).take 1)=[.int .u8 (y::ys)[i]]:=hr2;have h5:=congrArg (λl=>l[0]?) hr3;simp only[di (show 0<1 by omega),U8,eP,lQ,lm,aC]at h5;simp only[World.cell?,hb,h5,Option.isSome_none];simp[List.getD,dX hi]
  simp only[execOp,ho];rw[G5,hh];rfl
theorem a4t(H:FxOk X)(R:Rel X cl ch S m ok a w){x:Operand}{n:Nat}{q:Nat}(ho:o.op= .extract x n):
  (dI X.E q o).post S (λ_ S' =>kT X cl ch o a w m ok S'):=by
 unfold dI;simp only[ho];refine aI R λu hu=>?_;cases u<;>try trivial
 case tup vs=>
 obtain⟨arr,hx,hl⟩:=hu;have key:∀(vs:List V) (us:List Value) (n:Nat) (v:V),a0p ⟨w.heap,ok,m⟩ vs us->vs[n]? =some v->∃u,us[n]? =some u/\pg ⟨w.heap,ok,m⟩ v u:=by
  intro vs;induction vs with
  |nil=>intro us n v _ h;simp at h|cons c cs ih=>
   rintro us n v ⟨u,r,rfl,h1,h2⟩ h;cases n with
   |zero=>simp at h;subst h;refine⟨u,rfl,?_⟩;cases c<;>first|exact h1|exact h1.elim
   |succ n=>simpa using ih r n v h2 (by simpa using h)
 simp only[];split
 ·rename_i v hv;obtain⟨u,hu,hr⟩:=key vs arr.toList n v hl hv;refine aX H R hr ?_;have:arr[n]? =some u:=by simpa using hu
  simp[execOp,ho,hx,Instr.extract,this]
 ·trivial
theorem b0t(H:FxOk X)(R:Rel X cl ch S m ok a w){t:TypeId}{x ix:Operand}{q:Nat}(ho:o.op= .index t x ix):
  (dI X.E q o).post S (λ_ S' =>kT X cl ch o a w m ok S'):=by
 unfold dI;simp only[ho];refine aI R λu hu=>aI R λv hv=>tY H λi hi=>?_;have hd:=hi.td;split<;>try trivial
 rename_i l k n htd;rw[htd]at hd;refine iF λc hc=>?_;unfold sat at hc;split at hc
 ·rename_i h0;cases hl:l[n.toNat]? with
  |none=>simp[hl]at hc|some b=>
   simp[hl]at hc;subst hc;refine aX H R (v:=.i .u8 b.toNat) (x:=.int .u8 b.toNat) rfl ?_;have e:(⟨l.toArray⟩:ByteArray)[n.toNat]? =some b:=by
    obtain⟨h1,h2⟩:=Y6.1 hl;have hs:n.toNat<(⟨l.toArray⟩:ByteArray).size:=by simpa[ByteArray.size]using h1
    show decidableGetElem? _ _=_;unfold decidableGetElem?;rw[dif_pos hs,←h2];rfl
   simp[execOp,ho,OG hu,vM hv,Instr.index,asIntOf,run_underlying (show X.P.underlying t=some .string from hd),h0,e]
 ·cases hc
theorem a2m(H:FxOk X)(R:Rel X cl ch S m ok a w){x:Operand}{q:Nat}(ho:o.op= .nilCheck x):
  (dI X.E q o).post S (λ_ S' =>kT X cl ch o a w m ok S'):=by
 unfold dI;simp only[ho];refine aI R λu hu=>?_;cases u<;>try trivial
 case ptr bx f=>obtain⟨b,h1,h2⟩:=hu;exact aX H R (v:=.ptr bx f) ⟨b,h1,h2⟩ (by simp[execOp,ho,h2])
 case ep bx ix f=>obtain⟨_,_,_,_,_,h1,h2,h3⟩:=hu;exact aX H R (v:=.ep bx ix f) ⟨_,_,_,_,_,h1,h2,h3⟩ (by simp[execOp,ho,h3])
 case dp u y f=>obtain⟨_,_,_,h1,h2⟩:=hu;exact aX H R (v:=.dp u y f) ⟨_,_,_,h1,h2⟩ (by simp[execOp,ho,h1])
 case glob g=>exact aX H R (v:=.glob g) hu (by have hu:a.eval x=_:=hu;simp[execOp,ho,hu])
end
end Go.GP
namespace Go.GP
theorem zn{w:World}{blk off n:Nat}{es:List Value}(e:fD w.heap blk off n=some es){j:Nat}{v:Value}(h:es[j]? =some v):w.cell? ⟨blk,off+j,none⟩=some v:=by
 obtain⟨c,T,f,hb,hn,rfl⟩:=xk e;rw[cell_of_row w blk (off+j) c T f hb];have hj:j<n:=by have:=(Y6.1 h).1;simp at this;omega
 rw[Z4,if_pos hj,U8]at h;simpa using h
theorem EY{P:Program}{t:TypeId}{d:TD}(h:b3i P t d)(w:World):(isAgg t).run P w= .ok (bM d) w:=by
 unfold isAgg;cases d<;>simp only[b3i]at h
 case struct fs=>obtain⟨fields,hu,_⟩:=h;rw[G5,run_underlying hu];rfl
 case other=>obtain⟨e,hu,hn⟩:=h;rw[G5,run_underlying hu];cases e<;>first|rfl|exact hn.elim
 all_goals (rw[G5,run_underlying h];rfl)
theorem ww{P:Program}{t:TypeId}{i:TI}(h:TiOk P t i)(w:World):(sizeOf t).run P w= .ok i.size w:=by obtain⟨inf,h1,h2,_⟩:=h.info;simp[sizeOf,typeInfo,h1,h2]
def QL(ag:Bool)(es:List Value):Value:=match ag with|true=> .agg es.toArray|false=>es.headD Go.undef
theorem xU{P:Program}{t:TypeId}{i:TI}(hi:TiOk P t i)(w:World){blk off:Nat}{es:List Value}(e:fD w.heap blk off i.size=some es):
  (loadVar t ⟨blk,off,none⟩).run P w= .ok (QL (bM i.td) es) w:=by
 have hl:=qN e;unfold loadVar;rw[G5,EY hi.td];simp only[I7];cases ha:bM i.td
 ·have h1:=hi.one ha;rw[h1]at hl;obtain⟨v,rfl⟩:∃v,es=[v]:=by
   cases es with
   |nil=>simp at hl
   |cons v r=>cases r with
    |nil=>exact⟨v,rfl⟩|cons _ _=>simp at hl
  have hc:=zn e (j:=0) (v:=v) rfl;simp only[eP]at hc;simp[hc,QL]
 ·have hc:=run_loadCells_list (P:=P) w ⟨blk,off,none⟩ es (λj v h=>by rw[kD];exact zn e h);rw[hl]at hc;simp[ww hi,hc,QL]
theorem CV{C:Cx}{ag:Bool}{cs:List V}{es:List Value}(h:iP C cs es)(h1:ag=false->es.length=1):pg C (mkV ag cs) (QL ag es):=by
 refine Qy (us:=es) ?_ h;cases ag
 ·have:=h1 rfl;obtain⟨v,rfl⟩:∃v,es=[v]:=by
   cases es with
   |nil=>simp at this
   |cons v r=>cases r with
    |nil=>exact⟨v,rfl⟩|cons _ _=>simp at this
  rfl
 ·exact⟨es.toArray,rfl,A7⟩
theorem VP:∀(n:Nat) (cs r:List V),VO n cs=some r->n<=cs.length/\r=cs.drop n
 |0,cs,r,h=>by simp[VO]at h;simp[h]|n+1,[],r,h=>by simp[VO]at h|n+1,c::cs,r,h=>by obtain⟨h1,h2⟩:=VP n cs r (by simpa[VO]using h);exact⟨by simp;omega,by simpa using h2⟩
theorem XO{α:Type}{Q:α->Sm->Prop}{S:Sm} :∀(n:Nat) (cs:List V) {K:List V->Cmd α} (hK:n<=cs.length->(K (cs.take n)).post S Q),(a3c n cs K .fail).post S Q
 |0,cs,K,hK=>by simpa[a3c]using hK (nY _)|n+1,[],K,hK=>trivial
 |n+1,c::cs,K,hK=>by unfold a3c;exact XO n cs λh=>by simpa using hK U6
theorem EZ{α:Type}{Q:α->Sm->Prop}{S:Sm}{off n:Nat}{cs:List V}{K:List V->Cmd α}(hK:off+n<=cs.length->(K ((cs.drop off).take n)).post S Q):(Yz off n cs K .fail).post S Q:=by
 unfold Yz;split
 ·rename_i r hr;obtain⟨h1,rfl⟩:=VP _ _ _ hr;refine XO n _ λh=>hK ?_;simp at h;omega
 ·trivial
def cZ{α:Type}(off:Nat)(vs cs:List α):List α:=cs.take off++vs++cs.drop (off+vs.length)
theorem EW{α:Type}{Q:α->Sm->Prop}{S:Sm} :∀(off:Nat) (vs cs:List V) {K:List V->Cmd α} (hK:off+vs.length<=cs.length->(K (cZ off vs cs)).post S Q),(Su off vs cs K .fail).post S Q
 |0,[],cs,K,hK=>by have:=hK A7;cases cs<;>simpa[Su,cZ]using this|0,v::vs,[],K,hK=>by simp[Su];trivial
 |0,v::vs,c::cs,K,hK=>by unfold Su;exact EW 0 vs cs λh=>by simpa[cZ]using hK (by simp at h ⊢;omega)|n+1,vs,[],K,hK=>by cases vs<;>simp[Su]<;>trivial|n+1,vs,c::cs,K,hK=>by
  have e:Su (n+1) vs (c::cs) K Cmd.fail=Su n vs cs (λr=>K (c::r)) Cmd.fail:=by cases vs<;>rfl
  rw[e];refine EW n vs cs λh=>?_;have:=hK U6;have e2:n+1+vs.length=(n+vs.length)+1:=l7;simpa[cZ,e2]using this
theorem Hr{C:Cx}{off:Nat}{vs cs:List V}{us xs:List Value}(hv:iP C vs us)(hc:iP C cs xs):iP C (cZ off vs cs) (cZ off us xs):=by unfold cZ;rw[←oZ hv];exact xM (xM (AA off hc) hv) (yG _ hc)
theorem EI{P:Program}{t:TypeId}{i:TI}(hi:TiOk P t i)(w:World){blk off:Nat}{c:Array Value}{T:TypeId}(hb:w.heap[blk]? =some (.cells c T (0,0))){v:Value}
  (hs:v.cells.size=i.size) (ho:off+i.size<=c.size) (h1:∀u∈v.cells.toList,u.oneCell' =true):
  (storeVar t ⟨blk,off,none⟩ v).run P w= .ok () (w.setRow blk (cZ off v.cells.toList c.toList).toArray):=by
 have h:=run_storeCells_at P blk off T v.cells.toList 0 c w hb U6 h1;simp only[eP]at h;unfold storeVar;simp[ww hi,hs,h,cZ]
section
variable {X:Fx} {cl ch:Nat} {S:Sm} {m:Mp} {ok:Nat->Ty->Prop} {a:Act} {w:World} {o:Oper}
theorem Rel.own_cells(R:Rel X cl ch S m ok a w){n:Nat}{cs:List V}(h:S (bf+n)= .bcells cs):∃blk arr T,m n=some (.st blk)/\w.heap[blk]? =some (.cells arr T (0,0))/\iP ⟨w.heap,ok,m⟩ cs arr.toList:=by have:=R.box n;rw[h]at this;exact this
theorem Rel.own_arr(R:Rel X cl ch S m ok a w){n:Nat}{t:Ty}{xs:List t.den}(h:S (bf+n)= .barr t xs):∃l,m n=some l/\arrOk ⟨w.heap,ok,m⟩ t xs l:=by have:=R.box n;rw[h]at this;exact this
theorem Rel.own_frz(R:Rel X cl ch S m ok a w){n:Nat}{t:Ty}{xs:List t.den}(h:S (bf+n)= .bfrz t xs):∃l,m n=some l/\arrOk ⟨w.heap,ok,m⟩ t xs l/\(∀blk,blk∈l.blks->ok blk t):=by have:=R.box n;rw[h]at this;exact this
theorem Rel.own_barrs(R:Rel X cl ch S m ok a w){n:Nat}{md:M}{xs:List md.den}{hole:Option (Nat×Nat×Option Nat)}(h:S (bf+n)= .barrs md xs hole):md.el=true/\∃l Os,m n=some l/\a5G ⟨w.heap,ok,m⟩ md xs hole Os l/\m.kid n=Os.flatten:=by have:=R.box n;rw[h]at this;exact this
theorem Rel.own_fc(R:Rel X cl ch S m ok a w){n:Nat}{t:Ty}{x:t.den}(h:S (bf+n)= .bfc t x):∃blk es,m n=some (.st blk)/\ok blk t/\fD w.heap blk 0 t.size=some es/\mJ w.heap ok t x es:=by have:=R.box n;rw[h]at this;exact this
theorem Bc:∀(m:M) (x:m.den) (r:List V),Ko m x r=Ko m x []++r
 | .dat t,x,r=>mP t x r| .pair a b,x,r=>by simp only[Ko];rw[Bc a x.1 (Ko b x.2 r),Bc b x.2 r,Bc a x.1 (Ko b x.2 [])];simp| .unit,_,_=>rfl| .own _,_,_=>rfl| .owns _,_,_=>rfl| .box _,_,_=>rfl| .ownb _,_,_=>rfl| .rp _,_,_=>rfl| .fn _ _,_,_=>rfl| .ifc _ _,_,_=>rfl| .cell _,_,_=>rfl| .fr _,_,_=>rfl
theorem Js:∀(m:M) (x:m.den),(Ko m x []).length=m.size
 | .dat t,x=>qH t x| .pair a b,x=>by simp only[Ko,M.size];rw[Bc a,F8,Js a x.1,Js b x.2]| .unit,_=>rfl| .own _,_=>rfl| .owns _,_=>rfl| .box _,_=>rfl| .ownb _,_=>rfl| .rp _,_=>rfl| .fn _ _,_=>rfl| .ifc _ _,_=>rfl| .cell _,_=>rfl| .fr _,_=>rfl
theorem xN{C:Cx}{cs:List Value}(h:cs.length=1)(h1:∀v∈cs,v.oneCell' =true):iP C [.undef] cs:=by
 match cs,h with
 |[v],_=>exact⟨v,[],rfl,trivial,h1 v A7,rfl⟩
theorem OE{C:Cx} :∀{m:M} {ho:Option Nat} {x:m.den} {cs:List Value} {O:List Nat},qy C.h C.ok m ho x cs O->iP C (Ko m x []) cs
 | .dat t,_,_,_,_,h=>sO h.1| .pair a b,_,x,_,_,h=>by obtain⟨c,d,O1,O2,rfl,rfl,h1,h2⟩:=h;simp only[Ko];rw[Bc a];exact xM (OE h1) (OE h2)
 | .unit,_,_,_,_,h=>by obtain⟨rfl,_⟩:=h;rfl
 | .own _,_,_,_,_,h=>xN (gu h) (xO h)| .owns _,_,_,_,_,h=>xN (gu h) (xO h)| .box _,_,_,_,_,h=>xN (gu h) (xO h)| .ownb _,_,_,_,_,h=>xN (gu h) (xO h)| .rp _,_,_,_,_,h=>xN (gu h) (xO h)| .fn _ _,_,_,_,_,h=>xN (gu h) (xO h)| .ifc _ _,_,_,_,_,h=>xN (gu h) (xO h)| .cell _,_,_,_,_,h=>xN (gu h) (xO h)| .fr _,_,_,_,_,h=>xN (gu h) (xO h)
theorem gK{α:Type}{Q:α->Sm->Prop}{S:Sm}{k:Nat}{c:V->Cmd α}(h:(c (S k)).post S Q):(Cmd.get k c).post S Q:=h
theorem nJ{α:Type}{Q:α->Sm->Prop}{S:Sm}{k:Nat}{v:V}{c:Cmd α}(h:c.post (upd S k v) Q):(Cmd.set k v c).post S Q:=h
theorem Jw{α:Type}{Q:α->Sm->Prop}(H:FxOk X)(R:Rel X cl ch S m ok a w){t:Nat}{p:V}{x:Value}(hp:pg ⟨w.heap,ok,m⟩ p x){K:V->Cmd α}
  (hK:∀v u ad,pg ⟨w.heap,ok,m⟩ v u->x= .pointer (some ad)->(loadVar t ad).run X.P w= .ok u w->(K v).post S Q):(NL X.E t p K).post S Q:=by
 unfold NL;refine tY H λi hi=>?_;cases p<;>try trivial
 case ptr bx off=>
  obtain⟨blk,hm,rfl⟩:=hp;refine gK ?_;split<;>try trivial
  ·rename_i cs hS;obtain⟨blk',arr,T,hm',hh,hl⟩:=R.own_cells hS;simp only at hm;rw[hm]at hm';cases hm';refine EZ λhle=>?_;have hlen:=oZ hl;have e:=nP hh off i.size (by simp at hlen;omega);refine hK _ _ _ (CV (AA _ (yG _ hl)) (λha=>by have:=qN e;rw[hi.one ha]at this;rw[hi.one ha];exact this)) rfl ?_;exact xU hi w e
  ·rename_i u y hS;obtain⟨blk',es,hm',hok,he,hr⟩:=R.own_fc hS;simp only at hm;rw[hm]at hm';cases hm';refine EZ λhle=>?_;rw[qH]at hle;have e:=Dq he off i.size hle;rw[dM]at e;refine hK _ _ _ (CV (AA _ (yG _ (sO (C:=⟨w.heap,ok,m⟩) hr))) (λha=>by have:=qN e;rw[hi.one ha]at this;rw[hi.one ha];exact this)) rfl ?_;exact xU hi w e
 case ep bx ix off=>
  obtain⟨blk,o',len,cap,sz,hm,hlt,rfl⟩:=hp;refine gK ?_;have key:∀{u:Ty} {xs:List u.den},arrOk ⟨w.heap,ok,m⟩ u xs (.arr blk o' len cap sz)->(Cmd.opt (af xs ix) λx=>Yz off i.size (flat u x []) (λr=>K (mkV (bM i.td) r)) Cmd.fail).post S Q:=by intro u xs ha;obtain⟨_,rfl,rfl,h3,c,T,hh,hs,hx⟩:=ha;refine iF λy hy=>?_;obtain⟨es,he,hr⟩:=hx ix y hy;refine EZ λhle=>?_;rw[qH]at hle;have e:=Dq he off i.size hle;refine hK _ _ _ (CV (AA _ (yG _ (sO (C:=⟨w.heap,ok,m⟩) hr))) (λha=>by have:=qN e;rw[hi.one ha]at this;rw[hi.one ha];exact this)) rfl ?_;exact xU hi w e
  split<;>try trivial
  ·rename_i u xs hS;obtain⟨l,hm',ha⟩:=R.own_arr hS;simp only at hm;rw[hm]at hm';cases hm';exact key ha
  ·rename_i u xs hS;obtain⟨l,hm',ha,_⟩:=R.own_frz hS;simp only at hm;rw[hm]at hm';cases hm';exact key ha
  ·rename_i md xs hole hS;obtain⟨_,l,Os,hm',⟨ha,hho⟩,_⟩:=R.own_barrs hS;simp only at hm;rw[hm]at hm';cases hm';obtain⟨rfl,rfl,h3,h7,c,T,hh,hs,hx⟩:=ha;refine iF λy hy=>?_;obtain⟨es,O,hO,he,hr⟩:=hx ix y hy;refine EZ λhle=>?_;rw[Js]at hle;have e:=Dq he off i.size hle;refine hK _ _ _ (CV (AA _ (yG _ (OE (C:=⟨w.heap,ok,m⟩) hr))) (λha=>by have:=qN e;rw[hi.one ha]at this;rw[hi.one ha];exact this)) rfl ?_;exact xU hi w e
 case dp u y off=>obtain⟨blk,o',es,rfl,hb,he,hr⟩:=hp;refine EZ λhle=>?_;rw[qH]at hle;have e:=Dq he off i.size hle;refine hK _ _ _ (CV (AA _ (yG _ (sO (C:=⟨w.heap,ok,m⟩) hr))) (λha=>by have:=qN e;rw[hi.one ha]at this;rw[hi.one ha];exact this)) rfl ?_;exact xU hi w e
theorem yU(h:Array Obj)(o:Obj){b:Nat}(hb:b<h.size):(h.push o)[b]? =h[b]?:=by rw[Array.getElem?_push,if_neg l7]
theorem Rel.new(R:Rel X cl ch S m ok a w){n:Nat}{l:Loc}{ks:List Nat}{v:V}{obj:Obj}(hn:S (bf+n)= .undef)(hcl:cl<=n)(hch:n<ch)(hv:v≠.undef)
  (hb:Y5 (pI m n l ks) n v=[w.heap.size]) (hB:Gi ⟨(w.alloc obj).heap,ok,pI m n l ks⟩ n v):
  Rel X cl ch (upd S (bf+n) v) (pI m n l ks) ok a (w.alloc obj):=by
 refine R.lay hn hcl hch hv rfl rfl rfl A7 (λb hb' _=>yU _ _ hb') (by rw[hb];simp) (λb h=>?_) hB;rw[hb]at h;simp only[U3]at h;subst h;refine⟨λt h' =>qY _ (R.okLt _ t h'),A7,.inl R.frame.size,λk h' =>qY _ (R.sep k _ h').2.1⟩
theorem Rel.newK(R:Rel X cl ch S m ok a w){T:List Nat}(hT:Tk X S m ok w T){n:Nat}{l:Loc}{ks:List Nat}{v:V}{obj:Obj}(hn:S (bf+n)= .undef)(hcl:cl<=n)(hch:n<ch)(hv:v≠.undef)
  (hb:Y5 (pI m n l ks) n v=w.heap.size::ks) (hnd:ks.Nodup) (hks:∀b∈ks,b∈T) (hB:Gi ⟨(w.alloc obj).heap,ok,pI m n l ks⟩ n v):
  Rel X cl ch (upd S (bf+n) v) (pI m n l ks) ok a (w.alloc obj):=by
 refine R.lay hn hcl hch hv rfl rfl rfl A7 (λb hb' _=>yU _ _ hb') (by rw[hb];exact gp.2 ⟨λh=>qY _ (hT.free _ (hks _ h)).2.1,hnd⟩) (λb h=>?_) hB;rw[hb]at h;rcases A8.1 h with rfl|h
 ·exact⟨λt h' =>qY _ (R.okLt _ t h'),A7,.inl R.frame.size,λk h' =>qY _ (R.sep k _ h').2.1⟩
 ·obtain⟨h1,h2,h3,h4⟩:=hT.free b (hks b h);exact⟨h1,by simp;omega,h3,h4⟩
theorem Rel.le_new(R:Rel X cl ch S m ok a w){n:Nat}{l:Loc}{ks:List Nat}{obj:Obj}(hn:S (bf+n)= .undef)(hcl:cl<=n):Cx.le ⟨w.heap,ok,m⟩ ⟨(w.alloc obj).heap,ok,pI m n l ks⟩:=
 ⟨λ_ _ h=>h,λb t hb=>yU _ _ (R.okLt b t hb),λk x h=>by
  by_cases e:k=n
  ·subst e;have:=R.fresh k hcl hn;simp only at h;rw[this]at h;cases h
  ·show pI m n l ks k=some x;rw[lF _ _ _ e];exact h⟩
theorem ui(H:FxOk X){q:Nat}(d:Option Tmp)(hd:∀t,d=some t->t<X.E.nt):CB*q<=U0 q d/\U0 q d+64<=CB*q+CB:=by
 have:=H.nt;cases d with
 |none=>simp only[U0];show 1000000*q<=1000000*q+999936/\1000000*q+999936+64<=1000000*q+1000000;omega|some t=>simp only[U0];have h2:LT.lt (α:=Nat) t X.E.nt:=hd t rfl;clear hd;generalize X.E.nt=n at*;revert this h2;generalize (t:Nat)=t';intro this h2;show 1000000*q<=1000000*q+64*t' /\1000000*q+64*t' +64<=1000000*q+1000000;omega
theorem RS(H:FxOk X){q:Nat}(R:Rel X (CB*q) (CB*q+CB) S m ok a w){v:V}{l:Loc}{obj:Obj}{vv:V}{x:Value}(hv:v≠.undef)
  (hb:Y5 (pI m (U0 q o.dst) l []) (U0 q o.dst) v=[w.heap.size]) (hB:S (bf+U0 q o.dst)= .undef->CB*q<=U0 q o.dst->Gi ⟨(w.alloc obj).heap,ok,pI m (U0 q o.dst) l []⟩ (U0 q o.dst) v)
  (hx:pg ⟨(w.alloc obj).heap,ok,pI m (U0 q o.dst) l []⟩ vv x) (run:(execOp a.eval o).run X.P w= .ok (.value x) (w.alloc obj)):
  (AP (U0 q o.dst) v (gJ X.E o.dst vv)).post S (λ_ S' =>kT X (CB*q) (CB*q+CB) o a w m ok S'):=by
 refine Au λhn=>?_;cases hd:o.dst with
 |none=>have hin:=ui H (q:=q) none (λt h=>by cases h);rw[hd]at hn hB hb hx;have R' :=R.new hn hin.1 l7 hv hb (hB hn hin.1);have:=yN (o:=o) H R' (m0:=m) (ok0:=ok) (λk l' h=>(R.le_new (obj:=obj) hn hin.1).m k l' h) (λ_ _ h=>h) hx run;rw[hd]at this;exact this
 |some t=>unfold gJ;refine fM λhb' =>?_;have hin:=ui H (q:=q) (some t) (λt' h=>by cases h;exact(CQ hb').1);rw[hd]at hn hB hb hx;have R' :=R.new hn hin.1 l7 hv hb (hB hn hin.1);have:=yN (o:=o) H R' (m0:=m) (ok0:=ok) (λk l' h=>(R.le_new (obj:=obj) hn hin.1).m k l' h) (λ_ _ h=>h) hx run;rw[hd]at this;unfold gJ at this;simp only[hb',cond_true]at this;exact this
theorem Xz{C:Cx} :∀{cs:List V} {vs:List Value},iP ⟨#[],λ_ _=>False,nom⟩ cs vs->iP C cs vs:=by intro cs vs h;exact Hq (C:=⟨#[],λ_ _=>False,nom⟩) ⟨λ_ _ h=>h.elim,λ_ _ h=>h.elim,λ_ _ h=>by cases h⟩ h
theorem b0o(H:FxOk X){q:Nat}(R:Rel X (CB*q) (CB*q+CB) S m ok a w){t:TypeId}(ho:o.op= .alloc t):(dI X.E q o).post S (λ_ S' =>kT X (CB*q) (CB*q+CB) o a w m ok S'):=by
 unfold dI;simp only[ho];refine tY H λi hi=>fM λhz=>?_;obtain⟨inf,h1,h2,h3,h4,h5⟩:=hi.info;obtain⟨z,hz1,hz2⟩:=h4 (jy hz);refine RS (l:=.st w.heap.size) (obj:=.cells z.cells t) H R A7 (by simp[Y5]) (λhn hc=>?_) ⟨w.heap.size,A7,rfl⟩ ?_
 ·exact⟨w.heap.size,z.cells,t,A7,heap_alloc_new w _,Xz hz2⟩
 ·simp[execOp,ho,Instr.alloc,zeroValue,typeInfo,h1,hz1,newVar,newRow]
theorem b6A(H:FxOk X){q:Nat}(R:Rel X (CB*q) (CB*q+CB) S m ok a w){t:TypeId}{x:Operand}(ho:o.op= .box t x):(dI X.E q o).post S (λ_ S' =>kT X (CB*q) (CB*q+CB) o a w m ok S'):=by
 unfold dI;simp only[ho];refine aI R λu hu=>xm hu λcs hcs=>?_;refine RS (l:=.st w.heap.size) (obj:=.cells (a.eval x).cells t) H R A7 (by simp[Y5]) (λhn hc=>?_) ⟨w.heap.size,A7,rfl⟩ ?_
 ·exact⟨w.heap.size,(a.eval x).cells,t,A7,heap_alloc_new w _,Hq (R.le_new hn hc) hcs⟩
 ·simp[execOp,ho,Instr.box,newVar,newRow]
end
end Go.GP
namespace Go.GP
theorem uG{α:Type}{p:Nat}{us L:List α}(h:p+us.length<=L.length)(i:Nat):
  (cZ p us L)[i]? =if i<p then L[i]? else if i<p+us.length then us[i -p]? else L[i]?:=by
 unfold cZ;rw[E9];by_cases h1:i<p
 ·rw[if_pos h1,J9 U6,Z4,if_pos h1]
 ·rw[if_neg h1,F7 U6];have e:(L.take p).length=p:=by simp;omega
  rw[e];by_cases h2:i<p+us.length
  ·rw[if_pos h2,J9 l7]
  ·rw[if_neg h2,F7 l7,U8];congr 1;omega
theorem zh{α:Type}{p:Nat}{us L:List α}(h:p+us.length<=L.length):(cZ p us L).length=L.length:=by unfold cZ;simp;omega
theorem a5h{α:Type}{p b n:Nat}{us L:List α}(h:p+us.length<=L.length)(hd:b+n<=p\/p+us.length<=b):((cZ p us L).drop b).take n=(L.drop b).take n:=by
 apply dV;intro i;rw[Z4,Z4];split
 ·rw[U8,U8,uG h];rcases hd with hd|hd
  ·rw[if_pos l7]
  ·rw[if_neg l7,if_neg l7]
 ·rfl
theorem SY{α:Type}{b off n:Nat}{us L:List α}(h:b+n<=L.length)(ho:off+us.length<=n):((cZ (b+off) us L).drop b).take n=cZ off us ((L.drop b).take n):=by
 have hl:((L.drop b).take n).length=n:=by simp;omega
 apply dV;intro i;rw[Z4,uG (by rw[hl];exact ho)];by_cases hi:i<n
 ·rw[if_pos hi,U8,uG l7,Z4,if_pos hi,U8];by_cases h1:i<off
  ·rw[if_pos l7,if_pos h1]
  ·rw[if_neg l7,if_neg h1];by_cases h2:i<off+us.length
   ·rw[if_pos l7,if_pos h2];congr 1;omega
   ·rw[if_neg l7,if_neg h2]
 ·rw[if_neg hi,if_neg l7,if_neg l7,Z4,if_neg hi]
theorem LY{w:World}{blk:Nat}{c:Array Value}{T:TypeId}(hb:w.heap[blk]? =some (.cells c T (0,0)))(L:List Value)(off n:Nat)(h:off+n<=L.length):
  fD (w.setRow blk L.toArray).heap blk off n=some ((L.drop off).take n):=by
 rw[nP (setRow_heap w blk c L.toArray T (0,0) hb) off n (by simpa using h)]
theorem a8W{a b:Nat}(h:a<b):Nat.blt a b=true:=by unfold Nat.blt;exact Nat.ble_eq_true_of_le h
theorem a8V{a b:Nat}(h:¬a<b):Nat.blt a b=false:=by
 cases e:Nat.blt a b
 ·rfl
 ·exact absurd (NZ e) h
theorem Eo{α:Type} :∀{Os:List (List α)} {i:Nat} {O1 P O2:List α},Os[i]? =some (O1++P++O2)->Os.flatten.Perm ((Os.set i (O1++O2)).flatten++P)
 |[],i,_,_,_,h=>by simp at h|A::Os,0,O1,P,O2,h=>by simp at h;subst h;simp only[pK,List.flatten_cons,E9];refine List.Perm.append_left O1 ?_;have:=(qX (l₁:=P) (l₂:=O2++Os.flatten));simpa using this|A::Os,i+1,O1,P,O2,h=>by simp at h;simp only[List.set_cons_succ,List.flatten_cons,E9];exact List.Perm.append_left A (Eo (by simpa using h))
section
variable {X:Fx} {cl ch:Nat} {S:Sm} {m:Mp} {ok:Nat->Ty->Prop} {a:Act} {w:World} {o:Oper}
theorem b6H{h h' :Array Obj}{ok:Nat->Ty->Prop}{m:Mp}(k:∀b t,ok b t->h'[b]? =h[b]?){cs:List V}{vs:List Value}(hr:iP ⟨h,ok,m⟩ cs vs):iP ⟨h',ok,m⟩ cs vs:=
 Hq (C:=⟨h,ok,m⟩) (D:=⟨h',ok,m⟩) ⟨λ_ _ h=>h,k,λ_ _ h=>h⟩ hr
theorem OB{α:Type}{Q:α->Sm->Prop}{S:Sm}{h:Array Obj}{ok:Nat->Ty->Prop} :∀(md:M) (off:Nat) {x:md.den} {es:List Value} {O:List Nat} {K:V->Cmd α} (hr:qy h ok md none x es O)
  (hK:∀v l ks u O1 Op O2,O=O1++Op++O2->qy h ok md (some off) x es (O1++O2)->es[off]? =some u->l.view none u->
   (∀mp n,Gi ⟨h,ok,pI mp n l ks⟩ n v/\Y5 (pI mp n l ks) n v=Op/\pI mp n l ks n=some l)->v≠.undef->(K v).post S Q),
  (Xg md off x K .fail).post S Q
 | .own t,off,x,es,O,K,hr,hK=>by unfold Xg;refine fM λhb=>?_;have:=jy hb;subst this;obtain⟨l,v,rfl,hv,ha,rfl⟩:=zg.1 hr;refine hK _ l [] v [] l.blks [] A7 ⟨v,rfl,uf hv,rfl⟩ rfl hv (λmp n=>⟨⟨l,A7,OW ha⟩,?_,A7⟩) A7;cases l<;>first|(simp[Y5,Loc.blks];done)|cases ha
 | .owns md,off,x,es,O,K,hr,hK=>by unfold Xg;refine fM λhb=>?_;have:=jy hb;subst this;obtain⟨he,l,v,Os,rfl,hv,ha,rfl⟩:=AB.1 hr;refine hK _ l Os.flatten v [] (l.blks++Os.flatten) [] A7 ⟨v,rfl,uf hv,rfl⟩ rfl hv (λmp n=>⟨⟨he,l,Os,A7,⟨ha,trivial⟩,A7⟩,?_,A7⟩) A7;cases l<;>first|(simp[Y5,Loc.blks];done)|cases ha
 | .pair p q,off,x,es,O,K,hr,hK=>by
  unfold Xg;obtain⟨c,d,O1,O2,rfl,rfl,h1,h2⟩:=hr;have hc:=gu h1;by_cases hlt:off<p.size
  ·have hb:Nat.blt off p.size=true:=a8W hlt;simp only[hb,cond_true];refine OB p off h1 λv l ks u A Op B e1 e2 e3 e4 e5 e6=>?_;refine hK v l ks u A Op (B++O2) (by subst e1;simp) ⟨c,d,A++B,O2,rfl,A7,?_,?_⟩ (by rw[J9 (by rw[hc];exact hlt)];exact e3) e4 e5 e6
   ·simp only[hlt,if_true];exact e2
   ·simp only[hlt,if_true];exact h2
  ·have hb:Nat.blt off p.size=false:=a8V hlt;simp only[hb,cond_false];refine OB q (off -p.size) h2 λv l ks u A Op B e1 e2 e3 e4 e5 e6=>?_;refine hK v l ks u (O1++A) Op B (by subst e1;simp) ⟨c,d,O1,A++B,rfl,A7,?_,?_⟩ (by rw[F7 l7,hc];exact e3) e4 e5 e6
   ·simp only[hlt,if_false];exact h1
   ·simp only[hlt,if_false];exact e2
 | .dat _,_,_,_,_,_,_,_=>trivial| .unit,_,_,_,_,_,_,_=>trivial| .box _,_,_,_,_,_,_,_=>trivial| .ownb _,_,_,_,_,_,_,_=>trivial| .cell _,_,_,_,_,_,_,_=>trivial| .fr _,_,_,_,_,_,_,_=>trivial| .rp _,_,_,_,_,_,_,_=>trivial| .fn _ _,_,_,_,_,_,_,_=>trivial| .ifc _ _,_,_,_,_,_,_,_=>trivial
def l_(h:Array Obj)(ok:Nat->Ty->Prop)(v:V)(u:Value)(Op:List Nat):Prop:=
 (v= .nl/\u= .slice none 0 0/\Op=[])\/(∃t ys l,v= .barr t ys/\l.view none u/\arrOk ⟨h,ok,nom⟩ t ys l/\Op=l.blks)\/
 (∃md ys l Os,v= .barrs md ys none/\md.el=true/\l.view none u/\DN h md.size (λ_ x es O=>qy h ok md none x es O) ys Os l/\Op=l.blks++Os.flatten)
theorem l_.one{h:Array Obj}{v:V}{u:Value}{Op:List Nat}(k:l_ h ok v u Op):u.oneCell' =true:=by
 rcases k with⟨_,rfl,_⟩|⟨_,_,l,_,hv,_⟩|⟨_,_,l,_,_,_,hv,_⟩
 ·rfl
 ·exact uf hv
 ·exact uf hv
theorem RI{α:Type}{Q:α->Sm->Prop}{S:Sm}{h:Array Obj}{ok:Nat->Ty->Prop}{v:V}{u:Value}{Op:List Nat}(hp:l_ h ok v u Op):∀(md:M) (off:Nat) {ho:Option Nat} {x:md.den} {es:List Value} {O:List Nat} {K:md.den->Cmd α}
  (hr:qy h ok md ho x es O) (hh:ho=none\/ho=some off) (hel:md.el=true)
  (hK:∀y O1 Old O2,O=O1++Old++O2->qy h ok md none y (es.set off u) (O1++Op++O2)->off<es.length->(K y).post S Q),
  (a4f md off v x K .fail).post S Q
 | .own t,off,ho,x,es,O,K,hr,hh,hel,hK=>by
  unfold a4f;refine fM λhb=>?_;have:=jy hb;subst this;obtain⟨v0,rfl,_,_⟩:=hr;rcases hp with⟨rfl,rfl,rfl⟩|⟨t',ys,l,rfl,hv,ha,rfl⟩|⟨md',ys,l,Os,rfl,_,hv,ha,rfl⟩
  ·have ht:t.isEnt=false:=by simpa[M.el]using hel
   simp only[ht,cond_false];exact hK [] [] O [] A7 ⟨_,rfl,rfl,.nil,rfl,⟨rfl,ht⟩,rfl⟩ A7
  ·simp only;refine iJ λe=>?_;subst e;exact hK _ [] O [] A7 ⟨u,rfl,uf hv,l,hv,ha,A7⟩ A7
  ·trivial
 | .owns md,off,ho,x,es,O,K,hr,hh,hel,hK=>by
  unfold a4f;refine fM λhb=>?_;have:=jy hb;subst this;obtain⟨v0,rfl,_,_⟩:=hr;rcases hp with⟨rfl,rfl,rfl⟩|⟨t',ys,l,rfl,hv,ha,rfl⟩|⟨md',ys,l,Os,rfl,he,hv,ha,rfl⟩
  ·exact hK [] [] O [] A7 ⟨_,rfl,rfl,by simpa[M.el]using hel,.nil,[],rfl,⟨rfl,rfl⟩,rfl⟩ A7
  ·trivial
  ·simp only;refine Vz λe=>?_;subst e;exact hK _ [] O [] A7 ⟨u,rfl,uf hv,he,l,Os,hv,ha,A7⟩ A7
 | .pair p q,off,ho,x,es,O,K,hr,hh,hel,hK=>by
  unfold a4f;obtain⟨c,d,O1,O2,rfl,rfl,h1,h2⟩:=hr;have hc:=gu h1;have hel' :p.el=true/\q.el=true:=by simpa[M.el]using hel
  by_cases hlt:off<p.size
  ·have hb:Nat.blt off p.size=true:=a8W hlt;simp only[hb,cond_true];have h2' :qy h ok q none x.2 d O2:=by
    rcases hh with rfl|rfl
    ·exact h2
    ·simpa only[hlt,if_true]using h2
   refine RI hp p off h1 (by rcases hh with rfl|rfl<;>first|exact .inl rfl|(right;simp only[hlt,if_true])) hel'.1 λy A Old B e1 e2 e3=>?_;refine hK _ A Old (B++O2) (by subst e1;simp) ⟨c.set off u,d,A++Op++B,O2,?_,A7,e2,h2'⟩ U6;rw[List.set_append_left _ _ l7]
  ·have hb:Nat.blt off p.size=false:=a8V hlt;simp only[hb,cond_false];have h1' :qy h ok p none x.1 c O1:=by
    rcases hh with rfl|rfl
    ·exact h1
    ·simpa only[hlt,if_false]using h1
   refine RI hp q (off -p.size) h2 (by rcases hh with rfl|rfl<;>first|exact .inl rfl|(right;simp only[hlt,if_false])) hel'.2 λy A Old B e1 e2 e3=>?_;refine hK _ (O1++A) Old B (by subst e1;simp) ⟨c,d.set (off -p.size) u,O1,A++Op++B,?_,A7,h1',e2⟩ U6;rw[ig _ _ l7,hc]
 | .dat _,_,_,_,_,_,_,_,_,_,_=>trivial| .unit,_,_,_,_,_,_,_,_,_,_=>trivial| .box _,_,_,_,_,_,_,_,_,_,_=>trivial| .ownb _,_,_,_,_,_,_,_,_,_,_=>trivial| .cell _,_,_,_,_,_,_,_,_,_,_=>trivial| .fr _,_,_,_,_,_,_,_,_,_,_=>trivial| .rp _,_,_,_,_,_,_,_,_,_,_=>trivial| .fn _ _,_,_,_,_,_,_,_,_,_,_=>trivial| .ifc _ _,_,_,_,_,_,_,_,_,_,_=>trivial
theorem Md{α:Type}{Q:α->Sm->Prop}{C:Cx}{ln:Ty->Bool} :∀(t:Ty) {cs:List V} {K:t.den->List V->Cmd α} {S:Sm} {vs:List Value} (hf:t.flat=true) (hL:iP C cs vs)
  (hK:∀x r us us',vs=us++us' ->(∀h ok,mJ h ok t x us)->iP C r us' ->(K x r).post S Q),(qA ln t cs K).post S Q
 | .bool,cs,K,S,vs,hf,hL,hK=>by
  unfold qA;split
  ·obtain⟨v,r,rfl,h1,_,h3⟩:=hL;exact hK _ _ [v] r rfl (λ_ _=>by simp only[zf]at h1;simp[mJ,h1]) h3
  ·trivial
 | .int k,cs,K,S,vs,hf,hL,hK=>by
  unfold qA;split
  ·obtain⟨v,r,rfl,h1,_,h3⟩:=hL;refine iG λe=>?_;have e:=of_decide_eq_true e;subst e;exact hK _ _ [v] r rfl (λ_ _=>by simp only[zf]at h1;simp[mJ,h1]) h3
  ·trivial
 | .str,cs,K,S,vs,hf,hL,hK=>by
  unfold qA;split
  ·obtain⟨v,r,rfl,h1,_,h3⟩:=hL;exact hK _ _ [v] r rfl (λ_ _=>by simp only[zf]at h1;simp[mJ,h1]) h3
  ·trivial
 | .unit,cs,K,S,vs,hf,hL,hK=>by unfold qA;exact hK _ _ [] vs rfl (λ_ _=>rfl) hL
 | .prod p q,cs,K,S,vs,hf,hL,hK=>by unfold qA;simp[Ty.flat]at hf;refine Md p hf.1 hL λx r us us' e1 h1 l1=>?_;refine Md q hf.2 l1 λy r' vs2 vs2' e2 h2 l2=>?_;subst e1;subst e2;exact hK _ _ (us++vs2) vs2' A7 (λh ok=>⟨us,vs2,rfl,h1 h ok,h2 h ok⟩) l2| .sl t,cs,K,S,vs,hf,hL,hK=>by simp[Ty.flat]at hf
theorem a2Y{α:Type}{off:Nat}{us c d:List α}(h:off+us.length<=c.length):cZ off us (c++d)=cZ off us c++d:=by
 apply dV;intro i;have hs:=zh h;rw[uG U6];by_cases hi:i<c.length
 ·rw[J9 hi,J9 (l₁:=cZ off us c) (by rw[hs];exact hi),uG h]
 ·rw[F7 l7,F7 (l₁:=cZ off us c) (by rw[hs];omega),hs,if_neg l7,if_neg l7]
theorem a0E{α:Type}{off:Nat}{us c d:List α}(h:(off -c.length)+us.length<=d.length)(h' :c.length<=off):cZ off us (c++d)=c++cZ (off -c.length) us d:=by
 apply dV;intro i;rw[uG U6];by_cases hi:i<c.length
 ·rw[J9 hi,if_pos l7,J9 hi]
 ·rw[F7 l7,F7 (l₂:=cZ (off -c.length) us d) l7,uG h];by_cases h1:i<off
  ·simp only[h1,if_true,show i -c.length<off -c.length by omega]
  ·by_cases h2:i<off+us.length
   ·simp only[h1,if_false,h2,if_true,show ¬(i -c.length<off -c.length) by omega,show i -c.length<off -c.length+us.length by omega];congr 1;omega
   ·simp only[h1,if_false,h2,show ¬(i -c.length<off -c.length) by omega,show ¬(i -c.length<off -c.length+us.length) by omega]
theorem Ri{α:Type}{Q:α->Sm->Prop}{h:Array Obj}{ok:Nat->Ty->Prop}{m:Mp} :∀(md:M) (off:Nat) {ho:Option Nat} {x:md.den} {es us:List Value} {vs:List V} {O:List Nat} {K:md.den->Cmd α} {S:Sm}
  (hr:qy h ok md ho x es O) (hv:iP ⟨h,ok,m⟩ vs us)
  (hK:∀y,off+us.length<=es.length->qy h ok md ho y (cZ off us es) O->(K y).post S Q),(a6Z md off vs x K).post S Q
 | .dat t,off,ho,x,es,us,vs,O,K,S,hr,hv,hK=>by
  unfold a6Z;refine iG λhf=>EW _ _ _ λhle=>?_;rw[qH]at hle;obtain⟨hr,rfl⟩:=hr;have hl:=ik hr;have hlv:=oZ hv;have hnew:=Hr (off:=off) hv (sO (C:=⟨h,ok,m⟩) hr);refine Md t hf hnew λy q vs1 vs2 e1 h1 l1=>?_;cases q with
  |cons _ _=>trivial|nil=>
  simp only[iP]at l1;subst l1;simp only[H9]at e1;subst e1;exact hK y l7 ⟨h1 _ _,rfl⟩
 | .pair p q,off,ho,x,es,us,vs,O,K,S,hr,hv,hK=>by
  unfold a6Z;obtain⟨c,d,O1,O2,rfl,rfl,h1,h2⟩:=hr;have hc:=gu h1;by_cases hlt:off<p.size
  ·have hb:Nat.blt off p.size=true:=a8W hlt;simp only[hb,cond_true];refine Ri p off h1 hv λy hle e2=>?_;exact hK _ U6 ⟨_,d,O1,O2,a2Y hle,rfl,e2,h2⟩
  ·have hb:Nat.blt off p.size=false:=a8V hlt;simp only[hb,cond_false];refine Ri q (off -p.size) h2 hv λy hle e2=>?_;refine hK _ U6 ⟨c,_,O1,O2,?_,rfl,h1,e2⟩;rw[a0E l7 l7,hc]
 | .own _,_,_,_,_,_,_,_,_,_,_,_,_=>trivial| .owns _,_,_,_,_,_,_,_,_,_,_,_,_=>trivial| .unit,_,_,_,_,_,_,_,_,_,_,_,_=>trivial| .box _,_,_,_,_,_,_,_,_,_,_,_,_=>trivial| .ownb _,_,_,_,_,_,_,_,_,_,_,_,_=>trivial| .cell _,_,_,_,_,_,_,_,_,_,_,_,_=>trivial| .fr _,_,_,_,_,_,_,_,_,_,_,_,_=>trivial| .rp _,_,_,_,_,_,_,_,_,_,_,_,_=>trivial| .fn _ _,_,_,_,_,_,_,_,_,_,_,_,_=>trivial| .ifc _ _,_,_,_,_,_,_,_,_,_,_,_,_=>trivial
theorem a7n(i:Nat):Yi none i=none:=rfl
theorem Wn{i o j:Nat}{k:Option Nat}(h:j≠i):Yi (some (i,o,k)) j=none:=by simp[Yi,h]
theorem Zk{i o:Nat}{k:Option Nat} :Yi (some (i,o,k)) i=some o:=by simp[Yi]
theorem Xy{C:Cx}{n:Nat}{md:M}{xs:List md.den}{hole:Option (Nat×Nat×Option Nat)}{blk off len cap sz:Nat}{Os:List (List Nat)}(he:md.el=true)(hm:C.m n=some (.arr blk off len cap sz))
  (ha:DN C.h md.size (λi x es O=>qy C.h C.ok md (Yi hole i) x es O) xs Os (.arr blk off len cap sz)) (hk:C.m.kid n=Os.flatten) (hh:Wp C md.size (.arr blk off len cap sz) hole):Gi C n (.barrs md xs hole):=⟨he,_,Os,hm,⟨ha,hh⟩,hk⟩
theorem La{j o2 idx off:Nat}{k:Option Nat}(h:G_ (some (j,o2,k)) idx off=true):j=idx/\o2=off:=by
 simp only[G_]at h;cases hb:Nat.beq o2 off<;>rw[hb]at h
 ·cases h
 ·exact⟨jy h,jy hb⟩
theorem a7A(H:FxOk X){q:Nat}{S1:Sm}{m1:Mp}{ok1:Nat->Ty->Prop}{w0:World}{Op:List Nat}(R:Rel X (CB*q) (CB*q+CB) S1 m1 ok1 a w)(hT:Tk X S1 m1 ok1 w Op)
  (hm:∀k l,m k=some l->m1 k=some l) (hok:∀b t,ok b t->ok1 b t) {v:V} {l:Loc} {ks:List Nat} {x:Value} (hv:v≠.undef)
  (ho:Y5 (pI m1 (U0 q o.dst) l ks) (U0 q o.dst) v=Op) (hB:Gi ⟨w.heap,ok1,pI m1 (U0 q o.dst) l ks⟩ (U0 q o.dst) v)
  (hx:l.view none x) {bx idx off:Nat} {md:M} {xs:List md.den} (hS:S1 (bf+bx)= .barrs md xs (some (idx,off,none))) {blk o' len cap sz:Nat} (hmb:m1 bx=some (.arr blk o' len cap sz))
  (hc:fD w.heap blk (o' +idx*md.size+off) 1=some [x]) (hsz:sz=md.size)
  (run:(execOp a.eval o).run X.P w0= .ok (.value x) w):
  (AP (U0 q o.dst) v (Cmd.set (bf+bx) (.barrs md xs (some (idx,off,some (U0 q o.dst)))) (gJ X.E o.dst (.own (U0 q o.dst) none)))).post S1 (λ_ S' =>kT X (CB*q) (CB*q+CB) o a w0 m ok S'):=by
 refine Au λhn=>?_;have key:∀n,n=U0 q o.dst->CB*q<=n->n<CB*q+CB->∃R2:Rel X (CB*q) (CB*q+CB) (upd (upd S1 (bf+n) v) (bf+bx) (.barrs md xs (some (idx,off,some n)))) (pI m1 n l ks) ok1 a w,∀k l',m k=some l' ->pI m1 n l ks k=some l' :=by
  rintro n rfl h1 h2;obtain⟨R',_,hm'⟩:=R.adopt (T:=[]) hn h1 hv (by simpa using hT) (λb h=>by rw[ho]at h;exact h) (by rw[ho];exact hT.nodup) hB;rw[Nat.max_eq_left l7]at R';have hne:bx≠U0 q o.dst:=λe=>by have:=R.fresh _ h1 hn;rw[←e,hmb]at this;cases this
  have hS' :upd S1 (bf+U0 q o.dst) v (bf+bx)= .barrs md xs (some (idx,off,none)):=by rw[bP _ _ l7];exact hS
  have hb:=R'.box bx;rw[hS']at hb;obtain⟨hel,l0,Os,hm0,⟨ha,_⟩,hk⟩:=hb;have hmb' :=hm' _ _ hmb;simp only at hm0;rw[hmb']at hm0;cases hm0;refine⟨R'.mod (by rw[hS'];rfl) A7 rfl rfl rfl rfl (λ_ _=>rfl) ⟨hel,_,Os,hmb',⟨?_,?_⟩,hk⟩,λk l' h=>hm' k l' (hm k l' h)⟩
  ·exact Gx (λ_ _=>rfl) (λi x es O _ hr=>hr) ha
  ·exact⟨blk,o',len,cap,x,l,by rw[hsz],hc,fV _ _ _ _,hx⟩
 cases hd:o.dst with
 |none=>have hin:=ui H (q:=q) none (λt h=>by cases h);obtain⟨R2,hm2⟩:=key (U0 q none) (by rw[hd]) hin.1 l7;have:=yN (o:=o) H R2 (m0:=m) (ok0:=ok) hm2 hok (v:=.own (U0 q none) none) ⟨l,fV _ _ _ _,hx⟩ run;rw[hd]at this;exact this
 |some t=>unfold gJ;refine nJ (fM λhb' =>?_);have hin:=ui H (q:=q) (some t) (λt' h=>by cases h;exact(CQ hb').1);obtain⟨R2,hm2⟩:=key (U0 q (some t)) (by rw[hd]) hin.1 l7;have:=yN (o:=o) H R2 (m0:=m) (ok0:=ok) hm2 hok (v:=.own (U0 q (some t)) none) ⟨l,fV _ _ _ _,hx⟩ run;rw[hd]at this;unfold gJ at this;simp only[hb',cond_true]at this;exact this
theorem b4i(H:FxOk X){q:Nat}(R:Rel X (CB*q) (CB*q+CB) S m ok a w){t:TypeId}{x:Operand}(ho:o.op= .load t x):(dI X.E q o).post S (λ_ S' =>kT X (CB*q) (CB*q+CB) o a w m ok S'):=by
 unfold dI;simp only[ho];refine aI R λp hp=>?_;have plain:(NL X.E t p λv=>gJ X.E o.dst v).post S (λ_ S' =>kT X (CB*q) (CB*q+CB) o a w m ok S'):=by refine Jw H R hp λv u ad hv hx hr=>aX H R hv ?_;simp[execOp,ho,hx,Instr.loadAt,Instr.sureAddr,hr]
 unfold b5h;split
 ·rename_i bx idx off;refine gK ?_;split
  ·rename_i md xs hS;cases hown:md.ownAt off
   ·simpa only[cond_false]using plain
   simp only[cond_true];refine tY H λi hi=>iG λhi1=>?_;simp only[C9,bZ]at hi1;obtain⟨hsz,hagg⟩:=hi1;have hsz:=jy hsz;have hp' :=hp;obtain⟨blk,o',len,cap,sz,hm,hlt,hx⟩:=hp;obtain⟨hel,l,Os,hm',⟨ha,hho⟩,hk⟩:=R.own_barrs hS;simp only at hm;rw[hm]at hm';cases hm';cases FO (match o.dst with|some d=>d|none=>bf) X.E.tk<;>simp only[cond_true,cond_false]
   ·refine Fa (T:=[]) (.sl md.ty) R Tk.nil (cs:=[.own bx none]) (vs:=[.slice (some ⟨blk,o',none⟩) len cap]) ⟨_,_,rfl,⟨_,hm,rfl⟩,rfl,rfl⟩ λS1 ok1 _ _ us us' R1 T1 k1 s1 e1 h1 l1=>?_;refine Jw H R1 (Nl k1 hp') λv u ad hv hx hr=>yN H R1 (λ_ _ h=>h) k1 hv ?_;simp[execOp,ho,hx,Instr.loadAt,Instr.sureAddr,hr]
   ·refine iF λe0 he0=>?_;obtain⟨rfl,rfl,h3,h7,c,T,hh,hs,hxs⟩:=ha;obtain⟨es,O,hO,he,hr⟩:=hxs idx e0 he0;refine OB md off hr λv l2 ks u O1 Op O2 eO hr' hu hv hB hvu=>?_;refine nJ ?_;have hOs:Os.flatten.Perm ((Os.set idx (O1++O2)).flatten++Op):=Eo (by rw[hO,eO]);have hown0:Y5 m bx (S (bf+bx))=blk::Os.flatten:=by simp[Y5,hS,hm,hk]
    have hown1:Y5 (Gv m bx (Os.set idx (O1++O2)).flatten) bx (.barrs md xs (some (idx,off,none)))=blk::(Os.set idx (O1++O2)).flatten:=by simp[Y5,hm]
    have hnd:=R.nd bx;rw[hown0]at hnd;have hperm:(blk::Os.flatten).Perm ((blk::(Os.set idx (O1++O2)).flatten)++Op):=by simpa using hOs.cons blk
    have hnd' :=N8.1 (hperm.nodup_iff.1 hnd);have hB1:Gi ⟨w.heap,ok,Gv m bx (Os.set idx (O1++O2)).flatten⟩ bx (.barrs md xs (some (idx,off,none))):=by
     refine Xy (Os:=Os.set idx (O1++O2)) hel hm ⟨rfl,rfl,h3,by simp[h7],c,T,hh,hs,λj z hz=>?_⟩ A7 trivial;by_cases hj:j=idx
     ·subst hj;rw[show xs[j]? =some e0 from he0]at hz;cases hz;refine⟨es,O1++O2,?_,he,by simp only[Zk];exact hr'⟩;rw[X3,if_pos rfl,if_pos (by rw[h7];exact hlt)]
     ·obtain⟨es2,O',hO2,he2,hr2⟩:=hxs j z hz;refine⟨es2,O',?_,he2,by simp only[Wn hj];exact hr2⟩;rw[X3,if_neg (λe=>hj e.symm)];exact hO2
    obtain⟨R1,T1⟩:=R.modK (T:=[]) Tk.nil (n:=bx) (v:=.barrs md xs (some (idx,off,none))) (ks:=(Os.set idx (O1++O2)).flatten) (w' :=w) (T' :=Op) A7 (by rw[hown1];exact hnd'.1)
     (λb hb=> .inl (by rw[hown0];rw[hown1]at hb;exact hperm.mem_iff.2 (aO _ hb))) rfl rfl rfl rfl (λ_ _=>rfl) hB1 hnd'.2.1
     (λb hb=>⟨.inl (by rw[hown0];exact hperm.mem_iff.2 (jD _ hb)),λh=>hnd'.2.2 b (by rw[hown1]at h;exact h) b hb rfl⟩)
    obtain⟨hB2,hB3,hB4⟩:=hB (Gv m bx (Os.set idx (O1++O2)).flatten) (U0 q o.dst);have hlt2:=(Y6.1 hu);have hle:off+1<=md.size:=by have:=gu hr;have:=hlt2.1;omega
    have e:=Dq he off i.size l7;have hr2:=xU hi w e;have h1:(es.drop off).take i.size=[u]:=by obtain⟨hlt3,rfl⟩:=hlt2;rw[hsz,gZ hlt3];rfl
    refine a7A (ok:=ok) (m:=m) H R1 T1 (λ_ _ h=>h) (λ_ _ h=>h) hvu hB3 hB2 hv (by rw[mO]) hm (by rw[←h1,←hsz];exact e) rfl ?_;rw[h1,hagg]at hr2;simp[execOp,ho,hx,Instr.loadAt,Instr.sureAddr,hr2,QL]
  ·rename_i md xs i2 o2 n2 hS;cases hown:md.ownAt off
   ·simpa only[cond_false]using plain
   simp only[cond_true];refine tY H λi hi=>iG λhi1=>⟨λhat=>?_,λ_=>trivial⟩;simp only[C9,bZ]at hi1;obtain⟨hsz,hagg⟩:=hi1;have hsz:=jy hsz;obtain⟨e1,e2⟩:=La hat
   subst e1;subst e2;obtain⟨blk,o',len,cap,sz,hm,hlt,hx⟩:=hp;obtain⟨hel,l,Os,hm',⟨ha,blk',off',len',cap',u,l',hl,hc,hmn,hvw⟩,hk⟩:=R.own_barrs hS;simp only at hm;rw[hm]at hm';cases hm';cases hl;have e:fD w.heap blk (o' +i2*md.size+o2) i.size=some [u]:=by rw[hsz];exact hc
   have hr2:=xU hi w e;rw[hagg]at hr2;refine aX H R (v:=.own n2 none) (x:=u) ⟨l',hmn,hvw⟩ ?_;simp[execOp,ho,hx,Instr.loadAt,Instr.sureAddr,hr2,QL]
  ·exact plain
 ·exact plain
theorem JQ{S' :Sm}{t:TypeId}{x y:Operand}{w' :World}{m' :Mp}{ok' :Nat->Ty->Prop}(ho:o.op= .store t x y)(hd:o.dst=none)(run:(Instr.storeAt t (a.eval x) (a.eval y)).run X.P w= .ok () w')
  (R:Rel X cl ch S' m' ok' a w') (hm:∀k l,m k=some l->m' k=some l) (hok:∀b t,ok b t->ok' b t):kT X cl ch o a w m ok S' :=by
 intro next Q hn
 unfold Oper.wp;have e:(execOp a.eval o).run X.P w= .ok .skip w' :=by simp[execOp,ho,run]
 rw[e,Oper.upon_skip,hd];exact hn m' ok' a w' R hm hok
theorem a5g{α:Type}{off:Nat}{u:α}{L:List α}(h:off<L.length):cZ off [u] L=L.set off u:=by
 apply dV;intro i;rw[uG U6,X3];by_cases h1:i=off
 ·subst h1;rw[if_neg l7,if_pos A7,if_pos rfl,if_pos h];simp
 ·by_cases h2:i<off
  ·rw[if_pos h2,if_neg l7]
  ·rw[if_neg h2,if_neg U6,if_neg l7]
theorem a6X{u:Value}(h:u.oneCell' =true):u.cells.toList=[u]:=by cases u<;>simp[Value.oneCell',Value.cells]at*
theorem XE{w:World}{blk o' sz len cap off idx:Nat}{c:Array Value}{T:TypeId}(hh:w.heap[blk]? =some (.cells c T (0,0)))(hs:o' +cap*sz<=c.size)(hlc:len<=cap)(hlt:idx<len){us es:List Value}
  (he:fD w.heap blk (o' +idx*sz) sz=some es) (hf:off+us.length<=sz):
  o' +idx*sz+off+us.length<=c.size/\(cZ (o' +idx*sz+off) us c.toList).length=c.size/\
  fD (w.setRow blk (cZ (o' +idx*sz+off) us c.toList).toArray).heap blk (o' +idx*sz) sz=some (cZ off us es)/\
  (∀j,j<len->j≠idx->fD (w.setRow blk (cZ (o' +idx*sz+off) us c.toList).toArray).heap blk (o' +j*sz) sz=fD w.heap blk (o' +j*sz) sz):=by
 have hcap:(idx+1)*sz<=cap*sz:=I8 _ l7;rw[L6,bC]at hcap;have hfit:o' +idx*sz+off+us.length<=c.size:=l7;have hcl:c.toList.length=c.size:=A7;have hsp:(cZ (o' +idx*sz+off) us c.toList).length=c.size:=by rw[zh (by rw[hcl];exact hfit)];exact hcl
 refine⟨hfit,hsp,?_,λj hj hne=>?_⟩
 ·rw[LY hh _ _ _ (by rw[hsp];omega),SY (by rw[hcl];omega) l7];obtain⟨c2,T2,f2,hb2,hn2,rfl⟩:=xk he;rw[hh]at hb2;cases hb2;rfl
 ·have hcap' :(j+1)*sz<=cap*sz:=I8 _ l7;rw[L6,bC]at hcap';rw[LY hh _ _ _ (by rw[hsp];omega),nP hh _ _ l7,a5h (by rw[hcl];exact hfit)];rcases Nat.lt_or_gt_of_ne hne with hlt'|hgt
  ·left;have:(j+1)*sz<=idx*sz:=I8 _ l7;rw[L6,bC]at this;omega
  ·right;have:(idx+1)*sz<=j*sz:=I8 _ l7;rw[L6,bC]at this;omega
theorem Ut{Q:Unit->Sm->Prop}(R:Rel X cl ch S m ok a w){Op:List Nat}(hT:Tk X S m ok w Op){t:TypeId}{i:TI}(hi:TiOk X.P t i)(h1:i.size=1){bx idx off:Nat}{md:M}{xs:List md.den}{hole:Option (Nat×Nat×Option Nat)}
  (hS:S (bf+bx)= .barrs md xs hole) {blk o' len cap sz:Nat} (hm:m bx=some (.arr blk o' len cap sz)) {v:V} {u:Value} (hp:l_ w.heap ok v u Op)
  (hK:∀S' m' w',Rel X cl ch S' m' ok a w' ->(∀k l,m k=some l->m' k=some l)->(storeVar t ⟨blk,o' +idx*sz+off,none⟩ u).run X.P w= .ok () w' ->Q () S'):
  (a0F bx idx off md xs hole v (.ret ())).post S Q:=by
 unfold a0F;refine⟨λhb=>?_,λ_=>trivial⟩;refine iF λe0 he0=>?_;have he0' :xs[idx]? =some e0:=he0;obtain⟨hel,l,Os,hm',⟨ha,hho⟩,hk⟩:=R.own_barrs hS;rw[hm]at hm';cases hm';obtain⟨rfl,rfl,h3,h7,c,T,hh,hs,hxs⟩:=ha;obtain⟨es,O,hO,he,hr⟩:=hxs idx e0 he0';have hho:Yi hole idx=none\/Yi hole idx=some off:=by
  rcases hole with _|⟨j,o2,o3⟩
  ·exact .inl rfl
  ·obtain⟨e1,e2⟩:=La hb;subst e1;subst e2;exact .inr Zk
 have hho' :∀j,j≠idx->Yi hole j=none:=λj hj=>by
  rcases hole with _|⟨j',o2,o3⟩
  ·rfl
  ·obtain⟨e1,_⟩:=La hb;subst e1;exact Wn hj
 refine RI hp md off hr hho hel λy O1 Old O2 eO hr' hoff=>nJ ?_;have hlt:idx<xs.length:=(Y6.1 he0').1;have hes:es.length=md.size:=gu hr;have hu1:=hp.one;have huc:=a6X hu1;obtain⟨hfit,hsp,hnew,hold⟩:=XE (us:=[u]) (off:=off) hh hs h3 hlt he U6;have run:=EI hi w (off:=o' +idx*md.size+off) hh (v:=u) (by have:=congrArg List.length huc;simp at this;omega) (by simpa[h1]using hfit) (by rw[huc];simp[hu1]);rw[huc]at run;generalize hw' :w.setRow blk (cZ (o' +idx*md.size+off) [u] c.toList).toArray=w' at run hnew hold;have hrow:w'.heap[blk]? =some (.cells (cZ (o' +idx*md.size+off) [u] c.toList).toArray T (0,0)):=by subst hw';exact setRow_heap w blk c _ T (0,0) hh
 have hoth:∀b,b≠blk->w'.heap[b]? =w.heap[b]?:=λb hb=>by subst hw';exact setRow_other w blk b _ hb
 have hsize:w'.heap.size=w.heap.size:=by subst hw';simp
 have hos:w'.os=w.os:=by subst hw';rfl
 have htp:w'.tape=w.tape:=by subst hw';rfl
 have hout:w'.output=w.output:=by subst hw';rfl
 have hO1:Os.flatten.Perm ((Os.set idx (O1++O2)).flatten++Old):=Eo (by rw[hO,eO]);have hO2:(Os.set idx (O1++Op++O2)).flatten.Perm ((Os.set idx (O1++O2)).flatten++Op):=by have:=Eo (Os:=Os.set idx (O1++Op++O2)) (i:=idx) (O1:=O1) (P:=Op) (O2:=O2) (by rw[X3,if_pos rfl,if_pos (by rw[h7];exact hlt)]);rwa[List.set_set]at this
 have hown0:Y5 m bx (S (bf+bx))=blk::Os.flatten:=by simp[Y5,hS,hm,hk]
 have hown1:Y5 (Gv m bx (Os.set idx (O1++Op++O2)).flatten) bx (.barrs md (cO xs idx y) none)=blk::(Os.set idx (O1++Op++O2)).flatten:=by simp[Y5,hm]
 have hnd:=R.nd bx;rw[hown0]at hnd;have hnd0:=gp.1 hnd;have hndA:=N8.1 (hO1.nodup_iff.1 hnd0.2);have hfreeOp:∀b∈Op,b∉blk::Os.flatten:=λb hb h=>(hT.free b hb).2.2.2 bx (by rw[hown0];exact h);have hsubA:∀b∈(Os.set idx (O1++O2)).flatten,b∈Os.flatten:=λb hb=>hO1.mem_iff.2 (aO _ hb);have hneO:∀b∈Os.flatten,b≠blk:=λb hb e=>hnd0.1 (e▸hb);have hneP:∀b∈Op,b≠blk:=λb hb e=>hfreeOp b hb (by simp[e]);have hkeep:∀b t,ok b t->w'.heap[b]? =w.heap[b]?:=λb t hb=>hoth b (λe=>(R.sep bx blk (by rw[hown0];simp)).1 t (e▸hb));have hB:Gi ⟨w'.heap,ok,Gv m bx (Os.set idx (O1++Op++O2)).flatten⟩ bx (.barrs md (cO xs idx y) none):=by
  refine Xy (Os:=Os.set idx (O1++Op++O2)) hel hm ⟨rfl,by simp[cO],h3,by simp[h7,cO],_,T,hrow,by simp[hsp];exact hs,λj z hz=>?_⟩ A7 trivial;unfold cO at hz;rw[X3]at hz;split at hz
  ·rename_i hj;subst hj;cases hz;refine⟨_,O1++Op++O2,by rw[X3,if_pos rfl,if_pos (by rw[h7];exact hlt)],hnew,?_⟩;rw[a5g l7];refine kS (λ_ _ h=>h) hkeep (λb hb=>hoth b ?_) hr';rcases D8.1 hb with hb|hb
   ·rcases D8.1 hb with hb|hb
    ·exact hneO b (dP.2 ⟨O,rV hO,by rw[eO];simp[hb]⟩)
    ·exact hneP b hb
   ·exact hneO b (dP.2 ⟨O,rV hO,by rw[eO];simp[hb]⟩)
  ·rename_i hj;obtain⟨es2,O',hO2',he2,hr2⟩:=hxs j z hz;refine⟨es2,O',by rw[X3,if_neg hj];exact hO2',by rw[←he2];exact hold j (Y6.1 hz).1 (λe=>hj e.symm),?_⟩;simp only[a7n];rw[hho' j (λe=>hj e.symm)]at hr2;exact kS (λ_ _ h=>h) hkeep (λb hb=>hoth b (hneO b (dP.2 ⟨O',rV hO2',hb⟩))) hr2
 have hmod:=R.modK hT (n:=bx) (v:=.barrs md (cO xs idx y) none) (ks:=(Os.set idx (O1++Op++O2)).flatten) (w' :=w') (T' :=[]) A7
  (by
   rw[hown1];refine gp.2 ⟨λh=>?_,hO2.nodup_iff.2 (N8.2 ⟨hndA.1,hT.nodup,λx hx z hz e=>?_⟩)⟩
   ·rcases D8.1 (hO2.mem_iff.1 h)with h|h
    ·exact hnd0.1 (hsubA _ h)
    ·exact hneP _ h rfl
   ·subst e;exact hfreeOp x hz (by simp[hsubA x hx]))
  (λb hb=>by
   rw[hown1]at hb;rw[hown0];rcases A8.1 hb with hb|hb
   ·exact .inl (by simp[hb])
   ·rcases D8.1 (hO2.mem_iff.1 hb)with h|h
    ·exact .inl (by simp[hsubA _ h])
    ·exact .inr h)
  hos htp hout hsize (λb hb=>hoth b (λe=>hb (by rw[hown0,e];simp))) hB fK (λb hb=>by cases hb)
 exact hK _ _ w' hmod.1 (λ_ _ h=>h) run
theorem b0v(H:FxOk X)(R:Rel X cl ch S m ok a w){t:TypeId}{x y:Operand}{q:Nat}(ho:o.op= .store t x y):(dI X.E q o).post S (λ_ S' =>kT X cl ch o a w m ok S'):=by
 unfold dI;simp only[ho];cases hd:o.dst with
 |some d=>trivial|none=>
 refine aI R λp hp=>aI R λv hv=>?_;unfold b2Z;refine tY H λi hi=>?_;cases p<;>try trivial
 case ptr bx off=>
  obtain⟨blk,hm,hx⟩:=hp;refine gK ?_;split<;>try trivial
  rename_i cs hS;obtain⟨blk',arr,T,hm',hh,hl⟩:=R.own_cells hS;simp only at hm hm';rw[hm]at hm';cases hm';refine xm hv λvs hvs=>iG λhlen=>EW _ _ _ λhle=>nJ ?_;have hlen' :=jy hlen;have hL:=oZ hl;have hL2:=oZ hvs;have hsz:(a.eval y).cells.size=i.size:=by simp at hL2;omega
  have hown:Y5 m bx (S (bf+bx))=[blk]:=by simp[Y5,hS,hm]
  have hfit:off+i.size<=arr.size:=by simp at hL;omega
  have run:=EI hi w hh (v:=a.eval y) hsz hfit (Qv hvs);refine JQ ho hd (w' :=w.setRow blk (cZ off (a.eval y).cells.toList arr.toList).toArray) (by simp[Instr.storeAt,Instr.sureAddr,hx,run]) ?_ (λ_ _ h=>h) (λ_ _ h=>h);refine R.mod (by rw[hown];simp[Y5,hm]) A7 rfl rfl rfl A7 (λb hb=>setRow_other w blk b _ (by rw[hown]at hb;simpa using hb)) ?_;refine⟨blk,_,T,hm,setRow_heap w blk arr _ T (0,0) hh,?_⟩;refine b6H (λb t hb=>setRow_other w blk b _ (λe=>(R.sep bx blk (by rw[hown];simp)).1 t (e▸hb))) ?_;simpa using Hr hvs hl
 case ep bx ix off=>
  obtain⟨blk,o',len,cap,sz,hm,hlt,hx⟩:=hp;simp only at hm;refine gK ?_;split<;>try trivial
  ·rename_i u xs hS;obtain⟨l,hm',ha⟩:=R.own_arr hS;rw[hm]at hm';cases hm';obtain⟨hE0,rfl,rfl,h3,c,T,hh,hs,hxs⟩:=ha;refine iF λe0 he0=>?_;obtain⟨es,he,hr⟩:=hxs ix e0 he0;refine xm hv λvs hvs=>iG λhlen=>EW _ _ _ λhle=>?_;rw[qH]at hle;have hlen' :=jy hlen;have hL2:=oZ hvs;have hsz:(a.eval y).cells.size=i.size:=by simp at hL2;omega
   have hes:=qN he;have hnew:=Hr (off:=off) hvs (sO (C:=⟨w.heap,ok,m⟩) hr);refine Fa (T:=[]) u R Tk.nil hnew λS1 ok1 y1 q1 us us' R1 T1 k1 s1 e1 h1 l1=>?_;cases q1 with
   |cons _ _=>trivial|nil=>
   simp only[iP]at l1;subst l1;simp only[H9]at e1;subst e1;refine gK ?_;split<;>try trivial
   rename_i u' xs' hS1;refine iJ λe=>?_;subst e;refine nJ ?_;obtain⟨l,hm',ha⟩:=R1.own_arr hS1;rw[hm]at hm';cases hm';obtain⟨_,hszu,hlen2,h3',c',T',hh',hs',hxs'⟩:=ha;rw[hh]at hh';cases hh';have hown:Y5 m bx (S1 (bf+bx))=[blk]:=by simp[Y5,hS1,hm]
   have hvl:(a.eval y).cells.toList.length=i.size:=by simpa using hsz
   obtain⟨hfit,hsp,hnew2,hold⟩:=XE (us:=(a.eval y).cells.toList) (off:=off) hh hs h3 hlt he (by rw[hvl];omega);have run:=EI hi w (off:=o' +ix*u'.size+off) hh (v:=a.eval y) hsz (by rw[hvl]at hfit;exact hfit) (Qv hvs);refine JQ ho hd (w' :=w.setRow blk (cZ (o' +ix*u'.size+off) (a.eval y).cells.toList c.toList).toArray) (by simp[Instr.storeAt,Instr.sureAddr,hx,run]) ?_ (λ_ _ h=>h) k1;refine R1.mod (by rw[hown];simp[Y5,hm]) A7 rfl rfl rfl A7 (λb hb=>setRow_other w blk b _ (by rw[hown]at hb;simpa using hb)) ?_;have hkeep:∀b t,ok1 b t->(w.setRow blk (cZ (o' +ix*u'.size+off) (a.eval y).cells.toList c.toList).toArray).heap[b]? =w.heap[b]?:=
    λb t hb=>setRow_other w blk b _ (λe=>(R1.sep bx blk (by rw[hown];simp)).1 t (e▸hb))
   refine⟨_,hm,hE0,rfl,by simp[cO,hlen2],h3,_,T,setRow_heap w blk c _ T (0,0) hh,by simp[hsp];exact hs,λj z hz=>?_⟩;unfold cO at hz;rw[X3]at hz;split at hz
   ·rename_i hj;subst hj;split at hz
    ·cases hz;exact⟨_,hnew2,fB (λ_ _ h=>h) hkeep h1⟩
    ·cases hz
   ·rename_i hj;obtain⟨es2,he2,hr2⟩:=hxs' j z hz;have hj2:=(Y6.1 hz).1;exact⟨_,(hold j (by rw[hlen2];exact hj2) (λe=>hj e.symm)).trans he2,fB (λ_ _ h=>h) hkeep hr2⟩
  ·rename_i md xs hole hS;cases hcd:(md.ownAt off&&Nat.beq i.size 1&&!bM i.td)
   ·simp only[cond_false];cases hole with
    |some _=>trivial|none=>
    refine xm hv λvs hvs=>iG λhlen=>iF λe0 he0=>?_;have he0' :xs[ix]? =some e0:=he0;obtain⟨hel,l,Os,hm',⟨ha,hho⟩,hk⟩:=R.own_barrs hS;rw[hm]at hm';cases hm';obtain⟨rfl,rfl,h3,h7,c,T,hh,hs,hxs⟩:=ha;obtain⟨es,O,hO,he,hr⟩:=hxs ix e0 he0';refine Ri md off hr hvs λy1 hle hr' =>nJ ?_;have hes:es.length=md.size:=gu hr;have hlen' :=jy hlen;have hL2:=oZ hvs;have hsz:(a.eval y).cells.size=i.size:=by simp at hL2;omega
    have hvl:(a.eval y).cells.toList.length=i.size:=by simpa using hsz
    obtain⟨hfit,hsp,hnew2,hold⟩:=XE (us:=(a.eval y).cells.toList) (off:=off) hh hs h3 hlt he l7;have run:=EI hi w (off:=o' +ix*md.size+off) hh (v:=a.eval y) hsz (by rw[hvl]at hfit;exact hfit) (Qv hvs);have hown:Y5 m bx (S (bf+bx))=blk::Os.flatten:=by simp[Y5,hS,hm,hk]
    have hnd:=R.nd bx;rw[hown]at hnd;have hnd0:=gp.1 hnd;have hneO:∀b∈Os.flatten,b≠blk:=λb hb e=>hnd0.1 (e▸hb);refine JQ ho hd (w' :=w.setRow blk (cZ (o' +ix*md.size+off) (a.eval y).cells.toList c.toList).toArray) (by simp[Instr.storeAt,Instr.sureAddr,hx,run]) ?_ (λ_ _ h=>h) (λ_ _ h=>h);have hkeep:∀b t,ok b t->(w.setRow blk (cZ (o' +ix*md.size+off) (a.eval y).cells.toList c.toList).toArray).heap[b]? =w.heap[b]?:=
     λb t hb=>setRow_other w blk b _ (λe=>(R.sep bx blk (by rw[hown];simp)).1 t (e▸hb))
    refine R.mod (by rw[hown];simp[Y5,hm,hk]) A7 rfl rfl rfl A7 (λb hb=>setRow_other w blk b _ (λe=>hb (by rw[hown,e];simp))) ?_;refine Xy (Os:=Os) hel hm ⟨rfl,by simp[cO],h3,by simp[h7,cO],_,T,setRow_heap w blk c _ T (0,0) hh,by simp[hsp];exact hs,λj z hz=>?_⟩ hk trivial;unfold cO at hz;rw[X3]at hz;split at hz
    ·rename_i hj;subst hj;cases hz;exact⟨_,O,hO,hnew2,kS (λ_ _ h=>h) hkeep (λb hb=>setRow_other w blk b _ (hneO b (dP.2 ⟨O,rV hO,hb⟩))) hr'⟩
    ·rename_i hj;obtain⟨es2,O2,hO2,he2,hr2⟩:=hxs j z hz;have hj2:=(Y6.1 hz).1;exact⟨_,O2,hO2,(hold j l7 (λe=>hj e.symm)).trans he2,kS (λ_ _ h=>h) hkeep (λb hb=>setRow_other w blk b _ (hneO b (dP.2 ⟨O2,rV hO2,hb⟩))) hr2⟩
   ·simp only[cond_true];simp only[C9,bZ]at hcd;obtain⟨⟨_,hsz1⟩,_⟩:=hcd;have hsz1:=jy hsz1;have fin:∀{S' :Sm} {m' :Mp} {w' :World},Rel X cl ch S' m' ok a w' ->(∀k l,m k=some l->m' k=some l)->(storeVar t ⟨blk,o' +ix*sz+off,none⟩ (a.eval y)).run X.P w= .ok () w' ->kT X cl ch o a w m ok S' :=
     λR' hm' run=>JQ ho hd (by simp[Instr.storeAt,Instr.sureAddr,hx,run]) R' hm' (λ_ _ h=>h)
    split
    ·have hv' :a.eval y= .slice none 0 0:=hv;exact Ut (Op:=[]) R Tk.nil hi hsz1 hS hm (.inl ⟨rfl,hv',rfl⟩) (λS' m' w' R' h' run=>fin R' h' run)
    ·rename_i b2;obtain⟨l2,hm2,hv2⟩:=hv;simp only at hm2;refine gK ?_;refine iG λharr=>nJ (gK ?_);split<;>try trivial
     rename_i md2 xs2 hole2 hS2;have T1:=Tk.kill R (T:=[]) Tk.nil b2 (bs:=Y5 m b2 (S (bf+b2))) (λ_ h=>h) (R.nd b2);rw[H6]at T1;refine Ut (R.kill b2) T1 hi hsz1 hS2 hm ?_ (λS' m' w' R' h' run=>fin R' h' run);cases hb2:S (bf+b2)<;>rw[hb2]at harr<;>try cases harr
     ·rename_i t2 ys;obtain⟨l',hm',ha'⟩:=R.own_arr hb2;rw[hm2]at hm';cases hm';refine .inr (.inl ⟨t2,ys,l2,rfl,hv2,OW ha',?_⟩);cases l2<;>first|(simp[Y5,hm2,Loc.blks];done)|cases ha'
     ·rename_i md3 ys hole3;obtain⟨hel3,l',Os,hm',⟨ha',hho⟩,hk'⟩:=R.own_barrs hb2;rw[hm2]at hm';cases hm';rcases hole3 with _|⟨p1,p2,p3⟩
      ·refine .inr (.inr ⟨md3,ys,l2,Os,rfl,hel3,hv2,ha',?_⟩);cases l2<;>first|(simp[Y5,hm2,Loc.blks,hk'];done)|cases ha'
      ·cases harr
    ·trivial
end
end Go.GP
namespace Go.GP
section
variable {X:Fx} {cl ch:Nat} {S:Sm} {m:Mp} {ok:Nat->Ty->Prop} {a:Act} {w:World} {o:Oper}
theorem Ic(H:FxOk X){t f off n:Nat}{ag:Bool}(h:KY X.E t f=some (off,n,ag)):
  ∃fields fld j,X.P.underlying t=some (.struct fields)/\fields[f]? =some fld/\fld.offset=off/\TiOk X.P fld.type j/\j.size=n/\n≠0/\ag=bM j.td:=by
 unfold KY at h;cases hi:fH X.E.tt t with
 |none=>simp[hi]at h|some i=>
  have Hi:=H.tt t i hi;have htd:=Hi.td;simp only[hi]at h;cases hd:i.td<;>simp only[hd]at h<;>try (simp at h;done)
  rename_i fs;rw[hd]at htd;obtain⟨fields,hu,hf⟩:=htd;cases hfs:fs[f]? with
  |none=>simp[hfs]at h|some x=>
   obtain⟨ft,off'⟩:=x;simp only[hfs]at h;cases hj:fH X.E.tt ft with
   |none=>simp[hj]at h|some j=>
    simp only[hj]at h;cases hb:Nat.beq j.size 0
    ·simp only[hb,cond_false,G8,lw]at h;obtain⟨rfl,rfl,rfl⟩:=h;rw[←hf]at hfs;simp only[fZ,Option.map_eq_some_iff]at hfs;obtain⟨fld,hfl,he⟩:=hfs;simp only[lw]at he;obtain⟨rfl,rfl⟩:=he;refine⟨fields,fld,j,hu,by simpa using hfl,rfl,H.tt _ _ hj,rfl,λe=>?_,rfl⟩;rw[e]at hb;simp at hb
    ·simp[hb]at h
theorem LV{P:Program}{t f off:Nat}{fields:Array Field}{fld:Field}{j:TI}(w:World)(hu:P.underlying t=some (.struct fields))(hf:fields[f]? =some fld)(ho:fld.offset=off)
  (hj:TiOk P fld.type j) (hn:j.size≠0) (b p:Nat):(Instr.fieldAt t (.pointer (some ⟨b,p,none⟩)) f).run P w= .ok (.pointer (some ⟨b,p+off,none⟩)) w:=by
 simp[Instr.fieldAt,run_underlying hu,hf,Instr.sureAddr,fieldPlace,ww hj,hn,kD,ho]
theorem R_(H:FxOk X)(R:Rel X cl ch S m ok a w){t:TypeId}{x:Operand}{f q:Nat}(ho:o.op= .fieldAddr t x f):(dI X.E q o).post S (λ_ S' =>kT X cl ch o a w m ok S'):=by
 unfold dI;simp only[ho];refine aI R λp hp=>?_;split<;>try trivial
 rename_i off n ag hfo;obtain⟨fields,fld,j,hu,hf,hoff,hj,hn,hn0,_⟩:=Ic H hfo;have hj0:j.size≠0:=l7;cases p<;>try trivial
 case ptr bx o' =>obtain⟨blk,h1,h2⟩:=hp;exact aX H R (v:=.ptr bx (o' +off)) ⟨blk,h1,rfl⟩ (by simp[execOp,ho,h2,LV w hu hf hoff hj hj0])
 case ep bx ix o' =>obtain⟨blk,o2,len,cap,sz,h1,h2,h3⟩:=hp;exact aX H R (v:=.ep bx ix (o' +off)) ⟨blk,o2,len,cap,sz,h1,h2,rfl⟩ (by simp[execOp,ho,h3,LV w hu hf hoff hj hj0,iL])
 case dp u y o' =>obtain⟨blk,o2,es,h1,h2⟩:=hp;exact aX H R (v:=.dp u y (o' +off)) ⟨blk,o2,es,rfl,h2⟩ (by simp[execOp,ho,h1,LV w hu hf hoff hj hj0,iL])
theorem b0s(H:FxOk X)(R:Rel X cl ch S m ok a w){t:TypeId}{x:Operand}{f q:Nat}(ho:o.op= .field t x f):(dI X.E q o).post S (λ_ S' =>kT X cl ch o a w m ok S'):=by
 unfold dI;simp only[ho];refine aI R λp hp=>?_;split<;>try trivial
 rename_i off n ag hfo;obtain⟨fields,fld,j,hu,hf,hoff,hj,hn,hn0,rfl⟩:=Ic H hfo;refine Gy hp λps us hg hl=>EZ λhle=>?_;obtain⟨arr,hx,rfl⟩:=hg;have hL:=oZ hl;have hlen:((arr.toList.drop off).take n).length=n:=by simp at hL ⊢;omega
 refine aX H R (CV (AA n (yG off hl)) (λha=>by rw[hlen,←hn];exact hj.one ha)) ?_;have hpart:(part fld.type arr off).run X.P w= .ok (QL (bM j.td) ((arr.toList.drop off).take n)) w:=by
  unfold part;rw[G5,EY hj.td];simp only[I7];cases ha:bM j.td
  ·have h1:=hj.one ha;have hlt:off<arr.size:=by simp at hL;omega
   simp only[bJ,if_false,QL];rw[show arr[off]? =some arr[off]from by simp[hlt]];have:n=1:=l7;subst this;simp[List.take_one,hlt]
  ·simp only[if_true,QL,G5,ww hj,I7,hn,Y8];congr 2;apply lh;simp[nV]
 simp[execOp,ho,hx,Instr.field,run_underlying hu,hf,asAgg,hoff,hpart]
theorem Jl(H:FxOk X){t n sz:Nat}(h:Jk X.E t=some (false,n,sz)):∃e j,X.P.underlying t=some (.slice e)/\TiOk X.P e j/\j.size=sz:=by
 unfold Jk at h;cases hi:fH X.E.tt t with
 |none=>simp[hi]at h|some i=>
  have htd:=(H.tt t i hi).td;simp only[hi]at h;cases hd:i.td<;>simp only[hd]at h<;>try (simp at h;done)
  ·rename_i e;rw[hd]at htd;cases hj:fH X.E.tt e with
   |none=>simp[hj]at h|some j=>simp[hj]at h;exact⟨e,j,htd,H.tt _ _ hj,h.2⟩
  ·rename_i l e;cases hj:fH X.E.tt e<;>simp[hj]at h
theorem a3P(H:FxOk X){t n sz:Nat}(h:Jk X.E t=some (true,n,sz)):∃e j,X.P.underlying t=some (.array n e)/\TiOk X.P e j/\j.size=sz:=by
 unfold Jk at h;cases hi:fH X.E.tt t with
 |none=>simp[hi]at h|some i=>
  have htd:=(H.tt t i hi).td;simp only[hi]at h;cases hd:i.td<;>simp only[hd]at h<;>try (simp at h;done)
  ·rename_i e;cases hj:fH X.E.tt e<;>simp[hj]at h
  ·rename_i l e;rw[hd]at htd;cases hj:fH X.E.tt e with
   |none=>simp[hj]at h|some j=>simp[hj]at h;obtain⟨rfl,h⟩:=h;exact⟨e,j,htd,H.tt _ _ hj,h⟩
theorem Lh{α:Type}{l:List α}{n:Int}{y:α}(h:G9 l n=some y):0<=n/\l[n.toNat]? =some y/\n.toNat<l.length/\n<l.length:=by
 unfold G9 at h;split at h
 ·rename_i h0;have:=(Y6.1 h).1;exact⟨h0,h,this,l7⟩
 ·cases h
theorem xR{P:Program}{t e:TypeId}{j:TI}(w:World)(hu:P.underlying t=some (.slice e))(hj:TiOk P e j){k:IntKind}{n:Int}{b p len cap:Nat}(h0:0<=n)(hlt:n<len):
  (Instr.indexAt t (.slice (some ⟨b,p,none⟩) len cap) (.int k n)).run P w= .ok (.pointer (some ⟨b,p+n.toNat*j.size,none⟩)) w:=by
 simp[Instr.indexAt,asIntOf,run_underlying hu,h0,hlt,ww hj,kD]
theorem a0t{P:Program}{t e:TypeId}{j:TI}(w:World){len:Nat}(hu:P.underlying t=some (.array len e))(hj:TiOk P e j){k:IntKind}{n:Int}{b p:Nat}(h0:0<=n)(hlt:n<len):
  (Instr.indexAt t (.pointer (some ⟨b,p,none⟩)) (.int k n)).run P w= .ok (.pointer (some ⟨b,p+n.toNat*j.size,none⟩)) w:=by
 simp[Instr.indexAt,asIntOf,run_underlying hu,h0,hlt,ww hj,kD,Instr.sureAddr]
theorem Jt{P:Program}{w:World}{r:Nat}{es:Array MapEntry}{ck:Nat}(hb:w.heap[r]? =some (.map es ck)):(getObj r).run P w= .ok (.map es ck) w:=by simp[getObj,Sem.run,hb]
theorem Mc{sz:Nat}{u:Ty}(h:szB sz u=true):u.isEnt=false/\sz=u.size:=by
 unfold szB at h;cases hu:u.isEnt<;>rw[hu]at h
 ·exact⟨rfl,jy h⟩
 ·cases h
theorem a8x{C:Cx}{t:Ty}{xs:List t.den}{l:Loc}{vw:Option (Nat×Nat)}{v:Value}(h0:t.isEnt=false)(ha:arrOk C t xs l)(hv:l.view vw v){i:Nat}{y:t.den}(hy:(jH vw xs)[i]? =some y):
  ∃blk off len cap,l= .arr blk off len cap t.size/\xs[a1T vw+i]? =some y/\∃p c,v= .slice (some ⟨blk,p,none⟩) (jH vw xs).length c/\p+i*t.size=off+(a1T vw+i)*t.size:=by
 cases l with
 |nil=>obtain⟨ha,_⟩:=ha;subst ha;rcases vw with _|⟨lo,hi⟩<;>simp[jH,oP]at hy
 |st b=>cases ha|mp b=>exact absurd ha.1 (by simp[h0])|arr blk off len cap sz=>
  obtain⟨_,rfl,rfl,hc,_⟩:=ha;rcases vw with _|⟨lo,hi⟩
  ·simp only[Loc.view]at hv;subst hv;exact⟨blk,off,_,cap,rfl,by simpa[a1T,jH]using hy,off,cap,rfl,by simp[a1T]⟩
  ·obtain⟨h1,h2,rfl⟩:=hv;have hl:(jH (some (lo,hi)) xs).length=hi -lo:=by simp[jH,oP];omega
   have hi' :i<hi -lo:=by rw[←hl];exact(Y6.1 hy).1
   have hx' :xs[lo+i]? =some y:=by
    simp only[jH,oP,U8,Z4]at hy;split at hy
    ·exact hy
    ·cases hy
   have hne:cap≠lo:=l7;exact⟨blk,off,_,cap,rfl,hx',off+lo*t.size,cap -lo,by rw[hl];simp[hne],by simp[a1T,L6];omega⟩
theorem S_(H:FxOk X)(R:Rel X cl ch S m ok a w){t:TypeId}{x ix:Operand}{q:Nat}(ho:o.op= .indexAddr t x ix):(dI X.E q o).post S (λ_ S' =>kT X cl ch o a w m ok S'):=by
 unfold dI;simp only[ho];refine aI R λu hu=>aI R λv hv=>?_;unfold Ws;split<;>try trivial
 ·
  rename_i k n l sz hsz;obtain⟨e,j,hut,hj,hjs⟩:=Jl H hsz;have hix:=vM hv;cases u<;>try trivial
  case sl u xs=>refine fM λhb=>iF λy hy=>?_;obtain⟨hE0,hb'⟩:=Mc hb;obtain⟨h0,hget,hlt,hlt'⟩:=Lh hy;obtain⟨ad,cap,hx,hc,hel⟩:=(Ea hE0).1 hu;simp only[H5,and_true]at hx;obtain⟨blk,off,es,rfl,hok,he,hr⟩:=hel _ y hget;refine aX H R (v:=.dp u y 0) (x:=.pointer (some ⟨blk,off+n.toNat*u.size,none⟩)) ⟨blk,off+n.toNat*u.size,es,rfl,hok,he,hr⟩ ?_;simp[execOp,ho,hx,hix,xR w hut hj h0 hlt',hjs,hb']
  case own bx vw=>
   obtain⟨loc,hm,hview⟩:=hu;refine gK ?_;split
   ·rename_i ln sz' hSl;split<;>try trivial
    refine iG λhb=>⟨λhin=>?_,λ_=>trivial⟩;have hb' :=jy hb;have hin' :=of_decide_eq_true (show decide (0<=n/\n<ln)=true from hin);have hbx:=R.box (QT+bx);rw[hSl]at hbx;obtain⟨k',l',e,hm',hl⟩:=hbx;have e' :k' =bx:=l7;subst e';simp only at hm hm';rw[hm]at hm';cases hm';cases loc with
    |nil=>simp only at hl;omega|st b=>cases hl|mp b=>cases hl|arr blk off len cap sz2=>obtain⟨rfl,rfl⟩:=hl;simp only[Loc.view]at hview;refine aX H R (v:=.ep k' (X8 n) 0) (x:=.pointer (some ⟨blk,off+n.toNat*sz',none⟩)) ⟨blk,off,len,cap,sz',hm,by unfold X8;omega,rfl⟩ ?_;simp[execOp,ho,hview,hix,xR w hut hj hin'.1 hin'.2,hjs,hb']
   refine gK ?_;split<;>try trivial
   ·rename_i u xs hS;refine fM λhb=>iF λy hy=>?_;obtain⟨hE0,hb'⟩:=Mc hb;obtain⟨h0,hget,hlt,hlt'⟩:=Lh hy;obtain⟨loc',hm',ha⟩:=R.own_arr hS;simp only at hm;rw[hm]at hm';cases hm';obtain⟨blk,off,len,cap,rfl,hx2,p,c,hvv,hp⟩:=a8x hE0 ha hview hget;have hlen:=ha.2.2.1;have hlt2:=(Y6.1 hx2).1;rw[b3X];refine aX H R (v:=.ep bx (a1T vw+X8 n) 0) (x:=.pointer (some ⟨blk,p+n.toNat*u.size,none⟩)) ⟨blk,off,len,cap,u.size,hm,by rw[hlen];exact hlt2,by rw[hp];rfl⟩ ?_;simp[execOp,ho,hvv,hix,xR w hut hj h0 hlt',hjs,hb']
   ·rename_i u xs hS;refine fM λhb=>iF λy hy=>?_;obtain⟨hE0,hb'⟩:=Mc hb;obtain⟨h0,hget,hlt,hlt'⟩:=Lh hy;obtain⟨loc',hm',ha,hok⟩:=R.own_frz hS;simp only at hm;rw[hm]at hm';cases hm';obtain⟨ad,cap,hx,hc,hel⟩:=(Ea hE0).1 (rf (C:=⟨w.heap,ok,m⟩) ha hview (λ_ _ h=>h) hok);simp only[H5,and_true]at hx;obtain⟨blk,off,es,rfl,hok',he,hr⟩:=hel _ y hget;refine aX H R (v:=.dp u y 0) (x:=.pointer (some ⟨blk,off+n.toNat*u.size,none⟩)) ⟨blk,off+n.toNat*u.size,es,rfl,hok',he,hr⟩ ?_;simp[execOp,ho,hx,hix,xR w hut hj h0 hlt',hjs,hb']
   ·rename_i md xs hole hS;split<;>try trivial
    refine iG λhb=>iF λy hy=>?_;have hb' :=jy hb;obtain⟨h0,hget,hlt,hlt'⟩:=Lh hy;obtain⟨hel,loc',Os,hm',⟨ha,hho⟩,hk⟩:=R.own_barrs hS;simp only at hm;rw[hm]at hm';cases hm';cases loc with
    |st b=>cases ha|mp b=>cases ha|nil=>obtain⟨e1,_⟩:=ha;subst e1;simp at hlt
    |arr blk off len cap sz' =>obtain⟨rfl,rfl,h3,_⟩:=ha;simp only[Loc.view]at hview;refine aX H R (v:=.ep bx (X8 n) 0) (x:=.pointer (some ⟨blk,off+n.toNat*md.size,none⟩)) ⟨blk,off,xs.length,cap,md.size,hm,hlt,rfl⟩ ?_;simp[execOp,ho,hview,hix,xR w hut hj h0 hlt',hjs,hb']
 ·
  rename_i k n l sz hsz;obtain⟨e,j,hut,hj,hjs⟩:=a3P H hsz;have hix:=vM hv;cases u<;>try trivial
  case glob g=>
   cases hg:fH X.E.gl g with
   |none=>simp only[hg];trivial|some p=>
   obtain⟨u,xs⟩:=p;simp only[hg];refine fM λhb=>iF λy hy=>?_;simp only[C9]at hb;have hb1:=jy hb.1;have hb2:=jy hb.2;obtain⟨h0,hget,hlt,hlt'⟩:=Lh hy;obtain⟨hok,_,hel⟩:=R.gl g _ hg;obtain⟨es,he,hr⟩:=hel _ y hget;have hx:a.eval x= .pointer (some ⟨g,0,none⟩):=hu;refine aX H R (v:=.dp u y 0) (x:=.pointer (some ⟨g,0+n.toNat*u.size,none⟩)) ⟨g,n.toNat*u.size,es,A7,hok,he,hr⟩ ?_;have:=a0t w hut hj (k:=k) (b:=g) (p:=0) h0 (by rw[hb2];exact hlt');simp only[hjs,hb1]at this;simp[execOp,ho,hx,hix,this]
theorem a9P{α β:Type}{f:α->β}{args:Array α}{u:β}(h:args.toList.map f=[u]):∃y,args=#[y]/\f y=u:=by obtain⟨l⟩:=args;simp only[List.map_eq_cons_iff,List.map_eq_nil_iff]at h;obtain⟨y,r,h1,h2,h3⟩:=h;subst h3;exact⟨y,by rw[h1],h2⟩
theorem a1R{α β:Type}{f:α->β}{args:Array α}{u v:β}(h:args.toList.map f=[u,v]):∃y z,args=#[y,z]/\f y=u/\f z=v:=by obtain⟨l⟩:=args;simp only[List.map_eq_cons_iff,List.map_eq_nil_iff]at h;obtain⟨y,r,h1,h2,z,r',h3,h4,h5⟩:=h;subst h5;subst h3;exact⟨y,z,by rw[h1],h2,h4⟩
theorem b6C(H:FxOk X)(R:Rel X cl ch S m ok a w){c:Call}{q:Nat}(ho:o.op= .call c)(hc:c.callee= .builtin .len):(dI X.E q o).post S (λ_ S' =>kT X cl ch o a w m ok S'):=by
 obtain⟨cal,args,ats⟩:=c;simp only at hc;subst hc;unfold dI;simp only[ho];refine pW R _ λvs hvs=>?_;split<;>try trivial
 rename_i t rt x hat
 obtain⟨u,r,he,hx,hr⟩:=hvs;simp only[jK]at hr;subst hr;refine tY H λi hi=>?_;have htd:=hi.td;obtain⟨y,rfl,rfl⟩:=a9P he;have h0:ats[0]? =some t:=by
  obtain⟨l⟩:=ats;simp only at hat
  simp[hat]
 have fin:∀(v:V) (n:Nat),pg ⟨w.heap,ok,m⟩ v (.int .i64 n)->(Builtin.len_ ats o.type #[a.eval y]).run X.P w= .ok (.int .i64 n) w->(gJ X.E o.dst v).post S (λ_ S' =>kT X cl ch o a w m ok S'):=λv n hv h=>
  aX H R hv (by simp[execOp,ho,resolve,invoke,builtin,h])
 have mapLen:∀{ke e n:Nat},X.P.underlying t=some (.map ke e)->(∃mv,a.eval y= .map mv/\(mv=none->n=0)/\∀blk,mv=some blk->∃es ck,w.heap[blk]? =some (.map es ck)/\es.size=n)->
   (gJ X.E o.dst (.i .i64 n)).post S (λ_ S' =>kT X cl ch o a w m ok S'):=λ{ke e n} hu ⟨mv,hv,h1,h2⟩=>by
  refine fin _ n rfl ?_;cases mv with
  |none=>rw[h1 rfl];simp[Builtin.len_,h0,run_underlying hu,hv,goInt]|some blk=>obtain⟨es,ck,h3,h4⟩:=h2 blk rfl;simp[Builtin.len_,h0,run_underlying hu,hv,goInt,Jt h3,h4]
 unfold b9x;split<;>try trivial
 ·rename_i l htd';rw[htd']at htd;refine fin _ l.length rfl ?_;simp[Builtin.len_,h0,run_underlying (show X.P.underlying t=some .string from htd),OG hx,goInt];rfl
 ·rename_i e u xs htd';rw[htd']at htd;cases hE0:u.isEnt
  ·simp only[cond_false];obtain⟨ad,cap,hv,_⟩:=(Ea hE0).1 hx;simp only[H5,and_true]at hv;refine fin _ xs.length rfl ?_;simp[Builtin.len_,h0,run_underlying (show X.P.underlying t=some (.slice e)from htd),hv,goInt]
  ·trivial
 ·rename_i ke e u xs htd';rw[htd']at htd;cases hE0:u.isEnt
  ·trivial
  ·simp only[cond_true];refine mapLen htd ?_;obtain⟨mv,hv,h1,h2⟩:=(a4E hE0).1 hx;exact⟨mv,by simpa using hv,(λe=>by simp[h1 e]),λblk hb=>by obtain⟨_,es,ck,h3,h4,_⟩:=h2 blk hb;exact⟨es,ck,h3,h4⟩⟩
 ·rename_i ke e bx htd';rw[htd']at htd;obtain⟨loc,hm,hview⟩:=hx;simp only at hm;refine gK ?_;have key:∀{u:Ty} {xs:List u.den},u.isEnt=true->arrOk ⟨w.heap,ok,m⟩ u xs loc->(gJ X.E o.dst (.i .i64 (o9 xs))).post S (λ_ S' =>kT X cl ch o a w m ok S'):=λ{u xs} hE0 ha=>by
   refine mapLen htd ?_;cases loc with
   |nil=>exact absurd ha.2 (by simp[hE0])|st b=>cases ha|arr blk off len cap sz=>exact absurd ha.1 (by simp[hE0])|mp b=>simp only[Loc.view]at hview;obtain⟨_,es,ck,h3,h4,_⟩:=ha;exact⟨some b,hview,(λh=>nomatch h),λblk hb=>by cases hb;exact⟨es,ck,h3,h4⟩⟩
  split<;>try trivial
  ·rename_i u xs hS;obtain⟨loc',hm',ha⟩:=R.own_arr hS;rw[hm]at hm';cases hm';cases hE0:u.isEnt
   ·trivial
   ·exact key hE0 ha
  ·rename_i u xs hS;obtain⟨loc',hm',ha,_⟩:=R.own_frz hS;rw[hm]at hm';cases hm';cases hE0:u.isEnt
   ·trivial
   ·exact key hE0 ha
 ·rename_i e htd';rw[htd']at htd;have hv:a.eval y= .slice none 0 0:=hx;refine fin _ 0 rfl ?_;simp[Builtin.len_,h0,run_underlying (show X.P.underlying t=some (.slice e)from htd),hv,goInt]
 ·rename_i e bx vw htd';rw[htd']at htd;obtain⟨loc,hm,hview⟩:=hx;refine gK ?_;split
  ·rename_i ln sz' hSl;split<;>try trivial
   have hbx:=R.box (QT+bx);rw[hSl]at hbx;obtain⟨k',l',e',hm',hl⟩:=hbx;have e2:k' =bx:=l7;subst e2;simp only at hm hm';rw[hm]at hm';cases hm';cases loc with
   |nil=>simp only at hl;subst hl;simp only[Loc.view]at hview;refine fin _ 0 rfl ?_;simp[Builtin.len_,h0,run_underlying (show X.P.underlying t=some (.slice e)from htd),hview,goInt]|st b=>cases hl|mp b=>cases hl|arr blk off len cap sz2=>obtain⟨rfl,rfl⟩:=hl;simp only[Loc.view]at hview;refine fin _ len rfl ?_;simp[Builtin.len_,h0,run_underlying (show X.P.underlying t=some (.slice e)from htd),hview,goInt]
  refine gK ?_;have key:∀{u:Ty} {xs:List u.den},u.isEnt=false->arrOk ⟨w.heap,ok,m⟩ u xs loc->(gJ X.E o.dst (.i .i64 (o9 (jH vw xs)))).post S (λ_ S' =>kT X cl ch o a w m ok S'):=λ{u xs} hE0 ha=>by obtain⟨ad,cap,hv,_⟩:=(Ea hE0).1 (rf (C:=⟨w.heap,ok,m⟩) (ok' :=λ_ _=>True) ha hview (λ_ _ _=>trivial) (λ_ _=>trivial));simp only[H5,and_true]at hv;refine fin _ (jH vw xs).length rfl ?_;simp[Builtin.len_,h0,run_underlying (show X.P.underlying t=some (.slice e)from htd),hv,goInt]
  split<;>try trivial
  ·rename_i u xs hS;obtain⟨loc',hm',ha⟩:=R.own_arr hS;simp only at hm;rw[hm]at hm';cases hm';cases hE0:u.isEnt
   ·exact key hE0 ha
   ·trivial
  ·rename_i u xs hS;obtain⟨loc',hm',ha,_⟩:=R.own_frz hS;simp only at hm;rw[hm]at hm';cases hm';cases hE0:u.isEnt
   ·exact key hE0 ha
   ·trivial
  ·rename_i md xs hole hS;split<;>try trivial
   obtain⟨hel,loc',Os,hm',⟨ha,hho⟩,hk⟩:=R.own_barrs hS;simp only at hm;rw[hm]at hm';cases hm';cases loc with
   |st b=>cases ha|mp b=>cases ha|nil=>obtain⟨e1,_⟩:=ha;subst e1;simp only[Loc.view]at hview;refine fin _ 0 rfl ?_;simp[Builtin.len_,h0,run_underlying (show X.P.underlying t=some (.slice e)from htd),hview,goInt]
   |arr blk off len cap sz' =>obtain⟨rfl,rfl,h3,_⟩:=ha;simp only[Loc.view]at hview;refine fin _ xs.length rfl ?_;simp[Builtin.len_,h0,run_underlying (show X.P.underlying t=some (.slice e)from htd),hview,goInt]
theorem ZH(H:FxOk X)(R:Rel X cl ch S m ok a w){c:Call}{q:Nat}(ho:o.op= .call c)(hc:c.callee= .builtin .min\/c.callee= .builtin .max):(dI X.E q o).post S (λ_ S' =>kT X cl ch o a w m ok S'):=by
 obtain⟨cal,args,ats⟩:=c;simp only at hc;rcases hc with rfl|rfl
 all_goals
  unfold dI;simp only[ho];refine pW R _ λvs hvs=>?_;split<;>try trivial
  rename_i k p k' r;obtain⟨u,r',he,hx,v,r'',he',hy,hr⟩:=hvs;simp only[jK]at hr;subst hr;rw[he']at he;refine fM λhk=>?_;have hk' :k=k' :=of_decide_eq_true hk;subst hk';obtain⟨y,z,rfl,rfl,rfl⟩:=a1R he
 ·refine aX H R (v:=.i k (pF p r)) rfl ?_;simp[execOp,ho,resolve,invoke,builtin,Builtin.min_,Builtin.min2,vM hx,vM hy,pF]
 ·refine aX H R (v:=.i k (kK p r)) rfl ?_;simp[execOp,ho,resolve,invoke,builtin,Builtin.max_,Builtin.max2,vM hx,vM hy,kK]
end
end Go.GP
namespace Go.GP
def Bnd(d:Int)(o:Option Value)(n:Int):Prop:=(o=none/\n=d)\/∃k,o=some (.int k n)
theorem JL{P:Program}{w:World}{isS:Bool}{len cap:Nat}{lo hi:Option Value}{x y:Int}(hlo:Bnd 0 lo x)(hhi:Bnd len hi y)(h0:0<=x)(h1:x<=y)(h2:y<=len)(hc:len<=cap):
  (Instr.sliceBounds isS len cap lo hi none).run P w= .ok (x.toNat,y.toNat,cap) w:=by
 have hyc:y<=cap:=l7;have hy0:0<=y:=l7;have e:((y.toNat:Nat):Int)=y:=l7;rcases hlo with⟨rfl,rfl⟩|⟨k,rfl⟩<;>rcases hhi with⟨rfl,rfl⟩|⟨k',rfl⟩
 ·simp[Instr.sliceBounds]
 ·simp[Instr.sliceBounds,Instr.sliceBound,asIntOf,hy0,hyc]
 ·simp[Instr.sliceBounds,Instr.sliceBound,asIntOf,h0,h1]
 ·simp[Instr.sliceBounds,Instr.sliceBound,asIntOf,hy0,hyc,h0,e,h1]
theorem Zu{α:Type}{l r:List α}{x y:Int}(h:kL l x y=some r):0<=x/\x<=y/\y<=l.length/\r=(l.take y.toNat).drop x.toNat:=by
 unfold kL at h;split at h
 ·rename_i hh;cases h;exact⟨hh.1,hh.2.1,hh.2.2,rfl⟩
 ·cases h
theorem Yb(l:List UInt8)(x y:Nat):(⟨l.toArray⟩:ByteArray).extract x y=⟨((l.take y).drop x).toArray⟩:=by apply ByteArray.ext;apply lh;simp[ByteArray.data_extract,nV,jY]
theorem b4s{h:Array Obj}{ok:Nat->Ty->Prop}{t:Ty}(ht:t.isEnt=false){xs:List t.den}{ad:Option Addr}{cap:Nat}{x y:Nat}(hr:mJ h ok (.sl t) xs [.slice ad xs.length cap])(h1:x<=y)(h2:y<=xs.length):
  mJ h ok (.sl t) ((xs.take y).drop x) [.slice (if cap=x then ad else ad.map (·.add (x*t.size))) (y -x) (cap -x)]:=by
 obtain⟨ad',cap',e,hc,hel⟩:=(Ea ht).1 hr;simp only[H5,Value.slice.injEq,and_true,true_and]at e;obtain⟨rfl,rfl⟩:=e;have hl:((xs.take y).drop x).length=y -x:=by simp;omega
 refine(Ea ht).2 ⟨_,cap -x,by rw[hl],by rw[hl];omega,λi z hz=>?_⟩;have hi:i<y -x:=by rw[←hl];exact(Y6.1 hz).1
 have hz' :xs[x+i]? =some z:=by
  simp only[U8,Z4]at hz;split at hz
  ·exact hz
  ·cases hz
 obtain⟨blk,off,es,rfl,hb,he,hrp⟩:=hel _ z hz';have hne:cap≠x:=l7;refine⟨blk,off+x*t.size,es,by simp[hne,kD],hb,?_,hrp⟩;rw[←he];congr 1;rw[L6];omega
section
variable {X:Fx} {cl ch:Nat} {S:Sm} {m:Mp} {ok:Nat->Ty->Prop} {a:Act} {w:World} {o:Oper}
theorem xg{C:Cx}{d n:Int}{v:Option V}{u:Option Value}(h:BZ d v=some n)(hr:(v=none/\u=none)\/∃c x,v=some c/\u=some x/\pg C c x):Bnd d u n:=by
 rcases hr with⟨rfl,rfl⟩|⟨c,x,rfl,rfl,hr⟩
 ·simp[BZ]at h;subst h;exact .inl ⟨rfl,rfl⟩
 ·cases c<;>simp[BZ]at h;subst h;exact .inr ⟨_,by rw[vM hr]⟩
theorem Hw(H:FxOk X)(R:Rel X cl ch S m ok a w){t:TypeId}{x:V}{u:Value}{lo hi:Option V}{lv hv:Option Value}(hx:pg ⟨w.heap,ok,m⟩ x u)
  (hlo:(lo=none/\lv=none)\/∃c y,lo=some c/\lv=some y/\pg ⟨w.heap,ok,m⟩ c y) (hhi:(hi=none/\hv=none)\/∃c y,hi=some c/\hv=some y/\pg ⟨w.heap,ok,m⟩ c y)
  {K:V->Cmd Unit} {Q:Unit->Sm->Prop} (hK:∀v z,pg ⟨w.heap,ok,m⟩ v z->(Instr.sliceAt t u lv hv none).run X.P w= .ok z w->(K v).post S Q):(SV X.E t x lo hi K).post S Q:=by
 unfold SV;cases x<;>try trivial
 case s l=>
  refine tY H λi hi' =>?_;have htd:=hi'.td;split<;>try trivial
  rename_i p q htd' hp hq;rw[htd']at htd;refine iF λr hr=>?_;obtain⟨h0,h1,h2,rfl⟩:=Zu hr;have hb:=JL (P:=X.P) (w:=w) (isS:=false) (cap:=l.length) (xg hp hlo) (xg hq hhi) h0 h1 h2 (F9 _);refine hK (.s _) (.string ⟨((l.take q.toNat).drop p.toNat).toArray⟩) rfl ?_;have hus:X.P.underlying t=some .string:=htd;have hs:(⟨l.toArray⟩:ByteArray).size=l.length:=rfl;simp[Instr.sliceAt,run_underlying hus,Instr.slice,OG hx,hs,hb,Yb]
 case sl v l=>
  dsimp only;split<;>try trivial
  rename_i n sz p q hsz hp hq;obtain⟨e,j,hut,hj,hjs⟩:=Jl H hsz;refine fM λhbq=>iF λr hr=>?_;obtain⟨hE0,hbq'⟩:=Mc hbq;obtain⟨h0,h1,h2,rfl⟩:=Zu hr;have hx' :mJ w.heap ok (.sl v) l [u]:=hx;obtain⟨ad,cap,hu,hc,_⟩:=(Ea hE0).1 hx';simp only[H5,and_true]at hu;subst hu;have hb:=JL (P:=X.P) (w:=w) (isS:=true) (cap:=cap) (xg hp hlo) (xg hq hhi) h0 h1 h2 hc;refine hK (.sl v _) _ (b4s hE0 (x:=p.toNat) (y:=q.toNat) hx' l7 l7) ?_;simp[Instr.sliceAt,run_underlying hut,Instr.slice,hb,ww hj,hjs,hbq']
 case own bx vw=>
  cases vw with
  |some _=>trivial|none=>
  obtain⟨loc,hm,hview⟩:=hx;refine gK ?_;have key:∀{v:Ty} {xs:List v.den} {n sz:Nat} {p q:Int},arrOk ⟨w.heap,ok,m⟩ v xs loc->Jk X.E t=some (false,n,sz)->BZ 0 lo=some p->BZ (o9 xs) hi=some q->
    (bif szB sz v then Cmd.br (rC p q (o9 xs)) (K (.own bx (some (X8 p,X8 q)))) .fail else .fail).post S Q:=λ{v xs n sz p q} ha hsz hp hq=>by
   obtain⟨e,j,hut,hj,hjs⟩:=Jl H hsz;refine fM λhbq=>⟨λhr=>?_,λ_=>trivial⟩;obtain⟨hE0,hbq'⟩:=Mc hbq;have hr' :=of_decide_eq_true (show decide (0<=p/\p<=q/\q<=o9 xs)=true from hr);obtain⟨h0,h1,h2⟩:=hr';have h2' :q<=(xs.length:Int):=h2;cases loc with
   |st b=>cases ha|mp b=>exact absurd ha.1 (by simp[hE0])|nil=>
    obtain⟨ha,_⟩:=ha;subst ha;simp only[Loc.view]at hview;subst hview;have h2'' :q<=((0:Nat):Int):=by simpa using h2'
    have hb:=JL (P:=X.P) (w:=w) (isS:=true) (len:=0) (cap:=0) (xg hp hlo) (by have:=xg hq hhi;simpa[o9]using this) h0 h1 h2'' (F9 _);have ep:p=0:=l7;have eq:q=0:=l7;subst ep;subst eq;refine hK (.own bx (some (X8 0,X8 0))) (.slice none 0 0) ⟨.nil,hm,rfl,rfl,rfl⟩ ?_;simp[Instr.sliceAt,run_underlying hut,Instr.slice,hb,ww hj]
   |arr blk off len cap sz' =>
    obtain⟨_,rfl,rfl,hc,_⟩:=ha;simp only[Loc.view]at hview;subst hview;have hb:=JL (P:=X.P) (w:=w) (isS:=true) (cap:=cap) (xg hp hlo) (xg hq hhi) h0 h1 h2' hc;refine hK (.own bx (some (X8 p,X8 q))) _ ⟨_,hm,by unfold X8;omega,by unfold X8;omega,rfl⟩ ?_;have e1:(if cap=p.toNat then some (⟨blk,off,none⟩:Addr)else some ⟨blk,off+p.toNat*v.size,none⟩)=some (if cap=p.toNat then⟨blk,off,none⟩else⟨blk,off+p.toNat*v.size,none⟩):=by split<;>rfl
    simp[Instr.sliceAt,run_underlying hut,Instr.slice,hb,ww hj,hjs,hbq',kD,X8,e1];by_cases ecp:cap=p.toNat<;>simp[ecp]
  split<;>try trivial
  ·rename_i v xs hS;obtain⟨loc',hm',ha⟩:=R.own_arr hS;simp only at hm;rw[hm]at hm';cases hm';split<;>try trivial
   rename_i n sz p q hsz hp hq;exact key ha hsz hp hq
  ·rename_i v xs hS;obtain⟨loc',hm',ha,_⟩:=R.own_frz hS;simp only at hm;rw[hm]at hm';cases hm';split<;>try trivial
   rename_i n sz p q hsz hp hq;exact key ha hsz hp hq
theorem b0u(H:FxOk X)(R:Rel X cl ch S m ok a w){t:TypeId}{x:Operand}{lo hi:Option Operand}{q:Nat}(ho:o.op= .slice t x lo hi none):(dI X.E q o).post S (λ_ S' =>kT X cl ch o a w m ok S'):=by
 unfold dI;simp only[ho];refine aI R λv hv=>pW R _ λbs hbs=>?_;split<;>try trivial
 ·refine Hw H R (lv:=none) (hv:=none) hv (.inl ⟨rfl,rfl⟩) (.inl ⟨rfl,rfl⟩) λr z hr hz=>aX H R hr ?_;simp[execOp,ho,hz]
 ·rename_i l c;obtain⟨y,r,he,h1,h2⟩:=hbs;simp only[jK]at h2;subst h2;simp at he;subst he;refine Hw H R (lv:=some (a.eval l)) (hv:=none) hv (.inr ⟨_,_,rfl,rfl,h1⟩) (.inl ⟨rfl,rfl⟩) λr z hr hz=>aX H R hr ?_;simp[execOp,ho,hz]
 ·rename_i h c;obtain⟨y,r,he,h1,h2⟩:=hbs;simp only[jK]at h2;subst h2;simp at he;subst he;refine Hw H R (lv:=none) (hv:=some (a.eval h)) hv (.inl ⟨rfl,rfl⟩) (.inr ⟨_,_,rfl,rfl,h1⟩) λr z hr hz=>aX H R hr ?_;simp[execOp,ho,hz]
 ·rename_i l h c d;obtain⟨y,r,he,h1,y',r',he',h2,h3⟩:=hbs;simp only[jK]at h3;subst h3;subst he';simp at he;obtain⟨rfl,rfl⟩:=he;refine Hw H R (lv:=some (a.eval l)) (hv:=some (a.eval h)) hv (.inr ⟨_,_,rfl,rfl,h1⟩) (.inr ⟨_,_,rfl,rfl,h2⟩) λr z hr hz=>aX H R hr ?_;simp[execOp,ho,hz]
end
end Go.GP
namespace Go.GP
def gQ(h:Array Obj)(ok:Nat->Ty->Prop)(t:Ty)(xs:List t.den)(cs:List Value):Prop:=
 cs.length=xs.length*t.size/\∀i x,xs[i]? =some x->mJ h ok t x ((cs.drop (i*t.size)).take t.size)
theorem gQ.nil{h:Array Obj}{ok:Nat->Ty->Prop}{t:Ty} :gQ h ok t [] []:=⟨A7,λi x hi=>by simp at hi⟩
theorem gQ.append{h:Array Obj}{ok:Nat->Ty->Prop}{t:Ty}{xs ys:List t.den}{cs ds:List Value}(hx:gQ h ok t xs cs)(hy:gQ h ok t ys ds):gQ h ok t (xs++ys) (cs++ds):=by
 refine⟨by simp[hx.1,hy.1,L6],λi x hi=>?_⟩;by_cases hlt:i<xs.length
 ·rw[J9 hlt]at hi;have h1:=hx.2 i x hi;have hle:(i+1)*t.size<=cs.length:=by rw[hx.1];exact I8 _ l7
  rw[L6,bC]at hle;rw[List.drop_append_of_le_length l7,ae U6];exact h1
 ·rw[F7 l7]at hi;have h1:=hy.2 _ x hi;have hle:cs.length<=i*t.size:=by rw[hx.1];exact I8 _ l7
  rw[rO,gG hle,H6];have:i*t.size -cs.length=(i -xs.length)*t.size:=by rw[hx.1,Nat.sub_mul]
  rw[this];exact h1
theorem gQ.one{h:Array Obj}{ok:Nat->Ty->Prop}{t:Ty}{x:t.den}{cs:List Value}(hr:mJ h ok t x cs):gQ h ok t [x] cs:=by
 refine⟨by simp[ik hr],λi y hi=>?_⟩;have:i=0:=by have:=(Y6.1 hi).1;simp at this;exact this
 subst this;simp at hi;subst hi;have:(List.drop (0*t.size) cs).take t.size=cs:=by simp[←ik hr]
 rw[this];exact hr
theorem gQ.mono{h h' :Array Obj}{ok ok' :Nat->Ty->Prop}{t:Ty}{xs:List t.den}{cs:List Value}(hok:∀b t,ok b t->ok' b t)(hh:∀b t,ok b t->h'[b]? =h[b]?)(hr:gQ h ok t xs cs):gQ h' ok' t xs cs:=
 ⟨hr.1,λi x hi=>fB hok hh (hr.2 i x hi)⟩
theorem gQ.rep_all{h:Array Obj}{ok:Nat->Ty->Prop}{t:Ty}{x:t.den}{cs:List Value}(hr:mJ h ok t x cs):∀n,gQ h ok t (List.replicate n x) ((List.replicate n cs).flatten)
 |0=>by simpa using gQ.nil|n+1=>by have:=(gQ.one hr).append (gQ.rep_all hr n);simpa[dY]using this
theorem gQ.one_cell{h:Array Obj}{ok:Nat->Ty->Prop}{t:Ty} :∀{xs:List t.den} {cs:List Value},gQ h ok t xs cs->∀v∈cs,v.oneCell' =true
 |[],cs,hr=>by have:=hr.1;simp at this;simp[this]|x::xs,cs,hr=>by
  intro v hv;have h0:=hr.2 0 x rfl;simp only[Nat.zero_mul,List.drop_zero]at h0;have hl:=hr.1;simp only[F5,L6,bC]at hl;have hrest:gQ h ok t xs (cs.drop t.size):=by refine⟨by simp;omega,λi y hi=>?_⟩;have:=hr.2 (i+1) y (by simpa using hi);rw[Z9];rwa[show t.size+i*t.size=(i+1)*t.size by rw[L6];omega]
  rw[←eY t.size cs]at hv;rcases D8.1 hv with hv|hv
  ·exact xP h0 v hv
  ·exact gQ.one_cell hrest v hv
theorem gQ.arrOk{C:Cx}{t:Ty}{xs:List t.den}{cs:List Value}(h0:t.isEnt=false)(hr:gQ C.h C.ok t xs cs){blk off cap:Nat}{c:Array Value}{T:TypeId}(hb:C.h[blk]? =some (.cells c T (0,0)))
  (hcap:xs.length<=cap) (hfit:off+cap*t.size<=c.size) (he:(c.toList.drop off).take (xs.length*t.size)=cs):Go.GP.arrOk C t xs (.arr blk off xs.length cap t.size):=by
 refine⟨h0,rfl,rfl,hcap,c,T,hb,hfit,λi x hi=>?_⟩;have hlt:=(Y6.1 hi).1;have hle:(i+1)*t.size<=xs.length*t.size:=I8 _ l7;rw[L6,bC]at hle;have hle2:xs.length*t.size<=cap*t.size:=I8 _ hcap;refine⟨_,nP hb _ _ l7,?_⟩;have h1:=hr.2 i x hi;rw[←he,jY,gV,Z9]at h1;rwa[jE l7]at h1
theorem YN{C:Cx}{t:Ty}{xs:List t.den}{blk off len cap sz:Nat}(h:arrOk C t xs (.arr blk off len cap sz)):
  ∃c T,C.h[blk]? =some (.cells c T (0,0))/\sz=t.size/\len=xs.length/\len<=cap/\off+cap*sz<=c.size/\gQ C.h C.ok t xs ((c.toList.drop off).take (len*sz)):=by
 obtain⟨_,rfl,rfl,h3,c,T,hb,hf,hx⟩:=h;refine⟨c,T,hb,rfl,rfl,h3,hf,?_,λi x hi=>?_⟩
 ·have:xs.length*t.size<=cap*t.size:=I8 _ h3;simp;omega
 ·obtain⟨es,he,hr⟩:=hx i x hi;obtain⟨c',T',f',hb',hn',rfl⟩:=xk he;rw[hb]at hb';cases hb';have hlt:=(Y6.1 hi).1;have hle:(i+1)*t.size<=xs.length*t.size:=I8 _ l7;rw[L6,bC]at hle;rw[jY,gV,Z9,jE l7];exact hr
def xX(h:Array Obj)(ok:Nat->Ty->Prop)(m:M)(xs:List m.den)(cs:List Value)(Os:List (List Nat)):Prop:=
 cs.length=xs.length*m.size/\Os.length=xs.length/\∀i x,xs[i]? =some x->∃O,Os[i]? =some O/\qy h ok m none x ((cs.drop (i*m.size)).take m.size) O
theorem xX.nil{h:Array Obj}{ok:Nat->Ty->Prop}{m:M} :xX h ok m [] [] []:=⟨A7,rfl,λi x hi=>by simp at hi⟩
theorem xX.append{h:Array Obj}{ok:Nat->Ty->Prop}{t:M}{xs ys:List t.den}{cs ds:List Value}{Os Ps:List (List Nat)}(hx:xX h ok t xs cs Os)(hy:xX h ok t ys ds Ps):xX h ok t (xs++ys) (cs++ds) (Os++Ps):=by
 refine⟨by simp[hx.1,hy.1,L6],by simp[hx.2.1,hy.2.1],λi x hi=>?_⟩;by_cases hlt:i<xs.length
 ·rw[J9 hlt]at hi;obtain⟨O,hO,h1⟩:=hx.2.2 i x hi;have hle:(i+1)*t.size<=cs.length:=by rw[hx.1];exact I8 _ l7
  rw[L6,bC]at hle;rw[List.drop_append_of_le_length l7,ae U6];exact⟨O,by rw[J9 (by rw[hx.2.1];exact hlt)];exact hO,h1⟩
 ·rw[F7 l7]at hi;obtain⟨O,hO,h1⟩:=hy.2.2 _ x hi;have hle:cs.length<=i*t.size:=by rw[hx.1];exact I8 _ l7
  rw[rO,gG hle,H6];have:i*t.size -cs.length=(i -xs.length)*t.size:=by rw[hx.1,Nat.sub_mul]
  rw[this];exact⟨O,by rw[F7 (by rw[hx.2.1];omega),hx.2.1];exact hO,h1⟩
theorem xX.one{h:Array Obj}{ok:Nat->Ty->Prop}{t:M}{x:t.den}{cs:List Value}{O:List Nat}(hr:qy h ok t none x cs O):xX h ok t [x] cs [O]:=by
 refine⟨by simp[gu hr],rfl,λi y hi=>?_⟩;have:i=0:=by have:=(Y6.1 hi).1;simp at this;exact this
 subst this;simp at hi;subst hi;have:(List.drop (0*t.size) cs).take t.size=cs:=by simp[←gu hr]
 rw[this];exact⟨O,rfl,hr⟩
theorem xX.mono{h h' :Array Obj}{ok ok' :Nat->Ty->Prop}{t:M}{xs:List t.den}{cs:List Value}{Os:List (List Nat)}(hok:∀b t,ok b t->ok' b t)(hh:∀b t,ok b t->h'[b]? =h[b]?)(hO:∀b∈Os.flatten,h'[b]? =h[b]?)(hr:xX h ok t xs cs Os):xX h' ok' t xs cs Os:=
 ⟨hr.1,hr.2.1,λi x hi=>by obtain⟨O,h1,h2⟩:=hr.2.2 i x hi;exact⟨O,h1,kS hok hh (λb hb=>hO b (dP.2 ⟨O,rV h1,hb⟩)) h2⟩⟩
theorem xX.rep_all{h:Array Obj}{ok:Nat->Ty->Prop}{t:M}{x:t.den}{cs:List Value}(hr:qy h ok t none x cs []):∀n,xX h ok t (List.replicate n x) ((List.replicate n cs).flatten) (List.replicate n [])
 |0=>by simpa using xX.nil|n+1=>by have:=(xX.one hr).append (xX.rep_all hr n);simpa[dY]using this
theorem xX.one_cell{h:Array Obj}{ok:Nat->Ty->Prop}{t:M} :∀{xs:List t.den} {cs:List Value} {Os:List (List Nat)},xX h ok t xs cs Os->∀v∈cs,v.oneCell' =true
 |[],cs,_,hr=>by have:=hr.1;simp at this;simp[this]|x::xs,cs,Os,hr=>by
  intro v hv;obtain⟨O,hO,h0⟩:=hr.2.2 0 x rfl;simp only[Nat.zero_mul,List.drop_zero]at h0;have hl:=hr.1;simp only[F5,L6,bC]at hl;have hl2:=hr.2.1;simp only[F5]at hl2;have hrest:xX h ok t xs (cs.drop t.size) (Os.drop 1):=by refine⟨by simp;omega,by simp;omega,λi y hi=>?_⟩;obtain⟨O',hO',this⟩:=hr.2.2 (i+1) y (by simpa using hi);rw[Z9];refine⟨O',by rw[U8,Nat.add_comm];exact hO',?_⟩;rwa[show t.size+i*t.size=(i+1)*t.size by rw[L6];omega]
  rw[←eY t.size cs]at hv;rcases D8.1 hv with hv|hv
  ·exact xO h0 v hv
  ·exact xX.one_cell hrest v hv
theorem xX.arrs{h:Array Obj}{ok:Nat->Ty->Prop}{t:M}{xs:List t.den}{cs:List Value}{Os:List (List Nat)}(hr:xX h ok t xs cs Os){blk off cap:Nat}{c:Array Value}{T:TypeId}(hb:h[blk]? =some (.cells c T (0,0)))
  (hcap:xs.length<=cap) (hfit:off+cap*t.size<=c.size) (he:(c.toList.drop off).take (xs.length*t.size)=cs):DN h t.size (λ_ x es O=>qy h ok t none x es O) xs Os (.arr blk off xs.length cap t.size):=by
 refine⟨rfl,rfl,hcap,hr.2.1,c,T,hb,hfit,λi x hi=>?_⟩;have hlt:=(Y6.1 hi).1;have hle:(i+1)*t.size<=xs.length*t.size:=I8 _ l7;rw[L6,bC]at hle;have hle2:xs.length*t.size<=cap*t.size:=I8 _ hcap;obtain⟨O,hO,h1⟩:=hr.2.2 i x hi;refine⟨_,O,hO,nP hb _ _ l7,?_⟩;rw[←he,jY,gV,Z9]at h1;rwa[jE l7]at h1
theorem a1a{h:Array Obj}{ok:Nat->Ty->Prop}{t:M}{xs:List t.den}{Os:List (List Nat)}{blk off len cap sz:Nat}(k:DN h t.size (λ_ x es O=>qy h ok t none x es O) xs Os (.arr blk off len cap sz)):
  ∃c T,h[blk]? =some (.cells c T (0,0))/\sz=t.size/\len=xs.length/\len<=cap/\off+cap*sz<=c.size/\xX h ok t xs ((c.toList.drop off).take (len*sz)) Os:=by
 obtain⟨rfl,rfl,h3,h7,c,T,hb,hf,hx⟩:=k;refine⟨c,T,hb,rfl,rfl,h3,hf,?_,h7,λi x hi=>?_⟩
 ·have:xs.length*t.size<=cap*t.size:=I8 _ h3;simp;omega
 ·obtain⟨es,O,hO,he,hr⟩:=hx i x hi;obtain⟨c',T',f',hb',hn',rfl⟩:=xk he;rw[hb]at hb';cases hb';have hlt:=(Y6.1 hi).1;have hle:(i+1)*t.size<=xs.length*t.size:=I8 _ l7;rw[L6,bC]at hle;rw[jY,gV,Z9,jE l7];exact⟨O,hO,hr⟩
theorem a9b{α β:Type}(e:α=β)(e' :List α=List β):cast e' []=[]:=by subst e;rfl
theorem Ya{h:Array Obj}{ok:Nat->Ty->Prop}{C:Cx} :∀(m:M) (he:m.el=true) {zs:List V} {cs r:List Value},mJ h ok m.ty m.ty.zero cs->iP C zs (cs++r)->TT m zs=true->qy h ok m none (m.zero he) cs []
 | .dat t,_,_,_,_,hr,_,_=>⟨hr,rfl⟩| .unit,_,_,_,_,hr,_,_=>⟨hr,rfl⟩| .own t,he,zs,cs,r,hr,hz,hn=>by
  have ht:t.isEnt=false:=by simpa[M.el]using he
  obtain⟨a,cap,rfl,_⟩:=(Ea ht).1 hr;unfold TT at hn;split at hn
  ·obtain⟨v,r',e,h1,_⟩:=hz;simp only[S9,H6,H5]at e;obtain⟨rfl,rfl⟩:=e;exact⟨_,rfl,rfl,.nil,h1,⟨rfl,ht⟩,rfl⟩
  ·cases hn
 | .owns t,he,zs,cs,r,hr,hz,hn=>by
  obtain⟨a,cap,rfl,_⟩:=(Ea (M.ty_ent (m:=t) (by simpa[M.el]using he))).1 hr;unfold TT at hn;split at hn
  ·obtain⟨v,r',e,h1,_⟩:=hz;simp only[S9,H6,H5]at e;obtain⟨rfl,rfl⟩:=e;have he' :t.el=true:=by simpa[M.el]using he
   refine AB.2 ⟨he',.nil,_,[],rfl,h1,⟨?_,rfl⟩,rfl⟩;exact a9b (M.denEq t he').symm _
  ·cases hn
 | .pair p q,he,zs,cs,r,hr,hz,hn=>by
  obtain⟨c,d,rfl,h1,h2⟩:=hr;have he' :p.el=true/\q.el=true:=by simpa[M.el]using he
  have hp:=ik h1;rw[M.ty_size he'.1]at hp;unfold TT at hn;split at hn
  ·rename_i r' hd;obtain⟨_,rfl⟩:=VP _ _ _ hd;cases hb:TT p zs<;>rw[hb]at hn
   ·cases hn
   ·have a1:=Ya p he'.1 (r:=d++r) h1 (by simpa using hz) hb;have hz' :=yG p.size hz;rw[show(c++d++r).drop p.size=d++r by rw[←hp,E9,List.drop_left]]at hz';have a2:=Ya q he'.2 (r:=r) h2 hz' hn;refine⟨c,d,[],[],rfl,rfl,?_,?_⟩
    ·have:=QY (M.denEq p he'.1).symm (M.denEq q he'.2).symm (M.denEq (.pair p q) he).symm (p.ty.zero,q.ty.zero);exact(congrArg (λz:p.den×q.den=>qy h ok p none z.1 c []) this).mpr a1
    ·have:=QY (M.denEq p he'.1).symm (M.denEq q he'.2).symm (M.denEq (.pair p q) he).symm (p.ty.zero,q.ty.zero);exact(congrArg (λz:p.den×q.den=>qy h ok q none z.2 d []) this).mpr a2
  ·cases hn
 | .box _,he,_,_,_,_,_,_=>by simp[M.el]at he| .ownb _,he,_,_,_,_,_,_=>by simp[M.el]at he| .cell _,he,_,_,_,_,_,_=>by simp[M.el]at he| .fr _,he,_,_,_,_,_,_=>by simp[M.el]at he| .rp _,he,_,_,_,_,_,_=>by simp[M.el]at he| .fn _ _,he,_,_,_,_,_,_=>by simp[M.el]at he| .ifc _ _,he,_,_,_,_,_,_=>by simp[M.el]at he
theorem Ll(z:Array Value):∀n,(madeCells z (n*z.size)).toList=(List.replicate n z.toList).flatten:=by
 intro n;rcases jh z.size with h0|h0
 ·have:z=#[]:=by simpa using h0
  subst this;simp[madeCells]
 induction n with
 |zero=>simp[madeCells]|succ n ih=>
  rw[nC,kW,←ih];simp only[madeCells,rM,Array.toList_range,List.flatten_cons,List.flatten_nil,H9];rw[L6,bC,List.range_add,iD,wW];congr 1;apply nH
  ·simp
  ·intro i h1 h2;simp at h1 h2;simp[Nat.mod_eq_of_lt h1,Nat.add_mod,h1,getElem!_pos]
theorem Og{E:Env}{t e:Nat}{u:Ty}(h:Jm E t=some (e,u)):u.isEnt=false:=by
 unfold Jm at h;split at h<;>try (cases h;done)
 split at h<;>try (cases h;done)
 split at h<;>try (cases h;done)
 split at h<;>try (cases h;done)
 rename_i u' _;cases hu:u'.isEnt
 ·revert h;generalize (Nat.beq _ _&&Nat.ble _ _)=b;cases b<;>simp[hu];rintro _ rfl;exact hu
 ·simp[hu]at h
theorem GL{X:Fx}(H:FxOk X){t e:Nat}{u:Ty}(h:Jm X.E t=some (e,u)):
  ∃j z inf,X.P.underlying t=some (.slice e)/\TiOk X.P e j/\X.P.info? e=some inf/\inf.size=u.size/\j.size=u.size/\inf.bytes<=65536/\inf.zero=some z/\mJ #[] (λ_ _=>False) u u.zero z.cells.toList:=by
 unfold Jm at h;cases hi:fH X.E.tt t with
 |none=>simp[hi]at h|some i=>
  have htd:=(H.tt t i hi).td;simp only[hi]at h;cases hd:i.td<;>simp only[hd]at h<;>try (simp at h;done)
  rename_i e';rw[hd]at htd;cases hj:fH X.E.tt e' with
  |none=>simp[hj]at h|some j=>
   simp only[hj]at h;cases hy:j.ty with
   |none=>simp[hy]at h|some u' =>
    simp only[hy]at h;cases hb:(Nat.beq u'.size j.size&&Nat.ble j.bytes 65536&&!u'.isEnt)
    ·simp only[hb,cond_false]at h;cases h
    ·simp only[hb,cond_true,G8,lw]at h;obtain⟨rfl,rfl⟩:=h;simp only[C9]at hb;have h1:=jy hb.1.1;have h2:=X4 hb.1.2;obtain⟨inf,a1,a2,a3,a4,a5⟩:=(H.tt e' j hj).info;obtain⟨b1,z,b2,b3⟩:=a5 u' hy;exact⟨j,z,inf,htd,H.tt _ _ hj,a1,l7,l7,l7,b2,b3⟩
section
variable {X:Fx} {cl ch:Nat} {S:Sm} {m:Mp} {ok:Nat->Ty->Prop} {a:Act} {w:World} {o:Oper}
theorem ZR{C:Cx}{t:Ty}{x:t.den}{cs:List Value}(h:mJ #[] (λ_ _=>False) t x cs):mJ C.h C.ok t x cs:=
 fB (λ_ _ h=>h.elim) (λ_ _ h=>h.elim) h
theorem IW(H:FxOk X){q:Nat}{v vv:V}{Q:Unit->Sm->Prop}
  (hK:∀n,n=U0 q o.dst->CB*q<=n->n+64<=CB*q+CB->S (bf+n)= .undef->(gJ X.E o.dst vv).post (upd S (bf+n) v) Q):
  (AP (U0 q o.dst) v (gJ X.E o.dst vv)).post S Q:=by
 refine Au λhn=>?_;cases hd:o.dst with
 |none=>have hin:=ui H (q:=q) none (λt h=>by cases h);rw[hd]at hn;have:=hK (U0 q none) (by rw[hd]) hin.1 hin.2 hn;rwa[hd]at this|some t=>
  cases hb:ZF X.E t with
  |false=>unfold gJ;simp only[hb,cond_false];trivial|true=>have hin:=ui H (q:=q) (some t) (λt' h=>by cases h;exact(CQ hb).1);rw[hd]at hn;have:=hK (U0 q (some t)) (by rw[hd]) hin.1 hin.2 hn;rwa[hd]at this
theorem a7z(H:FxOk X){q:Nat}{v vv u:V}{Q:Unit->Sm->Prop}
  (hK:∀n,n=U0 q o.dst->CB*q<=n->n+64<=CB*q+CB->S (bf+n)= .undef->(Cmd.set (bf+(QT+n)) u (gJ X.E o.dst vv)).post (upd S (bf+n) v) Q):
  (AP (U0 q o.dst) v (.set (bf+(QT+U0 q o.dst)) u (gJ X.E o.dst vv))).post S Q:=by
 refine Au λhn=>?_;cases hd:o.dst with
 |none=>have hin:=ui H (q:=q) none (λt h=>by cases h);rw[hd]at hn;have:=hK (U0 q none) (by rw[hd]) hin.1 hin.2 hn;rwa[hd]at this|some t=>
  cases hb:ZF X.E t with
  |false=>refine nJ ?_;unfold gJ;simp only[hb,cond_false];trivial|true=>have hin:=ui H (q:=q) (some t) (λt' h=>by cases h;exact(CQ hb).1);rw[hd]at hn;have:=hK (U0 q (some t)) (by rw[hd]) hin.1 hin.2 hn;rwa[hd]at this
theorem a4i(R:Rel X cl ch S m ok a w){w1:World}(hos:w1.os=w.os)(htp:w1.tape=w.tape)(hout:w1.output=w.output)(hh:w1.heap=w.heap)
  {u:Ty} (ht:u.isEnt=false) {xs:List u.den} {cs:List Value} {e:TypeId} {c:Array Value} {cap n:Nat} (hr:gQ w.heap ok u xs cs)
  (hcap:xs.length<=cap) (hfit:cap*u.size<=c.size) (he:c.toList.take (xs.length*u.size)=cs) (hcl:cl<=n) (hch:n<ch) (hn:S (bf+n)= .undef):
  Rel X cl ch (upd S (bf+n) (.barr u xs)) (pI m n (.arr w.heap.size 0 xs.length cap u.size) []) ok a (w1.alloc (.cells c e)):=by
 have R1:Rel X cl ch S m ok a w1:=R.same hos htp hout hh;have hblk:(w1.alloc (.cells c e)).heap[w.heap.size]? =some (.cells c e (0,0)):=by rw[←hh];exact heap_alloc_new w1 _
 refine R1.new hn hcl hch A7 (by simp[Y5,hh]) ⟨_,fV _ _ _ _,?_⟩;refine gQ.arrOk (cs:=cs) ht (hr.mono (λ_ _ h=>h) (λb t hb=>?_)) hblk hcap l7 (by simpa using he);have:=R.okLt b t hb;show(w1.heap.push (.cells c e))[b]? =_;rw[hh];exact yU _ _ this
theorem RU(H:FxOk X){q:Nat}(R:Rel X (CB*q) (CB*q+CB) S m ok a w){w1:World}(hos:w1.os=w.os)(htp:w1.tape=w.tape)(hout:w1.output=w.output)(hh:w1.heap=w.heap)
  {u:Ty} (ht:u.isEnt=false) {xs:List u.den} {cs:List Value} {e:TypeId} {c:Array Value} {cap:Nat} (hr:gQ w.heap ok u xs cs)
  (hcap:xs.length<=cap) (hfit:cap*u.size<=c.size) (he:c.toList.take (xs.length*u.size)=cs) {w0:World} {m0:Mp} {ok0:Nat->Ty->Prop} (hm:∀k l,m0 k=some l->m k=some l) (hok:∀b t,ok0 b t->ok b t)
  (run:(execOp a.eval o).run X.P w0= .ok (.value (.slice (some ⟨w.heap.size,0,none⟩) xs.length cap)) (w1.alloc (.cells c e))):
  (AP (U0 q o.dst) (.barr u xs) (gJ X.E o.dst (.own (U0 q o.dst) none))).post S (λ_ S' =>kT X (CB*q) (CB*q+CB) o a w0 m0 ok0 S'):=by
 refine IW H λn e1 h1 h2 hn=>?_;rw[←e1];clear e1;generalize CB*q=Z at*;have R' :=a4i R hos htp hout hh ht (e:=e) hr hcap hfit he h1 (by show n<Z+1000000;change n+64<=Z+1000000 at h2;omega) hn;refine yN H R' (λk l h=>?_) hok ⟨_,fV _ _ _ _,rfl⟩ run;by_cases ek:k=n
 ·subst ek;have:=R.fresh k h1 hn;have h3:=hm _ _ h;rw[this]at h3;cases h3
 ·rw[lF _ _ _ ek];exact hm _ _ h
theorem TR(R:Rel X cl ch S m ok a w){T:List Nat}(hT:Tk X S m ok w T){w1:World}(hos:w1.os=w.os)(htp:w1.tape=w.tape)(hout:w1.output=w.output)(hh:w1.heap=w.heap)
  {md:M} (hel:md.el=true) {xs:List md.den} {cs:List Value} {Os:List (List Nat)} {e:TypeId} {c:Array Value} {cap n:Nat} (hr:xX w.heap ok md xs cs Os) (hnd:Os.flatten.Nodup) (hO:∀b∈Os.flatten,b∈T)
  (hcap:xs.length<=cap) (hfit:cap*md.size<=c.size) (he:c.toList.take (xs.length*md.size)=cs) (hcl:cl<=n) (hch:n<ch) (hn:S (bf+n)= .undef):
  Rel X cl ch (upd S (bf+n) (.barrs md xs none)) (pI m n (.arr w.heap.size 0 xs.length cap md.size) Os.flatten) ok a (w1.alloc (.cells c e)):=by
 have R1:Rel X cl ch S m ok a w1:=R.same hos htp hout hh;have T1:Tk X S m ok w1 T:=⟨hT.nodup,λb hb=>by rw[hh];exact hT.free b hb⟩;have hblk:(w1.alloc (.cells c e)).heap[w.heap.size]? =some (.cells c e (0,0)):=by rw[←hh];exact heap_alloc_new w1 _
 have hold:∀b,b<w.heap.size->(w1.alloc (.cells c e)).heap[b]? =w.heap[b]?:=λb hb=>by show(w1.heap.push (.cells c e))[b]? =_;rw[hh];exact yU _ _ hb
 refine R1.newK T1 hn hcl hch A7 (by simp[Y5,hh]) hnd hO ⟨hel,_,Os,fV _ _ _ _,?_,A7⟩;exact⟨xX.arrs (cs:=cs) (hr.mono (λ_ _ h=>h) (λb t hb=>hold b (R.okLt b t hb)) (λb hb=>hold b (hT.free b (hO b hb)).2.1)) hblk hcap l7 (by simpa using he),trivial⟩
theorem WX(H:FxOk X){q:Nat}(R:Rel X (CB*q) (CB*q+CB) S m ok a w){T:List Nat}(hT:Tk X S m ok w T){w1:World}(hos:w1.os=w.os)(htp:w1.tape=w.tape)(hout:w1.output=w.output)(hh:w1.heap=w.heap)
  {md:M} (hel:md.el=true) {xs:List md.den} {cs:List Value} {Os:List (List Nat)} {e:TypeId} {c:Array Value} {cap:Nat} (hr:xX w.heap ok md xs cs Os) (hnd:Os.flatten.Nodup) (hO:∀b∈Os.flatten,b∈T)
  (hcap:xs.length<=cap) (hfit:cap*md.size<=c.size) (he:c.toList.take (xs.length*md.size)=cs) {w0:World} {m0:Mp} {ok0:Nat->Ty->Prop} (hm:∀k l,m0 k=some l->m k=some l) (hok:∀b t,ok0 b t->ok b t)
  (run:(execOp a.eval o).run X.P w0= .ok (.value (.slice (some ⟨w.heap.size,0,none⟩) xs.length cap)) (w1.alloc (.cells c e))):
  (AP (U0 q o.dst) (.barrs md xs none) (gJ X.E o.dst (.own (U0 q o.dst) none))).post S (λ_ S' =>kT X (CB*q) (CB*q+CB) o a w0 m0 ok0 S'):=by
 refine IW H λn e1 h1 h2 hn=>?_;rw[←e1];clear e1;generalize CB*q=Z at*;have R' :=TR R hT hos htp hout hh (e:=e) hel hr hnd hO hcap hfit he h1 (by show n<Z+1000000;change n+64<=Z+1000000 at h2;omega) hn;refine yN H R' (λk l h=>?_) hok ⟨_,fV _ _ _ _,rfl⟩ run;by_cases ek:k=n
 ·subst ek;have:=R.fresh k h1 hn;have h3:=hm _ _ h;rw[this]at h3;cases h3
 ·rw[lF _ _ _ ek];exact hm _ _ h
theorem a2g(H:FxOk X){q:Nat}(R:Rel X (CB*q) (CB*q+CB) S m ok a w){T:List Nat}(hT:Tk X S m ok w T){w1:World}(hos:w1.os=w.os)(htp:w1.tape=w.tape)(hout:w1.output=w.output)(hh:w1.heap=w.heap)
  {md:M} (hel:md.el=true) {xs:List md.den} {cs:List Value} {Os:List (List Nat)} {e:TypeId} {c:Array Value} {cap:Nat} (hr:xX w.heap ok md xs cs Os) (hnd:Os.flatten.Nodup) (hO:∀b∈Os.flatten,b∈T)
  (hcap:xs.length<=cap) (hfit:cap*md.size<=c.size) (he:c.toList.take (xs.length*md.size)=cs) {w0:World} {m0:Mp} {ok0:Nat->Ty->Prop} (hm:∀k l,m0 k=some l->m k=some l) (hok:∀b t,ok0 b t->ok b t)
  (run:(execOp a.eval o).run X.P w0= .ok (.value (.slice (some ⟨w.heap.size,0,none⟩) xs.length cap)) (w1.alloc (.cells c e))):
  (AP (U0 q o.dst) (.barrs md xs none) (.set (bf+(QT+U0 q o.dst)) (.blen (o9 xs) md.size) (gJ X.E o.dst (.own (U0 q o.dst) none)))).post S (λ_ S' =>kT X (CB*q) (CB*q+CB) o a w0 m0 ok0 S'):=by
 refine a7z H λn e1 h1 h2 hn=>?_;refine nJ ?_;rw[←e1];clear e1;generalize CB*q=Z at*;have R' :=TR R hT hos htp hout hh (e:=e) hel hr hnd hO hcap hfit he h1 (by show n<Z+1000000;change n+64<=Z+1000000 at h2;omega) hn;refine yN H (R'.mark (mO _ _ _)) (λk l h=>?_) hok ⟨_,fV _ _ _ _,rfl⟩ run;by_cases ek:k=n
 ·subst ek;have:=R.fresh k h1 hn;have h3:=hm _ _ h;rw[this]at h3;cases h3
 ·rw[lF _ _ _ ek];exact hm _ _ h
theorem T_(H:FxOk X){q:Nat}(R:Rel X (CB*q) (CB*q+CB) S m ok a w){t:TypeId}{l c:Operand}(ho:o.op= .makeSlice t l c):(dI X.E q o).post S (λ_ S' =>kT X (CB*q) (CB*q+CB) o a w m ok S'):=by
 unfold dI;simp only[ho];split
 ·rename_i md hom;split<;>try trivial
  rename_i e u het;obtain⟨j,z,inf,hu,hj,h1,h2,h3,h4,h5,h6⟩:=GL H het;have hz:=ik h6;refine aI R λv hv=>?_;split<;>try trivial
  rename_i k n;refine iG λhc=>?_;simp only[C9]at hc;obtain⟨⟨hs,hsz⟩,hza⟩:=hc;split<;>try trivial
  rename_i hel;obtain⟨hel,rfl⟩:=hel;refine iF λxs hxs=>?_;have hec:a.eval c=a.eval l:=by
   unfold XG at hs;split at hs
   ·have:=jy hs;subst this;rfl
   ·cases hs
  unfold vk at hxs;split at hxs
  ·rename_i hh;cases hxs;have e1:=vM hv;have e2:=hec.trans e1;have hms:=M.ty_size hel;have hby:(inf.bytes:Int)*n<=65536*1073741824:=by
    have:inf.bytes*n.toNat<=65536*1073741824:=Nat.mul_le_mul h4 l7;have e:(n.toNat:Int)=n:=l7;rw[←e,←sZ];generalize inf.bytes*n.toNat=p at*;omega
   have hrun:=run_make (P:=X.P) w t e inf z hu h1 h5 k k n n hh.1 (ed _) l7 l7;have hflat:=Ll z.cells n.toNat
   have hzs:z.cells.size=md.ty.size:=by simpa using hz
   have hzero:qy w.heap ok md none (md.zero hel) z.cells.toList []:=by
    unfold a6N at hza;rw[het]at hza;simp only at hza;cases hj2:fH X.E.tt e with
    |none=>rw[hj2]at hza;cases hza|some j2=>
     rw[hj2]at hza;simp only at hza;cases hb:Nat.beq j2.zero.length j2.size<;>rw[hb]at hza
     ·cases hza
     ·obtain⟨inf2,a1,a2,a3,a4,a5⟩:=(H.tt e j2 hj2).info;rw[h1]at a1;cases a1;obtain⟨z2,b1,b2⟩:=a4 (jy hb);rw[h5]at b1;cases b1;exact Ya md hel (r:=[]) (ZR (C:=⟨w.heap,ok,m⟩) h6) (by simpa using b2) hza
   refine a2g H R (T:=[]) Tk.nil rfl rfl rfl rfl (cs:=(List.replicate n.toNat z.cells.toList).flatten) (c:=madeCells z.cells (n.toNat*inf.size)) (cap:=n.toNat) (e:=e) hel (xX.rep_all hzero _) A7 A7 A7 (by simp[size_madeCells,h2,hms]) ?_ (λ_ _ h=>h) (λ_ _ h=>h) (w1:=w) ?_
   ·rw[h2,←hzs,hflat];rw[aU (by simp[List.length_flatten,hzs,hms])]
   ·simp[execOp,ho,e1,e2,hrun]
  ·cases hxs
 split<;>try trivial
 rename_i e u het;obtain⟨j,z,inf,hu,hj,h1,h2,h3,h4,h5,h6⟩:=GL H het;have hz:=ik h6;have key:∀{k k' :IntKind} {n n' :Int},a.eval l= .int k n->a.eval c= .int k' n' ->0<=n->n<=n' ->n' <=1073741824->
   (AP (U0 q o.dst) (.barr u (List.replicate n.toNat u.zero)) (gJ X.E o.dst (.own (U0 q o.dst) none))).post S (λ_ S' =>kT X (CB*q) (CB*q+CB) o a w m ok S'):=λ{k k' n n'} e1 e2 g0 g1 g2=>by
  have hby:(inf.bytes:Int)*n' <=65536*1073741824:=by have:inf.bytes*n'.toNat<=65536*1073741824:=Nat.mul_le_mul h4 l7;have e:(n'.toNat:Int)=n' :=l7;rw[←e,←sZ];generalize inf.bytes*n'.toNat=p at*;omega
  have hrun:=run_make (P:=X.P) w t e inf z hu h1 h5 k k' n n' g0 g1 l7 l7;have hflat:=Ll z.cells n'.toNat
  have hzs:z.cells.size=u.size:=by simpa using hz
  refine RU H R rfl rfl rfl rfl (Og het) (cs:=(List.replicate n.toNat z.cells.toList).flatten) (c:=madeCells z.cells (n'.toNat*inf.size)) (cap:=n'.toNat) (e:=e) (gQ.rep_all (ZR (C:=⟨w.heap,ok,m⟩) h6) _) U6 (by simp[size_madeCells,h2]) ?_ (λ_ _ h=>h) (λ_ _ h=>h) (w1:=w) ?_
  ·rw[h2,←hzs,hflat];have:n'.toNat=n.toNat+(n'.toNat -n.toNat):=l7;rw[this,←List.replicate_append_replicate,kW,ae (by simp[List.length_flatten]),aU (by simp[List.length_flatten])]
  ·simp[execOp,ho,e1,e2,hrun]
 refine aI R λv hv=>?_;split<;>try trivial
 rename_i k n;cases hs:XG l c
 ·simp only[cond_false];refine aI R λv' hv' =>?_;split<;>try trivial
  rename_i k' n';refine⟨λhr=>iF λxs hxs=>?_,λ_=>trivial⟩;have hr' :=of_decide_eq_true (show decide (0<=n/\n<=n' /\n' <=1073741824)=true from hr);unfold vk at hxs;split at hxs
  ·cases hxs;exact key (vM hv) (vM hv') hr'.1 hr'.2.1 hr'.2.2
  ·cases hxs
 ·simp only[cond_true];refine iF λxs hxs=>?_;have hec:a.eval c=a.eval l:=by
   unfold XG at hs;split at hs
   ·have:=jy hs;subst this;rfl
   ·cases hs
  unfold vk at hxs;split at hxs
  ·rename_i hh;cases hxs;exact key (vM hv) (hec.trans (vM hv)) hh.1 (ed _) hh.2
  ·cases hxs
end
end Go.GP
