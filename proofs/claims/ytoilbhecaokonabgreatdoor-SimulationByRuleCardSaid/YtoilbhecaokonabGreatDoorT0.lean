import Derived.ProofKit
import Derived.Below
import Derived.Laws.CopyRow
import Derived.Laws.BytesArg
import Derived.Laws.Cells
import Derived.Laws.Append
import Derived.Laws.Strings
import Derived.Lib.SmallJoins
set_option linter.all false
namespace Go.GP
variable {p:Prop}
theorem o5(h:p:=by omega):p:=h
theorem o7(h:p:=by simp):p:=h
theorem aT(h:p:=by decide):p:=h
theorem dZ(h:p:=by simp;omega):p:=h
theorem F6:True:=trivial
def gV:=@List.take_succ_eq_append_getElem
def U0:=@List.take_append_of_le_length
def N9:=@Array.getD_eq_getD_getElem?
def P8:=@Array.getElem?_eq_some_iff
def fC:=@Array.toList_setIfInBounds
def H6:=@List.getElem?_append_right
def bU:=@Array.getElem?_append_left
def fD:=@List.findSome?_eq_none_iff
def G9:=@List.getElem?_append_left
def Y9:=@List.drop_eq_getElem_cons
def fO:=@List.extract_eq_take_drop
def H8:=@Array.getElem?_eq_getElem
def Y8:=@Classical.byContradiction
def jZ:=@List.pairwise_iff_getElem
def qy:=@List.mem_take_iff_getElem
def gB:=@List.getElem?_take_of_lt
def qQ:=@Option.isSome_iff_exists
def gG:=@List.getElem_append_left
def aC:=@List.getElem?_cons_zero
def J6:=@List.length_eq_zero_iff
def rC:=@List.getElem?_replicate
def bK:=@Option.map_eq_some_iff
def V4:=@List.drop_eq_nil_of_le
def I5:=@List.take_of_length_le
def lC:=@List.pairwise_lt_range
def sD:=@List.getElem?_set_self
def dX:=@List.filter_eq_nil_iff
def W9:=@List.mem_append_right
def J9:=@Nat.le_of_ble_eq_true
def P7:=@Array.getElem?_toList
def bY:=@List.take_append_drop
def iV:=@List.perm_append_comm
def uu:=@List.set_append_right
def iU:=@Array.getElem?_modify
def eH:=@List.getElem?_eq_none
def lS:=@List.length_filter_le
def ut:=@List.countP_le_length
def uq:=@Int.le_ediv_of_mul_le
def G7:=@List.mem_append_left
def I4:=@List.mem_cons_of_mem
def C9:=@Nat.mul_le_mul_right
def jl:=@MapKept.run_checkKey
def uX:=@List.mem_iff_getElem
def uV:=@List.getElem?_zipIdx
def nG:=@List.replicate_succ
def dK:=@List.flatten_append
def gm:=@List.getElem_of_mem
def V8:=@Array.length_toList
def nC:=@List.map_congr_left
def dJ:=@Int.toNat_of_nonneg
def J8:=@List.length_append
def J7:=@List.getElem?_drop
def N7:=@List.getElem?_take
def dU:=@List.mem_cons_self
def kw:=@Option.isSome_none
def E5:=@List.mem_singleton
def xn:=@List.set_cons_zero
def X5:=@Bool.false_eq_true
def bQ:=@Nat.eq_zero_or_pos
def aj:=@List.zip_cons_cons
def ku:=@Nat.lt_of_lt_of_le
def U7:=@List.pairwise_cons
def jY:=@List.filter_append
def xm:=@Int.emod_lt_of_pos
def oC:=@List.countP_append
def oD:=@Option.isSome_some
def F9:=@List.nodup_append
def Y4:=@Bool.not_eq_true'
def O8:=@List.append_assoc
def D9:=@Result.andThen_ok
def D6:=@Option.some.injEq
def bu:=@List.ext_getElem?
def P5:=@List.getElem?_set
def V9:=@List.size_toArray
def O9:=@List.getElem?_map
def yg:=@List.flatMap_cons
def eP:=@List.length_range
def Y5:=@Int.toNat_natCast
def kN:=@List.any_eq_false
def yf:=@Bool.not_eq_false
def yh:=@List.take_add_one
def X7:=@List.mem_flatten
def o6:=@Bool.and_eq_true
def ae:=@List.cons_append
def G6:=@List.length_cons
def jh:=@Array.toList_map
def dE:=@List.ext_getElem
def fG:=@List.range'_succ
def ah:=@List.length_take
def qf:=@List.take_length
def fF:=@List.length_drop
def dF:=@Nat.le_add_right
def lm:=@List.all_eq_true
def af:=@List.getElem_mem
def dG:=@Option.bind_some
def dH:=@Option.getD_some
def lu:=@List.not_mem_nil
def fE:=@List.filter_cons
def pY:=@List.drop_length
def lh:=@Bool.not_eq_true
def lq:=@List.any_eq_true
def qc:=@List.mem_flatMap
def o8:=@List.mem_append
def F7:=@List.append_nil
def aI:=@Nat.le_max_left
def J5:=@List.nil_append
def E8:=@List.cons.injEq
def dP:=@Bool.eq_iff_iff
def dR:=@List.length_nil
def aH:=@List.nodup_cons
def X3:=@Nat.min_eq_left
def gI:=@List.map_append
def qP:=@Int.natCast_mul
def U6:=@List.foldl_cons
def lT:=@List.length_set
def I9:=@List.length_map
def bZ:=@Option.map_some
def dV:=@List.range_succ
def gz:=@Bool.or_eq_true
def J4:=@List.mem_filter
def gJ:=@Option.some.inj
def zM:=@List.any_append
def zN:=@Option.map_none
def zK:=@Int.emod_nonneg
def bI:=@List.drop_take
def aQ:=@List.take_take
def O5:=@List.drop_drop
def U5:=@List.nodup_nil
def jP:=@List.drop_zero
def O6:=@List.mem_range
def o9:=@List.mem_cons
def fP:=@Nat.add_assoc
def bz:=@List.map_cons
def J3:=@List.cons.inj
def iT:=@Addr.mk.injEq
def iW:=@Nat.lt_irrefl
def cu:=@Prod.mk.injEq
def Di:=@Bool.true_and
def Dj:=@List.any_cons
def uo:=@Bool.not_true
def Ef:=@Nat.sub_self
def pF:=@List.map_nil
def N8:=@Sem.run_pure
def D5:=@Sem.run_bind
def Z7:=@Nat.add_zero
def aW:=@Addr.add_lit
def dB:=@Nat.zero_add
def lw:=@List.map_map
def U1:=@List.mem_map
def vM:=@Nat.le_trans
def vN:=@Prod.ext_iff
def A7:=@Nat.le_refl
def D8:=@Nat.add_mul
def di:=@Nat.zero_le
def bH:=@Nat.mul_one
def L9:=@Nat.one_mul
def bF:=@Int.le_refl
def iO:=@Nat.le_succ
def aF:=@Nat.blt_eq
def dL:=@Array.ext'
def IE:=@Int.not_lt
def IC:=@Int.not_le
def iK:=@Prod.ext
variable {i:Nat}
theorem Z5{α:Type _}{l:List α}{a:α} :l[i]? =some a↔∃h:i<l.length,l[i]=a:=List.getElem?_eq_some_iff
theorem kG{α:Type _}{l:List α}(h:i<l.length):l[i]? =some l[i]:=List.getElem?_eq_getElem h
theorem bT{n m:Nat}(h:Nat.beq n m=true):n=m:=Nat.eq_of_beq_eq_true h
theorem BH{α:Type _}{l:List α}{a:α}(h:l[i]? =some a):a∈l:=List.mem_of_getElem? h
theorem zi{α:Type _}{l:List α}{a:α} :l.getD i a=l[i]?.getD a:=List.getD_eq_getElem?_getD
universe u
set_option linter.unusedVariables false
inductive Ty where
 |bool|int (k:IntKind)|str|sl (t:Ty)|prod (a b:Ty)|unit|ent (ka va:Bool) (k v:Ty)
def tbb(a b:Bool):Bool:=bif a then b else !b
theorem Ul:∀{a b:Bool},tbb a b=true->a=b:=by decide
theorem RG:∀(a:Bool),tbb a a=true:=by decide
def Ty.beq:Ty->Ty->Bool
 | .bool,b=>match b with| .bool=>true|_=>false
 | .int k,b=>match b with| .int k' =>decide (k=k')|_=>false
 | .str,b=>match b with| .str=>true|_=>false
 | .sl t,b=>match b with| .sl u=>Ty.beq t u|_=>false
 | .prod p q,b=>match b with| .prod p' q' =>bif Ty.beq p p' then Ty.beq q q' else false|_=>false
 | .unit,b=>match b with| .unit=>true|_=>false
 | .ent x y p q,b=>match b with| .ent x' y' p' q' =>bif tbb x x' &&tbb y y' then(bif Ty.beq p p' then Ty.beq q q' else false)else false|_=>false
theorem Ty.beq_eq:∀{a b:Ty},Ty.beq a b=true->a=b
 | .bool,b,h=>by cases b<;>first|rfl|cases h
 | .int k,b,h=>by cases b<;>first|(cases h;done)|(rename_i k';have:=of_decide_eq_true (show decide (k=k')=true from h);subst this;rfl)
 | .str,b,h=>by cases b<;>first|rfl|cases h
 | .sl t,b,h=>by cases b<;>first|(cases h;done)|(rename_i u;have:=Ty.beq_eq (show Ty.beq t u=true from h);subst this;rfl)
 | .prod p q,b,h=>by
  cases b<;>try (cases h;done)
  rename_i p' q';cases hp:Ty.beq p p'
  .have h' :(bif Ty.beq p p' then Ty.beq q q' else false)=true:=h;rw[hp]at h';cases h'
  .have h' :(bif Ty.beq p p' then Ty.beq q q' else false)=true:=h;rw[hp]at h';rw[Ty.beq_eq hp,Ty.beq_eq (show Ty.beq q q' =true from h')]
 | .unit,b,h=>by cases b<;>first|rfl|cases h
 | .ent x y p q,b,h=>by
  cases b<;>try (cases h;done)
  rename_i x' y' p' q';have h0:(bif tbb x x' &&tbb y y' then(bif Ty.beq p p' then Ty.beq q q' else false)else false)=true:=h;cases hx:tbb x x'<;>cases hy:tbb y y'<;>rw[hx,hy]at h0<;>try (cases h0;done)
  cases hp:Ty.beq p p'<;>rw[hp]at h0
  .cases h0
  .rw[Ul hx,Ul hy,Ty.beq_eq hp,Ty.beq_eq (show Ty.beq q q' =true from h0)]
theorem Ty.beq_refl:∀(a:Ty),Ty.beq a a=true
 | .bool=>rfl| .int k=>by show decide (k=k)=true;simp| .str=>rfl| .sl t=>Ty.beq_refl t| .prod p q=>by show(bif Ty.beq p p then Ty.beq q q else false)=true;rw[Ty.beq_refl p,Ty.beq_refl q];rfl| .unit=>rfl| .ent x y p q=>by show(bif tbb x x&&tbb y y then(bif Ty.beq p p then Ty.beq q q else false)else false)=true;rw[RG,RG,Ty.beq_refl p,Ty.beq_refl q];rfl
instance:DecidableEq Ty:=λa b=>match h:Ty.beq a b with
 |true=> .isTrue (Ty.beq_eq h)|false=> .isFalse (λe=>by subst e;rw[Ty.beq_refl]at h;cases h)
@[reducible] def Ty.den:Ty->Type
 | .bool=>Bool| .int _=>Int| .str=>List UInt8| .sl t=>List t.den| .prod a b=>a.den×b.den| .unit=>Unit| .ent _ _ a b=>a.den×b.den
def Ty.isEnt:Ty->Bool| .ent ..=>true|_=>false
def Ty.size:Ty->Nat
 | .bool| .int _| .str| .sl _=>1| .prod a b=>a.size+b.size| .unit=>0| .ent _ _ a b=>a.size+b.size
def Ty.flat:Ty->Bool
 | .bool| .int _| .str| .unit=>true| .sl _=>false| .prod a b=>a.flat&&b.flat
 | .ent ..=>false
def Ty.zero:(t:Ty)->t.den
 | .bool=>false| .int _=>(0:Int)| .str=>[]| .sl _=>[]| .prod a b=>(a.zero,b.zero)| .unit=>()| .ent _ _ a b=>(a.zero,b.zero)
inductive M where
 |dat (t:Ty)|own (t:Ty)|pair (a b:M)|unit|box (m:M)
 |owns (el:M)|ownb (t:Ty)|rp (t:Ty)|fn (f:Nat) (ts:List Ty)|ifc (t:Nat) (m:M)|cell (n:Option (Option Bool))|fr (t:Ty)
def M.beq:M->M->Bool
 | .dat t,b=>match b with| .dat u=>Ty.beq t u|_=>false
 | .own t,b=>match b with| .own u=>Ty.beq t u|_=>false
 | .pair p q,b=>match b with| .pair p' q' =>bif M.beq p p' then M.beq q q' else false|_=>false
 | .unit,b=>match b with| .unit=>true|_=>false
 | .owns m,b=>match b with| .owns m' =>M.beq m m'|_=>false
 |_,_=>false
theorem M.beq_eq:∀{a b:M},M.beq a b=true->a=b
 | .dat t,b,h=>by cases b<;>first|(cases h;done)|(rename_i u;have:=Ty.beq_eq (show Ty.beq t u=true from h);subst this;rfl)
 | .own t,b,h=>by cases b<;>first|(cases h;done)|(rename_i u;have:=Ty.beq_eq (show Ty.beq t u=true from h);subst this;rfl)
 | .pair p q,b,h=>by
  cases b<;>try (cases h;done)
  rename_i p' q';cases hp:M.beq p p'
  .have h' :(bif M.beq p p' then M.beq q q' else false)=true:=h;rw[hp]at h';cases h'
  .have h' :(bif M.beq p p' then M.beq q q' else false)=true:=h;rw[hp]at h';rw[M.beq_eq hp,M.beq_eq (show M.beq q q' =true from h')]
 | .unit,b,h=>by cases b<;>first|rfl|cases h
 | .owns m,b,h=>by cases b<;>first|(cases h;done)|(rename_i u;have:=M.beq_eq (show M.beq m u=true from h);subst this;rfl)
 | .box _,b,h=>by cases h| .ownb _,b,h=>by cases h| .rp _,b,h=>by cases h| .fn _ _,b,h=>by cases h| .ifc _ _,b,h=>by cases h| .cell _,b,h=>by cases h| .fr _,b,h=>by cases h
@[reducible] def Gy:List Ty->Type
 |[]=>Unit|[t]=>t.den|t::t' ::r=>t.den×Gy (t' ::r)
@[reducible] def M.den:M->Type
 | .dat t=>t.den| .own t=>List t.den| .pair a b=>a.den×b.den| .unit=>Unit| .box m=>m.den| .owns el=>List el.den| .ownb t=>List t.den| .rp t=>t.den| .fn _ ts=>Gy ts| .ifc _ m=>m.den| .cell _=>Unit| .fr t=>List t.den
def M.size:M->Nat
 | .dat t=>t.size| .own _=>1| .pair a b=>a.size+b.size| .unit=>0| .box _=>1| .owns _| .ownb _| .rp _| .fn _ _| .ifc _ _| .cell _| .fr _=>1
def M.el:M->Bool
 | .unit=>true| .dat t| .own t=> !t.isEnt| .owns m=>m.el| .pair a b=>a.el&&b.el|_=>false
def M.ty:M->Ty
 | .dat t=>t| .own t=> .sl t| .owns m=> .sl m.ty| .pair a b=> .prod a.ty b.ty|_=> .unit
theorem M.denEq:∀(m:M),m.el=true->m.den=m.ty.den
 | .dat _,_=>rfl| .own _,_=>rfl| .unit,_=>rfl| .owns m,h=>congrArg List (M.denEq m h)| .pair a b,h=>by
  have h' :a.el=true/\b.el=true:=by simpa[M.el]using h
  show(a.den×b.den)=(a.ty.den×b.ty.den);rw[M.denEq a h'.1,M.denEq b h'.2]
 | .box _,h=>by simp[M.el]at h| .ownb _,h=>by simp[M.el]at h| .rp _,h=>by simp[M.el]at h| .fn _ _,h=>by simp[M.el]at h| .ifc _ _,h=>by simp[M.el]at h| .cell _,h=>by simp[M.el]at h| .fr _,h=>by simp[M.el]at h
def M.zero:(m:M)->m.el=true->m.den
 |m,h=>cast (M.denEq m h).symm m.ty.zero
abbrev MG:=Bool×M
@[reducible] def bC:List MG->Type
 |[]=>Unit|[m]=>m.2.den|m::m' ::r=>m.2.den×bC (m' ::r)
inductive V where
 |undef
 |un
 |b (x:Bool)|i (k:IntKind) (n:Int)|s (l:List UInt8)
 |nl
 |sl (t:Ty) (xs:List t.den)
 |own (bx:Nat) (vw:Option (Nat×Nat))
 |ptr (bx off:Nat)
 |ep (bx idx off:Nat)
 |dp (t:Ty) (x:t.den) (off:Nat)
 |agg (cs:List V)|tup (cs:List V)
 |glob (g:Nat)|fnv (f:Nat)|clos (f:Nat) (caps:List ((t:Ty)×t.den))|ifc (t:Nat) (v:V)
 |bcells (cs:List V)|barr (t:Ty) (xs:List t.den)|bfrz (t:Ty) (xs:List t.den)|biter (l:List UInt8) (pos:Nat)
 |barrs (el:M) (xs:List el.den) (hole:Option (Nat×Nat×Option Nat))|bfc (t:Ty) (x:t.den)
 |dead|gone (t:Ty)|blen (n:Int) (sz:Nat)
 |ne (b:Bool)
variable {α:Type}{β:Type}
def l9(o:Option α)(f:α->Option β):Option β:=match o with|some x=>f x|none=>none
def l7(b:Bool)(x y:α):α:=match b with|true=>x|false=>y
def I7(a b:Int):Bool:=decide (a<b)
def Y2(a b:Int):Bool:=decide (a<=b)
def x8(a b:Int):Bool:=decide (a=b)
def qY(a b:Bool):Bool:=a==b
def G5(a:Bool):Bool:=!a
def V7(a b:Bool):Bool:=a&&b
def seq(a b:List UInt8):Bool:=decide (a=b)
def slt(a b:List UInt8):Bool:=Op.bytesLess a b
def wrap(k:IntKind)(n:Int):Int:=k.wrap n
def D7(k:IntKind)(a b:Int):Int:=k.wrap (a+b)
def O0(k:IntKind)(a b:Int):Int:=k.wrap (a -b)
def ji(k:IntKind)(a b:Int):Int:=k.wrap (a*b)
def jk(k:IntKind)(a b:Int):Int:=k.wrap (a.tdiv b)
def pz(a b:Int):Int:=a.tmod b
def Na(k:IntKind)(a b:Int):Option Int:=if b=0 then none else some (k.wrap (a.tdiv b))
def UN(a b:Int):Option Int:=if b=0 then none else some (a.tmod b)
def We(k:IntKind)(a b:Int):Int:=k.wrap (BitVec.ofInt k.bits a&&& BitVec.ofInt k.bits b).toNat
def ior(k:IntKind)(a b:Int):Int:=k.wrap (BitVec.ofInt k.bits a ||| BitVec.ofInt k.bits b).toNat
def XL(k:IntKind)(a b:Int):Int:=k.wrap (BitVec.ofInt k.bits a^^^BitVec.ofInt k.bits b).toNat
def UL(k:IntKind)(a b:Int):Int:=k.wrap (BitVec.ofInt k.bits a&&& ~~~(BitVec.ofInt k.bits b)).toNat
def a0h(k:IntKind)(a b:Int):Int:=k.wrap (a*2^(min b.toNat k.bits))
def lg(k:IntKind)(a b:Int):Int:=a.fdiv (2^(min b.toNat k.bits))
def Qk(k:IntKind)(a b:Int):Option Int:=if b<0 then none else some (a0h k a b)
def UO(k:IntKind)(a b:Int):Option Int:=if b<0 then none else some (lg k a b)
def zG(a b:Int):Int:=if b<a then b else a
def ul(a b:Int):Int:=if a<b then b else a
def x9(l:List α):Int:=l.length
def kH(a b:List UInt8):Option (List UInt8):=if a.length+b.length<=4611686018427387904 then some (a++b)else none
def a0k(a b:Nat):Bool:=Nat.beq a b
def inb(i n:Int):Bool:=decide (0<=i/\i<n)
def H9(l:List α)(i:Int):Option α:=if 0<=i then l[i.toNat]? else none
def sat(l:List UInt8)(i:Int):Option Int:=if 0<=i then(l[i.toNat]?).map (λc=>(c.toNat:Int))else none
def Y6(l:List α)(i:Nat):Option α:=l[i]?
def aU(l:List α)(i:Nat)(x:α):List α:=l.set i x
def rD(l:List α)(lo hi:Int):Option (List α):=if 0<=lo/\lo<=hi/\hi<=l.length then some ((l.take hi.toNat).drop lo.toNat)else none
def oG(l:List α)(lo hi:Nat):List α:=(l.take hi).drop lo
def uP(lo hi n:Int):Bool:=decide (0<=lo/\lo<=hi/\hi<=n)
def BX(xs ys:List α):List α:=ys.take xs.length++xs.drop ys.length
def dD(xs ys:List α):Option (List α):=if xs.length+ys.length<=1073741824 then some (xs++ys)else none
def uz(n:Int)(x:α):Option (List α):=if 0<=n/\n<=1073741824 then some (List.replicate n.toNat x)else none
def Y7(i:Int):Nat:=i.toNat
def a9x(n:Int):UInt8:=UInt8.ofNat n.toNat
def VN(l:List Int):List UInt8:=l.map a9x
def zU(l:List UInt8):List Int:=l.map λc=>(c.toNat:Int)
def Ac{α β:Type}(eq:α->α->Bool):List (α×β)->α->β->β
 |[],_,z=>z|p::r,k,z=>bif eq k p.1 then p.2 else Ac eq r k z
def Ad{α β:Type}(eq:α->α->Bool):List (α×β)->α->Bool
 |[],_=>false|p::r,k=>bif eq k p.1 then true else Ad eq r k
def Cf{α β:Type}(eq:α->α->Bool):List (α×β)->α->β->List (α×β)
 |[],k,x=>[(k,x)]|p::r,k,x=>bif eq k p.1 then(k,x)::r else p::Cf eq r k x
def oM(eq:α->α->Bool)(l:List (α×β))(k:α)(z:β):β:=Ac eq l k z
def IJ(eq:α->α->Bool)(l:List (α×β))(k:α):Bool:=Ad eq l k
def Du(eq:α->α->Bool)(l:List (α×β))(k:α)(x:β):List (α×β):=Cf eq l k x
def keq:(t:Ty)->t.den->t.den->Bool
 | .bool=>λa b=>qY a b
 | .int _=>λa b=>x8 a b
 | .str=>λa b=>seq a b
 | .prod p q=>λa b=>V7 (keq p a.1 b.1) (keq q a.2 b.2)
 |_=>λ_ _=>true
def a0b{α:Type}(eq:α->α->Bool):List α->List α->Bool
 |[],[]=>true|a::r,b::q=>eq a b&&a0b eq r q|_,_=>false
def Jy:(t:Ty)->t.den->t.den->Bool
 | .bool=>λa b=>tbb a b
 | .int _=>λa b=>decide (a=b)
 | .str=>λa b=>decide (a=b)
 | .sl t=>λa b=>a0b (Jy t) a b
 | .prod p q=>λa b=>Jy p a.1 b.1&&Jy q a.2 b.2
 | .unit=>λ_ _=>true
 | .ent _ _ p q=>λa b=>Jy p a.1 b.1&&Jy q a.2 b.2
def deq(t:Ty)(a b:t.den):Bool:=Jy t a b
inductive Out (σ ε ρ:Type) where
 |nx (s:σ)|ex (e:ε)|rt (r:ρ)
variable {σ:Type}{ε:Type}
def aN(o:σ⊕ε)(f:σ->α)(g:ε->α):α:=match o with| .inl s=>f s| .inr e=>g e
def qh{σ ε ρ:Type}(f:σ->Option (Out σ ε ρ)):Nat->σ->Option (ε⊕ρ)
 |0,_=>none
 |n+1,s=>match f s with
  |some (.nx s')=>qh f n s'|some (.ex e)=>some (.inl e)|some (.rt r)=>some (.inr r)|none=>none
def Dk{σ ε:Type}(f:σ->Option (σ⊕ε)):Nat->σ->Option ε
 |0,_=>none
 |n+1,s=>match f s with
  |some (.inl s')=>Dk f n s'|some (.inr e)=>some e|none=>none
def lF:Nat:=18446744073709551616
variable {ρ:Type}
def ak(f:σ->Option (Out σ ε ρ))(s:σ):Option (ε⊕ρ):=qh f lF s
def aX(f:σ->Option (σ⊕ε))(s:σ):Option ε:=Dk f lF s
inductive Cmd (α:Type):Type 1 where
 |ret (x:α)
 |fail
 |get (k:Nat) (c:V->Cmd α)
 |set (k:Nat) (v:V) (c:Cmd α)
 |opt {β:Type} (o:Option β) (c:β->Cmd α)
 |br (b:Bool) (c d:Cmd α)
inductive Ent where
 |kv (k:Nat) (v:V)|mask (lo hi:Nat)
abbrev St:=List Ent
def ai:St->Nat->V
 |[],_=> .undef| .kv k v::r,n=>bif Nat.beq k n then v else ai r n| .mask lo hi::r,n=>bif Nat.ble lo n&&Nat.blt n hi then .undef else ai r n
abbrev Tr:=List Nat×List Nat
variable {R:Type}
def V.force(v:V)(K:V->R):R:=
 match v with
 | .undef=>K .undef| .un=>K .un| .b x=>K (.b x)
 | .i k n=>match k with
  | .i8=>K (.i .i8 n)| .i16=>K (.i .i16 n)| .i32=>K (.i .i32 n)| .i64=>K (.i .i64 n)| .u8=>K (.i .u8 n)| .u16=>K (.i .u16 n)| .u32=>K (.i .u32 n)| .u64=>K (.i .u64 n)
 | .s l=>K (.s l)| .nl=>K .nl| .ne z=>K (.ne z)| .sl t xs=>K (.sl t xs)
 | .own bx vw=>match vw with|none=>K (.own bx none)|some p=>K (.own bx (some p))
 | .ptr bx off=>K (.ptr bx off)| .ep bx idx off=>K (.ep bx idx off)| .dp t x off=>K (.dp t x off)| .agg cs=>K (.agg cs)| .tup cs=>K (.tup cs)| .glob g=>K (.glob g)| .fnv f=>K (.fnv f)| .clos f bs=>K (.clos f bs)
 | .ifc t v=>v.force λv=>K (.ifc t v)
 | .barrs t xs h=>match h with|none=>K (.barrs t xs none)|some (p1,p2,p3)=>match p3 with|none=>K (.barrs t xs (some (p1,p2,none)))|some p3=>K (.barrs t xs (some (p1,p2,some p3)))
 | .bfc t x=>K (.bfc t x)| .bcells cs=>K (.bcells cs)| .barr t xs=>K (.barr t xs)| .bfrz t xs=>K (.bfrz t xs)| .biter l p=>K (.biter l p)| .dead=>K .dead| .gone t=>K (.gone t)| .blen n sz=>K (.blen n sz)
def FK{R:Type} :List V->(List V->R)->R
 |[],K=>K []
 |v::r,K=>v.force λv' =>FK r λr' =>K (v' ::r')
def V.force2(v:V)(K:V->R):R:=
 v.force λv=>match v with
  | .agg cs=>FK cs λcs=>K (.agg cs)
  | .bcells cs=>FK cs λcs=>K (.bcells cs)
  | .tup cs=>FK cs λcs=>K (.tup cs)|v=>K v
def Cmd.runK :Cmd α->St->Tr->(α->St->Tr->Option R)->Option R
 | .ret x,s,t,K=>K x s t| .fail,_,_,_=>none
 | .get k c,s,t,K=>(ai s k).force λv=>(c v).runK s (k::t.1,t.2) K
 | .set k v c,s,t,K=>v.force2 λv=>c.runK (.kv k v::s) (t.1,k::t.2) K
 | .opt o c,s,t,K=>l9 o λx=>(c x).runK s t K| .br b c d,s,t,K=>l7 b (c.runK s t K) (d.runK s t K)
def Cmd.bind :Cmd α->(α->Cmd β)->Cmd β
 | .ret x,f=>f x| .fail,_=> .fail
 | .get k c,f=> .get k λv=>(c v).bind f| .set k v c,f=> .set k v (c.bind f)
 | .opt o c,f=> .opt o λx=>(c x).bind f| .br b c d,f=> .br b (c.bind f) (d.bind f)
inductive TD where
 |bool|int (k:IntKind)|str
 |sl (elem:Nat)|ptr (elem:Nat)
 |struct (fs:List (Nat×Nat))
 |arr (n elem:Nat)
 |map (key elem:Nat)
 |other
structure TI where
 size:Nat
 bytes:Nat
 td:TD
 ty:Option Ty
 zero:List V
def Z4{α:Type} :List (Nat×α)->Nat->Option α
 |[],_=>none|(k,v)::r,n=>bif Nat.beq k n then some v else Z4 r n
structure FSpec where
 ps:List MG
 rs:List MG
 outs:List MG
 fn:bC ps->Option (bC (rs++outs))
structure Env where
 nt:Nat
 eqs:List (Nat×List Ty)
 tt:List (Nat×TI)
 gl:List (Nat×(t:Ty)×List t.den)
 fs:List (Nat×FSpec)
 om:List (Nat×M):=[]
 tk:List Nat:=[]
 ms:List ((Nat×String)×Nat×Option Nat):=[]
 kp:List Nat:=[]
 rc:List Nat:=[]
abbrev S9:Nat:=1000000
abbrev CB:Nat:=1000000
abbrev EW:Nat:=1000000000000
def Ty.castL{R:Type u}(a b:Ty)(xs:List a.den)(k:List b.den->R)(f:R):R:=if h:a=b then k (h▸xs)else f
def MJ{R:Type u}(a b:Ty)(x:a.den)(k:b.den->R)(f:R):R:=if h:a=b then k (h▸x)else f
def flat:(t:Ty)->t.den->List V->List V
 | .bool,x,r=> .b x::r| .int k,n,r=> .i k n::r| .str,l,r=> .s l::r| .sl t,xs,r=> .sl t xs::r| .prod a b,x,r=>flat a x.1 (flat b x.2 r)| .unit,_,r=>r| .ent _ _ a b,x,r=>flat a x.1 (flat b x.2 r)
def cZ(vw:Option (Nat×Nat))(xs:List α):List α:=match vw with|none=>xs|some (lo,hi)=>oG xs lo hi
def yO:(m:M)->m.den->List V->List V
 | .dat t,x,r=>flat t x r| .pair a b,x,r=>yO a x.1 (yO b x.2 r)| .unit,_,r=>r|_,_,r=> .undef::r
def UD{R:Type u}(a b:M)(xs:List a.den)(k:List b.den->R)(f:R):R:=match h:M.beq a b with
 |true=>k (M.beq_eq h▸xs)|false=>f
def SQ{R:Type u}(m:M)(t:Ty)(xs:List m.den)(k:List t.den->R)(f:R):R:=
 if h:m.el=true/\m.ty=t then k (cast (congrArg List ((M.denEq m h.1).trans (congrArg Ty.den h.2))) xs)else f
def M.owned:M->List Ty
 | .own t=>[t]| .owns m=>m.ty::m.owned| .pair a b=>a.owned++b.owned|_=>[]
def PL(ln:Ty->Bool):List Ty->Bool|[]=>true|t::r=>bif ln t then PL ln r else false
def iw{α:Type}(ln:Ty->Bool):(t:Ty)->List V->(t.den->List V->Cmd α)->Cmd α
 | .bool,cs,K=>match cs with| .b x::r=>K x r|_=> .fail
 | .int k,cs,K=>match cs with| .i k' n::r=>(bif decide (k=k')then K n r else Cmd.fail)|_=> .fail
 | .str,cs,K=>match cs with| .s l::r=>K l r|_=> .fail
 | .prod a b,cs,K=>iw ln a cs λx r=>iw ln b r λy r' =>K (x,y) r'| .unit,cs,K=>K () cs| .ent ..,_,_=> .fail
 | .sl t,cs,K=>match cs with
  | .nl::r=>bif t.isEnt then .fail else K [] r| .sl t' xs::r=>Ty.castL t' t xs (λys=>K ys r) Cmd.fail
  | .own bx vw::r=> .get (S9+bx) λ
   | .barr t' xs=>Ty.castL t' t xs (λys=>bif ln t then K (cZ vw ys) r else Cmd.set (S9+bx) (.bfrz t ys) (K (cZ vw ys) r)) Cmd.fail| .bfrz t' xs=>Ty.castL t' t xs (λys=>K (cZ vw ys) r) Cmd.fail| .barrs el xs none=>SQ el t xs (λys=>bif ln t&&PL ln el.owned then K (cZ vw ys) r else Cmd.set (S9+bx) (.bfrz t ys) (K (cZ vw ys) r)) Cmd.fail|_=> .fail
  |_=> .fail
def pU:Ty->Bool:=λ_=>false
def QJ(t:Ty)(v:V)(K:List t.den->Cmd α):Cmd α:=match v with
 | .nl=>bif t.isEnt then .fail else K []| .ne _=>bif t.isEnt then .fail else K []| .sl t' xs=>Ty.castL t' t xs K Cmd.fail
 | .own bx vw=> .get (S9+bx) λ
  | .barr t' xs=>Ty.castL t' t xs (λys=>K (cZ vw ys)) Cmd.fail| .bfrz t' xs=>Ty.castL t' t xs (λys=>K (cZ vw ys)) Cmd.fail|_=> .fail
 |_=> .fail
def rpC(t:Ty)(v:V)(K:t.den->Cmd α):Cmd α:=match v with
 | .dp t' x 0=>MJ t' t x K .fail
 | .ptr bx 0=> .get (S9+bx) λ
  | .bfc t' x=>MJ t' t x K .fail
  | .bcells bs=>iw pU t bs λx q=>(match q with
   |[]=> .get (S9+bx) λ
    | .bcells _=>Cmd.set (S9+bx) (.bfc t x) (K x)|_=> .fail
   |_=> .fail)
  |_=> .fail
 |_=> .fail
def CV{α:Type} :(ts:List Ty)->List ((t:Ty)×t.den)->(Gy ts->Cmd α)->Cmd α
 |[],cs,K=>match cs with|[]=>K ()|_=> .fail
 |[t],cs,K=>match cs with|[⟨t',x⟩]=>MJ t' t x K .fail|_=> .fail
 |t::t' ::r,cs,K=>match cs with
  |⟨u,x⟩::cs=>MJ u t x (λx=>CV (t' ::r) cs λy=>K (x,y)) .fail|[]=> .fail
def Gw:(ts:List Ty)->Gy ts->List ((t:Ty)×t.den)
 |[],_=>[]|[t],x=>[⟨t,x⟩]|t::t' ::r,x=>⟨t,x.1⟩::Gw (t' ::r) x.2
def exM{α:Type}(ln:Ty->Bool):(m:M)->List V->(m.den->List V->Cmd α)->Cmd α
 | .dat t,cs,K=>iw ln t cs K
 | .own t,cs,K=>match cs with
  | .nl::r=>bif t.isEnt then .fail else K [] r
  | .own bx vw::r=> .get (S9+bx) λ
   | .barr t' xs=>Ty.castL t' t xs (λys=>Cmd.set (S9+bx) .dead (K (cZ vw ys) r)) Cmd.fail|_=> .fail
  |_=> .fail
 | .pair a b,cs,K=>exM pU a cs λx r=>exM pU b r λy r' =>K (x,y) r'| .unit,cs,K=>K () cs
 | .box m,cs,K=>match cs with
  | .ptr bx 0::r=> .get (S9+bx) λ
   | .bcells bs=>Cmd.set (S9+bx) .dead (exM pU m bs λx q=>match q with|[]=>K x r|_=> .fail)|_=> .fail
  |_=> .fail
 | .owns m,cs,K=>match cs with
  | .nl::r=>bif m.el then K [] r else .fail
  | .own bx none::r=> .get (S9+bx) λ
   | .barrs m' xs none=>UD m' m xs (λys=>Cmd.set (S9+bx) .dead (K ys r)) Cmd.fail|_=> .fail
  |_=> .fail
 | .ownb t,cs,K=>match cs with
  | .nl::r=>bif t.isEnt then .fail else K [] r
  | .own bx none::r=> .get (S9+bx) λ
   | .barr t' xs=>Ty.castL t' t xs (λys=>Cmd.set (S9+bx) (.gone t) (K ys r)) Cmd.fail|_=> .fail
  |_=> .fail
 | .rp t,cs,K=>match cs with
  |v::r=>rpC t v λx=>K x r|_=> .fail
 | .fn f ts,cs,K=>match cs with
  | .clos g caps::r=>bif Nat.beq g f then CV ts caps λx=>K x r else .fail
  | .fnv g::r=>bif Nat.beq g f then CV ts [] λx=>K x r else .fail|_=> .fail
 | .ifc t m,cs,K=>match cs with
  | .ifc t' v::r=>bif Nat.beq t' t then exM pU m [v] λx q=>(match q with|[]=>K x r|_=> .fail)else .fail|_=> .fail
 | .cell (some none),cs,K=>match cs with
  | .nl::r=>K () r|_=> .fail
 | .cell (some (some b)),cs,K=>match cs with
  | .ne true::r=>bif b then K () r else .fail| .ne false::r=>bif b then .fail else K () r|_=> .fail
 | .cell none,cs,K=>match cs with
  |_::r=>K () r|_=> .fail
 | .fr t,cs,K=>match cs with
  | .nl::r=>bif t.isEnt then .fail else K [] r
  | .own bx none::r=> .get (S9+bx) λ
   | .barr t' xs=>Ty.castL t' t xs (λys=>Cmd.set (S9+bx) (.bfrz t ys) (K ys r)) Cmd.fail| .bfrz t' xs=>Ty.castL t' t xs (λys=>K ys r) Cmd.fail|_=> .fail
  |_=> .fail
def cellsOf(v:V):List V:=match v with| .agg cs=>cs|v=>[v]
def mY(n:Nat)(v:V)(K:Cmd α):Cmd α:=.get (S9+n) λ
 | .undef=> .set (S9+n) v K|_=> .fail
def emM{α:Type} :(m:M)->m.den->Nat->List V->(List V->Nat->Cmd α)->Cmd α
 | .dat t,x,n,r,K=>K (flat t x r) n| .own t,xs,n,r,K=>mY n (.barr t xs) (K (.own n none::r) (n+1))
 | .pair a b,x,n,r,K=>emM b x.2 n r λr' n' =>emM a x.1 n' r' K| .unit,_,n,r,K=>K r n
 | .box m,x,n,r,K=>emM m x (n+1) [] λcs n' =>mY n (.bcells cs) (K (.ptr n 0::r) n')| .owns m,xs,n,r,K=>mY n (.barrs m xs none) (.set (S9+(EW+n)) (.blen (x9 xs) m.size) (K (.own n none::r) (n+1)))| .ownb t,xs,n,r,K=>mY n (.barr t xs) (K (.own n none::r) (n+1))| .rp t,x,n,r,K=>K (.dp t x 0::r) n| .fn f ts,x,n,r,K=>K (.clos f (Gw ts x)::r) n
 | .ifc t m,x,n,r,K=>emM m x n [] λcs n' =>match cs with|[c]=>K (.ifc t c::r) n'|_=> .fail
 | .cell (some none),_,n,r,K=>K (.nl::r) n| .cell (some (some b)),_,n,r,K=>K (.ne b::r) n| .cell none,_,n,r,K=>K (.undef::r) n| .fr t,xs,n,r,K=>mY n (.bfrz t xs) (K (.own n none::r) (n+1))
structure Sig where
 ms:List (Nat×MG)
 als:List (Nat×Nat)
@[reducible] def jc (s:Sig):Type:=bC (s.ms.map (·.2))
def Jq(ag:Bool)(v:V)(K:List V->Cmd α):Cmd α:=match ag,v with
 |true,.agg cs=>K cs|true,_=> .fail|false,.agg _=> .fail|false,.tup _=> .fail|false,.undef=> .fail|false,.un=> .fail|false,v=>K [v]
def xJ(v:V)(K:List V->Cmd α):Cmd α:=match v with
 | .agg cs=>K cs| .tup _=> .fail| .undef=> .fail| .un=> .fail|v=>K [v]
def M.isDat:M->Bool| .dat _=>true|_=>false
def JE(ln:Ty->Bool)(m:MG)(v:V)(K:m.2.den->Cmd α):Cmd α:=
 Jq m.1 v λcs=>exM ln m.2 cs λx q=>match q with|[]=>K x|_=> .fail
def BN{α:Type}(ln:Ty->Bool):(ms:List MG)->List V->(bC ms->Cmd α)->Cmd α
 |[],vs,K=>match vs with|[]=>K ()|_=> .fail
 |[m],vs,K=>match vs with
  |[v]=>JE ln m v K|_=> .fail
 |m::m' ::r,vs,K=>match vs with
  |v::vs=>bif m.2.isDat then BN ln (m' ::r) vs λy=>JE ln m v λx=>K (x,y)
   else JE ln m v λx=>BN ln (m' ::r) vs λy=>K (x,y)
  |[]=> .fail
def Ol{α:Type} :List Nat->(List V->Cmd α)->Cmd α
 |[],K=>K []
 |s::r,K=>bif Nat.blt s S9 then .get s λv=>Ol r λvs=>K (v::vs)else .fail
def a1C:V->V->Bool
 | .own a none,.own b none=>Nat.beq a b|_,_=>false
def V_{α:Type} :List (Nat×Nat)->Cmd α->Cmd α
 |[],K=>K
 |(n,k)::r,K=>bif Nat.blt n S9&&Nat.blt k S9 then .get n λv=> .get k λu=>bif a1C v u then V_ r K else .fail else .fail
def XF(s:Sig):Cmd (jc s):=V_ s.als (Ol (s.ms.map (·.1)) λvs=>BN pU (s.ms.map (·.2)) vs .ret)
def mkV(ag:Bool)(cs:List V):V:=match ag,cs with|true,cs=> .agg cs|false,[v]=>v|false,_=> .undef
def BM{α:Type} :(ms:List MG)->bC ms->Nat->(List V->Nat->Cmd α)->Cmd α
 |[],_,n,K=>K [] n
 |[m],x,n,K=>emM m.2 x n [] λcs n' =>K [mkV m.1 cs] n'
 |m::m' ::r,x,n,K=>emM m.2 x.1 n [] λcs n' =>BM (m' ::r) x.2 n' λvs n'' =>K (mkV m.1 cs::vs) n''
def Lj:List Nat->List V->Cmd Unit
 |[],[]=> .ret ()|n::ns,v::vs=>bif Nat.blt n S9 then .set n v (Lj ns vs)else .fail|_,_=> .fail
def Jb:List Nat->List V->Cmd Unit->Cmd Unit
 |[],[],K=>K|n::ns,v::vs,K=>bif Nat.blt n S9 then .set n v (Jb ns vs K)else .fail|_,_,_=> .fail
def Ph:List (Nat×Nat)->Cmd Unit
 |[]=> .ret ()
 |(n,k)::r=>bif Nat.blt n S9&&Nat.blt k S9 then .get k λv=> .set n v (Ph r)else .fail
def Xy(s:Sig)(x:jc s)(nb lim:Nat):Cmd Unit:=
 BM (s.ms.map (·.2)) x nb λvs n=>bif Nat.ble n lim then Jb (s.ms.map (·.1)) vs (Ph s.als)else .fail
def SA:Value->V
 | .bool b=> .b b| .int k n=> .i k n| .string s=> .s s.data.toList| .slice none 0 0=> .nl|_=> .undef
def jo(x:Operand)(K:V->Cmd α):Cmd α:=
 match x with
 | .tmp t=>bif Nat.blt t S9 then .get t K else .fail| .const v=>K (SA v)| .global g=>K (.glob g)| .func f=>K (.fnv f)
def Hz{α:Type} :List Operand->(List V->Cmd α)->Cmd α
 |[],K=>K []
 |x::r,K=>jo x λv=>Hz r λvs=>K (v::vs)
def JA(n:Nat)(cs:List V):Option (List V):=match n,cs with
 |0,cs=>some cs|n+1,_::cs=>JA n cs|_+1,[]=>none
def RF{R:Type u}(n:Nat)(cs:List V)(K:List V->R)(f:R):R:=match n,cs with
 |0,_=>K []|n+1,c::cs=>RF n cs (λr=>K (c::r)) f|_+1,[]=>f
def Md{R:Type u}(off n:Nat)(cs:List V)(K:List V->R)(f:R):R:=match JA off cs with|some r=>RF n r K f|none=>f
def FY{R:Type u}(off:Nat)(vs cs:List V)(K:List V->R)(f:R):R:=match off,vs,cs with
 |0,[],cs=>K cs|0,v::vs,_::cs=>FY 0 vs cs (λr=>K (v::r)) f|n+1,vs,c::cs=>FY n vs cs (λr=>K (c::r)) f|_,_,[]=>f
def sS:Operand->Bool
 | .const (.int _ n)=>decide (n=0)|_=>true
def xk:Operand->Bool
 | .const (.int _ n)=>decide (n<0)|_=>true
def eq1:V->V->Option Bool
 | .b x,.b y=>some (qY x y)| .i j x,.i k y=>bif decide (j=k)then some (x8 x y)else none| .s x,.s y=>some (seq x y)|_,_=>none
def oV:List V->List V->Option Bool
 |[],[]=>some true
 |a::r,b::q=>match eq1 a b with
  |none=>none
  |some e=>match r,q with
   |[],[]=>some e|_,_=>(match oV r q with|some e' =>some (V7 e e')|none=>none)
 |_,_=>none
def pM:List Ty->List V->Bool
 |[],[]=>true| .bool::ts,.b _::cs=>pM ts cs| .int k::ts,.i k' _::cs=>decide (k=k')&&pM ts cs| .str::ts,.s _::cs=>pM ts cs|_,_=>false
def uB(n:Nat):List Nat->Bool|[]=>false|k::r=>bif Nat.beq k n then true else uB n r
def Ye(E:Env)(t:Nat)(op:BinOp)(b:Bool)(K:V->Cmd α):Cmd α:=
 match Z4 E.tt t with
 |some i=>match i.td,op with
  | .sl _,.eql=>K (.b b)| .sl _,.neq=>K (.b (G5 b))|_,_=> .fail
 |none=> .fail
def zu(E:Env)(t:Nat)(op:BinOp)(yc:Operand)(x y:V)(K:V->Cmd α):Cmd α:=
 match x,y with
 | .i k a,.i k' b=>
  match op with
  | .shl=>bif xk yc then Cmd.opt (Qk k a b) λr=>K (.i k r)else K (.i k (a0h k a b))
  | .shr=>bif xk yc then Cmd.opt (UO k a b) λr=>K (.i k r)else K (.i k (lg k a b))|_=>
  bif decide (k=k')then
   match op with
   | .add=>K (.i k (D7 k a b))| .sub=>K (.i k (O0 k a b))| .mul=>K (.i k (ji k a b))
   | .quo=>bif sS yc then Cmd.opt (Na k a b) λr=>K (.i k r)else K (.i k (jk k a b))
   | .rem=>bif sS yc then Cmd.opt (UN a b) λr=>K (.i k r)else K (.i k (pz a b))| .and=>K (.i k (We k a b))| .or=>K (.i k (ior k a b))| .xor=>K (.i k (XL k a b))| .andNot=>K (.i k (UL k a b))| .eql=>K (.b (x8 a b))| .neq=>K (.b (G5 (x8 a b)))| .lss=>K (.b (I7 a b))| .leq=>K (.b (Y2 a b))| .gtr=>K (.b (I7 b a))| .geq=>K (.b (Y2 b a))|_=> .fail
  else .fail
 | .s a,.s b=>
  match op with
  | .add=>Cmd.opt (kH a b) λr=>K (.s r)| .eql=>K (.b (seq a b))| .neq=>K (.b (G5 (seq a b)))| .lss=>K (.b (slt a b))|_=> .fail
 | .b a,.b b=>
  match Z4 E.tt t with
  |some i=>match i.td,op with
   | .bool,.eql=>K (.b (qY a b))| .bool,.neq=>K (.b (G5 (qY a b)))|_,_=> .fail
  |none=> .fail
 | .agg xs,.agg ys=>
  match Z4 E.eqs t with
  |some sh=>bif pM sh xs&&pM sh ys then(match op,oV xs ys with
   | .eql,some e=>K (.b e)| .neq,some e=>K (.b (G5 e))
   |_,_=> .fail)else .fail
  |none=> .fail
 | .nl,.nl=>Ye E t op true K| .ne b,.nl=>Ye E t op b K| .sl u xs,.nl=>bif u.isEnt then .fail else .br (x8 (x9 xs) 0) .fail (Ye E t op false K)|_,_=> .fail
def unC(op:UnOp)(x:V)(K:V->Cmd α):Cmd α:=
 match op,x with
 | .neg,.i k a=>K (.i k (O0 k 0 a))| .xor,.i k a=>K (.i k (XL k (bif k.signed then -1 else k.max) a))| .not,.b a=>K (.b (G5 a))|_,_=> .fail
def Nw(E:Env)(t:Nat):Bool:=bif Nat.blt t E.nt then !(uB t E.kp)else false
def ax(E:Env)(d:Option Tmp)(v:V):Cmd Unit:=match d with|some t=>bif Nw E t then .set t v (.ret ())else .fail|none=> .ret ()
def H5(q:Nat)(d:Option Tmp):Nat:=match d with|some t=>CB*q+64*t|none=>CB*q+999936
def tiC(E:Env)(t:Nat)(K:TI->Cmd α):Cmd α:=match Z4 E.tt t with|some i=>K i|none=> .fail
def U8:TD->Bool| .struct _| .arr _ _=>true|_=>false
def Cc(E:Env)(t:Nat)(p:V)(K:V->Cmd α):Cmd α:=
 tiC E t λi=>match p with
 | .ptr bx off=> .get (S9+bx) λ
  | .bcells cs=>Md off i.size cs (λr=>K (mkV (U8 i.td) r)) Cmd.fail| .bfc u x=>Md off i.size (flat u x []) (λr=>K (mkV (U8 i.td) r)) Cmd.fail|_=> .fail
 | .ep bx idx off=> .get (S9+bx) λ
  | .barr u xs=>Cmd.opt (Y6 xs idx) λx=>Md off i.size (flat u x []) (λr=>K (mkV (U8 i.td) r)) Cmd.fail
  | .bfrz u xs=>Cmd.opt (Y6 xs idx) λx=>Md off i.size (flat u x []) (λr=>K (mkV (U8 i.td) r)) Cmd.fail
  | .barrs m xs _=>Cmd.opt (Y6 xs idx) λx=>Md off i.size (yO m x []) (λr=>K (mkV (U8 i.td) r)) Cmd.fail|_=> .fail
 | .dp u x off=>Md off i.size (flat u x []) (λr=>K (mkV (U8 i.td) r)) Cmd.fail|_=> .fail
def KH{R:Type u} :(m:M)->Nat->m.den->(V->R)->R->R
 | .own t,off,xs,K,f=>bif Nat.beq off 0 then K (.barr t xs)else f| .owns m,off,xs,K,f=>bif Nat.beq off 0 then K (.barrs m xs none)else f| .pair a b,off,x,K,f=>bif Nat.blt off a.size then KH a off x.1 K f else KH b (off -a.size) x.2 K f|_,_,_,_,f=>f
def Tf{R:Type u} :(m:M)->Nat->V->m.den->(m.den->R)->R->R
 | .own t,off,v,_,K,f=>bif Nat.beq off 0 then(match v with| .barr t' ys=>Ty.castL t' t ys K f| .nl=>bif t.isEnt then f else K []|_=>f)else f| .owns m,off,v,_,K,f=>bif Nat.beq off 0 then(match v with| .barrs m' ys none=>UD m' m ys K f| .nl=>K []|_=>f)else f| .pair a b,off,v,x,K,f=>bif Nat.blt off a.size then Tf a off v x.1 (λy=>K (y,x.2)) f else Tf b (off -a.size) v x.2 (λy=>K (x.1,y)) f|_,_,_,_,_,f=>f
def VS{α:Type} :(m:M)->Nat->List V->m.den->(m.den->Cmd α)->Cmd α
 | .dat t,off,vs,x,K=>bif t.flat then FY off vs (flat t x []) (λr=>iw pU t r λy q=>match q with|[]=>K y|_=> .fail) .fail else .fail| .pair a b,off,vs,x,K=>bif Nat.blt off a.size then VS a off vs x.1 (λy=>K (y,x.2))else VS b (off -a.size) vs x.2 (λy=>K (x.1,y))|_,_,_,_,_=> .fail
def M.ownAt:M->Nat->Bool
 | .own _,off=>Nat.beq off 0| .owns _,off=>Nat.beq off 0| .pair a b,off=>bif Nat.blt off a.size then a.ownAt off else b.ownAt (off -a.size)|_,_=>false
def Om(h:Option (Nat×Nat×Option Nat))(idx off:Nat):Bool:=match h with|none=>true|some (i,o,_)=>bif Nat.beq o off then a0k i idx else false
def a1i(E:Env)(d:Option Tmp)(nm t:Nat)(p:V)(K:V->Cmd α):Cmd α:=
 match p with
 | .ep bx idx off=> .get (S9+bx) λ
  | .barrs m xs none=>bif m.ownAt off then tiC E t λi=>(bif Nat.beq i.size 1&&!U8 i.td then
     (bif uB (match d with|some d=>d|none=>S9) E.tk then
      Cmd.opt (Y6 xs idx) λx=>KH m off x (λv=>Cmd.set (S9+bx) (.barrs m xs (some (idx,off,none))) (mY nm v (Cmd.set (S9+bx) (.barrs m xs (some (idx,off,some nm))) (K (.own nm none))))) .fail
     else iw pU (.sl m.ty) [.own bx none] λ_ _=>Cc E t p K)else .fail)
    else Cc E t p K
  | .barrs m xs (some (i,o,some n))=>bif m.ownAt off then tiC E t λj=>(bif Nat.beq j.size 1&&!U8 j.td then
     .br (Om (some (i,o,some n)) idx off) (K (.own n none)) .fail else .fail)
    else Cc E t p K
  |_=>Cc E t p K
 |_=>Cc E t p K
def Pq(bx idx off:Nat)(m:M)(xs:List m.den)(hole:Option (Nat×Nat×Option Nat))(v:V)(K:Cmd Unit):Cmd Unit:=
 .br (Om hole idx off) (Cmd.opt (Y6 xs idx) λx=>Tf m off v x (λy=>Cmd.set (S9+bx) (.barrs m (aU xs idx y) none) K) .fail) .fail
def a4r:V->Bool| .barr ..=>true| .barrs _ _ none=>true|_=>false
def D_(E:Env)(t:Nat)(p v:V):Cmd Unit:=
 tiC E t λi=>match p with
 | .ptr bx off=> .get (S9+bx) λ
  | .bcells cs=>xJ v λvs=>bif Nat.beq vs.length i.size then FY off vs cs (λr=>Cmd.set (S9+bx) (.bcells r) (.ret ())) Cmd.fail else .fail|_=> .fail
 | .ep bx idx off=> .get (S9+bx) λ
  | .barr u xs=>Cmd.opt (Y6 xs idx) λx=>xJ v λvs=>bif Nat.beq vs.length i.size then FY off vs (flat u x []) (λr=>
    iw pU u r λy q=>match q with
     |[]=> .get (S9+bx) λ
      | .barr u' xs' =>Ty.castL u' u xs' (λxs' =>Cmd.set (S9+bx) (.barr u (aU xs' idx y)) (.ret ())) Cmd.fail|_=> .fail
     |_=> .fail) Cmd.fail else .fail
  | .barrs m xs hole=>bif m.ownAt off&&Nat.beq i.size 1&&!U8 i.td then(match v with
    | .nl=>Pq bx idx off m xs hole .nl (.ret ())
    | .own b2 none=> .get (S9+b2) λw=>bif a4r w then Cmd.set (S9+b2) .dead (.get (S9+bx) λ
     | .barrs m xs hole=>Pq bx idx off m xs hole w (.ret ())
     |_=> .fail)else .fail
    |_=> .fail)
   else match hole with
    |none=>xJ v λvs=>bif Nat.beq vs.length i.size then Cmd.opt (Y6 xs idx) λx=>VS m off vs x λy=>Cmd.set (S9+bx) (.barrs m (aU xs idx y) none) (.ret ())else .fail|some _=> .fail
  |_=> .fail
 |_=> .fail
def szB(sz:Nat)(u:Ty):Bool:=bif u.isEnt then false else Nat.beq sz u.size
def zC(E:Env)(t f:Nat):Option (Nat×Nat×Bool):=
 match Z4 E.tt t with
 |some i=>match i.td with
  | .struct fs=>match fs[f]? with
   |some (ft,off)=>match Z4 E.tt ft with|some j=>bif Nat.beq j.size 0 then none else some (off,j.size,U8 j.td)|none=>none
   |none=>none
  |_=>none
 |none=>none
def Qs(vw:Option (Nat×Nat)):Nat:=match vw with|none=>0|some (lo,_)=>lo
def a1X(vw:Option (Nat×Nat))(n:Nat):Nat:=match vw with|none=>n|some (lo,_)=>lo+n
theorem a0i(vw:Option (Nat×Nat))(n:Nat):a1X vw n=Qs vw+n:=by cases vw<;>simp[a1X,Qs]
def xM(E:Env)(t:Nat):Option (Bool×Nat×Nat):=
 match Z4 E.tt t with
 |some i=>match i.td with
  | .sl e=>match Z4 E.tt e with|some j=>some (false,0,j.size)|none=>none
  | .arr n e=>match Z4 E.tt e with|some j=>some (true,n,j.size)|none=>none
  |_=>none
 |none=>none
def JP(E:Env)(t:Nat)(x ix:V)(K:V->Cmd α):Cmd α:=
 match ix,xM E t with
 | .i _ n,some (false,_,sz)=>match x with
  | .sl u xs=>bif szB sz u then Cmd.opt (H9 xs n) λy=>K (.dp u y 0)else .fail
  | .own bx vw=> .get (S9+(EW+bx)) λ
   | .blen ln sz' =>(match vw with|none=>bif Nat.beq sz sz' then .br (inb n ln) (K (.ep bx (Y7 n) 0)) .fail else .fail|_=> .fail)
   |_=> .get (S9+bx) λ
   | .barr u xs=>bif szB sz u then Cmd.opt (H9 (cZ vw xs) n) λ_=>K (.ep bx (a1X vw (Y7 n)) 0)else .fail
   | .bfrz u xs=>bif szB sz u then Cmd.opt (H9 (cZ vw xs) n) λy=>K (.dp u y 0)else .fail| .barrs m xs _=>(match vw with|none=>bif Nat.beq sz m.size then Cmd.opt (H9 xs n) λ_=>K (.ep bx (Y7 n) 0)else .fail|_=> .fail)|_=> .fail
  |_=> .fail
 | .i _ n,some (true,l,sz)=>match x with
  | .glob g=>match Z4 E.gl g with
   |some ⟨u,xs⟩=>bif Nat.beq sz u.size&&Nat.beq l xs.length then Cmd.opt (H9 xs n) λy=>K (.dp u y 0)else .fail|none=> .fail
  | .ptr bx off=> .br (inb n l) (K (.ptr bx (off+Y7 n*sz))) .fail|_=> .fail
 |_,_=> .fail
def a4v(td:TD)(x:V)(K:V->Cmd α):Cmd α:=
 match td,x with
 | .str,.s l=>K (.i .i64 (x9 l))| .sl _,.sl t xs=>bif t.isEnt then .fail else K (.i .i64 (x9 xs))| .map ..,.sl t xs=>bif t.isEnt then K (.i .i64 (x9 xs))else .fail
 | .map ..,.own bx none=> .get (S9+bx) λ
  | .barr t xs=>bif t.isEnt then K (.i .i64 (x9 xs))else .fail| .bfrz t xs=>bif t.isEnt then K (.i .i64 (x9 xs))else .fail|_=> .fail
 | .sl _,.nl=>K (.i .i64 0)
 | .sl _,.own bx vw=> .get (S9+(EW+bx)) λ
  | .blen ln _=>(match vw with|none=>K (.i .i64 ln)|_=> .fail)
  |_=> .get (S9+bx) λ
  | .barr t xs=>bif t.isEnt then .fail else K (.i .i64 (x9 (cZ vw xs)))| .bfrz t xs=>bif t.isEnt then .fail else K (.i .i64 (x9 (cZ vw xs)))| .barrs _ xs _=>(match vw with|none=>K (.i .i64 (x9 xs))|_=> .fail)|_=> .fail
 |_,_=> .fail
def ql(d:Int):Option V->Option Int
 |none=>some d|some (.i _ n)=>some n|some _=>none
def Gs(E:Env)(t:Nat)(x:V)(lo hi:Option V)(K:V->Cmd α):Cmd α:=
 match x with
 | .s l=>tiC E t λi=>match i.td,ql 0 lo,ql (x9 l) hi with
  | .str,some a,some b=>Cmd.opt (rD l a b) λr=>K (.s r)|_,_,_=> .fail
 | .sl u l=>match xM E t,ql 0 lo,ql (x9 l) hi with
  |some (false,_,sz),some a,some b=>bif szB sz u then Cmd.opt (rD l a b) λr=>K (.sl u r)else .fail|_,_,_=> .fail
 | .own bx none=> .get (S9+bx) λ
  | .barr u xs=>match xM E t,ql 0 lo,ql (x9 xs) hi with
   |some (false,_,sz),some a,some b=>bif szB sz u then .br (uP a b (x9 xs)) (K (.own bx (some (Y7 a,Y7 b)))) .fail else .fail|_,_,_=> .fail
  | .bfrz u xs=>match xM E t,ql 0 lo,ql (x9 xs) hi with
   |some (false,_,sz),some a,some b=>bif szB sz u then .br (uP a b (x9 xs)) (K (.own bx (some (Y7 a,Y7 b)))) .fail else .fail|_,_,_=> .fail
  |_=> .fail
 |_=> .fail
def RH{α:Type}(u:Ty):Nat->List V->(List u.den->Cmd α)->Cmd α
 |0,cs,K=>match cs with|[]=>K []|_=> .fail
 |n+1,cs,K=>iw pU u cs λx r=>RH u n r λxs=>K (x::xs)
def Lm(E:Env)(nm t bx:Nat)(K:V->Cmd Unit):Cmd Unit:=tiC E t λi=>match i.td with
 | .arr n e=>tiC E e λj=>(match j.ty with
  |some u=>bif u.flat then .get (S9+bx) λ
   | .bcells cs=>RH u n cs λxs=>Cmd.set (S9+bx) .dead (mY nm (.barr u xs) (K (.own nm none)))|_=> .fail
   else .fail
  |none=> .fail)
 |_=> .fail
def rf(E:Env)(t:Nat):Option (Nat×Ty):=
 match Z4 E.tt t with
 |some i=>match i.td with
  | .sl e=>match Z4 E.tt e with
   |some j=>match j.ty with|some u=>bif (Nat.beq u.size j.size&&Nat.ble j.bytes 65536&&!u.isEnt)then some (e,u)else none|none=>none
   |none=>none
  |_=>none
 |none=>none
def IL(nm:Nat)(u:Ty)(x:V)(ys:List u.den)(K:V->Cmd Unit):Cmd Unit:=
 match x with
 | .nl=>Cmd.opt (dD [] ys) λzs=>mY nm (.barr u zs) (K (.own nm none))
 | .own bx vw=> .get (S9+bx) λ
  | .barr u' xs=>Ty.castL u' u xs (λxs=>Cmd.opt (dD (cZ vw xs) ys) λzs=>Cmd.set (S9+bx) .dead (mY nm (.barr u zs) (K (.own nm none)))) Cmd.fail|_=> .fail
 |_=> .fail
def a1g(E:Env)(t:Nat)(x y:V)(K:V->Cmd Unit):Cmd Unit:=
 match rf E t with
 |none=> .fail
 |some (_,u)=>match Z4 E.om t with
  |none=>QJ u y λys=>(match x with
   | .own bx none=> .get (S9+bx) λ
    | .barr u' xs=>Ty.castL u' u xs (λxs=>Cmd.set (S9+bx) (.barr u (BX xs ys)) (K (.i .i64 (zG (x9 xs) (x9 ys))))) Cmd.fail|_=> .fail
   |_=> .fail)
  |some _=> .fail
def Uz(E:Env)(nm:Nat)(t:Nat)(x:V)(l:List UInt8)(K:V->Cmd Unit):Cmd Unit:=
 match rf E t with
 |some (_,.int .u8)=>(match Z4 E.om t with|none=>IL nm (.int .u8) x (zU l) K|some _=> .fail)|_=> .fail
def Xr(E:Env)(nm:Nat)(t:Nat)(l:List UInt8)(K:V->Cmd Unit):Cmd Unit:=
 match rf E t with
 |some (e,.int .u8)=>tiC E e λk=>(match k.td with
  | .int .u8=>mY nm (.barr (.int .u8) (zU l)) (K (.own nm none))
  |_=> .fail)
 |_=> .fail
def Uy(E:Env)(nm:Nat)(t:Nat)(x y:V)(K:V->Cmd Unit):Cmd Unit:=
 match rf E t with
 |none=> .fail
 |some (_,u)=>match Z4 E.om t with
  |none=>QJ u y λys=>IL nm u x ys K
  |some m=>bif Nat.beq m.size u.size then exM pU (.owns m) [y] λys _=>exM pU (.owns m) [x] λxs _=>Cmd.opt (dD xs ys) λzs=>mY nm (.barrs m zs none) (K (.own nm none))else .fail
def nX{α:Type}(u:Ty):List (Nat×V)->Nat->Nat->(List u.den->Cmd α)->Cmd α
 |[],_,0,K=>K []
 |(i,v)::r,n,m+1,K=>bif Nat.beq i n then xJ v λcs=>iw pU u cs λx q=>match q with|[]=>nX u r (n+1) m λxs=>K (x::xs)|_=> .fail else .fail
 |_,_,_,_=> .fail
def lH{α:Type}(m:M):List (Nat×V)->Nat->Nat->(List m.den->Cmd α)->Cmd α
 |[],_,0,K=>K []
 |(i,v)::r,n,k+1,K=>bif Nat.beq i n then xJ v λcs=>exM pU m cs λx q=>match q with|[]=>lH m r (n+1) k λxs=>K (x::xs)|_=> .fail else .fail
 |_,_,_,_=> .fail
def Ux(E:Env):List (Nat×Nat)->Bool
 |[]=>true
 |(t,_)::r=>match Z4 E.tt t with|some _=>Ux E r|none=>false
def qW{α:Type}(E:Env)(t:Nat):List (Nat×V)->List V->(List V->Cmd α)->Cmd α
 |[],cs,K=>K cs
 |(f,v)::r,cs,K=>match zC E t f with
  |some (off,n,_)=>xJ v λvs=>bif Nat.beq vs.length n then FY off vs cs (λcs' =>qW E t r cs' K) .fail else .fail|none=> .fail
def U9{α:Type} :List MG->List V->List V->Cmd α->Cmd α
 |(_,.box _)::ms,.ptr bx _::vs,.agg cs::os,K=> .get (S9+bx) λ
  | .dead=>Cmd.set (S9+bx) (.bcells cs) (U9 ms vs os K)|_=> .fail
 |(_,.box _)::_,_,_,_=> .fail
 |(_,.ifc _ (.box _))::ms,.ifc _ (.ptr bx _)::vs,.agg cs::os,K=> .get (S9+bx) λ
  | .dead=>Cmd.set (S9+bx) (.bcells cs) (U9 ms vs os K)|_=> .fail
 |(_,.ifc _ (.box _))::_,_,_,_=> .fail
 |(_,.ownb _)::ms,.own bx none::vs,.own nm none::os,K=> .get (S9+nm) λ
  | .barr u xs=>Cmd.set (S9+nm) .dead (.get (S9+bx) λ
   | .gone t=>Ty.castL u t xs (λxs=>Cmd.set (S9+bx) (.barr t xs) (U9 ms vs os K)) .fail
   |_=> .fail)
  |_=> .fail
 |(_,.ownb _)::ms,.nl::vs,.own nm none::os,K=>Cmd.set (S9+nm) .dead (U9 ms vs os K)|(_,.ownb _)::_,_,_,_=> .fail|_::ms,_::vs,os,K=>U9 ms vs os K|[],[],[],K=>K|_,_,_,_=> .fail
def Ty.occ(t:Ty):Ty->Bool
 | .sl u=>decide (t=u) || Ty.occ t u| .prod a b=>Ty.occ t a || Ty.occ t b| .ent _ _ a b=>Ty.occ t a || Ty.occ t b|_=>false
def Hw(t:Ty):List Ty->Bool|[]=>false|u::r=>decide (t=u) || Ty.occ t u || Hw t r
def M.occ(t:Ty):M->Bool
 | .dat u=>Ty.occ t u| .own u=>Ty.occ t u| .pair a b=>a.occ t || b.occ t| .unit=>false| .box m=>m.occ t| .owns m=>m.occ t| .ownb u=>Ty.occ t u| .rp u=>decide (t=u) || Ty.occ t u| .fn _ ts=>Hw t ts| .ifc _ m=>m.occ t| .cell _=>false| .fr u=>decide (t=u) || Ty.occ t u
def Af(t:Ty):List MG->Bool|[]=>false|m::r=>m.2.occ t || Af t r
def Oz(s:FSpec):Ty->Bool:=λt=> !(Af t s.rs || Af t s.outs)
def yF:Nat->List V->Option (List V×List V)
 |0,vs=>some ([],vs)
 |n+1,v::vs=>match yF n vs with|some (a,b)=>some (v::a,b)|none=>none
 |_+1,[]=>none
def wI:List V->Bool|[]=>false| .tup _::_=>true|_::r=>wI r
def a0y:List V->V|[v]=>v|vs=> .tup vs
def FH:List MG->List V->Bool
 |(_,.fn g _)::ms,.clos f _::vs=>Nat.beq f g&&FH ms vs|(_,.fn g _)::ms,.fnv f::vs=>Nat.beq f g&&FH ms vs|(_,.ifc t _)::ms,.ifc t' _::vs=>Nat.beq t t' &&FH ms vs|_::ms,_::vs=>FH ms vs|_,_=>true
def QK:List (Nat×FSpec)->Nat->List V->Option FSpec
 |[],_,_=>none|(g,s)::r,f,vs=>bif Nat.beq g f&&FH s.ps vs then some s else QK r f vs
def MH(E:Env)(q:Nat)(d:Option Tmp)(f:Nat)(vs:List V):Cmd Unit:=
 match QK E.fs f vs with
 |none=> .fail|some s=>
  BN (Oz s) s.ps vs λx=>Cmd.opt (s.fn x) λr=>
   BM (s.rs++s.outs) r (H5 q d) λws n' =>bif Nat.ble n' (H5 q d+64)then(match yF s.rs.length ws with
    |some (a,o)=>bif wI a then .fail else U9 s.ps vs o (ax E d (a0y a))
    |none=> .fail)else .fail
def oN{α:Type} :List MG->List V->(List ((t:Ty)×t.den)->Cmd α)->Cmd α
 |(_,.rp t)::ms,v::vs,K=>rpC t v λx=>oN ms vs λcs=>K (⟨t,x⟩::cs)|[],[],K=>K []|_,_,_=> .fail
def a4j(c:(t:Ty)×t.den):V:=.dp c.1 c.2 0
def Kt:List ((Nat×String)×Nat×Option Nat)->Nat->String->Option (Nat×Option Nat)
 |[],_,_=>none|((t,n),r)::l,u,m=>bif Nat.beq t u&&(n==m)then some r else Kt l u m
def Ty.leaves:Ty->List Ty
 | .prod a b=>a.leaves++b.leaves| .unit=>[]|t=>[t]
def Gn:List Ty->List Ty->Bool
 |[],[]=>true|a::r,b::q=>bif Ty.beq a b then Gn r q else false|_,_=>false
def Qn(E:Env)(ke:Nat)(td:TD)(k:Ty):Bool:=
 match td,k with
 | .bool,.bool=>true| .int i,.int j=>decide (i=j)| .str,.str=>true| .struct _,k=>bif k.flat then(match Z4 E.eqs ke with|some sh=>Gn sh k.leaves|none=>false)else false|_,_=>false
structure MT where
 ke:Nat
 el:Nat
 ka:Bool
 va:Bool
 k:Ty
 v:Ty
abbrev MT.ent(m:MT):Ty:=.ent m.ka m.va m.k m.v
def Em(E:Env)(t:Nat):Option MT:=
 match Z4 E.tt t with
 |some i=>match i.td with
  | .map ke el=>match Z4 E.tt ke,Z4 E.tt el with
   |some a,some b=>(match a.ty,b.ty with
    |some k,some v=>bif Qn E ke a.td k&&k.flat then some ⟨ke,el,U8 a.td,U8 b.td,k,v⟩else none
    |_,_=>none)
   |_,_=>none
  |_=>none
 |none=>none
def Xu(ag:Bool)(t:Ty)(v:V)(K:t.den->Cmd α):Cmd α:=
 Jq ag v λcs=>iw pU t cs λx q=>match q with|[]=>K x|_=> .fail
def Yw(u:Ty)(v:V)(K:List u.den->Cmd α):Cmd α:=
 match v with
 | .sl t xs=>Ty.castL t u xs K .fail
 | .own bx none=> .get (S9+bx) λ
  | .barr t xs=>Ty.castL t u xs K .fail| .bfrz t xs=>Ty.castL t u xs K .fail|_=> .fail
 |_=> .fail
def Aa(E:Env)(nm t:Nat)(K:V->Cmd Unit):Cmd Unit:=
 match Em E t with
 |some m=>mY nm (.barr m.ent []) (K (.own nm none))|none=> .fail
def UV(E:Env)(t:Nat)(ok:Bool)(x ix:V)(K:V->Cmd Unit):Cmd Unit:=
 match Em E t with
 |some m=>Xu m.ka m.k ix λkey=>Yw m.ent x λes=>
   bif ok then K (.tup [mkV m.va (flat m.v (oM (keq m.k) es key m.v.zero) []),.b (IJ (keq m.k) es key)])
   else K (mkV m.va (flat m.v (oM (keq m.k) es key m.v.zero) []))
 |none=> .fail
def Pz(E:Env)(t:Nat)(x ix y:V):Cmd Unit:=
 match Em E t with
 |some m=>Xu m.ka m.k ix λkey=>Xu m.va m.v y λz=>match x with
  | .own bx none=> .get (S9+bx) λ
   | .barr u xs=>Ty.castL u m.ent xs (λes=>Cmd.set (S9+bx) (.barr m.ent (Du (keq m.k) es key z)) (.ret ())) .fail|_=> .fail
  |_=> .fail
 |none=> .fail
def Ht:M->List V->Bool
 | .dat _,_=>true| .unit,_=>true
 | .own t,cs=>match cs with| .nl::_=> !t.isEnt|_=>false
 | .owns _,cs=>match cs with| .nl::_=>true|_=>false
 | .pair a b,cs=>match JA a.size cs with|some r=>bif Ht a cs then Ht b r else false|none=>false
 |_,_=>false
def VG(E:Env)(t:Nat)(m:M):Bool:=
 match rf E t with
 |some (e,_)=>match Z4 E.tt e with|some j=>bif Nat.beq j.zero.length j.size then Ht m j.zero else false|none=>false
 |none=>false
def La:Operand->Operand->Bool
 | .tmp a,.tmp b=>Nat.beq a b|_,_=>false
def V5(E:Env)(q:Nat)(o:Oper):Cmd Unit:=
 match o.op with
 | .move x| .assign x=>jo x λv=>ax E o.dst v
 | .pick c a b=>jo c λ
  | .b t=>bif t then jo a λva=>ax E o.dst va else jo b λvb=>ax E o.dst vb|_=> .fail
 | .alloc t=>tiC E t λi=>bif Nat.beq i.zero.length i.size then mY (H5 q o.dst) (.bcells i.zero) (ax E o.dst (.ptr (H5 q o.dst) 0))else .fail
 | .box _ x=>jo x λv=>xJ v λcs=>mY (H5 q o.dst) (.bcells cs) (ax E o.dst (.ptr (H5 q o.dst) 0))
 | .build t ps=>tiC E t λi=>match i.td with
  | .struct fs=>bif Ux E fs&&Nat.beq i.zero.length i.size then(Hz (ps.toList.map (·.2)) λvs=>
    qW E t ((ps.toList.map (·.1)).zip vs) i.zero (λcs=>ax E o.dst (.agg cs)))else .fail
  |_=> .fail
 | .buildSlice t n ps=>match rf E t with
  |some (_,u)=>bif Nat.ble (n*u.size) 16777216 then(Hz (ps.toList.map (·.2)) λvs=>match Z4 E.om t with
    |none=>nX u ((ps.toList.map (·.1)).zip vs) 0 n λxs=>mY (H5 q o.dst) (.barr u xs) (ax E o.dst (.own (H5 q o.dst) none))
    |some m=>bif Nat.beq m.size u.size&&m.el then lH m ((ps.toList.map (·.1)).zip vs) 0 n λxs=>mY (H5 q o.dst) (.barrs m xs none) (ax E o.dst (.own (H5 q o.dst) none))else .fail)else .fail
  |none=> .fail
 | .load t x=>jo x λp=>a1i E o.dst (H5 q o.dst) t p λv=>ax E o.dst v
 | .store t x y=>match o.dst with|none=>jo x λp=>jo y λv=>D_ E t p v|some _=> .fail
 | .binOp op t x y _=>jo x λa=>jo y λb=>zu E t op y a b λv=>ax E o.dst v
 | .unOp op _ x=>jo x λa=>unC op a λv=>ax E o.dst v
 | .convert src t x=>jo x λa=>tiC E src λj=>tiC E t λi=>match a,i.td with
  | .i _ n,.int k=>ax E o.dst (.i k (wrap k n))| .s l,.str=>ax E o.dst (.s l)| .s l,.sl _=>(match j.td with| .str=>Xr E (H5 q o.dst) t l λv=>ax E o.dst v|_=> .fail)
  |_,.str=>(match j.td with
   | .sl e=>tiC E e λk=>(match k.td with
    | .int .u8=>QJ (.int .u8) a λxs=>ax E o.dst (.s (VN xs))
    |_=> .fail)
   |_=> .fail)
  |_,_=> .fail
 | .makeSlice t l c=>match Z4 E.om t with
  |some m=>(match rf E t with
   |some (_,u)=>jo l λ
    | .i _ n=>bif La l c&&Nat.beq m.size u.size&&VG E t m then(if h:m.el=true/\m.ty=u then Cmd.opt (uz n (m.zero h.1)) λxs=>mY (H5 q o.dst) (.barrs m xs none) (.set (S9+(EW+H5 q o.dst)) (.blen (x9 xs) m.size) (ax E o.dst (.own (H5 q o.dst) none)))else .fail)else .fail|_=> .fail
   |none=> .fail)
  |none=>match rf E t with
  |some (_,u)=>jo l λ
   | .i _ n=>bif La l c then
     Cmd.opt (uz n u.zero) λxs=>mY (H5 q o.dst) (.barr u xs) (ax E o.dst (.own (H5 q o.dst) none))
    else jo c λ
     | .i _ k=>Cmd.br (uP n k 1073741824) (Cmd.opt (uz n u.zero) λxs=>mY (H5 q o.dst) (.barr u xs) (ax E o.dst (.own (H5 q o.dst) none))) .fail|_=> .fail
   |_=> .fail
  |none=> .fail
 | .slice t x lo hi none=>jo x λv=>Hz (lo.toList++hi.toList) λbs=>
   match lo,hi,bs with
   |none,none,[]=>(match v with
    | .ptr bx 0=>Lm E (H5 q o.dst) t bx λr=>ax E o.dst r
    |_=>Gs E t v none none λr=>ax E o.dst r)
   |some _,none,[a]=>Gs E t v (some a) none λr=>ax E o.dst r
   |none,some _,[b]=>Gs E t v none (some b) λr=>ax E o.dst r
   |some _,some _,[a,b]=>Gs E t v (some a) (some b) λr=>ax E o.dst r|_,_,_=> .fail
 | .fieldAddr t x f=>jo x λp=>match zC E t f with
  |some (off,_,_)=>match p with
   | .ptr bx o' =>ax E o.dst (.ptr bx (o' +off))| .ep bx ix o' =>ax E o.dst (.ep bx ix (o' +off))| .dp u y o' =>ax E o.dst (.dp u y (o' +off))|_=> .fail
  |none=> .fail
 | .field t x f=>jo x λp=>match zC E t f with
  |some (off,n,ag)=>Jq true p λps=>Md off n ps (λcs=>ax E o.dst (mkV ag cs)) Cmd.fail|none=> .fail
 | .indexAddr t x ix=>jo x λv=>jo ix λn=>JP E t v n λr=>ax E o.dst r
 | .index t x ix=>jo x λv=>jo ix λn=>tiC E t λi=>match i.td,v,n with
  | .str,.s l,.i _ k=>Cmd.opt (sat l k) λc=>ax E o.dst (.i .u8 c)|_,_,_=> .fail
 | .extract x n=>jo x λ
  | .tup vs=>match vs[n]? with|some v=>ax E o.dst v|none=> .fail
  |_=> .fail
 | .nilCheck x=>jo x λv=>match v with
  | .ptr ..| .ep ..| .dp ..| .glob _=>ax E o.dst v|_=> .fail
 | .call c=>Hz c.args.toList λvs=>match c.callee with
  | .builtin .len=>(match c.argTypes.toList,vs with
   |t::_,[x]=>tiC E t λi=>a4v i.td x λv=>ax E o.dst v
   |_,_=> .fail)
  | .builtin .append=>(match c.argTypes.toList,vs with
   |[t,t'],[x,y]=>bif Nat.beq t t' then Uy E (H5 q o.dst) t x y λv=>ax E o.dst v else(match y with
    | .s l=>tiC E t' λi=>(match i.td with| .str=>Uz E (H5 q o.dst) t x l λv=>ax E o.dst v|_=> .fail)
    |_=> .fail)
   |_,_=> .fail)
  | .builtin .copy=>(match c.argTypes.toList,vs with
   |[t,t'],[x,y]=>bif Nat.beq t t' then a1g E t x y λv=>ax E o.dst v else .fail
   |_,_=> .fail)
  | .builtin .min=>(match vs with|[.i k a,.i k' b]=>bif decide (k=k')then ax E o.dst (.i k (zG a b))else .fail|_=> .fail)| .builtin .max=>(match vs with|[.i k a,.i k' b]=>bif decide (k=k')then ax E o.dst (.i k (ul a b))else .fail|_=> .fail)| .value (.func f)=>MH E q o.dst f vs
  | .value x=>jo x λ
   | .clos f caps=>MH E q o.dst f (vs++caps.map a4j)|_=> .fail
  | .invoke x n=>jo x λ
   | .ifc t v=>(match Kt E.ms t n with
    |some (f,none)=>MH E q o.dst f (v::vs)
    |some (f,some e)=>Cc E e v λr=>MH E q o.dst f (r::vs)
    |none=> .fail)
   |_=> .fail
  |_=> .fail
 | .makeFunc (.func f) first caps=>bif Nat.beq first.size 0 then(match Z4 E.fs f with
   |some s=>Hz caps.toList λvs=>oN (s.ps.drop (s.ps.length -vs.length)) vs λcs=>ax E o.dst (.clos f cs)
   |none=> .fail)else .fail
 | .makeInterface t x=>tiC E t λi=>(match i.td with
  | .bool| .int _| .str| .ptr _=>jo x λv=>(match v with
   | .b ..| .i ..| .s ..| .ptr ..=>ax E o.dst (.ifc t v)
   |_=> .fail)
  |_=> .fail)
 | .typeAssert x _ t ok=>tiC E t λi=>(match i.td with
  | .other=> .fail
  |_=>jo x λ
   | .ifc t' v=>bif Nat.beq t' t then ax E o.dst (bif ok then .tup [v,.b true]else v)else .fail
   |_=> .fail)
 | .makeMap t r=>(match r with
  |none=>Aa E (H5 q o.dst) t λv=>ax E o.dst v
  |some h=>jo h λ
   | .i _ _=>Aa E (H5 q o.dst) t λv=>ax E o.dst v
   |_=> .fail)
 | .lookup t x ix ok=>jo x λm=>jo ix λk=>UV E t ok m k λv=>ax E o.dst v
 | .mapUpdate t x ix y| .insert t x ix y=>match o.dst with|none=>jo x λm=>jo ix λk=>jo y λv=>Pz E t m k v|some _=> .fail
 |_=> .fail
def gY(E:Env)(q:Nat)(ops:List Oper)(o:Oper):Cmd Unit:=
 match o.guard with
 |none=>V5 E q o
 |some (j,want)=>match ops[j]? with
  |some p=>match p.dst with
   |some t=>bif Nat.blt t S9 then(.get t λ
    | .b y=>bif (bif want then y else !y)then V5 E q o else ax E o.dst .un| .un=>ax E o.dst .un
    |_=> .fail)else .fail
   |none=> .fail
  |none=> .fail
def IW(t:Nat)(s:St)(K:St->Option R):Option R:=
 (ai s t).force λ
  | .b y=>l7 y (K (.kv t (.b true)::s)) (K (.kv t (.b false)::s))| .un=>K s|_=>none
def a1f(ops:List Oper)(o:Oper):Option Nat:=
 match o.guard with
 |some (j,_)=>match ops[j]? with|some p=>p.dst|none=>none
 |none=>match o.op with| .pick (.tmp t) _ _=>some t|_=>none
abbrev Trs:=List Tr
def Dy{R:Type}(E:Env)(q:Nat)(all:List Oper):List Oper->St->Trs->(St->Trs->Option R)->Option R
 |[],s,t,K=>K s t
 |o::r,s,t,K=>match a1f all o with
  |none=>(gY E q all o).runK s ([],[]) λ_ s' tr=>Dy E q all r s' (tr::t) K
  |some p=>IW p s λs=>(gY E q all o).runK s ([],[]) λ_ s' tr=>Dy E q all r s' (tr::t) K
def Az:List Nat->List Nat->Bool
 |[],[]=>true|a::r,b::q=>bif Nat.beq a b then Az r q else false|_,_=>false
def iy(o:Oper):Bool:=match o.op with| .call ..=>true|_=>false
def Oi(E:Env)(o:Oper):Bool:=!iy o&&(match o.dst with|some d=>uB d E.rc|none=>false)
def XD(E:Env)(all:List Oper)(i:Nat):Bool:=match all[i]? with|some o=>Oi E o|none=>false
def Oe(all:List Oper)(i:Nat):Bool:=match all[i]? with|some o=>iy o|none=>false
def N_(a b:V)(K:Option R):Option R:=
 a.force λa=>b.force λb=>match a with
  | .i k n=>(match b with| .i k' n' =>bif decide (k=k')then l7 (x8 n n') K none else none|_=>none)| .sl t xs=>(match b with| .sl u ys=>Ty.castL u t ys (λys=>l7 (deq (.sl t) xs ys) K none) none|_=>none)| .b x=>(match b with| .b y=>l7 (qY x y) K none|_=>none)| .s x=>(match b with| .s y=>l7 (seq x y) K none|_=>none)|_=>none
abbrev VH:=List (Oper×Tr×V)
def NG{R:Type}(E:Env)(q:Nat)(all:List Oper)(s:St):VH->Option R->Option R
 |[],K=>K
 |(o,tr,v)::p,K=>(gY E q all o).runK s ([],[]) λ_ s2 tr2=>match o.dst with
  |some d=>bif Az tr.1 tr2.1&&Az tr.2 tr2.2&&Az tr2.2 [d]then N_ v (ai s2 d) (NG E q all s p K)else none|none=>none
def KJ(E:Env)(o:Oper)(s:St)(tr:Tr)(p:VH):VH:=
 bif Oi E o then(match o.dst with|some d=>(o,tr,ai s d)::p|none=>p)else p
def pK{R:Type}(E:Env)(q:Nat)(all:List Oper):List Oper->St->Trs->VH->(St->Trs->Option R)->Option R
 |[],s,t,_,K=>K s t
 |o::r,s,t,p,K=>match a1f all o with
  |none=>(gY E q all o).runK s ([],[]) λ_ s' tr=>bif iy o then NG E q all s' p (pK E q all r s' (tr::t) p K)else pK E q all r s' (tr::t) (KJ E o s' tr p) K
  |some g=>IW g s λs=>(gY E q all o).runK s ([],[]) λ_ s' tr=>bif iy o then NG E q all s' p (pK E q all r s' (tr::t) p K)else pK E q all r s' (tr::t) (KJ E o s' tr p) K
def IA(a b:List Nat):Bool:=match a with|[]=>true|k::r=>bif uB k b then false else IA r b
def Tz(ordered:Bool)(x y:Tr):Bool:=bif ordered then true else(IA x.2 y.1&&IA x.2 y.2&&IA x.1 y.2)
def IV(mask:Nat)(y:Tr):Trs->Nat->Bool
 |[],_=>true|x::r,i=>Tz (Nat.testBit mask (i -1)) x y&&IV mask y r (i -1)
def KE:List Nat->Trs->Bool
 |m::ms,y::r=>IV m y r r.length&&KE ms r|[],[]=>true|_,_=>false
def Vb(mask:Nat)(x:Tr):List (Nat×Tr)->Bool
 |[]=>true|(m,z)::r=>(Nat.testBit mask m || IA x.1 z.2)&&Vb mask x r
def Vg(ordered ex:Bool)(mask:Nat)(x y:Tr)(mids:List (Nat×Tr)):Bool:=
 bif ordered then true else(IA x.2 y.1&&IA x.2 y.2&&(bif IA x.1 y.2 then true else(ex&&IA x.2 x.1&&Vb mask x mids)))
def Es(E:Env)(all:List Oper)(mask:Nat)(y:Tr)(cy:Bool):Trs->Nat->List (Nat×Tr)->Bool
 |[],_,_=>true|x::r,i,mids=>Vg (Nat.testBit mask (i -1)) (cy&&XD E all (i -1)) mask x y mids&&Es E all mask y cy r (i -1) ((i -1,x)::mids)
def Eu(E:Env)(all:List Oper):List Nat->Trs->Bool
 |m::ms,y::r=>Es E all m y (Oe all r.length) r r.length []&&Eu E all ms r|[],[]=>true|_,_=>false
inductive Flow (ρ:Type) where
 |nm|ex (id:Nat)|rt (r:ρ)
def BL(acc:List Nat)(n:Nat):List Edge->Nat->Option Nat
 |[],m=>some m
 |e::r,m=>match e.ground with
  | .textOnly _=>BL acc n r m| .gcOnly _=>BL acc n r m|_=>bif Nat.blt e.on n then BL acc n r (m ||| 2^e.on ||| acc.getD (n -1 -e.on) 0)else none
def OM:List Oper->Nat->List Nat->Option (List Nat)
 |[],_,acc=>some acc
 |o::r,n,acc=>match BL acc n o.after.toList 0 with
  |some m=>OM r (n+1) (m::acc)|none=>none
def Dw(md:Region.Mode)(done:List Nat):List Edge->Bool
 |[]=>true|e::r=>bif (!Region.binds md e || uB e.on done)then Dw md done r else false
def lN(md:Region.Mode)(done:List Nat):List Oper->Nat->Option Nat
 |[],_=>none|o::r,n=>bif uB n done then lN md done r (n+1)else bif Dw md done o.after.toList then some n else lN md done r (n+1)
def Uw:Nat->List Nat->Bool
 |0,_=>true|n+1,d=>uB n d&&Uw n d
def Px(md:Region.Mode)(ops:List Oper):Nat->List Nat->Bool
 |0,d=>Uw ops.length d
 |k+1,done=>match lN md done ops 0 with|some n=>Px md ops k (n::done)|none=>false
def FX:List Edge->Bool
 |[]=>true
 |e::r=>match e.ground with| .textOnly _=>false| .gcOnly _=>false|_=>FX r
def uH:List Oper->Bool|[]=>true|o::r=>bif FX o.after.toList then uH r else false
def Xx(ops:List Oper)(t:Trs):Bool:=
 match OM ops 0 []with
 |some ms=>bif KE ms t then(bif uH ops then true else Px .text ops ops.length []&&Px .gc ops ops.length [])else false|none=>false
def UH(E:Env)(ops:List Oper)(t:Trs):Bool:=
 match OM ops 0 []with
 |some ms=>bif Eu E ops ms t then(bif uH ops then true else Px .text ops ops.length []&&Px .gc ops ops.length [])else false|none=>false
abbrev Rgs:=List (Nat×Nat)
inductive Ann where
 |leaf
 |seq (a b:Ann)|cond (a b:Ann)|blk (a:Ann)
 |loop (rs:Rgs) (hd:Sig) (xid:Nat) (xs:Sig) (body:Ann)
 |loopR (rs:Rgs) (hd:Sig) (xid:Nat) (xs:Sig) (body:Ann)
 |join (rs:Rgs) (nm:Sig) (inner:Ann)
 |joinR (rs:Rgs) (nm:Sig) (inner:Ann)
structure Ret where
 rs:List (ResultVar×MG)
 outs:List (Nat×MG)
@[reducible] def Ret.den (r:Ret):Type:=bC (r.rs.map (·.2)++r.outs.map (·.2))
def Gj{α:Type}(E:Env):List ResultVar->(List V->Cmd α)->Cmd α
 |[],K=>K []| .tmp t::r,K=>bif Nat.blt t S9 then(.get t λv=>Gj E r λvs=>K (v::vs))else .fail| .cell a t::r,K=>bif Nat.blt a S9 then(.get a λp=>Cc E t p λv=>Gj E r λvs=>K (v::vs))else .fail
def FW{α:Type} :List Nat->(List V->Cmd α)->Cmd α
 |[],K=>K []
 |n::r,K=>bif Nat.blt n S9 then .get n λv=>(match v with
  | .ptr bx 0=> .get (S9+bx) λ
   | .bcells cs=>Cmd.set (S9+bx) .dead (FW r λvs=>K (.agg cs::vs))|_=> .fail
  | .ifc _ u=>(match u with
   | .ptr bx 0=> .get (S9+bx) λ
    | .bcells cs=>Cmd.set (S9+bx) .dead (FW r λvs=>K (.agg cs::vs))|_=> .fail
   |_=> .fail)
  | .own bx none=>FW r λvs=>K (.own bx none::vs)
  |_=> .fail)else .fail
def a0B(E:Env)(r:Ret):Cmd r.den:=
 Gj E (r.rs.map (·.1)) λvs=>FW (r.outs.map (·.1)) λws=>BN pU (r.rs.map (·.2)++r.outs.map (·.2)) (vs++ws) .ret
def Ann.l:Ann->Ann| .seq a _=>a| .cond a _=>a| .blk a=>a|_=> .leaf
def Ann.r:Ann->Ann| .seq _ b=>b| .cond _ b=>b|_=> .leaf
def og:Code->Nat
 | .region ..=>2| .seq x y=>1+og x+og y| .cond _ x y=>1+og x+og y| .block _ x=>1+og x| .loop x=>3+og x|_=>1
abbrev Den(ρ:Type):=Nat->Ann->St->Rgs->(R:Type)->(Flow ρ->St->Rgs->Option R)->Option R
def Wh(lo hi:Nat):Rgs->Bool|[]=>false|(a,b)::r=>bif Nat.ble a lo&&Nat.ble hi b then true else Wh lo hi r
def Ju(lim:Nat)(rs:Rgs):Rgs->Bool|[]=>true|(a,b)::w=>bif Nat.ble lim a || Wh a b rs then Ju lim rs w else false
def Ee(ks:List Nat)(w:Rgs):Rgs:=match ks with|[]=>w|k::r=>(k,k+1)::Ee r w
def uA(rs:Rgs)(s:St):St:=match rs with|[]=>s|(a,b)::r=> .mask a b::uA r s
def BZ(q:Nat)(sg:Sig)(rs:Rgs)(s:St)(w:Rgs)(K:jc sg->Option R):Option R:=
 (XF sg).runK s ([],[]) λx _ tr=>bif Ju (S9+CB*q) rs (Ee tr.2 w)then K x else none
def enter(q:Nat)(sg:Sig)(rs:Rgs)(s:St)(x:jc sg)(K:St->Rgs->Option R):Option R:=
 (Xy sg x (CB*q) (CB*q+CB)).runK (uA rs s) ([],[]) λ_ s' tr=>K s' (Ee tr.2 rs)
def Jj(a b:Rgs):Rgs:=match a with|[]=>b|x::r=>x::Jj r b
def zh(core:Den ρ):Den ρ:=λq a s w R K=>
 match a with
 | .join rs nm a=>l9 (core (q+1) a s [] (jc nm) λfl s' w' =>match fl with
   | .nm=>BZ q nm rs s' w' some
   |_=>none) λx=>enter q nm rs s x λs' w' =>K .nm s' (Jj w' w)
 | .joinR rs nm a=>l9 (core (q+1) a s [] (jc nm⊕ρ) λfl s' w' =>match fl with
   | .nm=>BZ q nm rs s' w' λx=>some (Sum.inl x)| .rt r=>some (Sum.inr r)
   |_=>none) λo=>aN o (λx=>enter q nm rs s x λs' w' =>K .nm s' (Jj w' w)) (λr=>K (.rt r) [] [])
 |a=>core (q+1) a s w R K
def Zg(core:Den ρ)(q:Nat)(rs:Rgs)(hd:Sig)(xid:Nat)(xs:Sig)(a:Ann)(s:St)(x:jc hd):Option (jc hd⊕jc xs):=
 enter q hd rs s x λs w=>core (q+2) a s w (jc hd⊕jc xs) λfl s' w' =>match fl with
  | .nm=>BZ q hd rs s' w' λx=>some (Sum.inl x)
  | .ex id=>bif Nat.beq id xid then BZ q xs rs s' w' λy=>some (Sum.inr y)else none| .rt _=>none
def Zh(core:Den ρ)(q:Nat)(rs:Rgs)(hd:Sig)(xid:Nat)(xs:Sig)(a:Ann)(s:St)(x:jc hd):Option (Out (jc hd) (jc xs) ρ):=
 enter q hd rs s x λs w=>core (q+2) a s w (Out (jc hd) (jc xs) ρ) λfl s' w' =>match fl with
  | .nm=>BZ q hd rs s' w' λx=>some (.nx x)
  | .ex id=>bif Nat.beq id xid then BZ q xs rs s' w' λy=>some (.ex y)else none| .rt r=>some (.rt r)
def Qu(core:Den ρ):Den ρ:=λq a s w R K=>
 match a with
 | .loop rs hd xid xs a=>BZ q hd rs s [] λx0=>
  l9 (aX (λx=>Zg core q rs hd xid xs a s x) x0) λy=>enter (q+1) xs rs s y λs' w' =>K (.ex xid) s' (Jj w' w)
 | .loopR rs hd xid xs a=>BZ q hd rs s [] λx0=>
  l9 (ak (λx=>Zh core q rs hd xid xs a s x) x0) λo=>aN o (λy=>enter (q+1) xs rs s y λs' w' =>K (.ex xid) s' (Jj w' w)) (λr=>K (.rt r) [] [])
 |_=>none
def rH(t:Trs)(w:Rgs):Rgs:=match t with|[]=>w|x::r=>Ee x.2 (rH r w)
def OQ(E:Env)(q:Nat)(ops:Array Oper)(draw:Bool)(s:St)(w:Rgs)(K:St->Rgs->Option R):Option R:=
 match E.rc with
 |[]=>Dy E q ops.toList ops.toList s [] λs' t=>
  bif draw then(bif Xx ops.toList t then K s' (rH t w)else none)else K s' (rH t w)
 |_::_=>pK E q ops.toList ops.toList s [] [] λs' t=>
  bif draw then(bif UH E ops.toList t then K s' (rH t w)else none)else K s' (rH t w)
def den(E:Env)(rt:Ret):Code->Den rt.den
 | .skip=>zh λ_ _ s w _ K=>K .nm s w
 | .label _=>zh λ_ _ s w _ K=>K .nm s w
 | .region _ ops draw=>zh λq _ s w _ K=>OQ E q ops draw s w λs' w' =>K .nm s' w'
 | .seq x y=>zh λq a s w R K=>den E rt x q a.l s w R λfl s' w' =>match fl with
   | .nm=>den E rt y (q+og x) a.r s' w' R K| .ex id=>K (.ex id) s' w'| .rt r=>K (.rt r) s' w'
 | .cond c x y=>zh λq a s w R K=>(jo c λv=>Cmd.ret v:Cmd V).runK s ([],[]) λv s' _=>match v with
   | .b t=>l7 t (den E rt x q a.l s' w R K) (den E rt y (q+og x) a.r s' w R K)|_=>none
 | .block id x=>zh λq a s w R K=>den E rt x q a.l s w R λfl s' w' =>match fl with
   | .nm=>K .nm s' w'| .ex j=>bif Nat.beq j id then K .nm s' w' else K (.ex j) s' w'| .rt r=>K (.rt r) s' w'
 | .loop x=>zh (Qu λq a s w R K=>den E rt x q a s w R K)
 | .exit id=>zh λ_ _ s w _ K=>K (.ex id) s w
 | .ret=>zh λ_ _ s _ _ K=>(a0B E rt).runK s ([],[]) λr _ _=>K (.rt r) [] []
 |_=>λ_ _ _ _ _ _=>none
def eQ:List MG->Nat->List Nat
 |[],_=>[]|(_,.box _)::ms,n=>n::eQ ms (n+1)|(_,.ifc _ (.box _))::ms,n=>n::eQ ms (n+1)|(_,.ownb _)::ms,n=>n::eQ ms (n+1)|_::ms,n=>eQ ms (n+1)
def E_:List Nat->List Nat->Bool
 |[],_=>true|a::r,b=>bif uB a b then E_ r b else false
def a0a(E:Env)(ps:List MG)(rt:Ret)(body:Code)(a:Ann)(x:bC ps):Option rt.den:=
 bif Nat.ble ps.length E.nt&&Az (rt.outs.map (·.1)) (eQ ps 0)&&E_ (rt.outs.map (·.1)) E.kp then
 (BM ps x 0 λvs n=>bif Nat.ble n CB then Lj (List.range vs.length) vs else .fail).runK [] ([],[]) λ_ s _=>
  den E rt body 1 a s [] rt.den λfl s' _=>match fl with
   | .rt r=>some r
   | .nm=>(a0B E rt).runK s' ([],[]) λr _ _=>some r| .ex _=>none
 else none
end Go.GP
namespace Go.GP
open RowKit
def Z9(h:Array Obj)(blk off n:Nat):Option (List Value):=
 match h[blk]? with
 |some (.cells c _ _)=>if off+n<=c.size then some ((c.toList.drop off).take n)else none|_=>none
variable {h:Array Obj}{blk:Nat}{h':Array Obj}
theorem jF(e:h'[blk]? =h[blk]?)(off n:Nat):Z9 h' blk off n=Z9 h blk off n:=by simp[Z9,e]
variable {n:Nat}{off:Nat}{es:List Value}
theorem iQ(e:Z9 h blk off n=some es):es.length=n:=by
 unfold Z9 at e;split at e
 .split at e
  .cases e;simp;omega
  .cases e
 .cases e
theorem fM{c:Array Value}{T:TypeId}{f:Nat×Nat}(hb:h[blk]? =some (.cells c T f))(off n:Nat)(hn:off+n<=c.size):
  Z9 h blk off n=some ((c.toList.drop off).take n):=by simp[Z9,hb,hn]
theorem lJ(e:Z9 h blk off n=some es):
  ∃c T f,h[blk]? =some (.cells c T f)/\off+n<=c.size/\es=(c.toList.drop off).take n:=by
 unfold Z9 at e;split at e
 .rename_i c T f hb;split at e
  .cases e;exact⟨c,T,f,hb,by assumption,rfl⟩
  .cases e
 .cases e
theorem qN(e:Z9 h blk off n=some es)(a k:Nat)(hk:a+k<=n):
  Z9 h blk (off+a) k=some ((es.drop a).take k):=by
 obtain⟨c,T,f,hb,hn,rfl⟩:=lJ e;rw[fM hb _ _ o5];congr 1;rw[bI,aQ,O5];congr 1;omega
def jW(ag:Bool)(v:Value):List Value:=match ag with
 |true=>v.cells.toList|false=>[v]
def gok(ag:Bool)(v:Value):Prop:=match ag with
 |true=>∃arr,v= .agg arr|false=>v.oneCell' =true
def oU(t:Ty)(e:MapEntry):List Value:=match t with
 | .ent ka va _ _=>jW ka e.key++jW va e.val|_=>[]
def DT(t:Ty)(e:MapEntry):Prop:=match t with
 | .ent ka va k v=>gok ka e.key/\gok va e.val/\(jW ka e.key).length=k.size|_=>False
def eG(h:Array Obj)(ok:Nat->Ty->Prop):(t:Ty)->t.den->List Value->Prop
 | .ent _ _ a b,x,cs=>∃c d,cs=c++d/\eG h ok a x.1 c/\eG h ok b x.2 d| .bool,x,cs=>cs=[.bool x]| .int k,n,cs=>cs=[.int k n]| .str,l,cs=>cs=[.string ⟨l.toArray⟩]| .prod a b,x,cs=>∃c d,cs=c++d/\eG h ok a x.1 c/\eG h ok b x.2 d| .unit,_,cs=>cs=[]
 | .sl t,xs,cs=>(t.isEnt=false/\∃a cap,cs=[.slice a xs.length cap]/\xs.length<=cap/\
   ∀i x,xs[i]? =some x->∃blk off es,a=some ⟨blk,off,none⟩/\ok blk t/\Z9 h blk (off+i*t.size) t.size=some es/\eG h ok t x es)\/
   (t.isEnt=true/\∃mv,cs=[.map mv]/\(mv=none->xs=[])/\∀blk,mv=some blk->ok blk t/\∃(es:Array MapEntry) (ck:Nat),h[blk]? =some (.map es ck)/\es.size=(xs:List t.den).length/\
    ∀(i:Nat) (x:t.den),(xs:List t.den)[i]? =some x->∃e:MapEntry,es[i]? =some e/\DT t e/\eG h ok t x (oU t e))
variable {t:Ty}{xs:List t.den}{ok:Nat->Ty->Prop}
theorem rF{cs:List Value}(ht:t.isEnt=false):eG h ok (.sl t) xs cs↔∃a cap,cs=[.slice a xs.length cap]/\xs.length<=cap/\
   ∀i x,xs[i]? =some x->∃blk off es,a=some ⟨blk,off,none⟩/\ok blk t/\Z9 h blk (off+i*t.size) t.size=some es/\eG h ok t x es:=by
 constructor
 .rintro(h|h)
  .exact h.2
  .rw[ht]at h;cases h.1
 .exact λh=> .inl ⟨ht,h⟩
theorem TM{cs:List Value}(ht:t.isEnt=true):eG h ok (.sl t) xs cs↔∃mv,cs=[.map mv]/\(mv=none->xs=[])/\∀blk,mv=some blk->ok blk t/\∃(es:Array MapEntry) (ck:Nat),h[blk]? =some (.map es ck)/\es.size=(xs:List t.den).length/\
    ∀(i:Nat) (x:t.den),(xs:List t.den)[i]? =some x->∃e:MapEntry,es[i]? =some e/\DT t e/\eG h ok t x (oU t e):=by
 constructor
 .rintro(h|h)
  .rw[ht]at h;cases h.1
  .exact h.2
 .exact λh=> .inr ⟨ht,h⟩
theorem aO{h:Array Obj}{ok:Nat->Ty->Prop} :∀{t:Ty} {x:t.den} {cs:List Value},eG h ok t x cs->cs.length=t.size
 | .bool,_,_,e=>by simp[eG]at e;simp[e,Ty.size]| .int _,_,_,e=>by simp[eG]at e;simp[e,Ty.size]| .str,_,_,e=>by simp[eG]at e;simp[e,Ty.size]| .unit,_,_,e=>by simp[eG]at e;simp[e,Ty.size]| .prod a b,_,_,e=>by obtain⟨c,d,rfl,h1,h2⟩:=e;simp[aO h1,aO h2,Ty.size]
 | .ent _ _ a b,_,_,e=>by obtain⟨c,d,rfl,h1,h2⟩:=e;simp[aO h1,aO h2,Ty.size]
 | .sl t,_,_,e=>by rcases e with⟨_,a,cap,rfl,_⟩|⟨_,mv,rfl,_⟩<;>simp[Ty.size]
theorem Z8{h h' :Array Obj}{ok ok' :Nat->Ty->Prop}(hok:∀b t,ok b t->ok' b t)(hh:∀b t,ok b t->h'[b]? =h[b]?):
  ∀{t:Ty} {x:t.den} {cs:List Value},eG h ok t x cs->eG h' ok' t x cs
 | .bool,_,_,e=>e| .int _,_,_,e=>e| .str,_,_,e=>e| .unit,_,_,e=>e| .prod a b,_,_,e=>by obtain⟨c,d,rfl,h1,h2⟩:=e;exact⟨c,d,rfl,Z8 hok hh h1,Z8 hok hh h2⟩
 | .ent _ _ a b,_,_,e=>by obtain⟨c,d,rfl,h1,h2⟩:=e;exact⟨c,d,rfl,Z8 hok hh h1,Z8 hok hh h2⟩
 | .sl t,xs,_,e=>by
  rcases e with⟨ht,a,cap,rfl,hc,hx⟩|⟨ht,mv,rfl,hn,hx⟩
  .refine .inl ⟨ht,a,cap,rfl,hc,λi x hi=>?_⟩;obtain⟨blk,off,es,ha,hb,he,hr⟩:=hx i x hi;exact⟨blk,off,es,ha,hok _ _ hb,by rw[jF (hh _ _ hb)];exact he,Z8 hok hh hr⟩
  .refine .inr ⟨ht,mv,rfl,hn,λblk hb=>?_⟩;obtain⟨ho,es,ck,he,hs,hi⟩:=hx blk hb;refine⟨hok _ _ ho,es,ck,by rw[hh _ _ ho];exact he,hs,λi x hx=>?_⟩;obtain⟨e,h1,h2,h3⟩:=hi i x hx;exact⟨e,h1,h2,Z8 hok hh h3⟩
theorem pJ{h h' :Array Obj}{ok ok' :Nat->Ty->Prop} :∀{t:Ty} {x:t.den} {cs:List Value},t.flat=true->eG h ok t x cs->eG h' ok' t x cs
 | .bool,_,_,_,e=>e| .int _,_,_,_,e=>e| .str,_,_,_,e=>e| .unit,_,_,_,e=>e| .prod a b,_,_,f,e=>by simp[Ty.flat]at f;obtain⟨c,d,rfl,h1,h2⟩:=e;exact⟨c,d,rfl,pJ f.1 h1,pJ f.2 h2⟩
 | .sl t,xs,_,f,e=>by simp[Ty.flat]at f| .ent ..,xs,_,f,e=>by simp[Ty.flat]at f
theorem lX{h:Array Obj}{ok:Nat->Ty->Prop} :∀{t:Ty} {x:t.den} {cs:List Value},eG h ok t x cs->∀v∈cs,v.oneCell' =true
 | .bool,_,_,e=>by simp[eG]at e;subst e;simp[Value.oneCell']| .int _,_,_,e=>by simp[eG]at e;subst e;simp[Value.oneCell']| .str,_,_,e=>by simp[eG]at e;subst e;simp[Value.oneCell']| .unit,_,_,e=>by simp[eG]at e;subst e;simp| .prod a b,_,_,e=>by
  obtain⟨c,d,rfl,h1,h2⟩:=e;intro v hv;rcases o8.1 hv with hv|hv
  .exact lX h1 v hv
  .exact lX h2 v hv
 | .ent _ _ a b,_,_,e=>by
  obtain⟨c,d,rfl,h1,h2⟩:=e;intro v hv;rcases o8.1 hv with hv|hv
  .exact lX h1 v hv
  .exact lX h2 v hv
 | .sl t,xs,_,e=>by rcases e with⟨_,a,cap,rfl,_⟩|⟨_,mv,rfl,_⟩<;>simp[Value.oneCell']
theorem nU{h:Array Obj}{ok ok' :Nat->Ty->Prop} :∀{t:Ty} {x:t.den} {cs:List Value},(∀b u,ok b u->Ty.occ u t=true->ok' b u)->eG h ok t x cs->eG h ok' t x cs
 | .bool,_,_,_,e=>e| .int _,_,_,_,e=>e| .str,_,_,_,e=>e| .unit,_,_,_,e=>e| .prod a b,_,_,f,e=>by obtain⟨c,d,rfl,h1,h2⟩:=e;exact⟨c,d,rfl,nU (λb u h k=>f b u h (by simp[Ty.occ,k])) h1,nU (λb u h k=>f b u h (by simp[Ty.occ,k])) h2⟩
 | .ent _ _ a b,_,_,f,e=>by obtain⟨c,d,rfl,h1,h2⟩:=e;exact⟨c,d,rfl,nU (λb u h k=>f b u h (by simp[Ty.occ,k])) h1,nU (λb u h k=>f b u h (by simp[Ty.occ,k])) h2⟩
 | .sl t,xs,_,f,e=>by
  rcases e with⟨ht,a,cap,rfl,hc,hx⟩|⟨ht,mv,rfl,hn,hx⟩
  .refine .inl ⟨ht,a,cap,rfl,hc,λi x hi=>?_⟩;obtain⟨blk,off,es,ha,hb,he,hr⟩:=hx i x hi;exact⟨blk,off,es,ha,f _ _ hb (by simp[Ty.occ]),he,nU (λb u h k=>f b u h (by simp[Ty.occ,k])) hr⟩
  .refine .inr ⟨ht,mv,rfl,hn,λblk hb=>?_⟩;obtain⟨ho,es,ck,he,hs,hi⟩:=hx blk hb;refine⟨f _ _ ho (by simp[Ty.occ]),es,ck,he,hs,λi x hx=>?_⟩;obtain⟨e,h1,h2,h3⟩:=hi i x hx;exact⟨e,h1,h2,nU (λb u h k=>f b u h (by simp[Ty.occ,k])) h3⟩
inductive Loc where
 |nil|arr (blk off len cap sz:Nat)|st (blk:Nat)|mp (blk:Nat)
structure Mp where
 loc:Nat->Option Loc
 kid:Nat->List Nat
instance:CoeFun Mp (λ_=>Nat->Option Loc):=⟨Mp.loc⟩
def nom:Mp:=⟨λ_=>none,λ_=>[]⟩
structure Cx where
 h:Array Obj
 ok:Nat->Ty->Prop
 m:Mp
def Loc.view:Loc->Option (Nat×Nat)->Value->Prop
 | .nil,none,v=>v= .slice none 0 0| .nil,some (lo,hi),v=>lo=0/\hi=0/\v= .slice none 0 0| .arr blk off len cap _,none,v=>v= .slice (some ⟨blk,off,none⟩) len cap| .arr blk off len cap sz,some (lo,hi),v=>lo<=hi/\hi<=len/\v= .slice (some (if cap=lo then⟨blk,off,none⟩else⟨blk,off+lo*sz,none⟩)) (hi -lo) (cap -lo)| .st _,_,_=>False| .mp b,none,v=>v= .map (some b)| .mp _,some _,_=>False
def Loc.blks:Loc->List Nat
 | .nil=>[]| .arr b _ _ _ _=>[b]| .st b=>[b]| .mp b=>[b]
def SE(h:Array Obj)(ok:Nat->Ty->Prop)(t:Ty)(x:t.den)(o:Nat)(v:Value):Prop:=
 ∃blk off es,v= .pointer (some ⟨blk,off+o,none⟩)/\ok blk t/\Z9 h blk off t.size=some es/\eG h ok t x es
def tC(h:Array Obj)(ok:Nat->Ty->Prop):List ((t:Ty)×t.den)->List Value->Prop
 |[],vs=>vs=[]|c::cs,vs=>∃v r,vs=v::r/\SE h ok c.1 c.2 0 v/\tC h ok cs r
def mZ(C:Cx):V->Value->Prop
 | .undef,_=>True| .un,v=>v=Go.undef| .b x,v=>v= .bool x| .i k n,v=>v= .int k n| .s l,v=>v= .string ⟨l.toArray⟩| .nl,v=>v= .slice none 0 0| .ne b,v=>∃a c,v= .slice a 0 c/\a.isNone=b| .sl t xs,v=>eG C.h C.ok (.sl t) xs [v]| .own bx vw,v=>∃loc,C.m bx=some loc/\loc.view vw v| .ptr bx o,v=>∃blk,C.m bx=some (.st blk)/\v= .pointer (some ⟨blk,o,none⟩)| .ep bx ix o,v=>∃blk off len cap sz,C.m bx=some (.arr blk off len cap sz)/\ix<len/\v= .pointer (some ⟨blk,off+ix*sz+o,none⟩)| .dp t x o,v=>SE C.h C.ok t x o v| .glob g,v=>v= .pointer (some ⟨g,0,none⟩)| .fnv f,v=>v= .func (.func f) #[] #[]| .clos f caps,v=>∃vs,v= .func (.func f) #[] vs/\tC C.h C.ok caps vs.toList| .ifc t c,v=>∃u,v= .iface t u/\u.oneCell' =true/\mZ C c u|_,_=>False
def aY(C:Cx):List V->List Value->Prop
 |[],vs=>vs=[]|c::cs,vs=>∃v r,vs=v::r/\mZ C c v/\v.oneCell' =true/\aY C cs r
def KP(C:Cx):V->Value->Prop
 | .agg cs,v=>∃arr,v= .agg arr/\aY C cs arr.toList|c,v=>mZ C c v
def OV(C:Cx):List V->List Value->Prop
 |[],vs=>vs=[]|c::cs,vs=>∃v r,vs=v::r/\KP C c v/\OV C cs r
def fH(C:Cx):V->Value->Prop
 | .tup cs,v=>∃arr,v= .tuple arr/\OV C cs arr.toList|c,v=>KP C c v
def fzo(t:Ty)(n:Nat)(f:Nat×Nat):Prop:=f=(0,0)\/(t= .int .u8/\f=(n,n+1))
theorem fzo.of{f:Nat×Nat}(h:fzo t n f):f=(0,0)\/f=(n,n+1):=h.elim .inl λh=> .inr h.2
def arrOk(C:Cx)(t:Ty)(xs:List t.den):Loc->Prop
 | .nil=>xs=[]/\t.isEnt=false| .arr blk off len cap sz=>t.isEnt=false/\sz=t.size/\len=xs.length/\len<=cap/\∃c T f,C.h[blk]? =some (.cells c T f)/\fzo t c.size f/\off+cap*sz<=c.size/\
   ∀i x,xs[i]? =some x->∃es,Z9 C.h blk (off+i*sz) sz=some es/\eG C.h C.ok t x es
 | .st _=>False| .mp blk=>t.isEnt=true/\∃(es:Array MapEntry) (ck:Nat),C.h[blk]? =some (.map es ck)/\es.size=xs.length/\
   ∀(i:Nat) (x:t.den),(xs:List t.den)[i]? =some x->∃e:MapEntry,es[i]? =some e/\DT t e/\eG C.h C.ok t x (oU t e)
def qX{α:Type}(h:Array Obj)(sz:Nat)(R:Nat->α->List Value->List Nat->Prop)(xs:List α)(Os:List (List Nat)):Loc->Prop
 | .nil=>xs=[]/\Os=[]| .arr blk off len cap sz' =>sz' =sz/\len=xs.length/\len<=cap/\Os.length=xs.length/\∃c T,h[blk]? =some (.cells c T (0,0))/\off+cap*sz<=c.size/\
   ∀i x,xs[i]? =some x->∃es O,Os[i]? =some O/\Z9 h blk (off+i*sz) sz=some es/\R i x es O
 | .st _=>False| .mp _=>False
def iH(h:Array Obj)(ok:Nat->Ty->Prop):(m:M)->Option Nat->m.den->List Value->List Nat->Prop
 | .dat t,_,x,cs,O=>eG h ok t x cs/\O=[]| .own t,ho,xs,cs,O=>∃v,cs=[v]/\v.oneCell' =true/\(match ho with|some 0=>O=[]|_=>∃l,l.view none v/\arrOk ⟨h,ok,nom⟩ t xs l/\O=l.blks)| .pair a b,ho,x,cs,O=>∃c d O1 O2,cs=c++d/\O=O1++O2/\iH h ok a (match ho with|some o=>if o<a.size then some o else none|none=>none) x.1 c O1/\
   iH h ok b (match ho with|some o=>if o<a.size then none else some (o -a.size)|none=>none) x.2 d O2
 | .unit,_,_,cs,O=>cs=[]/\O=[]| .box m,_,x,cs,O=>∃blk arr T O',cs=[.pointer (some ⟨blk,0,none⟩)]/\h[blk]? =some (.cells arr T (0,0))/\iH h ok m none x arr.toList O' /\O=blk::O'| .owns m,ho,xs,cs,O=>∃v,cs=[v]/\v.oneCell' =true/\(match ho with|some 0=>O=[]|_=>m.el=true/\∃l Os,l.view none v/\qX h m.size (λ_ x es O=>iH h ok m none x es O) xs Os l/\O=l.blks++Os.flatten)| .ownb t,_,xs,cs,O=>∃l v,cs=[v]/\l.view none v/\arrOk ⟨h,ok,nom⟩ t xs l/\O=l.blks| .rp t,_,x,cs,O=>∃v,cs=[v]/\SE h ok t x 0 v/\O=[]| .fn f ts,_,x,cs,O=>∃vs,cs=[.func (.func f) #[] vs]/\tC h ok (Gw ts x) vs.toList/\O=[]| .ifc t m,_,x,cs,O=>∃u,cs=[.iface t u]/\iH h ok m none x [u] O| .cell b,_,x,cs,O=>∃v,cs=[v]/\v.oneCell' =true/\(b=some none->v= .slice none 0 0)/\(∀b',b=some (some b')->∃a c,v= .slice a 0 c/\a.isNone=b')/\O=[]| .fr t,_,xs,cs,O=>∃l v,cs=[v]/\l.view none v/\arrOk ⟨h,ok,nom⟩ t xs l/\(∀b∈l.blks,ok b t)/\O=[]
def LV(hole:Option (Nat×Nat×Option Nat))(i:Nat):Option Nat:=match hole with|some (j,o,_)=>if i=j then some o else none|none=>none
def JM(C:Cx)(sz:Nat)(l:Loc):Option (Nat×Nat×Option Nat)->Prop
 |none=>True|some (_,_,none)=>True|some (i,o,some n)=>∃blk off len cap u l',l= .arr blk off len cap sz/\Z9 C.h blk (off+i*sz+o) 1=some [u]/\C.m n=some l' /\l'.view none u
def UB(C:Cx)(m:M)(xs:List m.den)(hole:Option (Nat×Nat×Option Nat))(Os:List (List Nat))(l:Loc):Prop:=
 qX C.h m.size (λi x es O=>iH C.h C.ok m (LV hole i) x es O) xs Os l/\JM C m.size l hole
def uM(C:Cx)(n:Nat):V->Prop
 | .bcells cs=>∃blk arr T,C.m n=some (.st blk)/\C.h[blk]? =some (.cells arr T (0,0))/\aY C cs arr.toList| .barr t xs=>∃loc,C.m n=some loc/\arrOk C t xs loc| .bfrz t xs=>∃loc,C.m n=some loc/\arrOk C t xs loc/\(∀blk,blk∈loc.blks->C.ok blk t)| .barrs m xs hole=>m.el=true/\∃loc Os,C.m n=some loc/\UB C m xs hole Os loc/\C.m.kid n=Os.flatten| .bfc t x=>∃blk es,C.m n=some (.st blk)/\C.ok blk t/\Z9 C.h blk 0 t.size=some es/\eG C.h C.ok t x es| .gone t=>∃l,C.m n=some l/\∀blk off len cap sz,l= .arr blk off len cap sz->sz=t.size| .blen ln sz=>∃k l,n=EW+k/\C.m k=some l/\(match l with| .arr _ _ len _ sz' =>ln=(len:Int)/\sz=sz'| .nil=>ln=0| .st _=>False| .mp _=>False)|_=>True
def L8(m:Mp)(n:Nat):V->List Nat
 | .bcells _=>match m n with|some (.st blk)=>[blk]|_=>[]
 | .barr _ _=>match m n with|some (.arr blk _ _ _ _)=>[blk]|some (.mp blk)=>[blk]|_=>[]
 | .barrs _ _ _=>(match m n with|some (.arr blk _ _ _ _)=>[blk]|_=>[])++m.kid n|_=>[]
def Yv:V->List Ty
 | .barr t _=>[t]| .barrs m _ _=>m.ty::m.owned|_=>[]
structure Cx.le (C D:Cx):Prop where
 ok:∀b t,C.ok b t->D.ok b t
 h:∀b t,C.ok b t->D.h[b]? =C.h[b]?
 m:∀n l,C.m n=some l->D.m n=some l
theorem Cx.le.refl(C:Cx):C.le C:=⟨λ_ _ h=>h,λ_ _ _=>rfl,λ_ _ h=>h⟩
theorem Cx.le.trans{A B C:Cx}(h:A.le B)(k:B.le C):A.le C:=
 ⟨λb t x=>k.ok _ _ (h.ok _ _ x),λb t x=>(k.h _ _ (h.ok _ _ x)).trans (h.h _ _ x),λn l x=>k.m _ _ (h.m _ _ x)⟩
variable {v:Value}{ok':Nat->Ty->Prop}
theorem Bi(hok:∀b t,ok b t->ok' b t)(hh:∀b t,ok b t->h'[b]? =h[b]?){x:t.den}{o:Nat}(hr:SE h ok t x o v):SE h' ok' t x o v:=by obtain⟨b,o',es,hv,hb,hc,hp⟩:=hr;exact⟨b,o',es,hv,hok _ _ hb,by rw[jF (hh _ _ hb)];exact hc,Z8 hok hh hp⟩
theorem zx{h h' :Array Obj}{ok ok' :Nat->Ty->Prop}(hok:∀b t,ok b t->ok' b t)(hh:∀b t,ok b t->h'[b]? =h[b]?):∀{cs:List ((t:Ty)×t.den)} {vs:List Value},tC h ok cs vs->tC h' ok' cs vs
 |[],_,hr=>hr|_::_,_,⟨v,r,e,h1,h2⟩=>⟨v,r,e,Bi hok hh h1,zx hok hh h2⟩
variable {C:Cx}{D:Cx}
theorem Vm(h:C.le D):∀{c:V} {v:Value},mZ C c v->mZ D c v:=by
 intro c;induction c using V.rec (motive_2:=λ_=>True)<;>try trivial
 all_goals
  intro v hr;simp only[mZ]at hr ⊢
  try exact hr
 case sl t xs=>exact Z8 h.ok h.h hr
 case own bx vw=>obtain⟨l,hm,hv⟩:=hr;exact⟨l,h.m _ _ hm,hv⟩
 case ptr bx o=>obtain⟨b,hm,hv⟩:=hr;exact⟨b,h.m _ _ hm,hv⟩
 case ep bx ix o=>obtain⟨b,o',l,c,s,hm,hv⟩:=hr;exact⟨b,o',l,c,s,h.m _ _ hm,hv⟩
 case dp t x o=>exact Bi h.ok h.h hr
 case clos f caps=>obtain⟨vs,e,hc⟩:=hr;exact⟨vs,e,zx h.ok h.h hc⟩
 case ifc t c ih=>obtain⟨u,e,h1,hc⟩:=hr;exact⟨u,e,h1,ih hc⟩
theorem vY{C D:Cx}(h:C.le D):∀{cs:List V} {vs:List Value},aY C cs vs->aY D cs vs
 |[],_,hr=>hr|_::_,_,⟨v,r,e,h1,h2,h3⟩=>⟨v,r,e,Vm h h1,h2,vY h h3⟩
theorem Vl(h:C.le D){c:V}(hr:KP C c v):KP D c v:=by
 cases c<;>simp only[KP]at hr ⊢<;>try exact Vm h hr
 case agg cs=>obtain⟨arr,e,hl⟩:=hr;exact⟨arr,e,vY h hl⟩
theorem Vo{C D:Cx}(h:C.le D):∀{cs:List V} {vs:List Value},OV C cs vs->OV D cs vs
 |[],_,hr=>hr|_::_,_,⟨v,r,e,h1,h3⟩=>⟨v,r,e,Vl h h1,Vo h h3⟩
theorem EH(h:C.le D){c:V}(hr:fH C c v):fH D c v:=by
 cases c<;>simp only[fH]at hr ⊢<;>try exact Vl h hr
 case tup cs=>obtain⟨arr,e,hl⟩:=hr;exact⟨arr,e,Vo h hl⟩
variable {l:Loc}
theorem ik{m m' :Mp}(hok:∀b t,ok b t->ok' b t)(hh:∀b t,ok b t->h'[b]? =h[b]?)
  (hb:∀b∈l.blks,h'[b]? =h[b]?) (hr:arrOk ⟨h,ok,m⟩ t xs l):arrOk ⟨h',ok',m'⟩ t xs l:=by
 cases l with
 |nil=>exact hr|st b=>exact hr|mp blk=>have e:=hb blk (by simp[Loc.blks]);obtain⟨h1,es,ck,h2,h3,h4⟩:=hr;refine⟨h1,es,ck,by show h'[blk]? =_;rw[e];exact h2,h3,λi x hi=>?_⟩;obtain⟨en,a1,a2,a3⟩:=h4 i x hi;exact⟨en,a1,a2,Z8 hok hh a3⟩
 |arr blk off len cap sz=>have e:=hb blk (by simp[Loc.blks]);obtain⟨h0,h1,h2,h3,c,T,f,h4,hz,h5,h6⟩:=hr;refine⟨h0,h1,h2,h3,c,T,f,by show h'[blk]? =_;rw[e];exact h4,hz,h5,λi x hi=>?_⟩;obtain⟨es,he,hp⟩:=h6 i x hi;exact⟨es,by show Z9 h' _ _ _=_;rw[jF e];exact he,Z8 hok hh hp⟩
theorem PM(h:C.le D)(hb:∀b∈l.blks,D.h[b]? =C.h[b]?)(hr:arrOk C t xs l):arrOk D t xs l:=
 ik h.ok h.h hb hr
theorem vg{α:Type}{sz:Nat}{R R' :Nat->α->List Value->List Nat->Prop}{xs:List α}{Os:List (List Nat)}(hb:∀b∈l.blks,h'[b]? =h[b]?)
  (hR:∀i x es O,O∈Os->R i x es O->R' i x es O) (hr:qX h sz R xs Os l):qX h' sz R' xs Os l:=by
 cases l with
 |nil=>exact hr|st b=>exact hr|mp b=>exact hr|arr blk off len cap sz=>have e:=hb blk (by simp[Loc.blks]);obtain⟨h1,h2,h3,h7,c,T,h4,h5,h6⟩:=hr;refine⟨h1,h2,h3,h7,c,T,by rw[e];exact h4,h5,λi x hi=>?_⟩;obtain⟨es,O,hO,he,hp⟩:=h6 i x hi;exact⟨es,O,hO,by rw[jF e];exact he,hR _ _ _ _ (BH hO) hp⟩
theorem dI{h h' :Array Obj}{ok ok' :Nat->Ty->Prop}(hok:∀b t,ok b t->ok' b t)(hh:∀b t,ok b t->h'[b]? =h[b]?):
  ∀{m:M} {ho:Option Nat} {x:m.den} {cs:List Value} {O:List Nat},(∀b∈O,h'[b]? =h[b]?)->iH h ok m ho x cs O->iH h' ok' m ho x cs O
 | .dat t,_,_,_,_,_,e=>⟨Z8 hok hh e.1,e.2⟩| .own t,ho,_,_,O,hb,⟨v,e,h1,ha⟩=>by
  refine⟨v,e,h1,?_⟩;split at ha
  .exact ha
  .obtain⟨l,hv,ha,ho⟩:=ha;exact⟨l,hv,ik hok hh (by subst ho;exact hb) ha,ho⟩
 | .pair a b,_,_,_,_,hb,⟨c,d,O1,O2,e,eo,h1,h2⟩=>by subst eo;exact⟨c,d,O1,O2,e,rfl,dI hok hh (λb h=>hb b (by simp[h])) h1,dI hok hh (λb h=>hb b (by simp[h])) h2⟩| .unit,_,_,_,_,_,e=>e| .box m,_,_,_,_,hb,⟨blk,arr,T,O',e,hh',hr,eo⟩=>by subst eo;exact⟨blk,arr,T,O',e,by rw[hb blk o7];exact hh',dI hok hh (λb h=>hb b (by simp[h])) hr,rfl⟩| .owns m,ho,_,_,O,hb,⟨v,e,h1,ha⟩=>by
  refine⟨v,e,h1,?_⟩;split at ha
  .exact ha
  .obtain⟨he,l,Os,hv,ha,ho⟩:=ha;subst ho;exact⟨he,l,Os,hv,vg (λb h=>hb b (by simp[h])) (λi x es O hO hr=>dI hok hh (λb h=>hb b (by simp only[o8,X7];exact .inr ⟨O,hO,h⟩)) hr) ha,rfl⟩
 | .ownb t,_,_,_,_,hb,⟨l,v,e,hv,ha,ho⟩=>⟨l,v,e,hv,ik hok hh (by subst ho;exact hb) ha,ho⟩| .rp t,_,_,_,_,_,⟨v,e,h1,h2⟩=>⟨v,e,Bi hok hh h1,h2⟩| .fn f ts,_,_,_,_,_,⟨vs,e,h1,h2⟩=>⟨vs,e,zx hok hh h1,h2⟩| .ifc t m,_,_,_,_,hb,⟨u,e,h1⟩=>⟨u,e,dI hok hh hb h1⟩| .cell b,_,_,_,_,_,h=>h| .fr t,_,_,_,_,_,⟨l,v,e,hv,ha,hk,ho⟩=>⟨l,v,e,hv,ik hok hh (λb h=>hh _ _ (hk b h)) ha,λb h=>hok _ _ (hk b h),ho⟩
theorem IX(h:C.le D){v:V}(hk:D.m.kid n=C.m.kid n)(hb:∀b∈L8 C.m n v,D.h[b]? =C.h[b]?)(hr:uM C n v):uM D n v:=by
 cases v<;>simp only[uM]at hr ⊢
 case bcells cs=>obtain⟨blk,arr,T,hm,hh,hl⟩:=hr;exact⟨blk,arr,T,h.m _ _ hm,by rw[hb blk (by simp[L8,hm])];exact hh,vY h hl⟩
 case barr t xs=>
  obtain⟨l,hm,ha⟩:=hr;refine⟨l,h.m _ _ hm,PM h ?_ ha⟩;intro b hbl;refine hb b ?_;cases l<;>simp[Loc.blks]at hbl
  .subst hbl;simp[L8,hm]
  .cases ha
  .subst hbl;simp[L8,hm]
 case bfrz t xs=>obtain⟨l,hm,ha,hok⟩:=hr;refine⟨l,h.m _ _ hm,PM h ?_ ha,λblk e=>h.ok _ _ (hok _ e)⟩;intro b hbl;exact h.h _ _ (hok _ hbl)
 case barrs m xs hole=>
  obtain⟨he,l,Os,hm,ha,ho⟩:=hr;obtain⟨ha,hh⟩:=ha;refine⟨he,l,Os,h.m _ _ hm,⟨vg ?_ ?_ ha,?_⟩,hk.trans ho⟩
  .intro b hbl;refine hb b ?_;cases l<;>simp[Loc.blks]at hbl
   .subst hbl;simp[L8,hm]
   .cases ha
   .cases ha
  .intro i x es O hO hr;refine dI h.ok h.h (λb hbO=>hb b ?_) hr;simp only[L8,o8];right;rw[ho];exact X7.2 ⟨O,hO,hbO⟩
  .rcases hole with _|⟨i,o,_|k⟩
   .trivial
   .trivial
   .obtain⟨blk,off,len,cap,u,l',rfl,h1,h2,h3⟩:=hh;exact⟨blk,off,len,cap,u,l',rfl,by rw[jF (hb blk (by simp[L8,hm]))];exact h1,h.m _ _ h2,h3⟩
 case bfc t x=>obtain⟨blk,es,hm,hok,he,hr⟩:=hr;exact⟨blk,es,h.m _ _ hm,h.ok _ _ hok,by rw[jF (h.h _ _ hok)];exact he,Z8 h.ok h.h hr⟩
 case gone t=>obtain⟨l,hm,hs⟩:=hr;exact⟨l,h.m _ _ hm,hs⟩
 case blen ln sz=>obtain⟨k,l,e,hm,hs⟩:=hr;exact⟨k,l,e,h.m _ _ hm,hs⟩
theorem gK{C:Cx} :∀{cs:List V} {vs:List Value},aY C cs vs->cs.length=vs.length
 |[],_,h=>by simp[aY]at h;simp[h]|_::_,_,⟨v,r,e,_,_,h3⟩=>by subst e;simp[gK h3]
theorem lW{C:Cx} :∀{a:List V} {va:List Value} {b:List V} {vb:List Value},aY C a va->aY C b vb->aY C (a++b) (va++vb)
 |[],_,_,_,h,k=>by simp[aY]at h;subst h;exact k|_::_,_,_,_,⟨v,r,e,h1,h2,h3⟩,k=>by subst e;exact⟨v,r++_,rfl,h1,h2,lW h3 k⟩
theorem EF{C:Cx} :∀{cs:List V} {vs:List Value},aY C cs vs->∀v∈vs,v.oneCell' =true
 |[],_,h=>by simp[aY]at h;simp[h]|_::_,_,⟨v,r,e,_,h2,h3⟩=>by
  subst e;intro u hu;rcases o9.1 hu with rfl|hu
  .exact h2
  .exact EF h3 u hu
theorem mM{C:Cx} :∀(n:Nat) {cs:List V} {vs:List Value},aY C cs vs->aY C (cs.drop n) (vs.drop n)
 |0,_,_,h=>by simpa using h|n+1,[],_,h=>by simp[aY]at h;subst h;simp[aY]|n+1,_::_,_,⟨v,r,e,_,_,h3⟩=>by subst e;simpa using mM n h3
theorem oJ{C:Cx} :∀(n:Nat) {cs:List V} {vs:List Value},aY C cs vs->aY C (cs.take n) (vs.take n)
 |0,_,_,h=>by simp[aY]|n+1,[],_,h=>by simp[aY]at h;subst h;simp[aY]|n+1,_::_,_,⟨v,r,e,h1,h2,h3⟩=>by subst e;exact⟨v,r.take n,o7,h1,h2,oJ n h3⟩
theorem fB:∀(t:Ty) (x:t.den) (r:List V),flat t x r=flat t x []++r
 | .bool,_,_=>rfl| .int _,_,_=>rfl| .str,_,_=>rfl| .sl _,_,_=>rfl| .unit,_,_=>rfl| .prod a b,x,r=>by simp only[flat];rw[fB a x.1 (flat b x.2 r),fB b x.2 r,fB a x.1 (flat b x.2 [])];simp| .ent _ _ a b,x,r=>by simp only[flat];rw[fB a x.1 (flat b x.2 r),fB b x.2 r,fB a x.1 (flat b x.2 [])];simp
theorem jw{C:Cx} :∀{t:Ty} {x:t.den} {cs:List Value},eG C.h C.ok t x cs->aY C (flat t x []) cs
 | .bool,x,_,h=>by simp[eG]at h;subst h;exact⟨_,_,rfl,rfl,rfl,rfl⟩| .int _,x,_,h=>by simp[eG]at h;subst h;exact⟨_,_,rfl,rfl,rfl,rfl⟩| .str,x,_,h=>by simp[eG]at h;subst h;exact⟨_,_,rfl,rfl,rfl,rfl⟩| .unit,_,_,h=>by simp[eG]at h;subst h;rfl
 | .sl t,xs,_,h=>by have h' :=h;rcases h with⟨_,a,cap,rfl,_⟩|⟨_,mv,rfl,_⟩<;>exact⟨_,_,rfl,h',rfl,rfl⟩
 | .ent _ _ a b,x,_,h=>by obtain⟨c,d,rfl,h1,h2⟩:=h;simp only[flat];rw[fB a];exact lW (jw h1) (jw h2)
 | .prod a b,x,_,h=>by obtain⟨c,d,rfl,h1,h2⟩:=h;simp only[flat];rw[fB a];exact lW (jw h1) (jw h2)
theorem iJ:∀(t:Ty) (x:t.den),(flat t x []).length=t.size
 | .bool,_=>rfl| .int _,_=>rfl| .str,_=>rfl| .sl _,_=>rfl| .unit,_=>rfl| .prod a b,x=>by simp only[flat,Ty.size];rw[fB a,J8,iJ a x.1,iJ b x.2]| .ent _ _ a b,x=>by simp only[flat,Ty.size];rw[fB a,J8,iJ a x.1,iJ b x.2]
theorem ja{vw:Option (Nat×Nat)}(ha:arrOk C t xs l)(hv:l.view vw v)
  (hok:∀b t,C.ok b t->ok' b t) (hb:∀blk,blk∈l.blks->ok' blk t):eG C.h ok' (.sl t) (cZ vw xs) [v]:=by
 cases l with
 |st b=>cases ha|mp b=>
  obtain⟨h0,es,ck,h1,h2,h3⟩:=ha;cases vw with
  |some p=>cases hv|none=>simp only[Loc.view]at hv;subst hv;refine .inr ⟨h0,some b,rfl,(λh=>nomatch h),λblk e=>?_⟩;cases e;refine⟨hb b (by simp[Loc.blks]),es,ck,h1,h2,λi x hi=>?_⟩;obtain⟨en,a1,a2,a3⟩:=h3 i x hi;exact⟨en,a1,a2,Z8 hok (λ_ _ _=>rfl) a3⟩
 |nil=>
  obtain⟨ha,h0⟩:=ha;subst ha;cases vw with
  |none=>simp only[Loc.view]at hv;subst hv;exact .inl ⟨h0,none,0,rfl,A7 _,λi x hi=>by simp[cZ]at hi⟩|some p=>obtain⟨lo,hi⟩:=p;obtain⟨rfl,rfl,rfl⟩:=hv;exact .inl ⟨h0,none,0,by simp[cZ,oG],by simp[cZ,oG],λi x hi=>by simp[cZ,oG]at hi⟩
 |arr blk off len cap sz=>
  obtain⟨h0,rfl,rfl,hc,c,T,f,hh,hz,hs,hx⟩:=ha;have hbk:=hb blk (by simp[Loc.blks]);cases vw with
  |none=>simp only[Loc.view]at hv;subst hv;refine .inl ⟨h0,_,cap,rfl,hc,λi x hi=>?_⟩;obtain⟨es,he,hr⟩:=hx i x hi;exact⟨blk,off,es,rfl,hbk,he,Z8 hok (λ_ _ _=>rfl) hr⟩
  |some p=>
   obtain⟨lo,hi⟩:=p;obtain⟨h1,h2,rfl⟩:=hv;have hl:(cZ (some (lo,hi)) xs).length=hi -lo:=by simp[cZ,oG];omega
   refine .inl ⟨h0,_,cap -lo,by rw[hl],by rw[hl];omega,λi x hix=>?_⟩;have hi' :i<hi -lo:=by rw[←hl];exact(Z5.1 hix).1
   have hx' :xs[lo+i]? =some x:=by
    simp only[cZ,oG,J7,N7]at hix;split at hix
    .exact hix
    .cases hix
   obtain⟨es,he,hr⟩:=hx _ x hx';have hne:cap≠lo:=o5;refine⟨blk,off+lo*t.size,es,by simp[hne],hbk,?_,Z8 hok (λ_ _ _=>rfl) hr⟩;rw[←he];congr 1;rw[D8];omega
end Go.GP
namespace Go.GP
abbrev Sm:=Nat->V
def upd(S:Sm)(k:Nat)(v:V):Sm:=λn=>if n=k then v else S n
@[simp] theorem eX (S:Sm) (k:Nat) (v:V):upd S k v k=v:=by simp[upd]
theorem V6(S:Sm){k n:Nat}(v:V)(h:n≠k):upd S k v n=S n:=by simp[upd,h]
variable {α:Type}
def Cmd.eval :Cmd α->Sm->Tr->Option (α×Sm×Tr)
 | .ret x,S,t=>some (x,S,t)| .fail,_,_=>none| .get k c,S,t=>(c (S k)).eval S (k::t.1,t.2)| .set k v c,S,t=>c.eval (upd S k v) (t.1,k::t.2)
 | .opt o c,S,t=>match o with|some x=>(c x).eval S t|none=>none
 | .br b c d,S,t=>if b=true then c.eval S t else d.eval S t
def Cmd.post :Cmd α->Sm->(α->Sm->Prop)->Prop
 | .ret x,S,Q=>Q x S| .fail,_,_=>True| .get k c,S,Q=>(c (S k)).post S Q| .set k v c,S,Q=>c.post (upd S k v) Q| .opt o c,S,Q=>∀x,o=some x->(c x).post S Q| .br b c d,S,Q=>(b=true->c.post S Q)/\(b=false->d.post S Q)
theorem kC{α:Type}{Q:α->Sm->Prop} :∀{c:Cmd α} {S S' :Sm} {t t' :Tr} {x:α},c.post S Q->c.eval S t=some (x,S',t')->Q x S'
 | .ret x,_,_,_,_,_,h,e=>by simp[Cmd.eval]at e;obtain⟨rfl,rfl,rfl⟩:=e;exact h
 | .fail,_,_,_,_,_,h,e=>by simp[Cmd.eval]at e| .get k c,_,_,_,_,_,h,e=>kC (c:=c _) h e| .set k v c,_,_,_,_,_,h,e=>kC (c:=c) h e| .opt o c,_,_,_,_,_,h,e=>by
  cases o with
  |none=>simp[Cmd.eval]at e|some x=>exact kC (c:=c x) (h x rfl) e
 | .br b c d,_,_,_,_,_,h,e=>by
  cases b
  .exact kC (c:=d) (h.2 rfl) (by simpa[Cmd.eval]using e)
  .exact kC (c:=c) (h.1 rfl) (by simpa[Cmd.eval]using e)
theorem qC{α:Type}{Q Q' :α->Sm->Prop}(hq:∀x S,Q x S->Q' x S):∀{c:Cmd α} {S:Sm},c.post S Q->c.post S Q'
 | .ret x,_,h=>hq _ _ h| .fail,_,_=>trivial| .get k c,_,h=>qC hq (c:=c _) h| .set k v c,_,h=>qC hq (c:=c) h
 | .opt o c,_,h=>λx e=>qC hq (c:=c x) (h x e)| .br b c d,_,h=>⟨λe=>qC hq (c:=c) (h.1 e),λe=>qC hq (c:=d) (h.2 e)⟩
theorem xg{R:Type} :∀(v:V) (K:V->R),v.force K=K v:=by
 intro v;induction v using V.rec (motive_2:=λ_=>True)<;>try trivial
 all_goals intro K
 all_goals try rfl
 case i k n=>cases k<;>rfl
 case own bx vw=>cases vw<;>rfl
 case barrs m xs h=>rcases h with _|⟨p,q,_|r⟩<;>rfl
 case ifc t v ih=>simp only[V.force];rw[ih]
theorem MV{R:Type} :∀(l:List V) (K:List V->R),FK l K=K l
 |[],_=>rfl|v::r,K=>by simp[FK,xg,MV r]
theorem VX{R:Type}(v:V)(K:V->R):v.force2 K=K v:=by unfold V.force2;rw[xg];cases v<;>simp[MV]
theorem UU(k:Nat)(v:V)(s:St):ai (.kv k v::s)=upd (ai s) k v:=by
 funext n;simp only[ai,upd];by_cases h:n=k
 .subst h;simp
 .have:Nat.beq k n=false:=by
   cases hb:Nat.beq k n with
   |false=>rfl|true=>exact absurd (bT hb).symm h
  simp[h,this]
theorem uF{α β:Type}{o:Option α}{f:α->Option β}{r:β}(h:l9 o f=some r):∃x,o=some x/\f x=some r:=by
 cases o with
 |none=>simp[l9]at h|some x=>exact⟨x,rfl,h⟩
theorem iP{α R:Type} :∀{c:Cmd α} {s:St} {t:Tr} {K:α->St->Tr->Option R} {r:R},c.runK s t K=some r->
  ∃x s' t',c.eval (ai s) t=some (x,ai s',t')/\K x s' t' =some r
 | .ret x,s,t,K,r,h=>⟨x,s,t,rfl,h⟩| .fail,_,_,_,_,h=>by simp[Cmd.runK]at h| .get k c,s,t,K,r,h=>by simp only[Cmd.runK,xg]at h;exact iP (c:=c _) h| .set k v c,s,t,K,r,h=>by simp only[Cmd.runK,VX]at h;obtain⟨x,s',t',e,hk⟩:=iP (c:=c) h;exact⟨x,s',t',by simpa[Cmd.eval,UU]using e,hk⟩
 | .opt o c,s,t,K,r,h=>by simp only[Cmd.runK]at h;obtain⟨y,rfl,h⟩:=uF h;exact iP (c:=c y) h
 | .br b c d,s,t,K,r,h=>by
  simp only[Cmd.runK]at h;cases b
  .obtain⟨x,s',t',e,hk⟩:=iP (c:=d) (show d.runK s t K=some r from h);exact⟨x,s',t',by simpa[Cmd.eval]using e,hk⟩
  .obtain⟨x,s',t',e,hk⟩:=iP (c:=c) (show c.runK s t K=some r from h);exact⟨x,s',t',by simpa[Cmd.eval]using e,hk⟩
theorem qw{α:Type} :∀{c:Cmd α} {S S' :Sm} {t t' :Tr} {x:α},c.eval S t=some (x,S',t')->(∀k∈t.1,k∈t'.1)/\(∀k∈t.2,k∈t'.2)
 | .ret x,_,_,_,_,_,e=>by simp[Cmd.eval]at e;obtain⟨rfl,rfl,rfl⟩:=e;exact⟨λ_ h=>h,λ_ h=>h⟩
 | .fail,_,_,_,_,_,e=>by simp[Cmd.eval]at e| .get k c,_,_,_,_,_,e=>by have h:=qw (c:=c _) e;exact⟨λn hn=>h.1 n (by simp[hn]),h.2⟩| .set k v c,_,_,_,_,_,e=>by have h:=qw (c:=c) e;exact⟨h.1,λn hn=>h.2 n (by simp[hn])⟩| .opt o c,_,_,_,_,_,e=>by
  cases o with
  |none=>simp[Cmd.eval]at e|some x=>exact qw (c:=c x) e
 | .br b c d,_,_,_,_,_,e=>by
  cases b
  .exact qw (c:=d) (by simpa[Cmd.eval]using e)
  .exact qw (c:=c) (by simpa[Cmd.eval]using e)
theorem nY{α:Type} :∀{c:Cmd α} {S S' :Sm} {t t' :Tr} {x:α},c.eval S t=some (x,S',t')->∀T:Sm,(∀k∈t'.1,T k=S k)->
  ∃T',c.eval T t=some (x,T',t')/\(∀k,T k=S k->T' k=S' k)/\(∀k,k∉t'.2->T' k=T k)/\(∀k,k∈t'.2->k∉t.2->T' k=S' k)
 | .ret x,_,_,_,_,_,e,T,hT=>by simp[Cmd.eval]at e;obtain⟨rfl,rfl,rfl⟩:=e;exact⟨T,rfl,λk h=>h,λ_ _=>rfl,λk h1 h2=>absurd h1 h2⟩
 | .fail,_,_,_,_,_,e,_,_=>by simp[Cmd.eval]at e| .get k c,S,_,t,t',_,e,T,hT=>by have hk:T k=S k:=hT k ((qw (c:=c _) e).1 k o7);obtain⟨T',h1,h2,h3,h4⟩:=nY (c:=c _) e T hT;exact⟨T',by simpa[Cmd.eval,hk]using h1,h2,h3,h4⟩
 | .set k v c,S,_,t,t',_,e,T,hT=>by
  obtain⟨T',h1,h2,h3,h4⟩:=nY (c:=c) e (upd T k v) (λn hn=>by
   by_cases h:n=k
   .subst h;simp
   .rw[V6 _ _ h,V6 _ _ h];exact hT n hn)
  have hkin:k∈t'.2:=(qw (c:=c) e).2 k o7;refine⟨T',h1,λn hn=>h2 n ?_,λn hn=>?_,λn hn hn' =>?_⟩
  .by_cases h:n=k
   .subst h;simp
   .rw[V6 _ _ h,V6 _ _ h];exact hn
  .have:n≠k:=λh=>hn (h▸hkin);rw[h3 n hn,V6 _ _ this]
  .by_cases h:n=k
   .subst h;exact h2 n o7
   .exact h4 n hn (by simp[h,hn'])
 | .opt o c,_,_,_,_,_,e,T,hT=>by
  cases o with
  |none=>simp[Cmd.eval]at e|some x=>exact nY (c:=c x) e T hT
 | .br b c d,_,_,_,_,_,e,T,hT=>by
  cases b
  .obtain⟨T',h1,h2⟩:=nY (c:=d) (by simpa[Cmd.eval]using e) T hT;exact⟨T',by simpa[Cmd.eval]using h1,h2⟩
  .obtain⟨T',h1,h2⟩:=nY (c:=c) (by simpa[Cmd.eval]using e) T hT;exact⟨T',by simpa[Cmd.eval]using h1,h2⟩
theorem xR{c:Cmd α}{S S' :Sm}{t t' :Tr}{x:α}(e:c.eval S t=some (x,S',t'))(k:Nat)(h:k∉t'.2):S' k=S k:=by obtain⟨T',h1,_,h3,_⟩:=nY e S (λ_ _=>rfl);rw[e]at h1;simp at h1;rw[h1];exact h3 k h
section draws
variable {n:Nat} {c:Nat->Cmd Unit} {S:Nat->Sm} {T:Nat->Tr}
def SD(S:Nat->Sm)(T:Nat->Tr)(D:List Nat):Nat->Sm
 |0=>S 0
 |m+1=>λk=>if m∈D/\k∈(T m).2 then S (m+1) k else SD S T D m k
theorem Be(hs:∀i,i<n->(c i).eval (S i) ([],[])=some ((),S (i+1),T i))(D:List Nat)(k:Nat):
  ∀m,m<=n->(∀j,j<m->k∈(T j).2->j∈D)->SD S T D m k=S m k
 |0,_,_=>rfl|m+1,hm,h=>by
  have ih:=Be hs D k m o5 (λj hj=>h j o5);simp only[SD];by_cases hk:k∈(T m).2
  .rw[if_pos ⟨h m o5 hk,hk⟩]
  .rw[if_neg (λx=>hk x.2),ih,xR (hs m o5) k hk]
theorem Jg(D:List Nat)(k i:Nat):∀m,i<=m->(∀j,i<=j->j<m->k∈(T j).2->j∉D)->SD S T D m k=SD S T D i k
 |m,hm,h=>by
  induction m with
  |zero=>have:i=0:=o5;subst this;rfl|succ m ih=>
   by_cases e:i=m+1
   .subst e;rfl
   .simp only[SD];rw[if_neg (λx=>h m o5 o5 x.2 x.1)];exact ih o5 (λj h1 h2=>h j h1 o5)
theorem Uu(D:List Nat)(i k:Nat)(hk:k∉(T i).2):∀m,SD S T (i::D) m k=SD S T D m k
 |0=>rfl|m+1=>by
  simp only[SD,Uu D i k hk m];by_cases e:m=i
  .subst e;simp[hk]
  .simp[o9,e]
theorem Xf(hs:∀i,i<n->(c i).eval (S i) ([],[])=some ((),S (i+1),T i)){D:List Nat}(hD:∀i,i<n->i∈D):SD S T D n=S n:=by funext k;exact Be hs D k n o5 (λj hj _=>hD j hj)
theorem a1P(n:Nat):SD S T [] n=S 0:=by
 induction n with
 |zero=>rfl|succ m ih=>funext k;simp[SD,ih]
end draws
end Go.GP
namespace Go.GP
structure Fx where
 P:Program
 E:Env
 w0:World
 O:List Nat
 ok0:Nat->Ty->Prop
 tm0:Array Value
structure Frame' (w0 w:World) (O:List Nat):Prop where
 os:w.os=w0.os
 tape:w.tape=w0.tape
 output:w.output=w0.output
 size:w0.heap.size<=w.heap.size
 block:∀b,b<w0.heap.size->b∉O->w.heap[b]? =w0.heap[b]?
theorem Frame'.refl(w:World)(O:List Nat):Frame' w w O:=⟨rfl,rfl,rfl,A7 _,λ_ _ _=>rfl⟩
def a1b(h:Array Obj)(g n:Nat):Prop:=∃c T f,h[g]? =some (.cells c T f)/\c.size=n
def DF(C:Cx)(g:Nat)(t:Ty)(xs:List t.den):Prop:=
 C.ok g t/\a1b C.h g (xs.length*t.size)/\∀i x,xs[i]? =some x->∃es,Z9 C.h g (i*t.size) t.size=some es/\eG C.h C.ok t x es
theorem DF.le{C D:Cx}(h:C.le D){g:Nat}{t:Ty}{xs:List t.den}(k:DF C g t xs):DF D g t xs:=by obtain⟨h1,h3,h2⟩:=k;refine⟨h.ok _ _ h1,by unfold a1b at h3 ⊢;rw[h.h _ _ h1];exact h3,λi x hi=>?_⟩;obtain⟨es,he,hr⟩:=h2 i x hi;exact⟨es,by rw[jF (h.h _ _ h1)];exact he,Z8 h.ok h.h hr⟩
structure Rel (X:Fx) (cl ch:Nat) (S:Sm) (m:Mp) (ok:Nat->Ty->Prop) (a:Act) (w:World):Prop where
 size:a.tmps.size=X.E.nt
 nodef:a.defers=[]
 slot:∀n,n<S9->fH ⟨w.heap,ok,m⟩ (S n) (a.tmps.getD n Go.undef)
 box:∀n,uM ⟨w.heap,ok,m⟩ n (S (S9+n))
 inj:∀n n' b,b∈L8 m n (S (S9+n))->b∈L8 m n' (S (S9+n'))->n=n'
 nd:∀n,(L8 m n (S (S9+n))).Nodup
 sep:∀n b,b∈L8 m n (S (S9+n))->(∀t,¬ok b t)/\b<w.heap.size/\(X.w0.heap.size<=b\/b∈X.O)
 okLt:∀b t,ok b t->b<w.heap.size
 okIn:∀b t,X.ok0 b t->ok b t
 okOut:∀b t,ok b t->X.ok0 b t\/X.w0.heap.size<=b\/b∈X.O
 frame:Frame' X.w0 w X.O
 fresh:∀n,cl<=n->S (S9+n)= .undef->m n=none
 strict:∀n,ch<=n->m n=none
 gl:∀g u,Z4 X.E.gl g=some u->DF ⟨w.heap,ok,m⟩ g u.1 u.2
 kept:∀n∈X.E.kp,a.tmps.getD n Go.undef=X.tm0.getD n Go.undef
def gq(m:Mp)(n:Nat)(l:Loc)(ks:List Nat):Mp:=⟨λk=>if k=n then some l else m k,λk=>if k=n then ks else m.kid k⟩
@[simp] theorem X6 (m:Mp) (n:Nat) (l:Loc) (ks:List Nat):gq m n l ks n=some l:=by simp[gq]
variable {n:Nat}{k:Nat}
theorem dA(m:Mp)(l:Loc)(ks:List Nat)(h:k≠n):gq m n l ks k=m k:=by simp[gq,h]
@[simp] theorem a9a (m:Mp) (n:Nat) (l:Loc) (ks:List Nat):(gq m n l ks).kid n=ks:=by simp[gq]
theorem Gz(m:Mp)(l:Loc)(ks:List Nat)(h:k≠n):(gq m n l ks).kid k=m.kid k:=by simp[gq,h]
def uY(m:Mp)(n:Nat)(ks:List Nat):Mp:=⟨m.loc,λk=>if k=n then ks else m.kid k⟩
@[simp] theorem a7Y (m:Mp) (n k:Nat) (ks:List Nat):uY m n ks k=m k:=rfl
@[simp] theorem a7X (m:Mp) (n:Nat) (ks:List Nat):(uY m n ks).kid n=ks:=by simp[uY]
theorem NM(m:Mp)(ks:List Nat)(h:k≠n):(uY m n ks).kid k=m.kid k:=by simp[uY,h]
theorem mP(m:Mp)(n:Nat):uY m n (m.kid n)=m:=by
 cases m with|mk l k=>
 simp only[uY,Mp.mk.injEq,true_and];funext j;split
 .rename_i e;rw[e]
 .rfl
variable {v:V}
theorem yA{m m' :Mp}(h:m' n=m n)(k:m'.kid n=m.kid n):L8 m' n v=L8 m n v:=by cases v<;>simp only[L8,h,k]
variable {d:Nat}
theorem LU{tmps:Array Value}(h:d<tmps.size)(x e:Value):(tmps.setIfInBounds d x).getD d e=x:=by simp[Array.getD,h]
theorem zD{tmps:Array Value}(h:n≠d)(x e:Value):(tmps.setIfInBounds d x).getD n e=tmps.getD n e:=by simp only[N9];rw[Array.getElem?_setIfInBounds];simp[Ne.symm h]
structure Tk (X:Fx) (S:Sm) (m:Mp) (ok:Nat->Ty->Prop) (w:World) (T:List Nat):Prop where
 nodup:T.Nodup
 free:∀b∈T,(∀t,¬ok b t)/\b<w.heap.size/\(X.w0.heap.size<=b\/b∈X.O)/\∀n,b∉L8 m n (S (S9+n))
theorem Tk.nil{X:Fx}{S:Sm}{m:Mp}{ok:Nat->Ty->Prop}{w:World} :Tk X S m ok w []:=⟨U5,λb h=>by cases h⟩
def okW(ok:Nat->Ty->Prop)(bs:List Nat)(Ts:List Ty):Nat->Ty->Prop:=λb t=>ok b t\/(b∈bs/\t∈Ts)
variable {w':World}{bs:List Nat}
section
variable {X:Fx} {cl ch:Nat} {S:Sm} {m:Mp} {ok:Nat->Ty->Prop} {a:Act} {w:World} {T:List Nat}
theorem Tk.perm{T T' :List Nat}(h:Tk X S m ok w T)(p:T.Perm T'):Tk X S m ok w T' :=
 ⟨p.nodup_iff.1 h.nodup,λb hb=>h.free b (p.mem_iff.2 hb)⟩
theorem Tk.left{T T' :List Nat}(h:Tk X S m ok w (T++T')):Tk X S m ok w T:=
 ⟨(F9.1 h.nodup).1,λb hb=>h.free b (G7 _ hb)⟩
theorem Tk.right{T T' :List Nat}(h:Tk X S m ok w (T++T')):Tk X S m ok w T' :=
 ⟨(F9.1 h.nodup).2.1,λb hb=>h.free b (W9 _ hb)⟩
theorem Ko{n:Nat} :∀{l:List Nat},uB n l=false->n∉l
 |[],_,h=>by cases h|k::r,hb,h=>by
  unfold uB at hb;cases hk:Nat.beq k n<;>rw[hk]at hb
  .rcases o9.1 h with e|h
   .subst e;rw[show Nat.beq n n=true from Nat.beq_refl n]at hk;cases hk
   .exact Ko hb h
  .cases hb
theorem Nk{n:Nat} :∀{l:List Nat},uB n l=true->n∈l
 |[],h=>by cases h|k::r,hb=>by
  unfold uB at hb;cases hk:Nat.beq k n<;>rw[hk]at hb
  .exact I4 _ (Nk hb)
  .have:=bT hk;subst this;exact dU
theorem qB{E:Env}{t:Nat}(h:Nw E t=true):t<E.nt/\t∉E.kp:=by
 unfold Nw at h;cases hb:Nat.blt t E.nt<;>rw[hb]at h
 .cases h
 .simp only[cond_true,Y4]at h;exact⟨by rw[aF]at hb;exact hb,Ko h⟩
theorem Rel.put(R:Rel X cl ch S m ok a w)(hnt:X.E.nt<=S9){x:Value}(hd:Nw X.E d=true)(hv:fH ⟨w.heap,ok,m⟩ v x):
  Rel X cl ch (upd S d v) m ok (a.put (some d) x) w:=by
 obtain⟨hd,hkp⟩:=qB hd;have hb:∀n,upd S d v (S9+n)=S (S9+n):=λn=>V6 _ _ o5;have hkept:∀n∈X.E.kp,(a.put (some d) x).tmps.getD n Go.undef=X.tm0.getD n Go.undef:=λn hn=>by have e:n≠d:=λe=>hkp (e▸hn);simp only[Act.put];rw[zD e];exact R.kept n hn
 refine { R with size:=(by simp[Act.put,R.size]),nodef:=(by simp[Act.put,R.nodef]),slot:=λn hn=>?_,box:=λn=>(by rw[hb];exact R.box n),inj:=λn n' b=>(by rw[hb,hb];exact R.inj n n' b),nd:=λn=>(by rw[hb];exact R.nd n),sep:=λn b=>(by rw[hb];exact R.sep n b),fresh:=λn h1 h2=>R.fresh n h1 (by rwa[hb]at h2),kept:=hkept };by_cases e:n=d
 .subst e;simp only[eX,Act.put];rw[LU (by rw[R.size];exact hd)];exact hv
 .rw[V6 _ _ e];simp only[Act.put];rw[zD e];exact R.slot n hn
theorem Rel.slotV(R:Rel X cl ch S m ok a w)(hd:d<S9)(hv:fH ⟨w.heap,ok,m⟩ v (a.tmps.getD d Go.undef)):
  Rel X cl ch (upd S d v) m ok a w:=by
 have hb:∀n,upd S d v (S9+n)=S (S9+n):=λn=>V6 _ _ o5;refine { R with slot:=λn hn=>?_,box:=λn=>(by rw[hb];exact R.box n),inj:=λn n' b=>(by rw[hb,hb];exact R.inj n n' b),nd:=λn=>(by rw[hb];exact R.nd n),sep:=λn b=>(by rw[hb];exact R.sep n b),fresh:=λn h1 h2=>R.fresh n h1 (by rwa[hb]at h2) };by_cases e:n=d
 .subst e;simp only[eX];exact hv
 .rw[V6 _ _ e];exact R.slot n hn
theorem Rel.world(R:Rel X cl ch S m ok a w){ok' :Nat->Ty->Prop}(hos:w'.os=w.os)(htp:w'.tape=w.tape)(hout:w'.output=w.output)(hsz:w.heap.size<=w'.heap.size)
  (hkeep:∀b,b<w.heap.size->((∃t,ok b t)\/(∃n,b∈L8 m n (S (S9+n)))\/¬(X.w0.heap.size<=b\/b∈X.O))->w'.heap[b]? =w.heap[b]?)
  (hok:∀b t,ok b t->ok' b t) (hok' :∀b t,ok' b t->b<w'.heap.size/\(ok b t\/((X.w0.heap.size<=b\/b∈X.O)/\∀n,b∉L8 m n (S (S9+n))))):
  Rel X cl ch S m ok' a w' :=by
 have hle:Cx.le ⟨w.heap,ok,m⟩ ⟨w'.heap,ok',m⟩:=⟨hok,λb t hb=>hkeep b (R.okLt b t hb) (.inl ⟨t,hb⟩),λ_ _ h=>h⟩;refine { kept:=R.kept,size:=R.size,nodef:=R.nodef,inj:=R.inj,nd:=R.nd,fresh:=R.fresh,strict:=R.strict,slot:=λn hn=>EH hle (R.slot n hn),box:=λn=>IX hle rfl (λb hb=>hkeep b (R.sep n b hb).2.1 (.inr (.inl ⟨n,hb⟩))) (R.box n),sep:=λn b hb=>?_,okLt:=λb t hb=>(hok' b t hb).1,okIn:=λb t hb=>hok b t (R.okIn b t hb),okOut:=λb t hb=>?_,frame:=?_,gl:=λg u hg=>DF.le hle (R.gl g u hg) }
 .obtain⟨h1,h2,h3⟩:=R.sep n b hb;refine⟨λt h=>?_,o5,h3⟩;rcases(hok' b t h).2 with h|⟨_,h⟩
  .exact h1 t h
  .exact h n hb
 .rcases(hok' b t hb).2 with h|⟨h,_⟩
  .exact R.okOut b t h
  .exact .inr h
 .obtain⟨f1,f2,f3,f4,f5⟩:=R.frame;refine⟨hos.trans f1,htp.trans f2,hout.trans f3,o5,λb hb hO=>?_⟩;rw[hkeep b o5 (.inr (.inr (by simp[hO];omega)))];exact f5 b hb hO
theorem Rel.same(R:Rel X cl ch S m ok a w)(hos:w'.os=w.os)(htp:w'.tape=w.tape)(hout:w'.output=w.output)(hh:w'.heap=w.heap):Rel X cl ch S m ok a w' :=by refine R.world hos htp hout (by rw[hh];exact A7 _) (λb _ _=>by rw[hh]) (λ_ _ h=>h) (λb t h=>⟨by rw[hh];exact R.okLt b t h,.inl h⟩)
theorem oH{n k b:Nat}(hv:L8 m n v=[])(h:b∈L8 m k (upd S (S9+n) v (S9+k))):k≠n/\b∈L8 m k (S (S9+k)):=by
 by_cases e:k=n
 .subst e;rw[eX,hv]at h;cases h
 .rw[V6 _ _ o5]at h;exact⟨e,h⟩
theorem Rel.killV(R:Rel X cl ch S m ok a w)(n:Nat)(hv:v≠.undef)(hw:L8 m n v=[])(hB:uM ⟨w.heap,ok,m⟩ n v):Rel X cl ch (upd S (S9+n) v) m ok a w:=by
 have ho:∀k b,b∈L8 m k (upd S (S9+n) v (S9+k))->k≠n/\b∈L8 m k (S (S9+k)):=λk b h=>oH hw h;refine { R with slot:=λk hk=>(by rw[V6 _ _ o5];exact R.slot k hk),box:=λk=>?_,inj:=λk k' b h h' =>R.inj k k' b (ho _ _ h).2 (ho _ _ h').2,nd:=λk=>?_,sep:=λk b h=>R.sep k b (ho _ _ h).2,fresh:=λk h1 h2=>?_ }
 .by_cases e:k=n
  .subst e;rw[eX];exact hB
  .rw[V6 _ _ o5];exact R.box k
 .by_cases e:k=n
  .subst e;rw[eX,hw];exact U5
  .rw[V6 _ _ o5];exact R.nd k
 .by_cases e:k=n
  .subst e;rw[eX]at h2;exact absurd h2 hv
  .rw[V6 _ _ o5]at h2;exact R.fresh k h1 h2
theorem Rel.kill(R:Rel X cl ch S m ok a w)(n:Nat):Rel X cl ch (upd S (S9+n) .dead) m ok a w:=R.killV n o7 rfl trivial
theorem Tk.killV(R:Rel X cl ch S m ok a w)(h:Tk X S m ok w T)(n:Nat)(hw:L8 m n v=[])(hbs:∀b,b∈bs->b∈L8 m n (S (S9+n)))(hnd:bs.Nodup):
  Tk X (upd S (S9+n) v) m ok w (T++bs):=by
 refine⟨F9.2 ⟨h.nodup,hnd,λx hx y hy e=>?_⟩,λb hb=>?_⟩
 .subst e;exact(h.free x hx).2.2.2 n (hbs x hy)
 .rcases o8.1 hb with hb|hb
  .obtain⟨h1,h2,h3,h4⟩:=h.free b hb;exact⟨h1,h2,h3,λk e=>h4 k (oH hw e).2⟩
  .obtain⟨h1,h2,h3⟩:=R.sep n b (hbs b hb);exact⟨h1,h2,h3,λk e=>(oH hw e).1 (R.inj k n b (oH hw e).2 (hbs b hb))⟩
theorem Rel.mark(R:Rel X cl ch S m ok a w){md:M}{xs:List md.den}(hS:S (S9+n)= .barrs md xs none):Rel X cl ch (upd S (S9+(EW+n)) (.blen (x9 xs) md.size)) m ok a w:=by
 refine R.killV (EW+n) o7 rfl ?_;have hb:=R.box n;rw[hS]at hb;obtain⟨_,l,Os,hm,⟨ha,hho⟩,_⟩:=hb;refine⟨n,l,rfl,hm,?_⟩;cases l with
 |nil=>obtain⟨rfl,_⟩:=ha;rfl
 |st b=>cases ha|mp b=>cases ha|arr blk off len cap sz=>exact⟨by rw[ha.2.1];rfl,ha.1.symm⟩
theorem Tk.kill(R:Rel X cl ch S m ok a w)(h:Tk X S m ok w T)(n:Nat)(hbs:∀b,b∈bs->b∈L8 m n (S (S9+n)))(hnd:bs.Nodup):
  Tk X (upd S (S9+n) .dead) m ok w (T++bs):=h.killV R n rfl hbs hnd
theorem Rel.lay(R:Rel X cl ch S m ok a w){l:Loc}{ks:List Nat}(hn:S (S9+n)= .undef)(hcl:cl<=n)(hch:n<ch)(hv:v≠.undef)
  (hos:w'.os=w.os) (htp:w'.tape=w.tape) (hout:w'.output=w.output) (hsz:w.heap.size<=w'.heap.size)
  (hkeep:∀b,b<w.heap.size->b∉L8 (gq m n l ks) n v->w'.heap[b]? =w.heap[b]?)
  (hnd:(L8 (gq m n l ks) n v).Nodup)
  (hfree:∀b∈L8 (gq m n l ks) n v,(∀t,¬ok b t)/\b<w'.heap.size/\(X.w0.heap.size<=b\/b∈X.O)/\∀k,b∉L8 m k (S (S9+k)))
  (hB:uM ⟨w'.heap,ok,gq m n l ks⟩ n v):Rel X cl ch (upd S (S9+n) v) (gq m n l ks) ok a w' :=by
 have hm:m n=none:=R.fresh n hcl hn;have hR:Rel X cl ch S m ok a w' :=by
  refine R.world hos htp hout hsz (λb hb h=>?_) (λ_ _ h=>h) (λb t h=>⟨by have:=R.okLt b t h;omega,.inl h⟩);refine hkeep b hb (λe=>?_);obtain⟨h1,h2,h3,h4⟩:=hfree b e;rcases h with⟨t,h⟩|⟨k,h⟩|h
  .exact h1 t h
  .exact h4 k h
  .exact h h3
 have hle:Cx.le ⟨w'.heap,ok,m⟩ ⟨w'.heap,ok,gq m n l ks⟩:=⟨λ_ _ h=>h,λ_ _ _=>rfl,λk x h=>by
  by_cases e:k=n
  .subst e;simp[hm]at h
  .show gq m n l ks k=some x;rw[dA _ _ _ e];exact h⟩
 have hob:∀k,k≠n->L8 (gq m n l ks) k (upd S (S9+n) v (S9+k))=L8 m k (S (S9+k)):=λk e=>by rw[V6 _ _ o5];exact yA (dA _ _ _ e) (Gz _ _ _ e)
 have hobn:L8 (gq m n l ks) n (upd S (S9+n) v (S9+n))=L8 (gq m n l ks) n v:=by rw[eX]
 refine { kept:=hR.kept,size:=hR.size,nodef:=hR.nodef,okLt:=hR.okLt,okIn:=hR.okIn,okOut:=hR.okOut,frame:=hR.frame,slot:=λk hk=>(by rw[V6 _ _ o5];exact EH hle (hR.slot k hk)),box:=λk=>?_,inj:=λk k' b h h' =>?_,nd:=λk=>?_,sep:=λk b h=>?_,fresh:=λk h1 h2=>?_,strict:=λk h=>?_,gl:=λg u hg=>DF.le hle (hR.gl g u hg) }
 .by_cases e:k=n
  .subst e;rw[eX];exact hB
  .rw[V6 _ _ o5];refine IX hle (Gz _ _ _ e) (λb hb=>rfl) (hR.box k)
 .by_cases e:k=n
  .by_cases e' :k' =n
   .rw[e,e']
   .subst e;rw[hobn]at h;rw[hob k' e']at h';exact absurd h' ((hfree b h).2.2.2 k')
  .by_cases e' :k' =n
   .subst e';rw[hobn]at h';rw[hob k e]at h;exact absurd h ((hfree b h').2.2.2 k)
   .rw[hob k e]at h;rw[hob k' e']at h';exact R.inj k k' b h h'
 .by_cases e:k=n
  .subst e;rw[hobn];exact hnd
  .rw[hob k e];exact R.nd k
 .by_cases e:k=n
  .subst e;rw[hobn]at h;obtain⟨h1,h2,h3,_⟩:=hfree b h;exact⟨h1,h2,h3⟩
  .rw[hob k e]at h;exact hR.sep k b h
 .by_cases e:k=n
  .subst e;rw[eX]at h2;exact absurd h2 hv
  .rw[V6 _ _ o5]at h2;rw[dA _ _ _ e];exact R.fresh k h1 h2
 .have e:k≠n:=o5;rw[dA _ _ _ e];exact R.strict k h
theorem Rel.modK(R:Rel X cl ch S m ok a w)(hT:Tk X S m ok w T){ks:List Nat}(hv:v≠.undef)
  (hnd:(L8 (uY m n ks) n v).Nodup) (hsub:∀b∈L8 (uY m n ks) n v,b∈L8 m n (S (S9+n))\/b∈T)
  (hos:w'.os=w.os) (htp:w'.tape=w.tape) (hout:w'.output=w.output) (hsz:w'.heap.size=w.heap.size)
  (hkeep:∀b,b∉L8 m n (S (S9+n))->w'.heap[b]? =w.heap[b]?) (hB:uM ⟨w'.heap,ok,uY m n ks⟩ n v)
  {T' :List Nat} (hnd' :T'.Nodup) (hT' :∀b∈T',(b∈L8 m n (S (S9+n))\/b∈T)/\b∉L8 (uY m n ks) n v):
  Rel X cl ch (upd S (S9+n) v) (uY m n ks) ok a w' /\Tk X (upd S (S9+n) v) (uY m n ks) ok w' T' :=by
 have hsep:∀b,b∈L8 m n (S (S9+n))\/b∈T->(∀t,¬ok b t)/\b<w.heap.size/\(X.w0.heap.size<=b\/b∈X.O)/\∀k,k≠n->b∉L8 m k (S (S9+k)):=λb h=>by
  rcases h with h|h
  .obtain⟨h1,h2,h3⟩:=R.sep n b h;exact⟨h1,h2,h3,λk e h' =>e (R.inj k n b h' h)⟩
  .obtain⟨h1,h2,h3,h4⟩:=hT.free b h;exact⟨h1,h2,h3,λk _=>h4 k⟩
 have hle:Cx.le ⟨w.heap,ok,m⟩ ⟨w'.heap,ok,uY m n ks⟩:=⟨λ_ _ h=>h,λb t hb=>hkeep b (λe=>(R.sep n b e).1 t hb),λ_ _ h=>h⟩;have hob:∀k,k≠n->L8 (uY m n ks) k (upd S (S9+n) v (S9+k))=L8 m k (S (S9+k)):=λk e=>by rw[V6 _ _ o5];exact yA rfl (NM _ _ e)
 have hobn:L8 (uY m n ks) n (upd S (S9+n) v (S9+n))=L8 (uY m n ks) n v:=by rw[eX]
 refine⟨?_,hnd',λb hb=>?_⟩
 .refine { kept:=R.kept,size:=R.size,nodef:=R.nodef,okLt:=λb t hb=>(by rw[hsz];exact R.okLt b t hb),okIn:=R.okIn,okOut:=R.okOut,strict:=R.strict,slot:=λk hk=>(by rw[V6 _ _ o5];exact EH hle (R.slot k hk)),box:=λk=>?_,inj:=λk k' b h h' =>?_,nd:=λk=>?_,sep:=λk b h=>?_,fresh:=λk h1 h2=>?_,frame:=?_,gl:=λg u hg=>DF.le hle (R.gl g u hg) }
  .by_cases e:k=n
   .subst e;rw[eX];exact hB
   .rw[V6 _ _ o5];refine IX hle (NM _ _ e) (λb hb=>hkeep b (λe' =>e (R.inj k n b hb e'))) (R.box k)
  .by_cases e:k=n
   .by_cases e' :k' =n
    .rw[e,e']
    .subst e;rw[hobn]at h;rw[hob k' e']at h';exact absurd h' ((hsep b (hsub b h)).2.2.2 k' e')
   .by_cases e' :k' =n
    .subst e';rw[hobn]at h';rw[hob k e]at h;exact absurd h ((hsep b (hsub b h')).2.2.2 k e)
    .rw[hob k e]at h;rw[hob k' e']at h';exact R.inj k k' b h h'
  .by_cases e:k=n
   .subst e;rw[hobn];exact hnd
   .rw[hob k e];exact R.nd k
  .by_cases e:k=n
   .subst e;rw[hobn]at h;obtain⟨h1,h2,h3,_⟩:=hsep b (hsub b h);exact⟨h1,by rw[hsz];exact h2,h3⟩
   .rw[hob k e]at h;obtain⟨h1,h2,h3⟩:=R.sep k b h;exact⟨h1,by rw[hsz];exact h2,h3⟩
  .obtain⟨f1,f2,f3,f4,f5⟩:=R.frame;refine⟨hos.trans f1,htp.trans f2,hout.trans f3,by rw[hsz];exact f4,λb hb hO=>?_⟩;rw[hkeep b (λe=>?_)]
   .exact f5 b hb hO
   .rcases(R.sep n b e).2.2 with h|h
    .omega
    .exact hO h
  .by_cases e:k=n
   .subst e;rw[eX]at h2;exact absurd h2 hv
   .rw[V6 _ _ o5]at h2;exact R.fresh k h1 h2
 .obtain⟨h0,h0'⟩:=hT' b hb;obtain⟨h1,h2,h3,h4⟩:=hsep b h0;refine⟨h1,by rw[hsz];exact h2,h3,λk h=>?_⟩;by_cases e:k=n
  .subst e;rw[hobn]at h;exact h0' h
  .rw[hob k e]at h;exact h4 k e h
theorem Rel.mod(R:Rel X cl ch S m ok a w)(ho:L8 m n v=L8 m n (S (S9+n)))(hv:v≠.undef)
  (hos:w'.os=w.os) (htp:w'.tape=w.tape) (hout:w'.output=w.output) (hsz:w'.heap.size=w.heap.size)
  (hkeep:∀b,b∉L8 m n (S (S9+n))->w'.heap[b]? =w.heap[b]?) (hB:uM ⟨w'.heap,ok,m⟩ n v):Rel X cl ch (upd S (S9+n) v) m ok a w' :=by
 have h:=R.modK (T:=[]) Tk.nil (n:=n) (v:=v) (ks:=m.kid n) (w' :=w') (T' :=[]) hv (by rw[mP,ho];exact R.nd n) (by rw[mP,ho];exact λb h=> .inl h) hos htp hout hsz hkeep (by rw[mP];exact hB) U5 (λb h=>by cases h);rw[mP]at h;exact h.1
theorem Rel.widen(R:Rel X cl ch S m ok a w)(hv:v≠.undef)(ho:L8 m n v=[]){Ts:List Ty}(hbs:∀b∈bs,b∈L8 m n (S (S9+n)))
  (hB:uM ⟨w.heap,okW ok bs Ts,m⟩ n v):Rel X cl ch (upd S (S9+n) v) m (okW ok bs Ts) a w:=by
 have hmono:∀b t,ok b t->okW ok bs Ts b t:=λb t h=> .inl h;have hob:∀k b,b∈L8 m k (upd S (S9+n) v (S9+k))->k≠n/\b∈L8 m k (S (S9+k)):=λk b h=>oH ho h;have hle:Cx.le ⟨w.heap,ok,m⟩ ⟨w.heap,okW ok bs Ts,m⟩:=⟨hmono,λ_ _ _=>rfl,λ_ _ h=>h⟩;refine { kept:=R.kept,size:=R.size,nodef:=R.nodef,strict:=R.strict,frame:=R.frame,okIn:=λb t h=>hmono b t (R.okIn b t h),slot:=λk hk=>(by rw[V6 _ _ o5];exact EH hle (R.slot k hk)),box:=λk=>?_,inj:=λk k' b h h' =>R.inj k k' b (hob _ _ h).2 (hob _ _ h').2,nd:=λk=>?_,sep:=λk b h=>?_,okLt:=λb t h=>?_,okOut:=λb t h=>?_,fresh:=λk h1 h2=>?_,gl:=λg u hg=>DF.le hle (R.gl g u hg) }
 .by_cases e:k=n
  .subst e;rw[eX];exact hB
  .rw[V6 _ _ o5];exact IX hle rfl (λb hb=>rfl) (R.box k)
 .by_cases e:k=n
  .subst e;rw[eX,ho];exact U5
  .rw[V6 _ _ o5];exact R.nd k
 .obtain⟨e,h⟩:=hob k b h;obtain⟨h1,h2,h3⟩:=R.sep k b h;refine⟨λt h' =>?_,h2,h3⟩;rcases h' with h'|⟨h',_⟩
  .exact h1 t h'
  .exact e (R.inj k n b h (hbs b h'))
 .rcases h with h|⟨h,_⟩
  .exact R.okLt b t h
  .exact(R.sep n b (hbs b h)).2.1
 .rcases h with h|⟨h,_⟩
  .exact R.okOut b t h
  .exact .inr (R.sep n b (hbs b h)).2.2
 .by_cases e:k=n
  .subst e;rw[eX]at h2;exact absurd h2 hv
  .rw[V6 _ _ o5]at h2;exact R.fresh k h1 h2
theorem Tk.widen(h:Tk X S m ok w T)(ho:L8 m n v=[]){Ts:List Ty}(hbs:∀b∈bs,b∈L8 m n (S (S9+n))):
  Tk X (upd S (S9+n) v) m (okW ok bs Ts) w T:=by
 refine⟨h.nodup,λb hb=>?_⟩;obtain⟨h1,h2,h3,h4⟩:=h.free b hb;refine⟨λt e=>?_,h2,h3,λk e=>h4 k (oH ho e).2⟩;rcases e with e|⟨e,_⟩
 .exact h1 t e
 .exact h4 n (hbs b e)
theorem Rel.backV(R:Rel X cl ch S m ok a w){O1 B:List Nat}(hv:v≠.undef)(hT:Tk X S m ok w (O1++B))(ho:L8 m n v=O1)(hB:uM ⟨w.heap,ok,m⟩ n v):
  Rel X cl ch (upd S (S9+n) v) m ok a w/\Tk X (upd S (S9+n) v) m ok w B:=by
 have hnd:=F9.1 hT.nodup;have h:=R.modK hT (n:=n) (v:=v) (ks:=m.kid n) (w' :=w) (T' :=B) hv (by rw[mP,ho];exact hnd.1) (by rw[mP,ho];exact λb h=> .inr (by simp[h])) rfl rfl rfl rfl (λ_ _=>rfl) (by rw[mP];exact hB) hnd.2.1
  (λb hb=>⟨.inr (by simp[hb]),by rw[mP,ho];exact λh=>hnd.2.2 b h b hb rfl⟩)
 rw[mP]at h;exact h
end
end Go.GP
namespace Go.GP
def yI:Loc->Option (Nat×Nat)->Loc
 | .arr blk off len cap sz,some (lo,hi)=>if cap=lo then .arr blk off 0 0 sz else .arr blk (off+lo*sz) (hi -lo) (cap -lo) sz|l,_=>l
variable {t:Ty}{v:Value}{l:Loc}
theorem xH{C:Cx}{xs:List t.den}{vw:Option (Nat×Nat)}(ha:arrOk C t xs l)(hv:l.view vw v):
  arrOk C t (cZ vw xs) (yI l vw)/\(yI l vw).view none v/\(yI l vw).blks=l.blks:=by
 cases l with
 |st b=>cases ha|mp b=>
  cases vw with
  |none=>exact⟨ha,hv,rfl⟩|some p=>cases hv
 |nil=>
  obtain⟨ha,h0⟩:=ha;subst ha;cases vw with
  |none=>exact⟨⟨rfl,h0⟩,hv,rfl⟩|some p=>obtain⟨lo,hi⟩:=p;obtain⟨rfl,rfl,rfl⟩:=hv;exact⟨⟨rfl,h0⟩,rfl,rfl⟩
 |arr blk off len cap sz=>
  cases vw with
  |none=>exact⟨ha,hv,rfl⟩|some p=>
   obtain⟨lo,hi⟩:=p;obtain⟨h0,rfl,rfl,hc,c,T,f,hh,hz,hs,hx⟩:=ha;obtain⟨h1,h2,rfl⟩:=hv;have hl:(cZ (some (lo,hi)) xs).length=hi -lo:=by simp[cZ,oG];omega
   by_cases e:cap=lo
   .subst e;have e2:hi=cap:=o5;subst e2;simp only[yI,if_true,Loc.view,Ef];refine⟨⟨h0,rfl,by rw[hl];omega,A7 _,c,T,f,hh,hz,?_,λi x hi=>?_⟩,trivial,rfl⟩
    .have:=di (hi*t.size);omega
    .have:i<0:=by
      have:=(Z5.1 hi).1;rw[hl]at this;omega
     omega
   .simp only[yI,e,if_false,Loc.view];refine⟨⟨h0,rfl,by rw[hl],o5,c,T,f,hh,hz,?_,λi x hix=>?_⟩,trivial,rfl⟩
    .have:off+lo*t.size+(cap -lo)*t.size=off+cap*t.size:=by
      rw[fP,←D8];congr 2;omega
     rw[this];exact hs
    .have hi' :i<hi -lo:=by rw[←hl];exact(Z5.1 hix).1
     have hx' :xs[lo+i]? =some x:=by
      simp only[cZ,oG,J7,N7]at hix;split at hix
      .exact hix
      .cases hix
     obtain⟨es,he,hr⟩:=hx _ x hx';refine⟨es,?_,hr⟩;rw[←he];congr 1;rw[D8];omega
def FZ(ag:Bool)(v:Value)(cs:List Value):Prop:=match ag with
 |true=>∃arr,v= .agg arr/\arr.toList=cs|false=>cs=[v]
def kR(h:Array Obj)(ok:Nat->Ty->Prop):(ms:List MG)->bC ms->List Value->List Nat->Prop
 |[],_,vs,O=>vs=[]/\O=[]|[m],x,vs,O=>∃v cs,vs=[v]/\FZ m.1 v cs/\iH h ok m.2 none x cs O|m::m' ::r,x,vs,O=>∃v cs vs' O1 O2,vs=v::vs' /\O=O1++O2/\FZ m.1 v cs/\iH h ok m.2 none x.1 cs O1/\kR h ok (m' ::r) x.2 vs' O2
theorem iG{vw:Option (Nat×Nat)}(h:l.view vw v):v.oneCell' =true:=by
 cases l<;>rcases vw with _|⟨lo,hi⟩<;>simp only[Loc.view]at h
 .subst h;rfl
 .obtain⟨_,_,rfl⟩:=h;rfl
 .subst h;rfl
 .obtain⟨_,_,rfl⟩:=h;rfl
 .subst h;rfl
variable {h:Array Obj}
theorem Jz{ok:Nat->Ty->Prop}{x:t.den}{o:Nat}(k:SE h ok t x o v):v.oneCell' =true:=by obtain⟨_,_,_,rfl,_⟩:=k;rfl
variable {α:Type}{ok':Nat->Ty->Prop}{cs:List Value}{O:List Nat}
section
variable {h:Array Obj} {ok:Nat->Ty->Prop}
theorem nI{xs:List t.den} :iH h ok (.own t) none xs cs O↔∃l v,cs=[v]/\l.view none v/\arrOk ⟨h,ok,nom⟩ t xs l/\O=l.blks:=by
 constructor
 .rintro⟨v,e,_,l,hv,ha,ho⟩;exact⟨l,v,e,hv,ha,ho⟩
 .rintro⟨l,v,e,hv,ha,ho⟩;exact⟨v,e,iG hv,l,hv,ha,ho⟩
theorem oK{m:M}{xs:List m.den} :iH h ok (.owns m) none xs cs O↔m.el=true/\∃l v Os,cs=[v]/\l.view none v/\
  qX h m.size (λ_ x es O=>iH h ok m none x es O) xs Os l/\O=l.blks++Os.flatten:=by
 constructor
 .rintro⟨v,e,_,he,l,Os,hv,ha,ho⟩;exact⟨he,l,v,Os,e,hv,ha,ho⟩
 .rintro⟨he,l,v,Os,e,hv,ha,ho⟩;exact⟨v,e,iG hv,he,l,Os,hv,ha,ho⟩
theorem WM{a b:M}{x:a.den×b.den} :iH h ok (.pair a b) none x cs O↔∃c d O1 O2,cs=c++d/\O=O1++O2/\iH h ok a none x.1 c O1/\iH h ok b none x.2 d O2:=Iff.rfl
theorem kX:∀{m:M} {ho:Option Nat} {x:m.den} {cs:List Value} {O:List Nat},iH h ok m ho x cs O->∀v∈cs,v.oneCell' =true
 | .dat t,_,_,_,_,e=>lX e.1| .own t,_,_,_,_,⟨v,e,hv,_⟩=>by subst e;simp[hv]| .owns t,_,_,_,_,⟨v,e,hv,_⟩=>by subst e;simp[hv]| .ownb t,_,_,_,_,⟨l,v,e,hv,_⟩=>by subst e;simp[iG hv]| .pair a b,_,_,_,_,⟨c,d,_,_,e,_,h1,h2⟩=>by
  subst e;intro v hv;rcases o8.1 hv with hv|hv
  .exact kX h1 v hv
  .exact kX h2 v hv
 | .unit,_,_,_,_,⟨e,_⟩=>by subst e;simp| .box m,_,_,_,_,⟨_,_,_,_,e,_⟩=>by subst e;simp[Value.oneCell']| .rp t,_,_,_,_,⟨v,e,hv,_⟩=>by subst e;simp[Jz hv]| .fn f ts,_,_,_,_,⟨vs,e,_⟩=>by subst e;simp[Value.oneCell']| .ifc t m,_,_,_,_,⟨u,e,_⟩=>by subst e;simp[Value.oneCell']| .cell _,_,_,_,_,⟨v,e,h,_⟩=>by subst e;simp[h]| .fr t,_,_,_,_,⟨l,v,e,hv,_⟩=>by subst e;simp[iG hv]
theorem Fj{α β α' β' :Type}(ea:α=α')(eb:β=β')(e:(α×β)=(α' ×β'))(x:α×β):cast e x=(cast ea x.1,cast eb x.2):=by subst ea;subst eb;rfl
theorem M.ty_size:∀{m:M},m.el=true->m.ty.size=m.size
 | .dat _,_=>rfl| .own _,_=>rfl| .owns _,_=>rfl| .unit,_=>rfl| .pair a b,h=>by
  have h' :a.el=true/\b.el=true:=by simpa[M.el]using h
  simp[M.ty,Ty.size,M.size,M.ty_size h'.1,M.ty_size h'.2]
 | .box _,h=>by simp[M.el]at h| .ownb _,h=>by simp[M.el]at h| .rp _,h=>by simp[M.el]at h| .fn _ _,h=>by simp[M.el]at h| .ifc _ _,h=>by simp[M.el]at h| .cell _,h=>by simp[M.el]at h| .fr _,h=>by simp[M.el]at h
theorem au:∀{m:M} {ho:Option Nat} {x:m.den} {cs:List Value} {O:List Nat},iH h ok m ho x cs O->cs.length=m.size
 | .dat t,_,_,_,_,e=>aO e.1| .own t,_,_,_,_,⟨v,e,hv,_⟩=>by subst e;rfl| .owns t,_,_,_,_,⟨v,e,hv,_⟩=>by subst e;rfl| .ownb t,_,_,_,_,⟨l,v,e,hv,_⟩=>by subst e;rfl| .pair a b,_,_,_,_,⟨c,d,_,_,e,_,h1,h2⟩=>by subst e;simp[au h1,au h2,M.size]| .unit,_,_,_,_,⟨e,_⟩=>by subst e;rfl| .box m,_,_,_,_,⟨_,_,_,_,e,_⟩=>by subst e;rfl| .rp t,_,_,_,_,⟨v,e,hv,_⟩=>by subst e;rfl| .fn f ts,_,_,_,_,⟨vs,e,_⟩=>by subst e;rfl| .ifc t m,_,_,_,_,⟨u,e,_⟩=>by subst e;rfl| .cell _,_,_,_,_,⟨v,e,_⟩=>by subst e;rfl| .fr t,_,_,_,_,⟨l,v,e,hv,_⟩=>by subst e;rfl
theorem PN{sz:Nat}{mp:Mp}(h0:t.isEnt=false)(e:α=t.den)(e' :List α=List t.den)(hs:t.size=sz){R:Nat->α->List Value->List Nat->Prop}{xs:List α}{Os:List (List Nat)}
  (hR:∀i x es O,O∈Os->R i x es O->eG h ok' t (cast e x) es) (ha:qX h sz R xs Os l):arrOk ⟨h,ok',mp⟩ t (cast e' xs) l:=by
 subst e;simp only[cast_eq]at hR ⊢;cases l with
 |nil=>exact⟨ha.1,h0⟩|st b=>exact ha|mp b=>exact ha.elim|arr blk off len cap sz' =>obtain⟨h1,h2,h3,h7,c,T,h4,h5,h6⟩:=ha;refine⟨h0,by rw[hs];exact h1,h2,h3,c,T,_,h4,.inl rfl,by rw[h1];exact h5,λi x hi=>?_⟩;obtain⟨es,O,hO,hc,hr⟩:=h6 i x hi;exact⟨es,by rw[h1];exact hc,hR i x es O (BH hO) hr⟩
theorem M.ty_ent:∀{m:M},m.el=true->m.ty.isEnt=false
 | .dat t,h=>by simpa[M.el,M.ty]using h| .own _,_=>rfl| .owns _,_=>rfl| .unit,_=>rfl| .pair _ _,_=>rfl| .box _,h=>by simp[M.el]at h| .ownb _,h=>by simp[M.el]at h| .rp _,h=>by simp[M.el]at h| .fn _ _,h=>by simp[M.el]at h| .ifc _ _,h=>by simp[M.el]at h| .cell _,h=>by simp[M.el]at h| .fr _,h=>by simp[M.el]at h
theorem EG{ok' :Nat->Ty->Prop}(hok:∀b t,ok b t->ok' b t):∀{m:M} (he:m.el=true) {x:m.den} {cs:List Value} {O:List Nat},(∀b∈O,∀t∈m.owned,ok' b t)->iH h ok m none x cs O->eG h ok' m.ty (cast (M.denEq m he) x) cs
 | .dat t,_,_,_,_,_,e=>Z8 hok (λ_ _ _=>rfl) e.1| .unit,_,_,_,_,_,e=>e.1| .own t,he,xs,_,_,hO,e=>by obtain⟨l,v,rfl,hv,ha,rfl⟩:=nI.1 e;exact ja (C:=⟨h,ok,nom⟩) (vw:=none) ha hv hok (λblk hb=>hO blk hb t (by simp[M.owned]))
 | .pair a b,he,x,_,_,hO,e=>by
  obtain⟨c,d,O1,O2,rfl,rfl,h1,h2⟩:=e;have h' :a.el=true/\b.el=true:=by simpa[M.el]using he
  have e:cast (M.denEq (.pair a b) he) x=(cast (M.denEq a h'.1) x.1,cast (M.denEq b h'.2) x.2):=Fj _ _ _ _;refine⟨c,d,rfl,?_,?_⟩
  .rw[e];exact EG hok h'.1 (λb hb t ht=>hO b (by simp[hb]) t (by simp[M.owned,ht])) h1
  .rw[e];exact EG hok h'.2 (λb hb t ht=>hO b (by simp[hb]) t (by simp[M.owned,ht])) h2
 | .owns m,he,xs,_,_,hO,e=>by
  obtain⟨_,l,v,Os,rfl,hv,ha,rfl⟩:=oK.1 e;have he' :m.el=true:=he;have hA:arrOk ⟨h,ok',nom⟩ m.ty (cast (congrArg List (M.denEq m he')) xs) l:=PN (M.ty_ent he') (M.denEq m he') _ (M.ty_size he') (λi x es O hOi hr=>EG hok he' (λb hb t ht=>hO b (by simp only[o8,X7];exact .inr ⟨O,hOi,hb⟩) t (by simp[M.owned,ht])) hr) ha
  exact ja (C:=⟨h,ok',nom⟩) (t:=m.ty) (vw:=none) hA hv (λ_ _ h=>h) (λblk hb=>hO blk (by simp[hb]) m.ty (by simp[M.owned]))
 | .box _,h,_,_,_,_,_=>by simp[M.el]at h| .ownb _,h,_,_,_,_,_=>by simp[M.el]at h| .rp _,h,_,_,_,_,_=>by simp[M.el]at h| .fn _ _,h,_,_,_,_,_=>by simp[M.el]at h| .ifc _ _,h,_,_,_,_,_=>by simp[M.el]at h| .cell _,h,_,_,_,_,_=>by simp[M.el]at h| .fr _,h,_,_,_,_,_=>by simp[M.el]at h
theorem BK{m:M}{mp:Mp}(he:m.el=true)(hok:∀b t,ok b t->ok' b t){xs:List m.den}{Os:List (List Nat)}(hO:∀b∈Os.flatten,∀t∈m.owned,ok' b t)
  (ha:qX h m.size (λ_ x es O=>iH h ok m none x es O) xs Os l):arrOk ⟨h,ok',mp⟩ m.ty (cast (congrArg List (M.denEq m he)) xs) l:=
 PN (M.ty_ent he) (M.denEq m he) _ (M.ty_size he) (λi x es O hOi hr=>EG hok he (λb hb t ht=>hO b (X7.2 ⟨O,hOi,hb⟩) t ht) hr) ha
end
theorem Ih{h h' :Array Obj}{ok ok' :Nat->Ty->Prop}(hok:∀b t,ok b t->ok' b t)(hh:∀b t,ok b t->h'[b]? =h[b]?):
  ∀{ms:List MG} {x:bC ms} {vs:List Value} {O:List Nat},(∀b∈O,h'[b]? =h[b]?)->kR h ok ms x vs O->kR h' ok' ms x vs O
 |[],_,_,_,_,e=>e|[m],_,_,_,hb,⟨v,cs,e,hg,hr⟩=>⟨v,cs,e,hg,dI hok hh hb hr⟩|m::m' ::r,_,_,_,hb,⟨v,cs,vs',O1,O2,e,eo,hg,h1,h2⟩=>by subst eo;exact⟨v,cs,vs',O1,O2,e,rfl,hg,dI hok hh (λb h=>hb b (by simp[h])) h1,Ih hok hh (λb h=>hb b (by simp[h])) h2⟩
variable {Q:α->Sm->Prop}
section
variable {X:Fx} {cl ch:Nat} {S:Sm} {m:Mp} {ok:Nat->Ty->Prop} {a:Act} {w:World} {T:List Nat}
theorem aA{p q:Ty}{xs:List p.den}{k:List q.den->Cmd α}{S:Sm}
  (h:∀e:p=q,(k (e▸xs)).post S Q):(Ty.castL p q xs k .fail).post S Q:=by
 unfold Ty.castL;split
 .rename_i e;exact h e
 .trivial
theorem aP{b:Bool}{c:Cmd α}{S:Sm}(h:b=true->c.post S Q):(bif b then c else Cmd.fail).post S Q:=by
 cases b
 .trivial
 .exact h rfl
theorem xI{p q:Ty}{x:p.den}{k:q.den->Cmd α}{S:Sm}
  (h:∀e:p=q,(k (e▸x)).post S Q):(MJ p q x k .fail).post S Q:=by
 unfold MJ;split
 .rename_i e;exact h e
 .trivial
theorem Jp{p q:M}{xs:List p.den}{k:List q.den->Cmd α}{S:Sm}
  (h:∀e:p=q,(k (e▸xs)).post S Q):(UD p q xs k .fail).post S Q:=by
 unfold UD;split
 .rename_i e;exact h (M.beq_eq e)
 .trivial
theorem Qb{p:M}{xs:List p.den}{k:List t.den->Cmd α}{S:Sm}
  (h:∀(e:p.el=true) (e' :p.ty=t),(k (e' ▸cast (congrArg List (M.denEq p e)) xs)).post S Q):(SQ p t xs k .fail).post S Q:=by
 unfold SQ;split
 .rename_i e;obtain⟨e,rfl⟩:=e;exact h e rfl
 .trivial
theorem BC{ok ok' :Nat->Ty->Prop}{m:Mp}(k:∀b t,ok b t->ok' b t){cs:List V}{vs:List Value}(hr:aY ⟨h,ok,m⟩ cs vs):aY ⟨h,ok',m⟩ cs vs:=
 vY (C:=⟨h,ok,m⟩) (D:=⟨h,ok',m⟩) ⟨k,λ_ _ _=>rfl,λ_ _ h=>h⟩ hr
theorem BD{ok ok' :Nat->Ty->Prop}{m:Mp}(k:∀b t,ok b t->ok' b t){c:V}(hr:fH ⟨h,ok,m⟩ c v):fH ⟨h,ok',m⟩ c v:=
 EH (C:=⟨h,ok,m⟩) (D:=⟨h,ok',m⟩) ⟨k,λ_ _ _=>rfl,λ_ _ h=>h⟩ hr
theorem uG{bs:List Nat}{Ts:List Ty} :∀b t,ok b t->okW ok bs Ts b t:=λ_ _ h=> .inl h
def okL(ln:Ty->Bool)(S:Sm)(m:Mp)(ok:Nat->Ty->Prop):Nat->Ty->Prop:=λb t=>ok b t\/(ln t=true/\∃n,b∈L8 m n (S (S9+n))/\t∈Yv (S (S9+n)))
theorem Yk:okL pU S m ok=ok:=by funext b t;simp[okL,pU]
theorem Ny{ln:Ty->Bool}{n:Nat}{v:V}(hv:L8 m n v=[]){Ts:List Ty}{bs:List Nat}(hbs:L8 m n (S (S9+n)) ⊆ bs)(hTs:Yv (S (S9+n)) ⊆ Ts):
  ∀b t,okL ln S m ok b t->okL ln (upd S (S9+n) v) m (okW ok bs Ts) b t:=by
 intro b t h;rcases h with h|⟨hl,k,hk,ht⟩
 .exact .inl (.inl h)
 .by_cases e:k=n
  .subst e;exact .inl (.inr ⟨hbs hk,hTs ht⟩)
  .exact .inr ⟨hl,k,by rw[V6 _ _ o5];exact⟨hk,ht⟩⟩
def Y1(S S' :Sm):Prop:=∀n,n<S9->S' n=S n
theorem Y1.refl(S:Sm):Y1 S S:=λ_ _=>rfl
theorem Y1.trans{A B C:Sm}(h:Y1 A B)(k:Y1 B C):Y1 A C:=λn hn=>(k n hn).trans (h n hn)
theorem Y1.box(S:Sm)(n:Nat)(v:V):Y1 S (upd S (S9+n) v):=λk hk=>V6 _ _ o5
theorem MC{ln:Ty->Bool} :∀{ts:List Ty},PL ln ts=true->∀t∈ts,ln t=true
 |[],_,_,h=>by cases h|u::r,e,t,h=>by
  unfold PL at e;cases hl:ln u with
  |false=>rw[hl]at e;cases e|true=>
   rw[hl]at e;rcases o9.1 h with rfl|h
   .exact hl
   .exact MC e t h
theorem wF{α:Type}{Q:α->Sm->Prop}(ln:Ty->Bool):∀(t:Ty) {cs:List V} {K:t.den->List V->Cmd α} {S:Sm} {ok:Nat->Ty->Prop} {vs:List Value} (R:Rel X cl ch S m ok a w) (hT:Tk X S m ok w T)
  (hL:aY ⟨w.heap,ok,m⟩ cs vs)
  (hK:∀S' ok' x r us us',Rel X cl ch S' m ok' a w->Tk X S' m ok' w T->(∀b t,ok b t->ok' b t)->(∀b t,okL ln S m ok b t->okL ln S' m ok' b t)->Y1 S S' ->vs=us++us' ->eG w.heap (okL ln S' m ok') t x us->aY ⟨w.heap,ok',m⟩ r us' ->(K x r).post S' Q),
  (iw ln t cs K).post S Q
 | .bool,cs,K,S,ok,vs,R,hT,hL,hK=>by
  unfold iw;split
  .obtain⟨v,r,rfl,h1,_,h3⟩:=hL;exact hK _ _ _ _ [v] r R hT (λ_ _ h=>h) (λ_ _ h=>h) (Y1.refl _) rfl (by simp only[mZ]at h1;simp[eG,h1]) h3
  .trivial
 | .int k,cs,K,S,ok,vs,R,hT,hL,hK=>by
  unfold iw;split
  .rename_i k' n r0;obtain⟨v,r,rfl,h1,_,h3⟩:=hL;by_cases e:k=k'
   .subst e;simp only[decide_true,cond_true];exact hK _ _ _ _ [v] r R hT (λ_ _ h=>h) (λ_ _ h=>h) (Y1.refl _) rfl (by simp only[mZ]at h1;simp[eG,h1]) h3
   .simp only[e,decide_false,cond_false];trivial
  .trivial
 | .str,cs,K,S,ok,vs,R,hT,hL,hK=>by
  unfold iw;split
  .obtain⟨v,r,rfl,h1,_,h3⟩:=hL;exact hK _ _ _ _ [v] r R hT (λ_ _ h=>h) (λ_ _ h=>h) (Y1.refl _) rfl (by simp only[mZ]at h1;simp[eG,h1]) h3
  .trivial
 | .unit,cs,K,S,ok,vs,R,hT,hL,hK=>by unfold iw;exact hK _ _ _ _ [] vs R hT (λ_ _ h=>h) (λ_ _ h=>h) (Y1.refl _) rfl rfl hL
 | .prod p q,cs,K,S,ok,vs,R,hT,hL,hK=>by unfold iw;refine wF ln p R hT hL λS1 ok1 x r us us' R1 T1 k1 g1 s1 e1 h1 l1=>?_;refine wF ln q R1 T1 l1 λS2 ok2 y r' vs2 vs2' R2 T2 k2 g2 s2 e2 h2 l2=>?_;subst e1;subst e2;exact hK _ _ _ _ (us++vs2) vs2' R2 T2 (λb t h=>k2 b t (k1 b t h)) (λb t h=>g2 b t (g1 b t h)) (s1.trans s2) o7 ⟨us,vs2,rfl,Z8 g2 (λ_ _ _=>rfl) h1,h2⟩ l2| .ent ..,cs,K,S,ok,vs,R,hT,hL,hK=>by unfold iw;trivial| .sl t,cs,K,S,ok,vs,R,hT,hL,hK=>by
  unfold iw;split
  .obtain⟨v,r,rfl,h1,_,h3⟩:=hL;simp only[mZ]at h1;subst h1;cases ht:t.isEnt
   .exact hK _ _ _ _ [_] r R hT (λ_ _ h=>h) (λ_ _ h=>h) (Y1.refl _) rfl (.inl ⟨ht,none,0,rfl,A7 _,λi x hi=>by simp at hi⟩) h3
   .trivial
  .rename_i t' xs r0;obtain⟨v,r,rfl,h1,_,h3⟩:=hL;refine aA λe=>?_;subst e;exact hK _ _ _ _ [v] r R hT (λ_ _ h=>h) (λ_ _ h=>h) (Y1.refl _) rfl (Z8 (λ_ _ h=> .inl h) (λ_ _ _=>rfl) h1) h3
  .rename_i bx vw r0;obtain⟨v,r,rfl,h1,_,h3⟩:=hL;obtain⟨l,hm,hv⟩:=h1;show Cmd.post (match S (S9+bx)with| .barr t' xs=>_| .bfrz t' xs=>_| .barrs el xs none=>_|_=>_) S Q;have hb:=R.box bx;split
   .rename_i t' xs hS;rw[hS]at hb;obtain⟨l',hm',ha⟩:=hb;simp only at hm hm';rw[hm]at hm';cases hm';refine aA λe=>?_;subst e;have hob:L8 m bx (S (S9+bx))=l.blks:=by
     rw[hS];cases l<;>first|(simp[L8,hm,Loc.blks];done)|cases ha
    cases hl:ln t'
    .simp only[cond_false];show Cmd.post _ (upd S (S9+bx) (.bfrz t' xs)) Q;have hbs:∀b∈l.blks,b∈L8 m bx (S (S9+bx)):=λb h=>by rw[hob];exact h
     refine hK _ (okW ok l.blks [t']) _ _ [v] r (R.widen o7 rfl hbs ?_) (hT.widen rfl hbs) uG (Ny rfl (by rw[hob];exact λ_ h=>h) (by rw[hS];exact λ_ h=>h)) (Y1.box _ _ _) rfl ?_ (BC uG h3)
     .exact⟨l,hm,ik uG (λ_ _ _=>rfl) (λ_ _=>rfl) ha,λblk hb=> .inr ⟨hb,o7⟩⟩
     .exact ja (C:=⟨w.heap,ok,m⟩) ha hv (λb t h=> .inl (.inl h)) (λblk hb=> .inl (.inr ⟨hb,o7⟩))
    .simp only[cond_true];refine hK _ _ _ _ [v] r R hT (λ_ _ h=>h) (λ_ _ h=>h) (Y1.refl _) rfl ?_ h3;refine ja (C:=⟨w.heap,ok,m⟩) ha hv (λb t h=> .inl h) (λblk hb=> .inr ⟨hl,bx,?_,by rw[hS];simp[Yv]⟩);rw[hob];exact hb
   .rename_i t' xs hS;rw[hS]at hb;obtain⟨l',hm',ha,hok⟩:=hb;simp only at hm hm';rw[hm]at hm';cases hm';refine aA λe=>?_;subst e;exact hK _ _ _ _ [v] r R hT (λ_ _ h=>h) (λ_ _ h=>h) (Y1.refl _) rfl (ja (C:=⟨w.heap,ok,m⟩) ha hv (λ_ _ h=> .inl h) (λblk e=> .inl (hok _ e))) h3
   .rename_i md xs hS;rw[hS]at hb;obtain⟨hel,l',Os,hm',⟨ha,hho⟩,hk⟩:=hb;simp only at hm hm' hk;rw[hm]at hm';cases hm';refine Qb λe e' =>?_;subst e';have hob:L8 m bx (S (S9+bx))=l.blks++Os.flatten:=by
     rw[hS];simp only[L8];rw[hk];cases l<;>first|(simp[hm,Loc.blks];done)|cases ha
    simp only;cases hl:(ln md.ty&&PL ln md.owned)
    .simp only[cond_false];show Cmd.post _ (upd S (S9+bx) (.bfrz md.ty _)) Q;have hbs:∀b∈l.blks++Os.flatten,b∈L8 m bx (S (S9+bx)):=λb h=>by rw[hob];exact h
     have ha' :arrOk ⟨w.heap,okW ok (l.blks++Os.flatten) (md.ty::md.owned),m⟩ md.ty (cast (congrArg List (M.denEq md e)) xs) l:=
      BK e uG (λb hb t ht=> .inr ⟨by simp[hb],by simp[ht]⟩) ha
     refine hK _ (okW ok (l.blks++Os.flatten) (md.ty::md.owned)) _ _ [v] r (R.widen o7 rfl hbs ?_) (hT.widen rfl hbs) uG (Ny rfl (by rw[hob];exact λ_ h=>h) (by rw[hS];exact λ_ h=>h)) (Y1.box _ _ _) rfl ?_ (BC uG h3)
     .exact⟨l,hm,ha',λblk hb=> .inr ⟨by simp[hb],o7⟩⟩
     .exact ja (C:=⟨w.heap,okW ok (l.blks++Os.flatten) (md.ty::md.owned),m⟩) ha' hv (λb t h=> .inl h) (λblk hb=> .inl (.inr ⟨by simp[hb],o7⟩))
    .simp only[cond_true];simp only[o6]at hl;have ha' :arrOk ⟨w.heap,okL ln S m ok,m⟩ md.ty (cast (congrArg List (M.denEq md e)) xs) l:=
      BK e (λb t h=> .inl h) (λb hb t ht=> .inr ⟨MC hl.2 t ht,bx,by rw[hob];simp[hb],by rw[hS];simp[Yv,ht]⟩) ha
     refine hK _ _ _ _ [v] r R hT (λ_ _ h=>h) (λ_ _ h=>h) (Y1.refl _) rfl ?_ h3;refine ja (C:=⟨w.heap,okL ln S m ok,m⟩) ha' hv (λb t h=>h) (λblk hb=> .inr ⟨hl.1,bx,?_,by rw[hS];simp[Yv]⟩);rw[hob];simp[hb]
   .trivial
  .trivial
theorem sZ(t:Ty){cs:List V}{K:t.den->List V->Cmd α}{S:Sm}{ok:Nat->Ty->Prop}{vs:List Value}(R:Rel X cl ch S m ok a w)(hT:Tk X S m ok w T)
  (hL:aY ⟨w.heap,ok,m⟩ cs vs)
  (hK:∀S' ok' x r us us',Rel X cl ch S' m ok' a w->Tk X S' m ok' w T->(∀b t,ok b t->ok' b t)->Y1 S S' ->vs=us++us' ->eG w.heap ok' t x us->aY ⟨w.heap,ok',m⟩ r us' ->(K x r).post S' Q):
  (iw pU t cs K).post S Q:=
 wF pU t R hT hL λS' ok' x r us us' R' T' k g s e h l=>hK S' ok' x r us us' R' T' k s e (by rw[Yk]at h;exact h) l
theorem Loc.blks_nodup(l:Loc):l.blks.Nodup:=by cases l<;>simp[Loc.blks]
theorem QV(t:Ty){c:V}{K:t.den->Cmd α}{S:Sm}{ok:Nat->Ty->Prop}(R:Rel X cl ch S m ok a w)(hT:Tk X S m ok w T)
  (hv:mZ ⟨w.heap,ok,m⟩ c v)
  (hK:∀S' ok' x,Rel X cl ch S' m ok' a w->Tk X S' m ok' w T->(∀b t,ok b t->ok' b t)->Y1 S S' ->SE w.heap ok' t x 0 v->(K x).post S' Q):(rpC t c K).post S Q:=by
 unfold rpC;split
 .refine xI λe=>?_;subst e;exact hK _ _ _ R hT (λ_ _ h=>h) (Y1.refl _) hv
 .rename_i bx;obtain⟨blk,hm,rfl⟩:=hv;show Cmd.post (match S (S9+bx)with| .bfc t' x=>_| .bcells bs=>_|_=>_) S Q;have hb:=R.box bx;split
  .rename_i t' x hS;rw[hS]at hb;obtain⟨blk',es,hm',hok,hc,hr⟩:=hb;simp only at hm hm';rw[hm]at hm';cases hm';refine xI λe=>?_;subst e;exact hK _ _ _ R hT (λ_ _ h=>h) (Y1.refl _) ⟨blk,0,es,rfl,hok,hc,hr⟩
  .rename_i bs hS;rw[hS]at hb;obtain⟨blk',arr,Ty',hm',hh,hl⟩:=hb;simp only at hm hm';rw[hm]at hm';cases hm';refine sZ t R hT hl λS1 ok1 x q us us' R1 T1 k1 s1 e1 h1 l1=>?_;cases q with
   |cons c q=>trivial|nil=>
    simp only[aY]at l1;subst l1;simp only[F7]at e1;show Cmd.post (match S1 (S9+bx)with| .bcells _=>_|_=>_) S1 Q;split
    .rename_i bs' hS';show Cmd.post _ (upd S1 (S9+bx) (.bfc t x)) Q;have hbs:∀b∈[blk],b∈L8 m bx (S1 (S9+bx)):=λb h=>by rw[hS'];simp at h;subst h;simp[L8,hm]
     have hce:Z9 w.heap blk 0 t.size=some us:=by rw[fM hh 0 t.size (by have:=aO h1;rw[←e1]at this;simp at this;omega)];rw[e1,←aO h1];simp
     have hr:=Z8 (uG (bs:=[blk]) (Ts:=[t])) (λ_ _ _=>rfl) h1;refine hK _ (okW ok1 [blk] [t]) _ (R1.widen o7 rfl hbs ?_) (T1.widen rfl hbs) (λb t h=> .inl (k1 b t h)) (s1.trans (Y1.box _ _ _)) ?_
     .exact⟨blk,us,hm,.inr ⟨o7,o7⟩,hce,hr⟩
     .exact⟨blk,0,us,rfl,.inr ⟨o7,o7⟩,hce,hr⟩
    .trivial
  .trivial
 .trivial
theorem zy{α:Type}{Q:α->Sm->Prop}{h:Array Obj}{ok:Nat->Ty->Prop} :∀(ts:List Ty) {cs:List ((t:Ty)×t.den)} {vs:List Value} {K:Gy ts->Cmd α} {S:Sm}
  (hc:tC h ok cs vs) (hK:∀x,tC h ok (Gw ts x) vs->(K x).post S Q),(CV ts cs K).post S Q
 |[],cs,vs,K,S,hc,hK=>by
  unfold CV;split
  .exact hK _ hc
  .trivial
 |[t],cs,vs,K,S,hc,hK=>by
  unfold CV;split
  .refine xI λe=>?_;subst e;exact hK _ hc
  .trivial
 |t::t' ::r,cs,vs,K,S,hc,hK=>by
  unfold CV;split
  .obtain⟨v,vs',rfl,h1,h2⟩:=hc;refine xI λe=>?_;subst e;exact zy (t' ::r) h2 λy hy=>hK _ ⟨v,vs',rfl,h1,hy⟩
  .trivial
theorem ui{α:Type}{Q:α->Sm->Prop} :∀(md:M) {cs:List V} {K:md.den->List V->Cmd α} {S:Sm} {ok:Nat->Ty->Prop} {vs:List Value} {T:List Nat} (R:Rel X cl ch S m ok a w) (hT:Tk X S m ok w T)
  (hL:aY ⟨w.heap,ok,m⟩ cs vs)
  (hK:∀S' ok' x r us us' O,Rel X cl ch S' m ok' a w->Tk X S' m ok' w (T++O)->(∀b t,ok b t->ok' b t)->Y1 S S' ->vs=us++us' ->iH w.heap ok' md none x us O->aY ⟨w.heap,ok',m⟩ r us' ->(K x r).post S' Q),
  (exM pU md cs K).post S Q
 | .dat t,cs,K,S,ok,vs,T,R,hT,hL,hK=>by unfold exM;exact sZ t R hT hL λS' ok' x r us us' R' T' k s e h l=>hK S' ok' x r us us' [] R' (by simpa using T') k s e ⟨h,rfl⟩ l| .own t,cs,K,S,ok,vs,T,R,hT,hL,hK=>by
  unfold exM;split
  .obtain⟨v,r,rfl,h1,_,h3⟩:=hL;simp only[mZ]at h1;subst h1;cases ht:t.isEnt
   .exact hK _ _ _ _ [_] r [] R (by simpa using hT) (λ_ _ h=>h) (Y1.refl _) rfl (nI.2 ⟨.nil,_,rfl,rfl,⟨rfl,ht⟩,rfl⟩) h3
   .trivial
  .rename_i bx vw r0;obtain⟨v,r,rfl,h1,_,h3⟩:=hL;obtain⟨l,hm,hv⟩:=h1;show Cmd.post (match S (S9+bx)with| .barr t' xs=>_|_=>_) S Q;have hb:=R.box bx;split
   .rename_i t' xs hS;rw[hS]at hb;obtain⟨l',hm',ha⟩:=hb;simp only at hm hm';rw[hm]at hm';cases hm';refine aA λe=>?_;subst e;obtain⟨a1,a2,a3⟩:=xH (C:=⟨w.heap,ok,m⟩) ha hv;show Cmd.post _ (upd S (S9+bx) .dead) Q;refine hK _ ok _ _ [v] r (yI l vw).blks (R.kill bx) ?_ (λ_ _ h=>h) (Y1.box _ _ _) rfl (nI.2 ⟨_,v,rfl,a2,ik (λ_ _ h=>h) (λ_ _ _=>rfl) (λ_ _=>rfl) a1,rfl⟩) h3;rw[a3];refine hT.kill R bx (λb hb=>?_) (Loc.blks_nodup l);cases l with
    |nil=>simp[Loc.blks]at hb|st _=>cases ha|arr blk off len cap sz=>simp[Loc.blks]at hb;subst hb;simp[L8,hS,hm]|mp blk=>simp[Loc.blks]at hb;subst hb;simp[L8,hS,hm]
   .trivial
  .trivial
 | .ownb t,cs,K,S,ok,vs,T,R,hT,hL,hK=>by
  unfold exM;split
  .obtain⟨v,r,rfl,h1,_,h3⟩:=hL;simp only[mZ]at h1;subst h1;cases ht:t.isEnt
   .exact hK _ _ _ _ [_] r [] R (by simpa using hT) (λ_ _ h=>h) (Y1.refl _) rfl ⟨.nil,_,rfl,rfl,⟨rfl,ht⟩,rfl⟩ h3
   .trivial
  .rename_i bx r0;obtain⟨v,r,rfl,h1,_,h3⟩:=hL;obtain⟨l,hm,hv⟩:=h1;show Cmd.post (match S (S9+bx)with| .barr t' xs=>_|_=>_) S Q;have hb:=R.box bx;split
   .rename_i t' xs hS;rw[hS]at hb;obtain⟨l',hm',ha⟩:=hb;simp only at hm hm';rw[hm]at hm';cases hm';refine aA λe=>?_;subst e;show Cmd.post _ (upd S (S9+bx) (.gone t')) Q;refine hK _ ok _ _ [v] r l.blks (R.killV bx o7 rfl ⟨l,hm,λblk off len cap sz e=>by subst e;exact ha.2.1⟩) ?_ (λ_ _ h=>h) (Y1.box _ _ _) rfl ⟨l,v,rfl,hv,ik (λ_ _ h=>h) (λ_ _ _=>rfl) (λ_ _=>rfl) ha,rfl⟩ h3;refine hT.killV R bx rfl (λb hb=>?_) (Loc.blks_nodup l);cases l with
    |nil=>simp[Loc.blks]at hb|st _=>cases ha|arr blk off len cap sz=>simp[Loc.blks]at hb;subst hb;simp[L8,hS,hm]|mp blk=>simp[Loc.blks]at hb;subst hb;simp[L8,hS,hm]
   .trivial
  .trivial
 | .owns md,cs,K,S,ok,vs,T,R,hT,hL,hK=>by
  unfold exM;split
  .obtain⟨v,r,rfl,h1,_,h3⟩:=hL;simp only[mZ]at h1;subst h1;refine aP λhe=>?_;exact hK _ _ _ _ [_] r [] R (by simpa using hT) (λ_ _ h=>h) (Y1.refl _) rfl (oK.2 ⟨he,.nil,_,[],rfl,rfl,⟨rfl,rfl⟩,rfl⟩) h3
  .rename_i bx r0;obtain⟨v,r,rfl,h1,_,h3⟩:=hL;obtain⟨l,hm,hv⟩:=h1;show Cmd.post (match S (S9+bx)with| .barrs m' xs none=>_|_=>_) S Q;have hb:=R.box bx;split
   .rename_i md' xs hS;rw[hS]at hb;obtain⟨hel,l',Os,hm',⟨ha,hho⟩,hk⟩:=hb;simp only at hm hm' hk;rw[hm]at hm';cases hm';refine Jp λe=>?_;subst e;have hob:L8 m bx (S (S9+bx))=l.blks++Os.flatten:=by
     rw[hS];simp only[L8];rw[hk];cases l<;>first|(simp[hm,Loc.blks];done)|cases ha
    show Cmd.post _ (upd S (S9+bx) .dead) Q;refine hK _ ok _ _ [v] r (l.blks++Os.flatten) (R.kill bx) ?_ (λ_ _ h=>h) (Y1.box _ _ _) rfl (oK.2 ⟨hel,l,v,Os,rfl,hv,ha,rfl⟩) h3;refine hT.kill R bx (λb hb=>by rw[hob];exact hb) (by rw[←hob];exact R.nd bx)
   .trivial
  .trivial
 | .unit,cs,K,S,ok,vs,T,R,hT,hL,hK=>by unfold exM;exact hK _ _ _ _ [] vs [] R (by simpa using hT) (λ_ _ h=>h) (Y1.refl _) rfl ⟨rfl,rfl⟩ hL
 | .pair p q,cs,K,S,ok,vs,T,R,hT,hL,hK=>by unfold exM;refine ui p R hT hL λS1 ok1 x r us us' O1 R1 T1 k1 s1 e1 h1 l1=>?_;refine ui q R1 T1 l1 λS2 ok2 y r' vs2 vs2' O2 R2 T2 k2 s2 e2 h2 l2=>?_;subst e1;subst e2;exact hK _ _ _ _ (us++vs2) vs2' (O1++O2) R2 (by simpa using T2) (λb t h=>k2 b t (k1 b t h)) (s1.trans s2) o7 ⟨us,vs2,O1,O2,rfl,rfl,dI k2 (λ_ _ _=>rfl) (λ_ _=>rfl) h1,h2⟩ l2| .box md,cs,K,S,ok,vs,T,R,hT,hL,hK=>by
  unfold exM;split
  .rename_i bx r0;obtain⟨v,r,rfl,h1,_,h3⟩:=hL;obtain⟨blk,hm,hv⟩:=h1;show Cmd.post (match S (S9+bx)with| .bcells bs=>_|_=>_) S Q;have hb:=R.box bx;split
   .rename_i bs hS;rw[hS]at hb;obtain⟨blk',arr,Ty',hm',hh,hl⟩:=hb;simp only at hm hm' hv;rw[hm]at hm';cases hm';subst hv;show Cmd.post _ (upd S (S9+bx) .dead) Q;have hT1:Tk X (upd S (S9+bx) .dead) m ok w (T++[blk]):=hT.kill R bx (λb hb=>by simp at hb;subst hb;simp[L8,hS,hm]) o7;refine ui md (R.kill bx) hT1 hl λS1 ok1 x q us us' O R1 T1 k1 s1 e1 h1 l1=>?_;cases q with
    |nil=>simp only[aY]at l1;subst l1;simp only[F7]at e1;refine hK _ _ _ _ [_] r (blk::O) R1 (by simpa using T1) k1 ((Y1.box _ _ _).trans s1) rfl ⟨blk,arr,Ty',O,rfl,hh,by rw[e1];exact h1,rfl⟩ (BC k1 h3)|cons c q=>trivial
   .trivial
  .trivial
 | .rp t,cs,K,S,ok,vs,T,R,hT,hL,hK=>by
  unfold exM;split
  .obtain⟨v,r,rfl,h1,_,h3⟩:=hL;refine QV t R hT h1 λS1 ok1 x R1 T1 k1 s1 h1=>?_;exact hK _ _ _ _ [v] r [] R1 (by simpa using T1) k1 s1 rfl ⟨v,rfl,h1,rfl⟩ (BC k1 h3)
  .trivial
 | .fn f ts,cs,K,S,ok,vs,T,R,hT,hL,hK=>by
  unfold exM;split
  .rename_i g caps r0;obtain⟨v,r,rfl,⟨us,rfl,hc⟩,_,h3⟩:=hL;cases hb:Nat.beq g f
   .trivial
   .simp only[cond_true];have e:=bT hb;subst e;exact zy ts hc λx hx=>hK _ _ _ _ [_] r [] R (by simpa using hT) (λ_ _ h=>h) (Y1.refl _) rfl ⟨us,rfl,hx,rfl⟩ h3
  .rename_i g r0;obtain⟨v,r,rfl,h1,_,h3⟩:=hL;have h1:v= .func (.func g) #[] #[]:=h1;subst h1;cases hb:Nat.beq g f
   .trivial
   .simp only[cond_true];have e:=bT hb;subst e;exact zy (cs:=[]) (vs:=[]) ts rfl λx hx=>hK _ _ _ _ [_] r [] R (by simpa using hT) (λ_ _ h=>h) (Y1.refl _) rfl ⟨#[],rfl,hx,rfl⟩ h3
  .trivial
 | .ifc t md,cs,K,S,ok,vs,T,R,hT,hL,hK=>by
  unfold exM;split
  .rename_i t' c r0;obtain⟨v,r,rfl,⟨u,rfl,hu,hc⟩,_,h3⟩:=hL;cases hb:Nat.beq t' t
   .trivial
   .simp only[cond_true];have e:=bT hb;subst e;refine ui md (vs:=[u]) R hT ⟨u,[],rfl,hc,hu,rfl⟩ λS1 ok1 x q us us' O R1 T1 k1 s1 e1 h1 l1=>?_;cases q with
    |cons c q=>trivial|nil=>simp only[aY]at l1;subst l1;simp only[F7]at e1;subst e1;exact hK _ _ _ _ [_] r O R1 T1 k1 s1 rfl ⟨u,rfl,h1⟩ (BC k1 h3)
  .trivial
 | .cell (some none),cs,K,S,ok,vs,T,R,hT,hL,hK=>by
  unfold exM;split
  .obtain⟨v,r,rfl,h1,h2,h3⟩:=hL;exact hK _ _ _ _ [v] r [] R (by simpa using hT) (λ_ _ h=>h) (Y1.refl _) rfl ⟨v,rfl,h2,λ_=>h1,(λ_ h=>nomatch h),rfl⟩ h3
  .trivial
 | .cell (some (some b)),cs,K,S,ok,vs,T,R,hT,hL,hK=>by
  unfold exM;split
  .obtain⟨v,r,rfl,h1,h2,h3⟩:=hL;cases b
   .trivial
   .exact hK _ _ _ _ [v] r [] R (by simpa using hT) (λ_ _ h=>h) (Y1.refl _) rfl ⟨v,rfl,h2,(λh=>nomatch h),(λb' h=>by cases h;exact h1),rfl⟩ h3
  .obtain⟨v,r,rfl,h1,h2,h3⟩:=hL;cases b
   .exact hK _ _ _ _ [v] r [] R (by simpa using hT) (λ_ _ h=>h) (Y1.refl _) rfl ⟨v,rfl,h2,(λh=>nomatch h),(λb' h=>by cases h;exact h1),rfl⟩ h3
   .trivial
  .trivial
 | .cell none,cs,K,S,ok,vs,T,R,hT,hL,hK=>by
  unfold exM;split
  .obtain⟨v,r,rfl,h1,h2,h3⟩:=hL;exact hK _ _ _ _ [v] r [] R (by simpa using hT) (λ_ _ h=>h) (Y1.refl _) rfl ⟨v,rfl,h2,(λh=>nomatch h),(λ_ h=>nomatch h),rfl⟩ h3
  .trivial
 | .fr t,cs,K,S,ok,vs,T,R,hT,hL,hK=>by
  unfold exM;split
  .obtain⟨v,r,rfl,h1,_,h3⟩:=hL;simp only[mZ]at h1;subst h1;cases ht:t.isEnt
   .exact hK _ _ _ _ [_] r [] R (by simpa using hT) (λ_ _ h=>h) (Y1.refl _) rfl ⟨.nil,_,rfl,rfl,⟨rfl,ht⟩,(λb h=>by cases h),rfl⟩ h3
   .trivial
  .rename_i bx r0;obtain⟨v,r,rfl,h1,_,h3⟩:=hL;obtain⟨l,hm,hv⟩:=h1;show Cmd.post (match S (S9+bx)with| .barr t' xs=>_| .bfrz t' xs=>_|_=>_) S Q;have hb:=R.box bx;split
   .rename_i t' xs hS;rw[hS]at hb;obtain⟨l',hm',ha⟩:=hb;simp only at hm hm';rw[hm]at hm';cases hm';refine aA λe=>?_;subst e;have hob:L8 m bx (S (S9+bx))=l.blks:=by
     rw[hS];cases l<;>first|(simp[L8,hm,Loc.blks];done)|cases ha
    show Cmd.post _ (upd S (S9+bx) (.bfrz t' xs)) Q;have hbs:∀b∈l.blks,b∈L8 m bx (S (S9+bx)):=λb h=>by rw[hob];exact h
    have ha' :arrOk ⟨w.heap,okW ok l.blks [t'],nom⟩ t' xs l:=ik (m:=m) uG (λ_ _ _=>rfl) (λ_ _=>rfl) ha;exact hK _ (okW ok l.blks [t']) _ _ [v] r [] (R.widen o7 rfl hbs ⟨l,hm,ik uG (λ_ _ _=>rfl) (λ_ _=>rfl) ha,λblk hb=> .inr ⟨hb,o7⟩⟩) (by simpa using hT.widen rfl hbs) uG (Y1.box _ _ _) rfl ⟨l,v,rfl,hv,ha',λb hb=> .inr ⟨hb,o7⟩,rfl⟩ (BC uG h3)
   .rename_i t' xs hS;rw[hS]at hb;obtain⟨l',hm',ha,hk⟩:=hb;simp only at hm hm';rw[hm]at hm';cases hm';refine aA λe=>?_;subst e;exact hK _ ok _ _ [v] r [] R (by simpa using hT) (λ_ _ h=>h) (Y1.refl _) rfl ⟨l,v,rfl,hv,ik (m:=m) (λ_ _ h=>h) (λ_ _ _=>rfl) (λ_ _=>rfl) ha,hk,rfl⟩ h3
   .trivial
  .trivial
end
end Go.GP
namespace Go.GP
def cO(C:Cx):List V->List Value->Prop
 |[],vs=>vs=[]|c::cs,vs=>∃v r,vs=v::r/\fH C c v/\cO C cs r
theorem Am{h:Array Obj}{ok ok' :Nat->Ty->Prop}{m:Mp}(k:∀b t,ok b t->ok' b t):∀{cs:List V} {vs:List Value},cO ⟨h,ok,m⟩ cs vs->cO ⟨h,ok',m⟩ cs vs
 |[],_,e=>e|_::_,_,⟨v,r,e,h1,h2⟩=>⟨v,r,e,BD k h1,Am k h2⟩
theorem yB{h:Array Obj}{ok:Nat->Ty->Prop}{m m' :Mp}(k:∀n l,m n=some l->m' n=some l){cs:List V}{vs:List Value}(hr:aY ⟨h,ok,m⟩ cs vs):aY ⟨h,ok,m'⟩ cs vs:=
 vY (C:=⟨h,ok,m⟩) (D:=⟨h,ok,m'⟩) ⟨λ_ _ h=>h,λ_ _ _=>rfl,k⟩ hr
variable {C:Cx}
theorem QQ{c:V}{v:Value}(h1:c≠.undef)(h2:c≠.un)(h:mZ C c v):v.oneCell' =true:=by
 cases c<;>simp only[mZ]at h<;>try (subst h;rfl)
 case ne=>obtain⟨_,_,rfl,_⟩:=h;rfl
 .exact absurd rfl h1
 .exact absurd rfl h2
 .rcases h with⟨_,a,cap,e,_⟩|⟨_,mv,e,_⟩<;>(simp at e;subst e;rfl)
 .obtain⟨l,_,hv⟩:=h;exact iG hv
 .obtain⟨b,_,rfl⟩:=h;rfl
 .obtain⟨_,_,_,_,_,_,_,rfl⟩:=h;rfl
 .exact Jz h
 all_goals first|exact h.elim|(obtain⟨_,rfl,_⟩:=h;rfl)|(obtain⟨_,_,rfl⟩:=h;rfl)
theorem sJ{c:V}{v:Value}(h:mZ C c v):fH C c v:=by
 cases c<;>simp only[mZ]at h<;>try exact h
 all_goals exact h.elim
variable {α:Type}{v:V}{Q:α->Sm->Prop}{x:Value}{ln:Ty->Bool}
section
variable {X:Fx} {cl ch:Nat} {S:Sm} {m:Mp} {ok:Nat->Ty->Prop} {a:Act} {w:World} {T:List Nat}
theorem vz{ag:Bool}{K:List V->Cmd α}{S:Sm}(hv:fH C v x)
  (hK:∀cs us,FZ ag x us->aY C cs us->(K cs).post S Q):(Jq ag v K).post S Q:=by
 unfold Jq;split<;>try trivial
 .obtain⟨arr,rfl,hl⟩:=hv;exact hK _ _ ⟨arr,rfl,rfl⟩ hl
 .rename_i h1 h2 h3 h4;have hc:mZ C v x:=by cases v<;>first|exact hv|exact absurd rfl (h1 _)|exact absurd rfl (h2 _)
  exact hK [v] [x] rfl ⟨x,[],rfl,hc,QQ (λe=>h3 e) (λe=>h4 e) hc,rfl⟩
theorem lK{K:List V->Cmd α}{S:Sm}(hv:fH C v x)
  (hK:∀cs,aY C cs x.cells.toList->(K cs).post S Q):(xJ v K).post S Q:=by
 unfold xJ;split<;>try trivial
 .obtain⟨arr,rfl,hl⟩:=hv;exact hK _ hl
 .rename_i h1 h2 h3 h4;have hc:mZ C v x:=by cases v<;>first|exact hv|exact absurd rfl (h1 _)|exact absurd rfl (h2 _)
  have h1' :=QQ (λe=>h3 e) (λe=>h4 e) hc;have e:x.cells.toList=[x]:=by cases x<;>simp[Value.cells]<;>simp[Value.oneCell']at h1'
  refine hK [v] ?_;rw[e];exact⟨x,[],rfl,hc,h1',rfl⟩
theorem Qd{md:MG}{K:md.2.den->Cmd α}(R:Rel X cl ch S m ok a w)(hT:Tk X S m ok w T)(hv:fH ⟨w.heap,ok,m⟩ v x)
  (hK:∀S' ok' y cs O,Rel X cl ch S' m ok' a w->Tk X S' m ok' w (T++O)->(∀b t,ok b t->ok' b t)->Y1 S S' ->FZ md.1 x cs->iH w.heap ok' md.2 none y cs O->(K y).post S' Q):
  (JE pU md v K).post S Q:=by
 refine vz hv λcs us hg hl=>?_;refine ui md.2 R hT hl λS1 ok1 y r us1 us' O R1 T1 k1 s1 e1 h1 l1=>?_;cases r with
 |cons c q=>trivial|nil=>simp only[aY]at l1;subst l1;simp only[F7]at e1;subst e1;exact hK _ _ _ _ _ R1 T1 k1 s1 hg h1
theorem XE{md:M}(hd:md.isDat=false)(cs:List V)(K:md.den->List V->Cmd α):exM ln md cs K=exM pU md cs K:=by cases md<;>first|rfl|(simp[M.isDat]at hd;done)|(rename_i b;cases b<;>first|rfl|(rename_i b;cases b<;>rfl))
theorem MO{md:MG}(hd:md.2.isDat=true){K:md.2.den->Cmd α}(R:Rel X cl ch S m ok a w)(hT:Tk X S m ok w T)(hv:fH ⟨w.heap,ok,m⟩ v x)
  (hK:∀S' ok' y cs,Rel X cl ch S' m ok' a w->Tk X S' m ok' w T->(∀b t,ok b t->ok' b t)->(∀b t,okL ln S m ok b t->okL ln S' m ok' b t)->Y1 S S' ->FZ md.1 x cs->iH w.heap (okL ln S' m ok') md.2 none y cs []->(K y).post S' Q):
  (JE ln md v K).post S Q:=by
 obtain⟨ag,mm⟩:=md;cases mm<;>simp[M.isDat]at hd;refine vz hv λcs us hg hl=>?_;dsimp only;unfold exM;refine wF ln _ R hT hl λS1 ok1 y r us1 us' R1 T1 k1 g1 s1 e1 h1 l1=>?_;cases r with
 |cons c q=>trivial|nil=>simp only[aY]at l1;subst l1;simp only[F7]at e1;subst e1;exact hK _ _ _ _ R1 T1 k1 g1 s1 hg ⟨h1,rfl⟩
theorem a2d :∀b t,ok b t->okL ln S m ok b t:=λ_ _ h=> .inl h
theorem xW{α:Type}{Q:α->Sm->Prop}{ln:Ty->Bool} :∀(ms:List MG) {vs:List V} {xs:List Value} {K:bC ms->Cmd α} {S:Sm} {ok:Nat->Ty->Prop} {T:List Nat} (R:Rel X cl ch S m ok a w) (hT:Tk X S m ok w T)
  (hv:cO ⟨w.heap,ok,m⟩ vs xs)
  (hK:∀S' ok' y O,Rel X cl ch S' m ok' a w->Tk X S' m ok' w (T++O)->(∀b t,ok b t->ok' b t)->Y1 S S' ->kR w.heap (okL ln S' m ok') ms y xs O->(K y).post S' Q),
  (BN ln ms vs K).post S Q
 |[],vs,xs,K,S,ok,T,R,hT,hv,hK=>by
  unfold BN;split
  .simp only[cO]at hv;subst hv;exact hK _ _ _ [] R (by simpa using hT) (λ_ _ h=>h) (Y1.refl _) ⟨rfl,rfl⟩
  .trivial
 |[md],vs,xs,K,S,ok,T,R,hT,hv,hK=>by
  unfold BN;split
  .obtain⟨x,r,rfl,h1,h2⟩:=hv;simp only[cO]at h2;subst h2;cases hd:md.2.isDat
   .unfold JE;simp only[XE hd];exact Qd R hT h1 λS' ok' y cs O R' T' k s g h=>hK _ _ _ O R' T' k s ⟨x,cs,rfl,g,dI a2d (λ_ _ _=>rfl) (λ_ _=>rfl) h⟩
   .exact MO hd R hT h1 λS' ok' y cs R' T' k g s hg h=>hK _ _ _ [] R' (by simpa using T') k s ⟨x,cs,rfl,hg,h⟩
  .trivial
 |md::md' ::r,vs,xs,K,S,ok,T,R,hT,hv,hK=>by
  unfold BN;split
  .obtain⟨x,xr,rfl,h1,h2⟩:=hv;cases hd:md.2.isDat
   .simp only[cond_false];unfold JE;simp only[XE hd];refine Qd R hT h1 λS1 ok1 y cs O R1 T1 k1 s1 g1 h1' =>?_;refine xW (md' ::r) R1 T1 (Am k1 h2) λS2 ok2 z O2 R2 T2 k2 s2 h2' =>?_;exact hK _ _ _ (O++O2) R2 (by simpa using T2) (λb t h=>k2 b t (k1 b t h)) (s1.trans s2) ⟨x,cs,xr,O,O2,rfl,rfl,g1,dI (λb t h=> .inl (k2 b t h)) (λ_ _ _=>rfl) (λ_ _=>rfl) h1',h2'⟩
   .simp only[cond_true];refine xW (md' ::r) R hT h2 λS2 ok2 z O2 R2 T2 k2 s2 h2' =>?_;refine MO hd R2 T2 (BD k2 h1) λS1 ok1 y cs R1 T1 k1 g1 s1 hg h1' =>?_;exact hK _ _ _ ([]++O2) R1 (by simpa using T1) (λb t h=>k1 b t (k2 b t h)) (s2.trans s1) ⟨x,cs,xr,[],O2,rfl,rfl,hg,h1',Ih g1 (λ_ _ _=>rfl) (λ_ _=>rfl) h2'⟩
  .trivial
theorem Qc(ms:List MG){vs:List V}{xs:List Value}{K:bC ms->Cmd α}{S:Sm}{ok:Nat->Ty->Prop}{T:List Nat}(R:Rel X cl ch S m ok a w)(hT:Tk X S m ok w T)
  (hv:cO ⟨w.heap,ok,m⟩ vs xs)
  (hK:∀S' ok' y O,Rel X cl ch S' m ok' a w->Tk X S' m ok' w (T++O)->(∀b t,ok b t->ok' b t)->Y1 S S' ->kR w.heap ok' ms y xs O->(K y).post S' Q):
  (BN pU ms vs K).post S Q:=
 xW ms R hT hv λS' ok' y O R' T' k s h=>hK S' ok' y O R' T' k s (by rw[Yk]at h;exact h)
theorem Hg{α:Type}{Q:α->Sm->Prop}{tmps:Array Value}{C:Cx} :∀(ns:List Nat) {K:List V->Cmd α} {S:Sm} (hs:∀n,n<S9->fH C (S n) (tmps.getD n Go.undef))
  (hK:∀vs,cO C vs (ns.map λn=>tmps.getD n Go.undef)->(K vs).post S Q),(Ol ns K).post S Q
 |[],K,S,hs,hK=>hK [] rfl|n::ns,K,S,hs,hK=>by
  unfold Ol;cases hb:Nat.blt n S9
  .trivial
  .simp only[cond_true];show Cmd.post _ S Q;refine Hg ns hs λvs hvs=>?_;exact hK _ ⟨_,_,rfl,hs n (by rw[aF]at hb;exact hb),hvs⟩
def RS(h:Array Obj)(ok:Nat->Ty->Prop)(sg:Sig)(x:jc sg)(tmps:Array Value)(O:List Nat):Prop:=
 kR h ok (sg.ms.map (·.2)) x ((sg.ms.map (·.1)).map λn=>tmps.getD n Go.undef) O/\∀p∈sg.als,tmps.getD p.1 Go.undef=tmps.getD p.2 Go.undef
theorem ZC{v u:V}{x y:Value}(h:a1C v u=true)(hv:fH C v x)(hu:fH C u y):x=y:=by
 cases v<;>try (cases h;done)
 case own a vw=>
 cases u<;>try (cases vw<;>cases h;done)
 case own b vu=>
 cases vw<;>cases vu<;>try (cases h;done)
 have:=bT (show Nat.beq a b=true from h);subst this;obtain⟨l,hm,h1⟩:=hv;obtain⟨l',hm',h2⟩:=hu;rw[hm]at hm';cases hm';cases l with
 |nil=>exact(show x=_ from h1).trans (show y=_ from h2).symm|st b=>cases h1|mp b=>exact(show x=_ from h1).trans (show y=_ from h2).symm|arr blk off len cap sz=>exact(show x=_ from h1).trans (show y=_ from h2).symm
theorem MF{α:Type}{Q:α->Sm->Prop}{tmps:Array Value}{C:Cx} :∀(als:List (Nat×Nat)) {K:Cmd α} {S:Sm} (hs:∀n,n<S9->fH C (S n) (tmps.getD n Go.undef))
  (hK:(∀p∈als,tmps.getD p.1 Go.undef=tmps.getD p.2 Go.undef)->K.post S Q),(V_ als K).post S Q
 |[],K,S,hs,hK=>hK (λp hp=>by cases hp)|(n,k)::r,K,S,hs,hK=>by
  unfold V_;refine aP λhb=>?_;simp only[o6]at hb;show Cmd.post _ S Q;refine aP λhv=>MF r hs λh=>hK λp hp=>?_;rcases o9.1 hp with rfl|hp
  .have h1:=hb.1;have h2:=hb.2;rw[aF]at h1 h2;exact ZC hv (hs n h1) (hs k h2)
  .exact h p hp
theorem SS{sg:Sig}{Q:jc sg->Sm->Prop}(R:Rel X cl ch S m ok a w)
  (hK:∀S' ok' y O,Rel X cl ch S' m ok' a w->Tk X S' m ok' w O->(∀b t,ok b t->ok' b t)->Y1 S S' ->
   RS w.heap ok' sg y a.tmps O->Q y S'):(XF sg).post S Q:=by
 unfold XF;refine MF _ R.slot λhals=>Hg _ R.slot λvs hvs=>?_;refine Qc (T:=[]) _ R Tk.nil hvs λS' ok' y O R' T' k s h=>?_;exact hK S' ok' y O R' T' k s ⟨h,hals⟩
theorem Rel.chmono(R:Rel X cl ch S m ok a w){ch' :Nat}(h:ch<=ch'):Rel X cl ch' S m ok a w:={ R with strict:=λn hn=>R.strict n o5 }
theorem mJ{n:Nat}{K:Cmd α}(hK:S (S9+n)= .undef->K.post (upd S (S9+n) v) Q):(mY n v K).post S Q:=by
 unfold mY;show Cmd.post (match S (S9+n)with| .undef=>_|_=>_) S Q;split
 .rename_i h;exact hK h
 .trivial
theorem Rel.adopt(R:Rel X cl ch S m ok a w){n:Nat}{l:Loc}{ks:List Nat}{O:List Nat}(hn:S (S9+n)= .undef)(hcl:cl<=n)(hv:v≠.undef)
  (hT:Tk X S m ok w (O++T)) (ho:∀b∈L8 (gq m n l ks) n v,b∈O) (hnd:(L8 (gq m n l ks) n v).Nodup) (hB:uM ⟨w.heap,ok,gq m n l ks⟩ n v):
  Rel X cl (max ch (n+1)) (upd S (S9+n) v) (gq m n l ks) ok a w/\Tk X (upd S (S9+n) v) (gq m n l ks) ok w T/\(∀k l',m k=some l' ->gq m n l ks k=some l'):=by
 have hm:m n=none:=R.fresh n hcl hn;refine⟨(R.chmono (aI ch (n+1))).lay hn hcl o5 hv rfl rfl rfl (A7 _) (λ_ _ _=>rfl) hnd (λb hb=>hT.free b (by simp[ho b hb])) hB,⟨?_,λb hb=>?_⟩,λk l' h=>?_⟩
 .exact(F9.1 hT.nodup).2.1
 .obtain⟨h1,h2,h3,h4⟩:=hT.free b (by simp[hb]);refine⟨h1,h2,h3,λk e=>?_⟩;by_cases ek:k=n
  .subst ek;rw[eX]at e;exact(F9.1 hT.nodup).2.2 b (ho b e) b hb rfl
  .rw[V6 _ _ o5]at e;refine h4 k ?_;rw[←yA (m:=m) (dA m l ks ek) (Gz m l ks ek)];exact e
 .by_cases ek:k=n
  .subst ek;simp[hm]at h
  .rw[dA _ _ _ ek];exact h
theorem zt{h:Array Obj}{ok:Nat->Ty->Prop}{m m' :Mp}{t:Ty}{xs:List t.den}{l:Loc}(hr:arrOk ⟨h,ok,m⟩ t xs l):arrOk ⟨h,ok,m'⟩ t xs l:=by cases l<;>exact hr
theorem WP{S:Sm}{k:Nat}{c:Cmd α}(h:c.post (upd S k v) Q):(Cmd.set k v c).post S Q:=h
theorem wX{α:Type}{Q:α->Sm->Prop} :∀(md:M) {x:md.den} {n:Nat} {r:List V} {K:List V->Nat->Cmd α} {S:Sm} {m:Mp} {ch:Nat} {us us' :List Value} {O T:List Nat}
  (R:Rel X cl ch S m ok a w) (hcl:cl<=n) (hT:Tk X S m ok w (O++T)) (h:iH w.heap ok md none x us O) (hL:aY ⟨w.heap,ok,m⟩ r us')
  (hK:∀S' m' cs n' ch',Rel X cl ch' S' m' ok a w->ch' <=max ch n' ->Tk X S' m' ok w T->(∀k l,m k=some l->m' k=some l)->Y1 S S' ->aY ⟨w.heap,ok,m'⟩ cs (us++us')->n<=n' ->(K cs n').post S' Q),
  (emM md x n r K).post S Q
 | .dat t,x,n,r,K,S,m,ch,us,us',O,T,R,hcl,hT,h,hL,hK=>by unfold emM;obtain⟨hr,rfl⟩:=h;refine hK S m _ n ch R (aI _ _) (by simpa using hT) (λ_ _ h=>h) (Y1.refl _) ?_ (A7 _);rw[fB];exact lW (jw (C:=⟨w.heap,ok,m⟩) hr) hL
 | .own t,x,n,r,K,S,m,ch,us,us',O,T,R,hcl,hT,h,hL,hK=>by
  unfold emM;obtain⟨l,v,rfl,hv,ha,rfl⟩:=nI.1 h;refine mJ λhn=>?_;have hob:L8 (gq m n l []) n (.barr t x)=l.blks:=by cases l<;>first|(simp[L8,Loc.blks];done)|cases ha
  obtain⟨R',T',k'⟩:=R.adopt (l:=l) (ks:=[]) (v:=.barr t x) hn hcl o7 hT (λb hb=>by rw[hob]at hb;exact hb) (by rw[hob];exact Loc.blks_nodup l) ⟨l,X6 _ _ _ _,zt ha⟩;exact hK _ _ _ _ _ R' o5 T' k' (Y1.box _ _ _) ⟨v,us',rfl,⟨l,X6 _ _ _ _,hv⟩,iG hv,yB k' hL⟩ o5
 | .ownb t,x,n,r,K,S,m,ch,us,us',O,T,R,hcl,hT,h,hL,hK=>by
  unfold emM;obtain⟨l,v,rfl,hv,ha,rfl⟩:=h;refine mJ λhn=>?_;have hob:L8 (gq m n l []) n (.barr t x)=l.blks:=by cases l<;>first|(simp[L8,Loc.blks];done)|cases ha
  obtain⟨R',T',k'⟩:=R.adopt (l:=l) (ks:=[]) (v:=.barr t x) hn hcl o7 hT (λb hb=>by rw[hob]at hb;exact hb) (by rw[hob];exact Loc.blks_nodup l) ⟨l,X6 _ _ _ _,zt ha⟩;exact hK _ _ _ _ _ R' o5 T' k' (Y1.box _ _ _) ⟨v,us',rfl,⟨l,X6 _ _ _ _,hv⟩,iG hv,yB k' hL⟩ o5
 | .owns md,x,n,r,K,S,m,ch,us,us',O,T,R,hcl,hT,h,hL,hK=>by
  unfold emM;obtain⟨hw,l,v,Os,rfl,hv,ha,rfl⟩:=oK.1 h;refine mJ λhn=>?_;have hob:L8 (gq m n l Os.flatten) n (.barrs md x none)=l.blks++Os.flatten:=by cases l<;>first|(simp[L8,Loc.blks];done)|cases ha
  obtain⟨R',T',k'⟩:=R.adopt (l:=l) (ks:=Os.flatten) (v:=.barrs md x none) hn hcl o7 hT (λb hb=>by rw[hob]at hb;exact hb) (by rw[hob];exact(F9.1 hT.nodup).1)
   ⟨hw,l,Os,X6 _ _ _ _,⟨ha,trivial⟩,o7⟩
  refine WP ?_;have T2:=T'.killV R' (EW+n) (v:=.blen (x9 x) md.size) rfl (bs:=[]) (λb h=>by cases h) U5;rw[F7]at T2;exact hK _ _ _ _ _ (R'.mark (eX _ _ _)) o5 T2 k' ((Y1.box _ _ _).trans (Y1.box _ _ _)) ⟨v,us',rfl,⟨l,X6 _ _ _ _,hv⟩,iG hv,yB k' hL⟩ o5
 | .pair p q,x,n,r,K,S,m,ch,us,us',O,T,R,hcl,hT,h,hL,hK=>by
  unfold emM;obtain⟨c,d,O1,O2,rfl,rfl,h1,h2⟩:=WM.1 h;have hT1:Tk X S m ok w (O2++(O1++T)):=hT.perm (by rw[O8];exact(List.perm_append_comm_assoc _ _ _))
  refine wX q R hcl hT1 h2 hL λS1 m1 cs1 n1 ch1 R1 c1 T1 k1 s1 l1 e1=>?_;refine wX p R1 o5 T1 h1 l1 λS2 m2 cs2 n2 ch2 R2 c2 T2 k2 s2 l2 e2=>?_;exact hK _ _ _ _ _ R2 o5 T2 (λk l h=>k2 k l (k1 k l h)) (s1.trans s2) (by simpa using l2) o5
 | .unit,x,n,r,K,S,m,ch,us,us',O,T,R,hcl,hT,h,hL,hK=>by unfold emM;obtain⟨rfl,rfl⟩:=h;exact hK S m _ n ch R (aI _ _) (by simpa using hT) (λ_ _ h=>h) (Y1.refl _) (by simpa using hL) (A7 _)
 | .box md,x,n,r,K,S,m,ch,us,us',O,T,R,hcl,hT,h,hL,hK=>by
  unfold emM;obtain⟨blk,arr,Tt,O',rfl,hh,hr,rfl⟩:=h;have hT1:Tk X S m ok w (O' ++([blk]++T)):=hT.perm (by simpa using List.perm_middle.symm);refine wX md (r:=[]) (us' :=[]) R o5 hT1 hr rfl λS1 m1 cs1 n1 ch1 R1 c1 T1 k1 s1 l1 e1=>?_;refine mJ λhn=>?_;obtain⟨R',T',k'⟩:=R1.adopt (l:=.st blk) (ks:=[]) (v:=.bcells cs1) hn hcl o7 T1 (λb hb=>by
   simp only[L8,X6]at hb;simp at hb;simp[hb]) (by simp[L8]) ⟨blk,arr,Tt,X6 _ _ _ _,hh,yB (λk l (h:m1 k=some l)=>by
    by_cases ek:k=n
    .subst ek;have:=R1.fresh k hcl hn;rw[this]at h;cases h
    .rw[dA _ _ _ ek];exact h) (by simpa using l1)⟩
  refine hK _ _ _ _ _ R' o5 T' (λk l h=>k' k l (k1 k l h)) (s1.trans (Y1.box _ _ _)) ⟨_,us',rfl,⟨blk,X6 _ _ _ _,rfl⟩,rfl,yB k' (yB k1 hL)⟩ o5
 | .rp t,x,n,r,K,S,m,ch,us,us',O,T,R,hcl,hT,h,hL,hK=>by unfold emM;obtain⟨v,rfl,hv,rfl⟩:=h;exact hK S m _ n ch R (aI _ _) (by simpa using hT) (λ_ _ h=>h) (Y1.refl _) ⟨v,us',rfl,hv,Jz hv,hL⟩ (A7 _)
 | .fn f ts,x,n,r,K,S,m,ch,us,us',O,T,R,hcl,hT,h,hL,hK=>by unfold emM;obtain⟨vs,rfl,hv,rfl⟩:=h;exact hK S m _ n ch R (aI _ _) (by simpa using hT) (λ_ _ h=>h) (Y1.refl _) ⟨_,us',rfl,⟨vs,rfl,hv⟩,rfl,hL⟩ (A7 _)
 | .ifc t md,x,n,r,K,S,m,ch,us,us',O,T,R,hcl,hT,h,hL,hK=>by
  unfold emM;obtain⟨u,rfl,h1⟩:=h;refine wX md (r:=[]) (us' :=[]) R hcl hT h1 rfl λS1 m1 cs1 n1 ch1 R1 c1 T1 k1 s1 l1 e1=>?_;split
  .rename_i c;obtain⟨v',r',e,h1',h2',h3'⟩:=l1;simp only[F7,ae,J5,E8]at e;obtain⟨rfl,rfl⟩:=e;exact hK _ _ _ _ _ R1 c1 T1 k1 s1 ⟨_,us',rfl,⟨u,rfl,h2',h1'⟩,rfl,yB k1 hL⟩ e1
  .trivial
 | .cell (some none),x,n,r,K,S,m,ch,us,us',O,T,R,hcl,hT,h,hL,hK=>by unfold emM;obtain⟨v,rfl,hv,h2,h4,rfl⟩:=h;exact hK S m _ n ch R (aI _ _) (by simpa using hT) (λ_ _ h=>h) (Y1.refl _) ⟨v,us',rfl,h2 rfl,hv,hL⟩ (A7 _)
 | .cell (some (some b)),x,n,r,K,S,m,ch,us,us',O,T,R,hcl,hT,h,hL,hK=>by unfold emM;obtain⟨v,rfl,hv,h2,h4,rfl⟩:=h;exact hK S m _ n ch R (aI _ _) (by simpa using hT) (λ_ _ h=>h) (Y1.refl _) ⟨v,us',rfl,h4 _ rfl,hv,hL⟩ (A7 _)
 | .cell none,x,n,r,K,S,m,ch,us,us',O,T,R,hcl,hT,h,hL,hK=>by unfold emM;obtain⟨v,rfl,hv,h2,h4,rfl⟩:=h;exact hK S m _ n ch R (aI _ _) (by simpa using hT) (λ_ _ h=>h) (Y1.refl _) ⟨v,us',rfl,trivial,hv,hL⟩ (A7 _)
 | .fr t,x,n,r,K,S,m,ch,us,us',O,T,R,hcl,hT,h,hL,hK=>by unfold emM;obtain⟨l,v,rfl,hv,ha,hk,rfl⟩:=h;refine mJ λhn=>?_;obtain⟨R',T',k'⟩:=R.adopt (l:=l) (ks:=[]) (v:=.bfrz t x) hn hcl o7 hT (λb hb=>by cases hb) U5 ⟨l,X6 _ _ _ _,zt ha,hk⟩;exact hK _ _ _ _ _ R' o5 T' k' (Y1.box _ _ _) ⟨v,us',rfl,⟨l,X6 _ _ _ _,hv⟩,iG hv,yB k' hL⟩ o5
theorem EI{ag:Bool}{cs:List V}{us:List Value}(hg:FZ ag x us)(hl:aY C cs us):fH C (mkV ag cs) x:=by
 cases ag
 .simp only[FZ]at hg;subst hg;cases cs with
  |nil=>simp[aY]at hl|cons c r=>
   obtain⟨v,r',e,h1,h2,h3⟩:=hl;simp at e;obtain⟨rfl,rfl⟩:=e;cases r with
   |nil=>exact sJ h1|cons d r=>obtain⟨_,_,e,_⟩:=h3;cases e
 .obtain⟨arr,rfl,rfl⟩:=hg;exact⟨arr,rfl,hl⟩
theorem xO{α:Type}{Q:α->Sm->Prop} :∀(ms:List MG) {x:bC ms} {n:Nat} {K:List V->Nat->Cmd α} {S:Sm} {m:Mp} {ch:Nat} {xs:List Value} {O T:List Nat}
  (R:Rel X cl ch S m ok a w) (hcl:cl<=n) (hT:Tk X S m ok w (O++T)) (h:kR w.heap ok ms x xs O)
  (hK:∀S' m' vs n' ch',Rel X cl ch' S' m' ok a w->ch' <=max ch n' ->Tk X S' m' ok w T->(∀k l,m k=some l->m' k=some l)->Y1 S S' ->cO ⟨w.heap,ok,m'⟩ vs xs->n<=n' ->(K vs n').post S' Q),
  (BM ms x n K).post S Q
 |[],x,n,K,S,m,ch,xs,O,T,R,hcl,hT,h,hK=>by unfold BM;obtain⟨rfl,rfl⟩:=h;exact hK S m [] n ch R (aI _ _) (by simpa using hT) (λ_ _ h=>h) (Y1.refl _) rfl (A7 _)
 |[md],x,n,K,S,m,ch,xs,O,T,R,hcl,hT,h,hK=>by unfold BM;obtain⟨v,cs,rfl,hg,hr⟩:=h;refine wX md.2 (us' :=[]) R hcl hT hr rfl λS1 m1 cs1 n1 ch1 R1 c1 T1 k1 s1 l1 e1=>?_;exact hK _ _ _ _ _ R1 c1 T1 k1 s1 ⟨v,[],rfl,EI hg (by simpa using l1),rfl⟩ e1
 |md::md' ::r,x,n,K,S,m,ch,xs,O,T,R,hcl,hT,h,hK=>by unfold BM;obtain⟨v,cs,vs',O1,O2,rfl,rfl,hg,h1,h2⟩:=h;refine wX md.2 (us' :=[]) R hcl (by simpa using hT) h1 rfl λS1 m1 cs1 n1 ch1 R1 c1 T1 k1 s1 l1 e1=>?_;refine xO (md' ::r) R1 o5 T1 h2 λS2 m2 vs2 n2 ch2 R2 c2 T2 k2 s2 l2 e2=>?_;exact hK _ _ _ _ _ R2 o5 T2 (λk l h=>k2 k l (k1 k l h)) (s1.trans s2) ⟨v,vs',rfl,EI hg (yB k2 (by simpa using l1)),l2⟩ o5
theorem Ik{Q:Unit->Sm->Prop} :∀(ns:List Nat) {vs:List V} {S:Sm} (R:Rel X cl ch S m ok a w) (hv:cO ⟨w.heap,ok,m⟩ vs (ns.map λn=>a.tmps.getD n Go.undef))
  (hK:∀S',Rel X cl ch S' m ok a w->Q () S'),(Lj ns vs).post S Q
 |[],vs,S,R,hv,hK=>by
  cases vs with
  |nil=>exact hK S R|cons v vs=>trivial
 |n::ns,vs,S,R,hv,hK=>by
  cases vs with
  |nil=>trivial|cons v vs=>
   unfold Lj;obtain⟨x,r,e,h1,h2⟩:=hv;simp only[bz,E8]at e;obtain⟨rfl,rfl⟩:=e;cases hb:Nat.blt n S9
   .trivial
   .simp only[cond_true];show Cmd.post _ (upd S n v) Q;exact Ik ns (R.slotV (by rw[aF]at hb;exact hb) h1) h2 hK
theorem EO{Q:Unit->Sm->Prop} :∀(ns:List Nat) {vs:List V} {S:Sm} {K:Cmd Unit} (R:Rel X cl ch S m ok a w) (hv:cO ⟨w.heap,ok,m⟩ vs (ns.map λn=>a.tmps.getD n Go.undef))
  (hK:∀S',Rel X cl ch S' m ok a w->K.post S' Q),(Jb ns vs K).post S Q
 |[],vs,S,K,R,hv,hK=>by
  simp only[pF]at hv;cases vs with
  |nil=>exact hK S R|cons _ _=>obtain⟨_,_,e,_⟩:=hv;cases e
 |n::ns,vs,S,K,R,hv,hK=>by
  cases vs with
  |nil=>trivial
  |cons v vs=>obtain⟨x,r,e,h1,h2⟩:=hv;simp only[bz,E8]at e;obtain⟨rfl,rfl⟩:=e;unfold Jb;refine aP λhb=>?_;show Cmd.post _ (upd S n v) Q;exact EO ns (R.slotV (by rw[aF]at hb;exact hb) h1) h2 hK
theorem Il{Q:Unit->Sm->Prop} :∀(als:List (Nat×Nat)) {S:Sm} (R:Rel X cl ch S m ok a w) (h:∀p∈als,a.tmps.getD p.1 Go.undef=a.tmps.getD p.2 Go.undef)
  (hK:∀S',Rel X cl ch S' m ok a w->Q () S'),(Ph als).post S Q
 |[],S,R,h,hK=>hK S R
 |(n,k)::r,S,R,h,hK=>by unfold Ph;refine aP λhb=>?_;simp only[o6]at hb;have h1:=hb.1;have h2:=hb.2;rw[aF]at h1 h2;show Cmd.post _ (upd S n (S k)) Q;refine Il r (R.slotV h1 ?_) (λp hp=>h p (I4 _ hp)) hK;rw[h (n,k) dU];exact R.slot k h2
theorem SH{sg:Sig}{x:jc sg}{nb lim:Nat}{Q:Unit->Sm->Prop}{O:List Nat}(R:Rel X cl ch S m ok a w)(hcl:cl<=nb)(hT:Tk X S m ok w O)
  (h:RS w.heap ok sg x a.tmps O)
  (hK:∀S' m',Rel X cl (max ch lim) S' m' ok a w->(∀k l,m k=some l->m' k=some l)->Q () S'):(Xy sg x nb lim).post S Q:=by
 unfold Xy;refine xO (T:=[]) _ R hcl (by simpa using hT) h.1 λS1 m1 vs n1 ch1 R1 c1 T1 k1 s1 l1 e1=>?_;cases hb:Nat.ble n1 lim
 .trivial
 .simp only[cond_true];have:n1<=lim:=J9 hb;exact EO _ (R1.chmono (ch' :=max ch lim) o5) l1 λS' R' =>Il _ R' h.2 λS'' R'' =>hK S'' m1 R'' k1
end
end Go.GP
namespace Go.GP
def I_(P:Program)(t:TypeId):TD->Prop
 | .bool=>P.underlying t=some .bool| .int k=>P.underlying t=some (.int k)| .str=>P.underlying t=some .string| .sl e=>P.underlying t=some (.slice e)| .ptr e=>P.underlying t=some (.pointer e)| .struct fs=>∃fields,P.underlying t=some (.struct fields)/\fields.toList.map (λf=>(f.type,f.offset))=fs| .arr n e=>P.underlying t=some (.array n e)| .map k e=>P.underlying t=some (.map k e)| .other=>∃d,P.underlying t=some d/\(match d with| .struct _| .array _ _=>False|_=>True)
structure TiOk (P:Program) (t:TypeId) (i:TI):Prop where
 info:∃inf,P.info? t=some inf/\inf.size=i.size/\inf.bytes=i.bytes/\
  (i.zero.length=i.size->∃z,inf.zero=some z/\aY ⟨#[],λ_ _=>False,nom⟩ i.zero z.cells.toList)/\
  (∀u,i.ty=some u->u.size=i.size/\∃z,inf.zero=some z/\eG #[] (λ_ _=>False) u u.zero z.cells.toList)
 td:I_ P t i.td
 one:U8 i.td=false->i.size=1
 agg:∀inf z,P.info? t=some inf->inf.zero=some z->(U8 i.td=true->∃arr,z= .agg arr)/\(U8 i.td=false->z.oneCell' =true)
def RQ(n:Nat)(v:Value)(rs:List Value):Prop:=rs.length=n/\v=(match rs with|[x]=>x|l=> .tuple l.toArray)
def nV(h:Array Obj):List MG->List Value->List Value->List Nat->Prop
 |[],[],os,B=>os=[]/\B=[]|(_,.box _)::ms,v::vs,os,B=>∃b arr T os' B',v= .pointer (some ⟨b,0,none⟩)/\h[b]? =some (.cells arr T (0,0))/\os= .agg arr::os' /\B=b::B' /\nV h ms vs os' B'|(_,.ifc _ (.box _))::ms,v::vs,os,B=>∃t b arr T os' B',v= .iface t (.pointer (some ⟨b,0,none⟩))/\h[b]? =some (.cells arr T (0,0))/\os= .agg arr::os' /\B=b::B' /\nV h ms vs os' B'|(_,.ownb _)::ms,v::vs,os,B=>∃os',os=v::os' /\nV h ms vs os' B|_::ms,_::vs,os,B=>nV h ms vs os B|_,_,_,_=>False
def ig(P:Program)(gl:List (Nat×(t:Ty)×List t.den))(f:FuncId)(s:FSpec):Prop:=
 ∀(w:World) (ok:Nat->Ty->Prop) (O:List Nat) (vals:List Value) (x:bC s.ps) (r:bC (s.rs++s.outs)),
  (∀b t,ok b t->b<w.heap.size)->O.Nodup->(∀b∈O,(∀t,¬ok b t)/\b<w.heap.size)->(∀g u,Z4 gl g=some u->DF ⟨w.heap,ok,nom⟩ g u.1 u.2)->
  kR w.heap ok s.ps x vals O->s.fn x=some r->
  Calls P f vals.toArray w λe w' =>∃v ok' O' rs os B,e= .returned v/\Frame' w w' O/\(∀b t,ok b t->ok' b t)/\(∀b t,ok' b t->b<w'.heap.size/\(ok b t\/w.heap.size<=b\/b∈O))/\
   (O' ++B).Nodup/\(∀b∈O' ++B,(∀t,¬ok' b t)/\b<w'.heap.size/\(w.heap.size<=b\/b∈O))/\
   RQ s.rs.length v rs/\nV w'.heap s.ps vals os B/\kR w'.heap ok' (s.rs++s.outs) r (rs++os) O'
def dn:List Ty->List Value->Prop
 |[],vs=>vs=[]| .bool::ts,vs=>∃b r,vs= .bool b::r/\dn ts r| .int k::ts,vs=>∃b r,vs= .int k b::r/\dn ts r| .str::ts,vs=>∃b r,vs= .string b::r/\dn ts r|_::_,_=>False
def Xb(P:Program)(t:TypeId)(sh:List Ty):Prop:=
 ∀(w:World) (C:Cx) (cs ds:List V) (xs ys:Array Value) (e:Bool) (op:BinOp) (x y:Operand),pM sh cs=true->pM sh ds=true->aY C cs xs.toList->aY C ds ys.toList->oV cs ds=some e->
  (op= .eql\/op= .neq)->(do eqGuard op t x y (.agg xs) (.agg ys);binOp op t (.agg xs) (.agg ys):Sem Value).run P w= .ok (.bool (if op= .eql then e else !e)) w
def PI(P:Program)(t:TypeId)(sh:List Ty):Prop:=
 (∃fs,P.underlying t=some (.struct fs))/\∀(w:World) (xs:Array Value),dn sh xs.toList->(∀em,(Instr.checkKey em 10000 t (.agg xs)).run P w= .ok () w)/\
  ∀ys:Array Value,dn sh ys.toList->∃r,(Op.equal t (.agg xs) (.agg ys)).run P w= .ok r w/\(r=true↔xs.toList=ys.toList)
def Bd(P:Program)(t:TypeId)(sh:List Ty):Prop:=Xb P t sh/\PI P t sh
def tu(P:Program)(t:Nat)(n:String)(f:Nat)(d:Option Nat):Prop:=
 ∀(v:Value) (w:World),match d with
  |none=>(method (P.types.size+Made.depth) t v n).run P w= .ok (f,v) w
  |some e=>∀ad,v= .pointer (some ad)->(method (P.types.size+Made.depth) t v n).run P w=((loadVar e ad).run P w).andThen λu w' => .ok (f,u) w'
structure FxOk (X:Fx):Prop where
 nt:64*X.E.nt<=999936
 tt:∀t i,Z4 X.E.tt t=some i->TiOk X.P t i
 fs:∀p∈X.E.fs,ig X.P X.E.gl p.1 p.2
 eqs:∀t sh,Z4 X.E.eqs t=some sh->Bd X.P t sh
 ms:∀p∈X.E.ms,tu X.P p.1.1 p.1.2 p.2.1 p.2.2
 fn:∀p∈X.E.fs,∃fn,X.P.funcs[p.1]? =some fn/\fn.body.isSome=true/\(fn.name== "runtime.NumGoroutine")=false
theorem FxOk.ntB{X:Fx}(H:FxOk X):X.E.nt<=S9:=by have:=H.nt;show X.E.nt<=1000000;omega
def bV(X:Fx)(cl ch:Nat)(o:Oper)(a:Act)(w:World)(m:Mp)(ok:Nat->Ty->Prop)(S' :Sm):Prop:=
 ∀(next:Act->World->Prop) (Q:Exit->Act->World->Prop),
  (∀m' ok' a' w',Rel X cl ch S' m' ok' a' w' ->(∀k l,m k=some l->m' k=some l)->(∀b t,ok b t->ok' b t)->next a' w')->o.wp X.P a w next Q
theorem xB{α:Type}{ι:Sort _}{Q:ι->α->Sm->Prop} :∀{c:Cmd α} {S:Sm},(∀i,c.post S (Q i))->c.post S (λx S' =>∀i,Q i x S')
 | .ret x,S,h=>λi=>h i| .fail,S,h=>trivial| .get k c,S,h=>xB (c:=c (S k)) h| .set k v c,S,h=>xB (c:=c) h
 | .opt o c,S,h=>λx e=>xB (c:=c x) λi=>h i x e| .br b c d,S,h=>⟨λe=>xB (c:=c) λi=>(h i).1 e,λe=>xB (c:=d) λi=>(h i).2 e⟩
variable {x:Operand}{k:IntKind}{y:Operand}{α:Type}{Q:α->Sm->Prop}{C:Cx}{v:Value}{op:BinOp}{t:TypeId}{yt:TypeId}
section
variable {X:Fx} {cl ch:Nat} {S:Sm} {m:Mp} {ok:Nat->Ty->Prop} {a:Act} {w:World} {o:Oper}
theorem aG{b:Bool}{c:Cmd α}{S:Sm}(h:b=true->c.post S Q):(bif b then c else Cmd.fail).post S Q:=by
 cases b
 .trivial
 .exact h rfl
theorem CU{a b:Nat}(h:Nat.blt a b=true):a<b:=by rw[aF]at h;exact h
theorem kM(H:FxOk X){S:Sm}{m0 m:Mp}{ok0 ok:Nat->Ty->Prop}{w0 w:World}{a:Act}(R:Rel X cl ch S m ok a w)(hm:∀k l,m0 k=some l->m k=some l)(hok:∀b t,ok0 b t->ok b t)
  {v:V} {x:Value} (hv:fH ⟨w.heap,ok,m⟩ v x) (run:(execOp a.eval o).run X.P w0= .ok (.value x) w):
  (ax X.E o.dst v).post S (λ_ S' =>bV X cl ch o a w0 m0 ok0 S'):=by
 unfold ax;cases hd:o.dst with
 |none=>
  intro next Q hn
  unfold Oper.wp;rw[run,Oper.upon_value,hd];exact hn m ok a w R hm hok
 |some d=>
  refine aG λhb=>?_;intro next Q hn
  unfold Oper.wp;rw[run,Oper.upon_value,hd];exact hn m ok _ w (R.put H.ntB hb hv) hm hok
theorem SB(C:Cx)(v:Value):fH C (SA v) v:=by unfold SA;split<;>first|exact rfl|trivial
theorem P9(R:Rel X cl ch S m ok a w){K:V->Cmd α}(hK:∀v,fH ⟨w.heap,ok,m⟩ v (a.eval x)->(K v).post S Q):(jo x K).post S Q:=by
 unfold jo;cases x with
 |tmp t=>exact aG λhb=>hK (S t) (R.slot t (CU hb))|const v=>exact hK _ (SB _ v)|global g=>exact hK _ rfl|func f=>exact hK _ rfl
theorem fQ{α:Type}{Q:α->Sm->Prop}(R:Rel X cl ch S m ok a w):∀(xs:List Operand) {K:List V->Cmd α} (hK:∀vs,cO ⟨w.heap,ok,m⟩ vs (xs.map a.eval)->(K vs).post S Q),(Hz xs K).post S Q
 |[],K,hK=>hK [] rfl
 |x::r,K,hK=>by unfold Hz;refine P9 R λv hv=>?_;exact fQ R r λvs hvs=>hK _ ⟨_,_,rfl,hv,hvs⟩
theorem U3(H:FxOk X)(R:Rel X cl ch S m ok a w){v:V}{x:Value}(hv:fH ⟨w.heap,ok,m⟩ v x)(run:(execOp a.eval o).run X.P w= .ok (.value x) w):
  (ax X.E o.dst v).post S (λ_ S' =>bV X cl ch o a w m ok S'):=kM H R (λ_ _ h=>h) (λ_ _ h=>h) hv run
theorem Gf{x:Bool}(h:fH C (.b x) v):v= .bool x:=h
theorem kE{n:Int}(h:fH C (.i k n) v):v= .int k n:=h
theorem Ak{l:List UInt8}(h:fH C (.s l) v):v= .string ⟨l.toArray⟩:=h
theorem Vh(H:FxOk X)(R:Rel X cl ch S m ok a w)(ho:o.op= .move x\/o.op= .assign x):(jo x λv=>ax X.E o.dst v).post S (λ_ S' =>bV X cl ch o a w m ok S'):=by refine P9 R λv hv=>U3 H R hv ?_;rcases ho with ho|ho<;>simp[execOp,ho]
theorem a0q(H:FxOk X)(R:Rel X cl ch S m ok a w){c x y:Operand}{q:Nat}(ho:o.op= .pick c x y):(V5 X.E q o).post S (λ_ S' =>bV X cl ch o a w m ok S'):=by
 unfold V5;simp only[ho];refine P9 R λv hv=>?_;split<;>try trivial
 rename_i t;have hc:=Gf hv;cases t
 .simp only[cond_false];refine P9 R λv hv=>U3 H R hv ?_;simp[execOp,ho,hc,asBool]
 .simp only[cond_true];refine P9 R λv hv=>U3 H R hv ?_;simp[execOp,ho,hc,asBool]
theorem aZ{α β:Type}{Q:α->Sm->Prop}{x:Option β}{c:β->Cmd α}{S:Sm}(h:∀y,x=some y->(c y).post S Q):(Cmd.opt x c).post S Q:=h
theorem VF{yc:Operand}{a:Act}{b:Int}(h:sS yc=false)(he:a.eval yc= .int k b):b≠0:=by
 unfold sS at h;split at h
 .simp[Act.eval]at he;obtain⟨_,rfl⟩:=he;simpa using h
 .simp at h
theorem Yb{yc:Operand}{a:Act}{b:Int}(h:xk yc=false)(he:a.eval yc= .int k b):¬b<0:=by
 unfold xk at h;split at h
 .simp[Act.eval]at he;obtain⟨_,rfl⟩:=he;simpa using h
 .simp at h
theorem WA(H:FxOk X)(R:Rel X cl ch S m ok a w)(ho:o.op= .binOp op t x y yt){k k' :IntKind}{p q:Int}
  (hx:a.eval x= .int k p) (hy:a.eval y= .int k' q):(zu X.E t op y (.i k p) (.i k' q) λv=>ax X.E o.dst v).post S (λ_ S' =>bV X cl ch o a w m ok S'):=by
 have run:∀v,(binOp op t (.int k p) (.int k' q)).run X.P w= .ok v w->(execOp a.eval o).run X.P w= .ok (.value v) w:=λv h=>by simp[execOp,ho,hx,hy,eqGuard_at_int,h]
 have fin:∀(v:V) (u:Value),fH ⟨w.heap,ok,m⟩ v u->(binOp op t (.int k p) (.int k' q)).run X.P w= .ok u w->(ax X.E o.dst v).post S (λ_ S' =>bV X cl ch o a w m ok S'):=
  λv u hv h=>U3 H R hv (run u h)
 unfold zu;cases op<;>simp only[]
 case shl=>
  cases hn:xk y
  .simp only[cond_false];have h0:=Yb hn hy;exact fin _ _ rfl (by simp[binOp,Op.shift,h0,a0h])
  .simp only[cond_true];refine aZ λr hr=>?_;unfold Qk at hr;split at hr
   .cases hr
   .rename_i h0;cases hr;exact fin _ _ rfl (by simp[binOp,Op.shift,h0,a0h])
 case shr=>
  cases hn:xk y
  .simp only[cond_false];have h0:=Yb hn hy;exact fin _ _ rfl (by simp[binOp,Op.shift,h0,lg])
  .simp only[cond_true];refine aZ λr hr=>?_;unfold UO at hr;split at hr
   .cases hr
   .rename_i h0;cases hr;exact fin _ _ rfl (by simp[binOp,Op.shift,h0,lg])
 all_goals
  refine aG λhk=>?_;have hk' :k=k' :=of_decide_eq_true hk;subst hk'
 case quo=>
  cases hz:sS y
  .simp only[cond_false];have h0:=VF hz hy;exact fin _ _ rfl (by simp[binOp,Op.intDiv,h0,jk])
  .simp only[cond_true];refine aZ λr hr=>?_;unfold Na at hr;split at hr
   .cases hr
   .rename_i h0;cases hr;exact fin _ _ rfl (by simp[binOp,Op.intDiv,h0])
 case rem=>
  cases hz:sS y
  .simp only[cond_false];have h0:=VF hz hy;exact fin _ _ rfl (by simp[binOp,Op.intDiv,h0,pz])
  .simp only[cond_true];refine aZ λr hr=>?_;unfold UN at hr;split at hr
   .cases hr
   .rename_i h0;cases hr;exact fin _ _ rfl (by simp[binOp,Op.intDiv,h0])
 case add=>exact fin _ _ rfl (by simp[binOp,Op.intArith,D7])
 case sub=>exact fin _ _ rfl (by simp[binOp,Op.intArith,O0])
 case mul=>exact fin _ _ rfl (by simp[binOp,Op.intArith,ji])
 case and=>exact fin _ _ rfl (by simp[binOp,Op.intBits,We])
 case or=>exact fin _ _ rfl (by simp[binOp,Op.intBits,ior])
 case xor=>exact fin _ _ rfl (by simp[binOp,Op.intBits,XL])
 case andNot=>exact fin _ _ rfl (by simp[binOp,Op.intBits,UL])
 case eql=>exact fin _ _ rfl (by simp[binOp,Op.intCmp,x8];rfl)
 case neq=>exact fin _ _ rfl (by simp[binOp,Op.intCmp,x8,G5];rfl)
 case lss=>exact fin _ _ rfl (by simp[binOp,Op.intCmp,I7])
 case leq=>exact fin _ _ rfl (by simp[binOp,Op.intCmp,Y2])
 case gtr=>exact fin _ _ rfl (by simp[binOp,Op.intCmp,I7])
 case geq=>exact fin _ _ rfl (by simp[binOp,Op.intCmp,Y2])
theorem WB(H:FxOk X)(R:Rel X cl ch S m ok a w)(ho:o.op= .binOp op t x y yt){p q:List UInt8}
  (hx:a.eval x= .string ⟨p.toArray⟩) (hy:a.eval y= .string ⟨q.toArray⟩):(zu X.E t op y (.s p) (.s q) λv=>ax X.E o.dst v).post S (λ_ S' =>bV X cl ch o a w m ok S'):=by
 have run:∀v,(Op.stringOp op ⟨p.toArray⟩ ⟨q.toArray⟩).run X.P w= .ok v w->(execOp a.eval o).run X.P w= .ok (.value v) w:=λv h=>by simp[execOp,ho,hx,hy,eqGuard_at_string,binOp,h]
 have fin:∀(v:V) (u:Value),fH ⟨w.heap,ok,m⟩ v u->(Op.stringOp op ⟨p.toArray⟩ ⟨q.toArray⟩).run X.P w= .ok u w->(ax X.E o.dst v).post S (λ_ S' =>bV X cl ch o a w m ok S'):=
  λv u hv h=>U3 H R hv (run u h)
 unfold zu;cases op<;>simp only[]<;>try trivial
 case add=>
  refine aZ λr hr=>?_;unfold kH at hr;split at hr
  .rename_i hle;cases hr;have e:(⟨p.toArray⟩:ByteArray)++⟨q.toArray⟩=⟨(p++q).toArray⟩:=by
    apply ByteArray.ext;apply dL;simp[ByteArray.data_append]
   refine fin _ (.string ⟨(p++q).toArray⟩) rfl ?_;have hs:¬((9223372036854775807:Int)<(p.length:Int)+(q.length:Int)):=o5;simp[Op.stringOp,e,ByteArray.size,hs]
  .cases hr
 case eql=>exact fin _ _ rfl (by simp only[Op.stringOp,ByteArray.toList_mk,seq,N8];rw[show(p==q)=decide (p=q) by rw[dP];simp])
 case neq=>exact fin _ _ rfl (by simp only[Op.stringOp,ByteArray.toList_mk,seq,G5,N8];rw[show(p==q)=decide (p=q) by rw[dP];simp])
 case lss=>exact fin _ _ rfl (by simp[Op.stringOp,ByteArray.toList_mk,slt])
theorem TE(H:FxOk X)(R:Rel X cl ch S m ok a w)(ho:o.op= .binOp op t x y yt){p q:Bool}
  (hx:a.eval x= .bool p) (hy:a.eval y= .bool q):(zu X.E t op y (.b p) (.b q) λv=>ax X.E o.dst v).post S (λ_ S' =>bV X cl ch o a w m ok S'):=by
 unfold zu;cases hi:Z4 X.E.tt t with
 |none=>trivial|some i=>
 have ht' :=(H.tt t i hi).td;simp only[];cases hd:i.td<;>try trivial
 rw[hd]at ht';have ht:X.P.underlying t=some .bool:=ht';have he' :∀d,(Op.equalIn (d+1) t (.bool p) (.bool q)).run X.P w= .ok (p==q) w:=λd=>by simp[Op.equalIn,run_underlying ht]
 have he:(Op.equal t (.bool p) (.bool q)).run X.P w= .ok (p==q) w:=he' 9999;have run:∀v,(binOp op t (.bool p) (.bool q)).run X.P w= .ok v w->(execOp a.eval o).run X.P w= .ok (.value v) w:=λv h=>by simp[execOp,ho,hx,hy,eqGuard_at_bool,h]
 have fin:∀(v:V) (u:Value),fH ⟨w.heap,ok,m⟩ v u->(binOp op t (.bool p) (.bool q)).run X.P w= .ok u w->(ax X.E o.dst v).post S (λ_ S' =>bV X cl ch o a w m ok S'):=
  λv u hv h=>U3 H R hv (run u h)
 cases op<;>try trivial
 case eql=>exact fin _ _ rfl (by simp[binOp,he,qY])
 case neq=>exact fin _ _ rfl (by simp[binOp,he,qY,G5])
end
end Go.GP
namespace Go.GP
variable {x:Operand}{t:TypeId}{q:Nat}
section
variable {X:Fx} {cl ch:Nat} {S:Sm} {m:Mp} {ok:Nat->Ty->Prop} {a:Act} {w:World} {o:Oper}
theorem fK{α:Type}{Q:α->Sm->Prop}(H:FxOk X){t:Nat}{K:TI->Cmd α}(hK:∀i,TiOk X.P t i->(K i).post S Q):(tiC X.E t K).post S Q:=by
 unfold tiC;cases hi:Z4 X.E.tt t with
 |none=>trivial|some i=>exact hK i (H.tt t i hi)
theorem WT{P:Program} :∀{d:TD},I_ P t d->∃e,P.underlying t=some e
 | .bool,h=>⟨_,h⟩| .int _,h=>⟨_,h⟩| .str,h=>⟨_,h⟩| .sl _,h=>⟨_,h⟩| .ptr _,h=>⟨_,h⟩| .struct _,⟨_,h,_⟩=>⟨_,h⟩| .arr _ _,h=>⟨_,h⟩| .map _ _,h=>⟨_,h⟩| .other,⟨_,h,_⟩=>⟨_,h⟩
theorem OJ(H:FxOk X)(R:Rel X cl ch S m ok a w){op:BinOp}{x y:Operand}{yt:TypeId}(ho:o.op= .binOp op t x y yt){ad:Option Addr}{n c:Nat}
  (hx:a.eval x= .slice ad n c) (hy:a.eval y= .slice none 0 0):(Ye X.E t op ad.isNone λv=>ax X.E o.dst v).post S (λ_ S' =>bV X cl ch o a w m ok S'):=by
 unfold Ye;cases hi:Z4 X.E.tt t with
 |none=>trivial|some i=>
 have ht' :=(H.tt t i hi).td;simp only[];cases hd:i.td<;>try trivial
 rename_i e;rw[hd]at ht';have ht:X.P.underlying t=some (.slice e):=ht';have he' :∀d,(Op.equalIn (d+1) t (.slice ad n c) (.slice none 0 0)).run X.P w= .ok ad.isNone w:=λd=>by cases ad<;>simp[Op.equalIn,run_underlying ht]
 have he:(Op.equal t (.slice ad n c) (.slice none 0 0)).run X.P w= .ok ad.isNone w:=he' 9999;have run:∀v,(binOp op t (.slice ad n c) (.slice none 0 0)).run X.P w= .ok v w->(execOp a.eval o).run X.P w= .ok (.value v) w:=λv h=>by simp[execOp,ho,hx,hy,eqGuard_at_slice,h]
 cases op<;>try trivial
 case eql=>exact U3 H R (v:=.b ad.isNone) (x:=.bool ad.isNone) rfl (run _ (by simp[binOp,he]))
 case neq=>exact U3 H R (v:=.b (G5 ad.isNone)) (x:=.bool (!ad.isNone)) rfl (run _ (by simp[binOp,he]))
theorem Yn(H:FxOk X)(R:Rel X cl ch S m ok a w){op:BinOp}{x y:Operand}{yt:TypeId}(ho:o.op= .binOp op t x y yt):
  (V5 X.E q o).post S (λ_ S' =>bV X cl ch o a w m ok S'):=by
 unfold V5;simp only[ho];refine P9 R λu hu=>P9 R λv hv=>?_;cases u<;>try (unfold zu;trivial)
 case b p=>
  cases v<;>try (unfold zu;trivial)
  exact TE H R ho (Gf hu) (Gf hv)
 case i k p=>
  cases v<;>try (unfold zu;trivial)
  exact WA H R ho (kE hu) (kE hv)
 case s p=>
  cases v<;>try (unfold zu;trivial)
  exact WB H R ho (Ak hu) (Ak hv)
 case nl=>
  cases v<;>try (unfold zu;trivial)
  exact OJ H R ho (ad:=none) (show a.eval x= .slice none 0 0 from hu) hv
 case ne=>
  cases v<;>try (unfold zu;trivial)
  obtain⟨ad,c,hx,hb⟩:=hu;subst hb;exact OJ H R ho (ad:=ad) hx hv
 case sl t' xs=>
  cases v<;>try (unfold zu;trivial)
  unfold zu;simp only[];cases ht:t'.isEnt
  .simp only[cond_false];obtain⟨ad,c,hx,hle,hx'⟩:=(rF ht).1 (show eG w.heap ok (.sl t') xs [a.eval x]from hu);cases xs with
   |nil=>exact⟨λ_=>trivial,λh=>by simp[x8,x9]at h⟩|cons z zs=>obtain⟨blk,off,es,rfl,_⟩:=hx' 0 z rfl;exact⟨λ_=>trivial,λ_=>OJ H R ho (ad:=some _) (by simpa using hx) hv⟩
  .trivial
 case agg cs=>
  cases v<;>try (unfold zu;trivial)
  case agg ds=>
  obtain⟨xs,hx,hl⟩:=hu;obtain⟨ys,hy,hl'⟩:=hv;unfold zu;simp only[];cases hq:Z4 X.E.eqs t with
  |none=>trivial|some sh=>
  simp only[];refine aG λhm=>?_;simp only[o6]at hm;have hE:=(H.eqs t sh hq).1;cases he:oV cs ds with
  |none=>cases op<;>trivial|some e=>
   cases op<;>try trivial
   case eql=>refine U3 H R (v:=.b e) (x:=.bool e) rfl ?_;have h:=hE w _ cs ds xs ys e .eql x y hm.1 hm.2 hl hl' he (.inl rfl);simp only[execOp,ho,hx,hy];rw[D5,h];rfl
   case neq=>refine U3 H R (v:=.b (G5 e)) (x:=.bool (!e)) rfl ?_;have h:=hE w _ cs ds xs ys e .neq x y hm.1 hm.2 hl hl' he (.inr rfl);simp only[execOp,ho,hx,hy];rw[D5,h];rfl
theorem a0r(H:FxOk X)(R:Rel X cl ch S m ok a w){op:UnOp}(ho:o.op= .unOp op t x):
  (V5 X.E q o).post S (λ_ S' =>bV X cl ch o a w m ok S'):=by
 unfold V5;simp only[ho];refine P9 R λu hu=>?_;cases u<;>cases op<;>try (unfold unC;trivial)
 case b.not p=>exact U3 H R (v:=.b (G5 p)) (x:=.bool (!p)) rfl (by simp[execOp,ho,Gf hu,Op.unary])
 case i.neg k p=>exact U3 H R (v:=.i k (O0 k 0 p)) (x:=.int k (k.wrap (0 -p))) rfl (by simp[execOp,ho,kE hu,Op.unary,Op.intArith])
 case i.xor k p=>exact U3 H R (v:=.i k (XL k (bif k.signed then -1 else k.max) p)) rfl (by simp only[execOp,ho,kE hu,Op.unary,Op.intBits,XL];cases k.signed<;>simp)
theorem Yx{α:Type}{Q:α->Sm->Prop}(R:Rel X cl ch S m ok a w){u:Ty}{y:V}{vy:Value}{K:List u.den->Cmd α}(hy:fH ⟨w.heap,ok,m⟩ y vy)
  (hK:∀xs,eG w.heap (λ_ _=>True) (.sl u) xs [vy]->(K xs).post S Q):(QJ u y K).post S Q:=by
 unfold QJ;split<;>try trivial
 .have hv:vy= .slice none 0 0:=hy;subst hv;cases ht:u.isEnt
  .exact hK [] (.inl ⟨ht,none,0,rfl,A7 _,λi x hi=>by simp at hi⟩)
  .trivial
 .obtain⟨ad,c,rfl,_⟩:=(show ∃a c,vy=Value.slice a 0 c/\a.isNone=_ from hy);cases ht:u.isEnt
  .exact hK [] (.inl ⟨ht,ad,c,rfl,di _,λi x hi=>by simp at hi⟩)
  .trivial
 .refine aA λe=>?_;subst e;exact hK _ (Z8 (λ_ _ _=>trivial) (λ_ _ _=>rfl) (show eG w.heap ok (.sl _) _ [vy]from hy))
 .rename_i bx vw;obtain⟨l,hm,hv⟩:=hy;show Cmd.post (match S (S9+bx)with| .barr t' xs=>_| .bfrz t' xs=>_|_=>_) S Q;have hb:=R.box bx;split<;>try trivial
  .rename_i t' xs hS;rw[hS]at hb;obtain⟨l',hm',ha⟩:=hb;simp only at hm hm';rw[hm]at hm';cases hm';refine aA λe=>?_;subst e;exact hK _ (ja (C:=⟨w.heap,ok,m⟩) ha hv (λ_ _ _=>trivial) (λ_ _=>trivial))
  .rename_i t' xs hS;rw[hS]at hb;obtain⟨l',hm',ha,hok⟩:=hb;simp only at hm hm';rw[hm]at hm';cases hm';refine aA λe=>?_;subst e;exact hK _ (ja (C:=⟨w.heap,ok,m⟩) ha hv (λ_ _ _=>trivial) (λ_ _=>trivial))
theorem QF(H:FxOk X)(R:Rel X cl ch S m ok a w){src t:TypeId}(ho:o.op= .convert src t x)
  (hB:∀l,a.eval x= .string ⟨l.toArray⟩->X.P.underlying src=some .string->(Xr X.E (H5 q o.dst) t l λv=>ax X.E o.dst v).post S (λ_ S' =>bV X cl ch o a w m ok S')):
  (V5 X.E q o).post S (λ_ S' =>bV X cl ch o a w m ok S'):=by
 unfold V5;simp only[ho];refine P9 R λu hu=>fK H λj hj=>fK H λi hi=>?_;obtain⟨e,he⟩:=WT hj.td;have hd:=hi.td;split<;>try trivial
 .rename_i k' n k htd;rw[htd]at hd;exact U3 H R (v:=.i k (wrap k n)) (x:=.int k (k.wrap n)) rfl (by simp[execOp,ho,kE hu,convert,run_underlying he,run_underlying (show X.P.underlying t=some (.int k)from hd),Conv.intToInt])
 .rename_i l htd;rw[htd]at hd;refine U3 H R (v:=.s l) (x:=.string ⟨l.toArray⟩) rfl ?_;simp only[execOp,ho,Ak hu,convert,D5,run_underlying he,run_underlying (show X.P.underlying t=some .string from hd),D9];cases e<;>simp
 .split<;>try trivial
  rename_i l _ _ _ hjd;have hjs:=hj.td;rw[hjd]at hjs;exact hB l (Ak hu) hjs
 .rename_i hns htd;rw[htd]at hd;split<;>try trivial
  rename_i el hjd;have hjs:=hj.td;rw[hjd]at hjs;refine fK H λk hk=>?_;have hkd:=hk.td;split<;>try trivial
  rename_i hke;rw[hke]at hkd;refine Yx R hu λxs hr=>?_;obtain⟨ad,cap,hv,hcap,hcells⟩:=(rF rfl).1 hr;have hv:=(J3 hv).1;refine U3 H R (v:=.s (VN xs)) (x:=.string ⟨(VN xs).toArray⟩) rfl ?_;have hh:(convert src t (a.eval x)).run X.P w= .ok (.string ⟨(VN xs).toArray⟩) w:=by
   rw[hv];cases xs with
   |nil=>
    have:=run_convert_bytes_nil (P:=X.P) w src el hjs hkd 0 cap t hd;cases ad with
    |none=>exact this|some ad=>obtain⟨b,o,s⟩:=ad;rw[run_convert_bytes_string w src t el _ _ cap hjs hkd hd];simp[Conv.bytesToString,VN];rfl
   |cons y ys=>
    obtain⟨blk,off,es,rfl,_,_,_⟩:=hcells 0 y rfl;have:=run_convert_bytes_arg (P:=X.P) w src el hjs hkd blk off (y::ys).length cap (y::ys) rfl (λi hi=>?_) t hd
    .exact this
    .obtain⟨blk2,off2,es2,e2,_,hc,hr2⟩:=hcells i _ (kG hi);simp only[D6,iT]at e2;obtain⟨rfl,rfl,_⟩:=e2;obtain⟨c,T,f,hb,hn,rfl⟩:=lJ hc;have hr3:((c.toList.drop (off+i*1)).take 1)=[.int .u8 (y::ys)[i]]:=hr2;have h5:=congrArg (λl=>l[0]?) hr3;simp only[gB (show 0<1 by omega),J7,Z7,bH,aC,P7]at h5;simp only[World.cell?,hb,h5,kw];simp[List.getD,kG hi]
  simp only[execOp,ho];rw[D5,hh];rfl
theorem TG(H:FxOk X)(R:Rel X cl ch S m ok a w){n:Nat}(ho:o.op= .extract x n):
  (V5 X.E q o).post S (λ_ S' =>bV X cl ch o a w m ok S'):=by
 unfold V5;simp only[ho];refine P9 R λu hu=>?_;cases u<;>try trivial
 case tup vs=>
 obtain⟨arr,hx,hl⟩:=hu;have key:∀(vs:List V) (us:List Value) (n:Nat) (v:V),OV ⟨w.heap,ok,m⟩ vs us->vs[n]? =some v->∃u,us[n]? =some u/\fH ⟨w.heap,ok,m⟩ v u:=by
  intro vs;induction vs with
  |nil=>intro us n v _ h;simp at h|cons c cs ih=>
   rintro us n v ⟨u,r,rfl,h1,h2⟩ h;cases n with
   |zero=>simp at h;subst h;refine⟨u,rfl,?_⟩;cases c<;>first|exact h1|exact h1.elim
   |succ n=>simpa using ih r n v h2 (by simpa using h)
 simp only[];split
 .rename_i v hv;obtain⟨u,hu,hr⟩:=key vs arr.toList n v hl hv;refine U3 H R hr ?_;have:arr[n]? =some u:=by simpa using hu
  simp[execOp,ho,hx,Instr.extract,this]
 .trivial
theorem Yr(H:FxOk X)(R:Rel X cl ch S m ok a w){x ix:Operand}(ho:o.op= .index t x ix):
  (V5 X.E q o).post S (λ_ S' =>bV X cl ch o a w m ok S'):=by
 unfold V5;simp only[ho];refine P9 R λu hu=>P9 R λv hv=>fK H λi hi=>?_;have hd:=hi.td;split<;>try trivial
 rename_i l k n htd;rw[htd]at hd;refine aZ λc hc=>?_;unfold sat at hc;split at hc
 .rename_i h0;cases hl:l[n.toNat]? with
  |none=>simp[hl]at hc|some b=>
   simp[hl]at hc;subst hc;refine U3 H R (v:=.i .u8 b.toNat) (x:=.int .u8 b.toNat) rfl ?_;have e:(⟨l.toArray⟩:ByteArray)[n.toNat]? =some b:=by
    obtain⟨h1,h2⟩:=Z5.1 hl;have hs:n.toNat<(⟨l.toArray⟩:ByteArray).size:=by simpa[ByteArray.size]using h1
    show decidableGetElem? _ _=_;unfold decidableGetElem?;rw[dif_pos hs,←h2];rfl
   simp[execOp,ho,Ak hu,kE hv,Instr.index,asIntOf,run_underlying (show X.P.underlying t=some .string from hd),h0,e]
 .cases hc
theorem QH(H:FxOk X)(R:Rel X cl ch S m ok a w)(ho:o.op= .nilCheck x):
  (V5 X.E q o).post S (λ_ S' =>bV X cl ch o a w m ok S'):=by
 unfold V5;simp only[ho];refine P9 R λu hu=>?_;cases u<;>try trivial
 case ptr bx f=>obtain⟨b,h1,h2⟩:=hu;exact U3 H R (v:=.ptr bx f) ⟨b,h1,h2⟩ (by simp[execOp,ho,h2])
 case ep bx ix f=>obtain⟨_,_,_,_,_,h1,h2,h3⟩:=hu;exact U3 H R (v:=.ep bx ix f) ⟨_,_,_,_,_,h1,h2,h3⟩ (by simp[execOp,ho,h3])
 case dp u y f=>obtain⟨_,_,_,h1,h2⟩:=hu;exact U3 H R (v:=.dp u y f) ⟨_,_,_,h1,h2⟩ (by simp[execOp,ho,h1])
 case glob g=>exact U3 H R (v:=.glob g) hu (by have hu:a.eval x=_:=hu;simp[execOp,ho,hu])
end
end Go.GP
namespace Go.GP
variable {n:Nat}{off:Nat}{blk:Nat}{es:List Value}
theorem kT{w:World}(e:Z9 w.heap blk off n=some es){j:Nat}{v:Value}(h:es[j]? =some v):w.cell? ⟨blk,off+j,none⟩=some v:=by
 obtain⟨c,T,f,hb,hn,rfl⟩:=lJ e;rw[cell_of_row w blk (off+j) c T f hb];have hj:j<n:=by have:=(Z5.1 h).1;simp at this;omega
 rw[N7,if_pos hj,J7]at h;simpa using h
variable {t:TypeId}{P:Program}
theorem sV{d:TD}(h:I_ P t d)(w:World):(isAgg t).run P w= .ok (U8 d) w:=by
 unfold isAgg;cases d<;>simp only[I_]at h
 case struct fs=>obtain⟨fields,hu,_⟩:=h;rw[D5,run_underlying hu];rfl
 case other=>obtain⟨e,hu,hn⟩:=h;rw[D5,run_underlying hu];cases e<;>first|rfl|exact hn.elim
 all_goals (rw[D5,run_underlying h];rfl)
variable {i:TI}
theorem jb(h:TiOk P t i)(w:World):(sizeOf t).run P w= .ok i.size w:=by obtain⟨inf,h1,h2,_⟩:=h.info;simp[sizeOf,typeInfo,h1,h2]
def ER(ag:Bool)(es:List Value):Value:=match ag with|true=> .agg es.toArray|false=>es.headD Go.undef
theorem lZ(hi:TiOk P t i)(w:World)(e:Z9 w.heap blk off i.size=some es):
  (loadVar t ⟨blk,off,none⟩).run P w= .ok (ER (U8 i.td) es) w:=by
 have hl:=iQ e;unfold loadVar;rw[D5,sV hi.td];simp only[D9];cases ha:U8 i.td
 .have h1:=hi.one ha;rw[h1]at hl;obtain⟨v,rfl⟩:∃v,es=[v]:=by
   cases es with
   |nil=>simp at hl
   |cons v r=>cases r with
    |nil=>exact⟨v,rfl⟩|cons _ _=>simp at hl
  have hc:=kT e (j:=0) (v:=v) rfl;simp only[Z7]at hc;simp[hc,ER]
 .have hc:=run_loadCells_list (P:=P) w ⟨blk,off,none⟩ es (λj v h=>by rw[aW];exact kT e h);rw[hl]at hc;simp[jb hi,hc,ER]
variable {C:Cx}{cs:List V}
theorem qE{ag:Bool}(h:aY C cs es)(h1:ag=false->es.length=1):fH C (mkV ag cs) (ER ag es):=by
 refine EI (us:=es) ?_ h;cases ag
 .have:=h1 rfl;obtain⟨v,rfl⟩:∃v,es=[v]:=by
   cases es with
   |nil=>simp at this
   |cons v r=>cases r with
    |nil=>exact⟨v,rfl⟩|cons _ _=>simp at this
  rfl
 .exact⟨es.toArray,rfl,o7⟩
theorem JB:∀(n:Nat) (cs r:List V),JA n cs=some r->n<=cs.length/\r=cs.drop n
 |0,cs,r,h=>by simp[JA]at h;simp[h]|n+1,[],r,h=>by simp[JA]at h|n+1,c::cs,r,h=>by obtain⟨h1,h2⟩:=JB n cs r (by simpa[JA]using h);exact⟨by simp;omega,by simpa using h2⟩
theorem Ls{α:Type}{Q:α->Sm->Prop}{S:Sm} :∀(n:Nat) (cs:List V) {K:List V->Cmd α} (hK:n<=cs.length->(K (cs.take n)).post S Q),(RF n cs K .fail).post S Q
 |0,cs,K,hK=>by simpa[RF]using hK (di _)|n+1,[],K,hK=>trivial
 |n+1,c::cs,K,hK=>by unfold RF;exact Ls n cs λh=>by simpa using hK dZ
variable {α:Type}{Q:α->Sm->Prop}
theorem sW{S:Sm}{K:List V->Cmd α}(hK:off+n<=cs.length->(K ((cs.drop off).take n)).post S Q):(Md off n cs K .fail).post S Q:=by
 unfold Md;split
 .rename_i r hr;obtain⟨h1,rfl⟩:=JB _ _ _ hr;refine Ls n _ λh=>hK ?_;simp at h;omega
 .trivial
def U2(off:Nat)(vs cs:List α):List α:=cs.take off++vs++cs.drop (off+vs.length)
theorem sU{α:Type}{Q:α->Sm->Prop}{S:Sm} :∀(off:Nat) (vs cs:List V) {K:List V->Cmd α} (hK:off+vs.length<=cs.length->(K (U2 off vs cs)).post S Q),(FY off vs cs K .fail).post S Q
 |0,[],cs,K,hK=>by have:=hK o7;cases cs<;>simpa[FY,U2]using this|0,v::vs,[],K,hK=>by simp[FY];trivial
 |0,v::vs,c::cs,K,hK=>by unfold FY;exact sU 0 vs cs λh=>by simpa[U2]using hK (by simp at h ⊢;omega)|n+1,vs,[],K,hK=>by cases vs<;>simp[FY]<;>trivial|n+1,vs,c::cs,K,hK=>by
  have e:FY (n+1) vs (c::cs) K Cmd.fail=FY n vs cs (λr=>K (c::r)) Cmd.fail:=by cases vs<;>rfl
  rw[e];refine sU n vs cs λh=>?_;have:=hK dZ;have e2:n+1+vs.length=(n+vs.length)+1:=o5;simpa[U2,e2]using this
theorem vZ{vs cs:List V}{us xs:List Value}(hv:aY C vs us)(hc:aY C cs xs):aY C (U2 off vs cs) (U2 off us xs):=by unfold U2;rw[←gK hv];exact lW (lW (oJ off hc) hv) (mM _ hc)
theorem mO{P:Program}(g o:Nat)(t:TypeId):∀(vs:List Value) (i:Nat) (cur:Array Value) (f:Nat×Nat) (w:World),w.heap[g]? =some (.cells cur t f)->(f=(0,0)\/f=(cur.size,cur.size+1))->o+i+vs.length<=cur.size->(∀v∈vs,v.oneCell' =true)->
  (storeCells ⟨g,o,none⟩ vs i).run P w= .ok () (w.setRow g (cur.toList.take (o+i)++vs++cur.toList.drop (o+i+vs.length)).toArray)
 |[],i,cur,f,w,hg,_,_,_=>by simp only[storeCells,F7,dR,Z7,bY,Array.toArray_toList];rw[setRow_self w g cur t f hg];rfl|v::rest,i,cur,f,w,hg,hf,hl,h1=>by
  have hi:o+i<cur.size:=by simp at hl;omega
  have hadd:(⟨g,o,none⟩:Addr).add i=⟨g,o+i,none⟩:=by unfold Addr.add;split<;>simp_all
  have hcell:w.cell? ⟨g,o+i,none⟩=some cur[o+i]:=by simp[World.cell?,hg,hi]
  have hfro:w.frozen? ⟨g,o+i,none⟩=false:=by rcases hf with rfl|rfl<;>simp[World.frozen?,hg];omega
  have hst:(store ((⟨g,o,none⟩:Addr).add i) v).run P w= .ok () (w.setRow g (cur.setIfInBounds (o+i) v)):=by rw[hadd,run_store P w _ v _ (h1 v o7),hcell];simp[hfro,setCell_eq_setRow w g (o+i) cur t f v hg]
  have ih:=mO (P:=P) g o t rest (i+1) (cur.setIfInBounds (o+i) v) f (w.setRow g (cur.setIfInBounds (o+i) v)) (setRow_heap w g cur _ t _ hg) (by simpa using hf) (by simp at hl ⊢;omega) (λx hx=>h1 x (by simp[hx]));simp only[storeCells,D5,hst,D9,ih,setRow_setRow];congr 3;have e:=list_seg_step cur.toList (o+i) v rest (by simp at hl ⊢;omega);simpa[fC,fP]using e
theorem sK(hi:TiOk P t i)(w:World){c:Array Value}{T:TypeId}{f:Nat×Nat}(hb:w.heap[blk]? =some (.cells c T f))(hf:f=(0,0)\/f=(c.size,c.size+1)){v:Value}
  (hs:v.cells.size=i.size) (ho:off+i.size<=c.size) (h1:∀u∈v.cells.toList,u.oneCell' =true):
  (storeVar t ⟨blk,off,none⟩ v).run P w= .ok () (w.setRow blk (U2 off v.cells.toList c.toList).toArray):=by
 have h:=mO (P:=P) blk off T v.cells.toList 0 c f w hb hf dZ h1;simp only[Z7]at h;unfold storeVar;simp[jb hi,hs,h,U2]
variable {v:V}{l:Loc}{obj:Obj}{q:Nat}{ks:List Nat}
section
variable {X:Fx} {cl ch:Nat} {S:Sm} {m:Mp} {ok:Nat->Ty->Prop} {a:Act} {w:World} {o:Oper}
theorem Rel.own_cells(R:Rel X cl ch S m ok a w)(h:S (S9+n)= .bcells cs):∃blk arr T,m n=some (.st blk)/\w.heap[blk]? =some (.cells arr T (0,0))/\aY ⟨w.heap,ok,m⟩ cs arr.toList:=by have:=R.box n;rw[h]at this;exact this
theorem Rel.own_arr(R:Rel X cl ch S m ok a w){t:Ty}{xs:List t.den}(h:S (S9+n)= .barr t xs):∃l,m n=some l/\arrOk ⟨w.heap,ok,m⟩ t xs l:=by have:=R.box n;rw[h]at this;exact this
theorem Rel.own_frz(R:Rel X cl ch S m ok a w){t:Ty}{xs:List t.den}(h:S (S9+n)= .bfrz t xs):∃l,m n=some l/\arrOk ⟨w.heap,ok,m⟩ t xs l/\(∀blk,blk∈l.blks->ok blk t):=by have:=R.box n;rw[h]at this;exact this
theorem Rel.own_barrs(R:Rel X cl ch S m ok a w){md:M}{xs:List md.den}{hole:Option (Nat×Nat×Option Nat)}(h:S (S9+n)= .barrs md xs hole):md.el=true/\∃l Os,m n=some l/\UB ⟨w.heap,ok,m⟩ md xs hole Os l/\m.kid n=Os.flatten:=by have:=R.box n;rw[h]at this;exact this
theorem Rel.own_fc(R:Rel X cl ch S m ok a w){t:Ty}{x:t.den}(h:S (S9+n)= .bfc t x):∃blk es,m n=some (.st blk)/\ok blk t/\Z9 w.heap blk 0 t.size=some es/\eG w.heap ok t x es:=by have:=R.box n;rw[h]at this;exact this
theorem pg:∀(m:M) (x:m.den) (r:List V),yO m x r=yO m x []++r
 | .dat t,x,r=>fB t x r| .pair a b,x,r=>by simp only[yO];rw[pg a x.1 (yO b x.2 r),pg b x.2 r,pg a x.1 (yO b x.2 [])];simp| .unit,_,_=>rfl| .own _,_,_=>rfl| .owns _,_,_=>rfl| .box _,_,_=>rfl| .ownb _,_,_=>rfl| .rp _,_,_=>rfl| .fn _ _,_,_=>rfl| .ifc _ _,_,_=>rfl| .cell _,_,_=>rfl| .fr _,_,_=>rfl
theorem xX:∀(m:M) (x:m.den),(yO m x []).length=m.size
 | .dat t,x=>iJ t x| .pair a b,x=>by simp only[yO,M.size];rw[pg a,J8,xX a x.1,xX b x.2]| .unit,_=>rfl| .own _,_=>rfl| .owns _,_=>rfl| .box _,_=>rfl| .ownb _,_=>rfl| .rp _,_=>rfl| .fn _ _,_=>rfl| .ifc _ _,_=>rfl| .cell _,_=>rfl| .fr _,_=>rfl
theorem kQ{cs:List Value}(h:cs.length=1)(h1:∀v∈cs,v.oneCell' =true):aY C [.undef] cs:=by
 match cs,h with
 |[v],_=>exact⟨v,[],rfl,trivial,h1 v o7,rfl⟩
theorem Dx{C:Cx} :∀{m:M} {ho:Option Nat} {x:m.den} {cs:List Value} {O:List Nat},iH C.h C.ok m ho x cs O->aY C (yO m x []) cs
 | .dat t,_,_,_,_,h=>jw h.1| .pair a b,_,x,_,_,h=>by obtain⟨c,d,O1,O2,rfl,rfl,h1,h2⟩:=h;simp only[yO];rw[pg a];exact lW (Dx h1) (Dx h2)
 | .unit,_,_,_,_,h=>by obtain⟨rfl,_⟩:=h;rfl
 | .own _,_,_,_,_,h=>kQ (au h) (kX h)| .owns _,_,_,_,_,h=>kQ (au h) (kX h)| .box _,_,_,_,_,h=>kQ (au h) (kX h)| .ownb _,_,_,_,_,h=>kQ (au h) (kX h)| .rp _,_,_,_,_,h=>kQ (au h) (kX h)| .fn _ _,_,_,_,_,h=>kQ (au h) (kX h)| .ifc _ _,_,_,_,_,h=>kQ (au h) (kX h)| .cell _,_,_,_,_,h=>kQ (au h) (kX h)| .fr _,_,_,_,_,h=>kQ (au h) (kX h)
theorem az{S:Sm}{k:Nat}{c:V->Cmd α}(h:(c (S k)).post S Q):(Cmd.get k c).post S Q:=h
theorem dW{S:Sm}{k:Nat}{c:Cmd α}(h:c.post (upd S k v) Q):(Cmd.set k v c).post S Q:=h
theorem yu(H:FxOk X)(R:Rel X cl ch S m ok a w){t:Nat}{p:V}{x:Value}(hp:fH ⟨w.heap,ok,m⟩ p x){K:V->Cmd α}
  (hK:∀v u ad,fH ⟨w.heap,ok,m⟩ v u->x= .pointer (some ad)->(loadVar t ad).run X.P w= .ok u w->(K v).post S Q):(Cc X.E t p K).post S Q:=by
 unfold Cc;refine fK H λi hi=>?_;cases p<;>try trivial
 case ptr bx off=>
  obtain⟨blk,hm,rfl⟩:=hp;refine az ?_;split<;>try trivial
  .rename_i cs hS;obtain⟨blk',arr,T,hm',hh,hl⟩:=R.own_cells hS;simp only at hm;rw[hm]at hm';cases hm';refine sW λhle=>?_;have hlen:=gK hl;have e:=fM hh off i.size (by simp at hlen;omega);refine hK _ _ _ (qE (oJ _ (mM _ hl)) (λha=>by have:=iQ e;rw[hi.one ha]at this;rw[hi.one ha];exact this)) rfl ?_;exact lZ hi w e
  .rename_i u y hS;obtain⟨blk',es,hm',hok,he,hr⟩:=R.own_fc hS;simp only at hm;rw[hm]at hm';cases hm';refine sW λhle=>?_;rw[iJ]at hle;have e:=qN he off i.size hle;rw[dB]at e;refine hK _ _ _ (qE (oJ _ (mM _ (jw (C:=⟨w.heap,ok,m⟩) hr))) (λha=>by have:=iQ e;rw[hi.one ha]at this;rw[hi.one ha];exact this)) rfl ?_;exact lZ hi w e
 case ep bx ix off=>
  obtain⟨blk,o',len,cap,sz,hm,hlt,rfl⟩:=hp;refine az ?_;have key:∀{u:Ty} {xs:List u.den},arrOk ⟨w.heap,ok,m⟩ u xs (.arr blk o' len cap sz)->(Cmd.opt (Y6 xs ix) λx=>Md off i.size (flat u x []) (λr=>K (mkV (U8 i.td) r)) Cmd.fail).post S Q:=by intro u xs ha;obtain⟨_,rfl,rfl,h3,c,T,f,hh,hz,hs,hx⟩:=ha;refine aZ λy hy=>?_;obtain⟨es,he,hr⟩:=hx ix y hy;refine sW λhle=>?_;rw[iJ]at hle;have e:=qN he off i.size hle;refine hK _ _ _ (qE (oJ _ (mM _ (jw (C:=⟨w.heap,ok,m⟩) hr))) (λha=>by have:=iQ e;rw[hi.one ha]at this;rw[hi.one ha];exact this)) rfl ?_;exact lZ hi w e
  split<;>try trivial
  .rename_i u xs hS;obtain⟨l,hm',ha⟩:=R.own_arr hS;simp only at hm;rw[hm]at hm';cases hm';exact key ha
  .rename_i u xs hS;obtain⟨l,hm',ha,_⟩:=R.own_frz hS;simp only at hm;rw[hm]at hm';cases hm';exact key ha
  .rename_i md xs hole hS;obtain⟨_,l,Os,hm',⟨ha,hho⟩,_⟩:=R.own_barrs hS;simp only at hm;rw[hm]at hm';cases hm';obtain⟨rfl,rfl,h3,h7,c,T,hh,hs,hx⟩:=ha;refine aZ λy hy=>?_;obtain⟨es,O,hO,he,hr⟩:=hx ix y hy;refine sW λhle=>?_;rw[xX]at hle;have e:=qN he off i.size hle;refine hK _ _ _ (qE (oJ _ (mM _ (Dx (C:=⟨w.heap,ok,m⟩) hr))) (λha=>by have:=iQ e;rw[hi.one ha]at this;rw[hi.one ha];exact this)) rfl ?_;exact lZ hi w e
 case dp u y off=>obtain⟨blk,o',es,rfl,hb,he,hr⟩:=hp;refine sW λhle=>?_;rw[iJ]at hle;have e:=qN he off i.size hle;refine hK _ _ _ (qE (oJ _ (mM _ (jw (C:=⟨w.heap,ok,m⟩) hr))) (λha=>by have:=iQ e;rw[hi.one ha]at this;rw[hi.one ha];exact this)) rfl ?_;exact lZ hi w e
theorem nz(h:Array Obj)(o:Obj){b:Nat}(hb:b<h.size):(h.push o)[b]? =h[b]?:=by rw[Array.getElem?_push,if_neg o5]
theorem Rel.new(R:Rel X cl ch S m ok a w)(hn:S (S9+n)= .undef)(hcl:cl<=n)(hch:n<ch)(hv:v≠.undef)
  (hb:L8 (gq m n l ks) n v=[w.heap.size]) (hB:uM ⟨(w.alloc obj).heap,ok,gq m n l ks⟩ n v):
  Rel X cl ch (upd S (S9+n) v) (gq m n l ks) ok a (w.alloc obj):=by
 refine R.lay hn hcl hch hv rfl rfl rfl o7 (λb hb' _=>nz _ _ hb') (by rw[hb];simp) (λb h=>?_) hB;rw[hb]at h;simp only[E5]at h;subst h;refine⟨λt h' =>iW _ (R.okLt _ t h'),o7,.inl R.frame.size,λk h' =>iW _ (R.sep k _ h').2.1⟩
theorem Rel.newK(R:Rel X cl ch S m ok a w){T:List Nat}(hT:Tk X S m ok w T)(hn:S (S9+n)= .undef)(hcl:cl<=n)(hch:n<ch)(hv:v≠.undef)
  (hb:L8 (gq m n l ks) n v=w.heap.size::ks) (hnd:ks.Nodup) (hks:∀b∈ks,b∈T) (hB:uM ⟨(w.alloc obj).heap,ok,gq m n l ks⟩ n v):
  Rel X cl ch (upd S (S9+n) v) (gq m n l ks) ok a (w.alloc obj):=by
 refine R.lay hn hcl hch hv rfl rfl rfl o7 (λb hb' _=>nz _ _ hb') (by rw[hb];exact aH.2 ⟨λh=>iW _ (hT.free _ (hks _ h)).2.1,hnd⟩) (λb h=>?_) hB;rw[hb]at h;rcases o9.1 h with rfl|h
 .exact⟨λt h' =>iW _ (R.okLt _ t h'),o7,.inl R.frame.size,λk h' =>iW _ (R.sep k _ h').2.1⟩
 .obtain⟨h1,h2,h3,h4⟩:=hT.free b (hks b h);exact⟨h1,by simp;omega,h3,h4⟩
theorem Rel.le_new(R:Rel X cl ch S m ok a w)(hn:S (S9+n)= .undef)(hcl:cl<=n):Cx.le ⟨w.heap,ok,m⟩ ⟨(w.alloc obj).heap,ok,gq m n l ks⟩:=
 ⟨λ_ _ h=>h,λb t hb=>nz _ _ (R.okLt b t hb),λk x h=>by
  by_cases e:k=n
  .subst e;have:=R.fresh k hcl hn;simp only at h;rw[this]at h;cases h
  .show gq m n l ks k=some x;rw[dA _ _ _ e];exact h⟩
theorem jE(H:FxOk X)(d:Option Tmp)(hd:∀t,d=some t->t<X.E.nt):CB*q<=H5 q d/\H5 q d+64<=CB*q+CB:=by
 have:=H.nt;cases d with
 |none=>simp only[H5];show 1000000*q<=1000000*q+999936/\1000000*q+999936+64<=1000000*q+1000000;omega|some t=>simp only[H5];have h2:LT.lt (α:=Nat) t X.E.nt:=hd t rfl;clear hd;generalize X.E.nt=n at*;revert this h2;generalize (t:Nat)=t';intro this h2;show 1000000*q<=1000000*q+64*t' /\1000000*q+64*t' +64<=1000000*q+1000000;omega
theorem FU(H:FxOk X)(R:Rel X (CB*q) (CB*q+CB) S m ok a w){vv:V}{x:Value}(hv:v≠.undef)
  (hb:L8 (gq m (H5 q o.dst) l []) (H5 q o.dst) v=[w.heap.size]) (hB:S (S9+H5 q o.dst)= .undef->CB*q<=H5 q o.dst->uM ⟨(w.alloc obj).heap,ok,gq m (H5 q o.dst) l []⟩ (H5 q o.dst) v)
  (hx:fH ⟨(w.alloc obj).heap,ok,gq m (H5 q o.dst) l []⟩ vv x) (run:(execOp a.eval o).run X.P w= .ok (.value x) (w.alloc obj)):
  (mY (H5 q o.dst) v (ax X.E o.dst vv)).post S (λ_ S' =>bV X (CB*q) (CB*q+CB) o a w m ok S'):=by
 refine mJ λhn=>?_;cases hd:o.dst with
 |none=>have hin:=jE H (q:=q) none (λt h=>by cases h);rw[hd]at hn hB hb hx;have R' :=R.new hn hin.1 o5 hv hb (hB hn hin.1);have:=kM (o:=o) H R' (m0:=m) (ok0:=ok) (λk l' h=>(R.le_new (obj:=obj) hn hin.1).m k l' h) (λ_ _ h=>h) hx run;rw[hd]at this;exact this
 |some t=>unfold ax;refine aG λhb' =>?_;have hin:=jE H (q:=q) (some t) (λt' h=>by cases h;exact(qB hb').1);rw[hd]at hn hB hb hx;have R' :=R.new hn hin.1 o5 hv hb (hB hn hin.1);have:=kM (o:=o) H R' (m0:=m) (ok0:=ok) (λk l' h=>(R.le_new (obj:=obj) hn hin.1).m k l' h) (λ_ _ h=>h) hx run;rw[hd]at this;unfold ax at this;simp only[hb',cond_true]at this;exact this
theorem KR :∀{cs:List V} {vs:List Value},aY ⟨#[],λ_ _=>False,nom⟩ cs vs->aY C cs vs:=by intro cs vs h;exact vY (C:=⟨#[],λ_ _=>False,nom⟩) ⟨λ_ _ h=>h.elim,λ_ _ h=>h.elim,λ_ _ h=>by cases h⟩ h
theorem Ym(H:FxOk X)(R:Rel X (CB*q) (CB*q+CB) S m ok a w)(ho:o.op= .alloc t):(V5 X.E q o).post S (λ_ S' =>bV X (CB*q) (CB*q+CB) o a w m ok S'):=by
 unfold V5;simp only[ho];refine fK H λi hi=>aG λhz=>?_;obtain⟨inf,h1,h2,h3,h4,h5⟩:=hi.info;obtain⟨z,hz1,hz2⟩:=h4 (bT hz);refine FU (l:=.st w.heap.size) (obj:=.cells z.cells t) H R o7 (by simp[L8]) (λhn hc=>?_) ⟨w.heap.size,o7,rfl⟩ ?_
 .exact⟨w.heap.size,z.cells,t,o7,heap_alloc_new w _,KR hz2⟩
 .simp[execOp,ho,Instr.alloc,zeroValue,typeInfo,h1,hz1,newVar,newRow]
theorem a2f(H:FxOk X)(R:Rel X (CB*q) (CB*q+CB) S m ok a w){x:Operand}(ho:o.op= .box t x):(V5 X.E q o).post S (λ_ S' =>bV X (CB*q) (CB*q+CB) o a w m ok S'):=by
 unfold V5;simp only[ho];refine P9 R λu hu=>lK hu λcs hcs=>?_;refine FU (l:=.st w.heap.size) (obj:=.cells (a.eval x).cells t) H R o7 (by simp[L8]) (λhn hc=>?_) ⟨w.heap.size,o7,rfl⟩ ?_
 .exact⟨w.heap.size,(a.eval x).cells,t,o7,heap_alloc_new w _,vY (R.le_new hn hc) hcs⟩
 .simp[execOp,ho,Instr.box,newVar,newRow]
end
end Go.GP
namespace Go.GP
variable {α:Type}{us:List α}{L:List α}{p:Nat}
theorem jL(h:p+us.length<=L.length)(i:Nat):
  (U2 p us L)[i]? =if i<p then L[i]? else if i<p+us.length then us[i -p]? else L[i]?:=by
 unfold U2;rw[O8];by_cases h1:i<p
 .rw[if_pos h1,G9 dZ,N7,if_pos h1]
 .rw[if_neg h1,H6 dZ];have e:(L.take p).length=p:=by simp;omega
  rw[e];by_cases h2:i<p+us.length
  .rw[if_pos h2,G9 o5]
  .rw[if_neg h2,H6 o5,J7];congr 1;omega
theorem kZ(h:p+us.length<=L.length):(U2 p us L).length=L.length:=by unfold U2;simp;omega
variable {b:Nat}{n:Nat}
theorem Uk(h:p+us.length<=L.length)(hd:b+n<=p\/p+us.length<=b):((U2 p us L).drop b).take n=(L.drop b).take n:=by
 apply bu;intro i;rw[N7,N7];split
 .rw[J7,J7,jL h];rcases hd with hd|hd
  .rw[if_pos o5]
  .rw[if_neg o5,if_neg o5]
 .rfl
variable {off:Nat}
theorem BF(h:b+n<=L.length)(ho:off+us.length<=n):((U2 (b+off) us L).drop b).take n=U2 off us ((L.drop b).take n):=by
 have hl:((L.drop b).take n).length=n:=by simp;omega
 apply bu;intro i;rw[N7,jL (by rw[hl];exact ho)];by_cases hi:i<n
 .rw[if_pos hi,J7,jL o5,N7,if_pos hi,J7];by_cases h1:i<off
  .rw[if_pos o5,if_pos h1]
  .rw[if_neg o5,if_neg h1];by_cases h2:i<off+us.length
   .rw[if_pos o5,if_pos h2];congr 1;omega
   .rw[if_neg o5,if_neg h2]
 .rw[if_neg hi,if_neg o5,if_neg o5,N7,if_neg hi]
variable {blk:Nat}
theorem AB{w:World}{c:Array Value}{T:TypeId}{f:Nat×Nat}(hb:w.heap[blk]? =some (.cells c T f))(L:List Value)(off n:Nat)(h:off+n<=L.length):
  Z9 (w.setRow blk L.toArray).heap blk off n=some ((L.drop off).take n):=by
 rw[fM (setRow_heap w blk c L.toArray T f hb) off n (by simpa using h)]
theorem Xl{a b:Nat}(h:a<b):Nat.blt a b=true:=by unfold Nat.blt;exact Nat.ble_eq_true_of_le h
theorem Xk{a b:Nat}(h:¬a<b):Nat.blt a b=false:=by
 cases e:Nat.blt a b
 .rfl
 .exact absurd (CU e) h
theorem rZ{α:Type} :∀{Os:List (List α)} {i:Nat} {O1 P O2:List α},Os[i]? =some (O1++P++O2)->Os.flatten.Perm ((Os.set i (O1++O2)).flatten++P)
 |[],i,_,_,_,h=>by simp at h|A::Os,0,O1,P,O2,h=>by simp at h;subst h;simp only[xn,List.flatten_cons,O8];refine List.Perm.append_left O1 ?_;have:=(iV (l₁:=P) (l₂:=O2++Os.flatten));simpa using this|A::Os,i+1,O1,P,O2,h=>by simp at h;simp only[List.set_cons_succ,List.flatten_cons,O8];exact List.Perm.append_left A (rZ (by simpa using h))
variable {t:TypeId}{Op:List Nat}{k:Option Nat}{q:Nat}{x:Operand}
section
variable {X:Fx} {cl ch:Nat} {S:Sm} {m:Mp} {ok:Nat->Ty->Prop} {a:Act} {w:World} {o:Oper}
theorem a2j{h h' :Array Obj}{ok:Nat->Ty->Prop}{m:Mp}(k:∀b t,ok b t->h'[b]? =h[b]?){cs:List V}{vs:List Value}(hr:aY ⟨h,ok,m⟩ cs vs):aY ⟨h',ok,m⟩ cs vs:=
 vY (C:=⟨h,ok,m⟩) (D:=⟨h',ok,m⟩) ⟨λ_ _ h=>h,k,λ_ _ h=>h⟩ hr
theorem Dv{α:Type}{Q:α->Sm->Prop}{S:Sm}{h:Array Obj}{ok:Nat->Ty->Prop} :∀(md:M) (off:Nat) {x:md.den} {es:List Value} {O:List Nat} {K:V->Cmd α} (hr:iH h ok md none x es O)
  (hK:∀v l ks u O1 Op O2,O=O1++Op++O2->iH h ok md (some off) x es (O1++O2)->es[off]? =some u->l.view none u->
   (∀mp n,uM ⟨h,ok,gq mp n l ks⟩ n v/\L8 (gq mp n l ks) n v=Op/\gq mp n l ks n=some l)->v≠.undef->(K v).post S Q),
  (KH md off x K .fail).post S Q
 | .own t,off,x,es,O,K,hr,hK=>by unfold KH;refine aG λhb=>?_;have:=bT hb;subst this;obtain⟨l,v,rfl,hv,ha,rfl⟩:=nI.1 hr;refine hK _ l [] v [] l.blks [] o7 ⟨v,rfl,iG hv,rfl⟩ rfl hv (λmp n=>⟨⟨l,o7,zt ha⟩,?_,o7⟩) o7;cases l<;>first|(simp[L8,Loc.blks];done)|cases ha
 | .owns md,off,x,es,O,K,hr,hK=>by unfold KH;refine aG λhb=>?_;have:=bT hb;subst this;obtain⟨he,l,v,Os,rfl,hv,ha,rfl⟩:=oK.1 hr;refine hK _ l Os.flatten v [] (l.blks++Os.flatten) [] o7 ⟨v,rfl,iG hv,rfl⟩ rfl hv (λmp n=>⟨⟨he,l,Os,o7,⟨ha,trivial⟩,o7⟩,?_,o7⟩) o7;cases l<;>first|(simp[L8,Loc.blks];done)|cases ha
 | .pair p q,off,x,es,O,K,hr,hK=>by
  unfold KH;obtain⟨c,d,O1,O2,rfl,rfl,h1,h2⟩:=hr;have hc:=au h1;by_cases hlt:off<p.size
  .have hb:Nat.blt off p.size=true:=Xl hlt;simp only[hb,cond_true];refine Dv p off h1 λv l ks u A Op B e1 e2 e3 e4 e5 e6=>?_;refine hK v l ks u A Op (B++O2) (by subst e1;simp) ⟨c,d,A++B,O2,rfl,o7,?_,?_⟩ (by rw[G9 (by rw[hc];exact hlt)];exact e3) e4 e5 e6
   .simp only[hlt,if_true];exact e2
   .simp only[hlt,if_true];exact h2
  .have hb:Nat.blt off p.size=false:=Xk hlt;simp only[hb,cond_false];refine Dv q (off -p.size) h2 λv l ks u A Op B e1 e2 e3 e4 e5 e6=>?_;refine hK v l ks u (O1++A) Op B (by subst e1;simp) ⟨c,d,O1,A++B,rfl,o7,?_,?_⟩ (by rw[H6 o5,hc];exact e3) e4 e5 e6
   .simp only[hlt,if_false];exact h1
   .simp only[hlt,if_false];exact e2
 | .dat _,_,_,_,_,_,_,_=>trivial| .unit,_,_,_,_,_,_,_=>trivial| .box _,_,_,_,_,_,_,_=>trivial| .ownb _,_,_,_,_,_,_,_=>trivial| .cell _,_,_,_,_,_,_,_=>trivial| .fr _,_,_,_,_,_,_,_=>trivial| .rp _,_,_,_,_,_,_,_=>trivial| .fn _ _,_,_,_,_,_,_,_=>trivial| .ifc _ _,_,_,_,_,_,_,_=>trivial
def NY(h:Array Obj)(ok:Nat->Ty->Prop)(v:V)(u:Value)(Op:List Nat):Prop:=
 (v= .nl/\u= .slice none 0 0/\Op=[])\/(∃t ys l,v= .barr t ys/\l.view none u/\arrOk ⟨h,ok,nom⟩ t ys l/\Op=l.blks)\/
 (∃md ys l Os,v= .barrs md ys none/\md.el=true/\l.view none u/\qX h md.size (λ_ x es O=>iH h ok md none x es O) ys Os l/\Op=l.blks++Os.flatten)
theorem NY.one{h:Array Obj}{v:V}{u:Value}(k:NY h ok v u Op):u.oneCell' =true:=by
 rcases k with⟨_,rfl,_⟩|⟨_,_,l,_,hv,_⟩|⟨_,_,l,_,_,_,hv,_⟩
 .rfl
 .exact iG hv
 .exact iG hv
theorem FN{α:Type}{Q:α->Sm->Prop}{S:Sm}{h:Array Obj}{ok:Nat->Ty->Prop}{v:V}{u:Value}{Op:List Nat}(hp:NY h ok v u Op):∀(md:M) (off:Nat) {ho:Option Nat} {x:md.den} {es:List Value} {O:List Nat} {K:md.den->Cmd α}
  (hr:iH h ok md ho x es O) (hh:ho=none\/ho=some off) (hel:md.el=true)
  (hK:∀y O1 Old O2,O=O1++Old++O2->iH h ok md none y (es.set off u) (O1++Op++O2)->off<es.length->(K y).post S Q),
  (Tf md off v x K .fail).post S Q
 | .own t,off,ho,x,es,O,K,hr,hh,hel,hK=>by
  unfold Tf;refine aG λhb=>?_;have:=bT hb;subst this;obtain⟨v0,rfl,_,_⟩:=hr;rcases hp with⟨rfl,rfl,rfl⟩|⟨t',ys,l,rfl,hv,ha,rfl⟩|⟨md',ys,l,Os,rfl,_,hv,ha,rfl⟩
  .have ht:t.isEnt=false:=by simpa[M.el]using hel
   simp only[ht,cond_false];exact hK [] [] O [] o7 ⟨_,rfl,rfl,.nil,rfl,⟨rfl,ht⟩,rfl⟩ o7
  .simp only;refine aA λe=>?_;subst e;exact hK _ [] O [] o7 ⟨u,rfl,iG hv,l,hv,ha,o7⟩ o7
  .trivial
 | .owns md,off,ho,x,es,O,K,hr,hh,hel,hK=>by
  unfold Tf;refine aG λhb=>?_;have:=bT hb;subst this;obtain⟨v0,rfl,_,_⟩:=hr;rcases hp with⟨rfl,rfl,rfl⟩|⟨t',ys,l,rfl,hv,ha,rfl⟩|⟨md',ys,l,Os,rfl,he,hv,ha,rfl⟩
  .exact hK [] [] O [] o7 ⟨_,rfl,rfl,by simpa[M.el]using hel,.nil,[],rfl,⟨rfl,rfl⟩,rfl⟩ o7
  .trivial
  .simp only;refine Jp λe=>?_;subst e;exact hK _ [] O [] o7 ⟨u,rfl,iG hv,he,l,Os,hv,ha,o7⟩ o7
 | .pair p q,off,ho,x,es,O,K,hr,hh,hel,hK=>by
  unfold Tf;obtain⟨c,d,O1,O2,rfl,rfl,h1,h2⟩:=hr;have hc:=au h1;have hel' :p.el=true/\q.el=true:=by simpa[M.el]using hel
  by_cases hlt:off<p.size
  .have hb:Nat.blt off p.size=true:=Xl hlt;simp only[hb,cond_true];have h2' :iH h ok q none x.2 d O2:=by
    rcases hh with rfl|rfl
    .exact h2
    .simpa only[hlt,if_true]using h2
   refine FN hp p off h1 (by rcases hh with rfl|rfl<;>first|exact .inl rfl|(right;simp only[hlt,if_true])) hel'.1 λy A Old B e1 e2 e3=>?_;refine hK _ A Old (B++O2) (by subst e1;simp) ⟨c.set off u,d,A++Op++B,O2,?_,o7,e2,h2'⟩ dZ;rw[List.set_append_left _ _ o5]
  .have hb:Nat.blt off p.size=false:=Xk hlt;simp only[hb,cond_false];have h1' :iH h ok p none x.1 c O1:=by
    rcases hh with rfl|rfl
    .exact h1
    .simpa only[hlt,if_false]using h1
   refine FN hp q (off -p.size) h2 (by rcases hh with rfl|rfl<;>first|exact .inl rfl|(right;simp only[hlt,if_false])) hel'.2 λy A Old B e1 e2 e3=>?_;refine hK _ (O1++A) Old B (by subst e1;simp) ⟨c,d.set (off -p.size) u,O1,A++Op++B,?_,o7,h1',e2⟩ dZ;rw[uu _ _ o5,hc]
 | .dat _,_,_,_,_,_,_,_,_,_,_=>trivial| .unit,_,_,_,_,_,_,_,_,_,_=>trivial| .box _,_,_,_,_,_,_,_,_,_,_=>trivial| .ownb _,_,_,_,_,_,_,_,_,_,_=>trivial| .cell _,_,_,_,_,_,_,_,_,_,_=>trivial| .fr _,_,_,_,_,_,_,_,_,_,_=>trivial| .rp _,_,_,_,_,_,_,_,_,_,_=>trivial| .fn _ _,_,_,_,_,_,_,_,_,_,_=>trivial| .ifc _ _,_,_,_,_,_,_,_,_,_,_=>trivial
theorem wE{α:Type}{Q:α->Sm->Prop}{C:Cx}{ln:Ty->Bool} :∀(t:Ty) {cs:List V} {K:t.den->List V->Cmd α} {S:Sm} {vs:List Value} (hf:t.flat=true) (hL:aY C cs vs)
  (hK:∀x r us us',vs=us++us' ->(∀h ok,eG h ok t x us)->aY C r us' ->(K x r).post S Q),(iw ln t cs K).post S Q
 | .bool,cs,K,S,vs,hf,hL,hK=>by
  unfold iw;split
  .obtain⟨v,r,rfl,h1,_,h3⟩:=hL;exact hK _ _ [v] r rfl (λ_ _=>by simp only[mZ]at h1;simp[eG,h1]) h3
  .trivial
 | .int k,cs,K,S,vs,hf,hL,hK=>by
  unfold iw;split
  .obtain⟨v,r,rfl,h1,_,h3⟩:=hL;refine aP λe=>?_;have e:=of_decide_eq_true e;subst e;exact hK _ _ [v] r rfl (λ_ _=>by simp only[mZ]at h1;simp[eG,h1]) h3
  .trivial
 | .str,cs,K,S,vs,hf,hL,hK=>by
  unfold iw;split
  .obtain⟨v,r,rfl,h1,_,h3⟩:=hL;exact hK _ _ [v] r rfl (λ_ _=>by simp only[mZ]at h1;simp[eG,h1]) h3
  .trivial
 | .unit,cs,K,S,vs,hf,hL,hK=>by unfold iw;exact hK _ _ [] vs rfl (λ_ _=>rfl) hL
 | .prod p q,cs,K,S,vs,hf,hL,hK=>by unfold iw;simp[Ty.flat]at hf;refine wE p hf.1 hL λx r us us' e1 h1 l1=>?_;refine wE q hf.2 l1 λy r' vs2 vs2' e2 h2 l2=>?_;subst e1;subst e2;exact hK _ _ (us++vs2) vs2' o7 (λh ok=>⟨us,vs2,rfl,h1 h ok,h2 h ok⟩) l2| .sl t,cs,K,S,vs,hf,hL,hK=>by simp[Ty.flat]at hf
theorem Rw{us c d:List α}(h:off+us.length<=c.length):U2 off us (c++d)=U2 off us c++d:=by
 apply bu;intro i;have hs:=kZ h;rw[jL dZ];by_cases hi:i<c.length
 .rw[G9 hi,G9 (l₁:=U2 off us c) (by rw[hs];exact hi),jL h]
 .rw[H6 o5,H6 (l₁:=U2 off us c) (by rw[hs];omega),hs,if_neg o5,if_neg o5]
theorem Po{us c d:List α}(h:(off -c.length)+us.length<=d.length)(h' :c.length<=off):U2 off us (c++d)=c++U2 (off -c.length) us d:=by
 apply bu;intro i;rw[jL dZ];by_cases hi:i<c.length
 .rw[G9 hi,if_pos o5,G9 hi]
 .rw[H6 o5,H6 (l₂:=U2 (off -c.length) us d) o5,jL h];by_cases h1:i<off
  .simp only[h1,if_true,show i -c.length<off -c.length by omega]
  .by_cases h2:i<off+us.length
   .simp only[h1,if_false,h2,if_true,show ¬(i -c.length<off -c.length) by omega,show i -c.length<off -c.length+us.length by omega];congr 1;omega
   .simp only[h1,if_false,h2,show ¬(i -c.length<off -c.length) by omega,show ¬(i -c.length<off -c.length+us.length) by omega]
theorem Fv{α:Type}{Q:α->Sm->Prop}{h:Array Obj}{ok:Nat->Ty->Prop}{m:Mp} :∀(md:M) (off:Nat) {ho:Option Nat} {x:md.den} {es us:List Value} {vs:List V} {O:List Nat} {K:md.den->Cmd α} {S:Sm}
  (hr:iH h ok md ho x es O) (hv:aY ⟨h,ok,m⟩ vs us)
  (hK:∀y,off+us.length<=es.length->iH h ok md ho y (U2 off us es) O->(K y).post S Q),(VS md off vs x K).post S Q
 | .dat t,off,ho,x,es,us,vs,O,K,S,hr,hv,hK=>by
  unfold VS;refine aP λhf=>sU _ _ _ λhle=>?_;rw[iJ]at hle;obtain⟨hr,rfl⟩:=hr;have hl:=aO hr;have hlv:=gK hv;have hnew:=vZ (off:=off) hv (jw (C:=⟨h,ok,m⟩) hr);refine wE t hf hnew λy q vs1 vs2 e1 h1 l1=>?_;cases q with
  |cons _ _=>trivial|nil=>
  simp only[aY]at l1;subst l1;simp only[F7]at e1;subst e1;exact hK y o5 ⟨h1 _ _,rfl⟩
 | .pair p q,off,ho,x,es,us,vs,O,K,S,hr,hv,hK=>by
  unfold VS;obtain⟨c,d,O1,O2,rfl,rfl,h1,h2⟩:=hr;have hc:=au h1;by_cases hlt:off<p.size
  .have hb:Nat.blt off p.size=true:=Xl hlt;simp only[hb,cond_true];refine Fv p off h1 hv λy hle e2=>?_;exact hK _ dZ ⟨_,d,O1,O2,Rw hle,rfl,e2,h2⟩
  .have hb:Nat.blt off p.size=false:=Xk hlt;simp only[hb,cond_false];refine Fv q (off -p.size) h2 hv λy hle e2=>?_;refine hK _ dZ ⟨c,_,O1,O2,?_,rfl,h1,e2⟩;rw[Po o5 o5,hc]
 | .own _,_,_,_,_,_,_,_,_,_,_,_,_=>trivial| .owns _,_,_,_,_,_,_,_,_,_,_,_,_=>trivial| .unit,_,_,_,_,_,_,_,_,_,_,_,_=>trivial| .box _,_,_,_,_,_,_,_,_,_,_,_,_=>trivial| .ownb _,_,_,_,_,_,_,_,_,_,_,_,_=>trivial| .cell _,_,_,_,_,_,_,_,_,_,_,_,_=>trivial| .fr _,_,_,_,_,_,_,_,_,_,_,_,_=>trivial| .rp _,_,_,_,_,_,_,_,_,_,_,_,_=>trivial| .fn _ _,_,_,_,_,_,_,_,_,_,_,_,_=>trivial| .ifc _ _,_,_,_,_,_,_,_,_,_,_,_,_=>trivial
theorem VZ(i:Nat):LV none i=none:=rfl
theorem JL{i o j:Nat}(h:j≠i):LV (some (i,o,k)) j=none:=by simp[LV,h]
theorem MX{i o:Nat} :LV (some (i,o,k)) i=some o:=by simp[LV]
theorem KQ{C:Cx}{md:M}{xs:List md.den}{hole:Option (Nat×Nat×Option Nat)}{blk off len cap sz:Nat}{Os:List (List Nat)}(he:md.el=true)(hm:C.m n=some (.arr blk off len cap sz))
  (ha:qX C.h md.size (λi x es O=>iH C.h C.ok md (LV hole i) x es O) xs Os (.arr blk off len cap sz)) (hk:C.m.kid n=Os.flatten) (hh:JM C md.size (.arr blk off len cap sz) hole):uM C n (.barrs md xs hole):=⟨he,_,Os,hm,⟨ha,hh⟩,hk⟩
theorem zF{j o2 idx off:Nat}(h:Om (some (j,o2,k)) idx off=true):j=idx/\o2=off:=by
 simp only[Om]at h;cases hb:Nat.beq o2 off<;>rw[hb]at h
 .cases h
 .exact⟨bT h,bT hb⟩
theorem Wu(H:FxOk X){S1:Sm}{m1:Mp}{ok1:Nat->Ty->Prop}{w0:World}(R:Rel X (CB*q) (CB*q+CB) S1 m1 ok1 a w)(hT:Tk X S1 m1 ok1 w Op)
  (hm:∀k l,m k=some l->m1 k=some l) (hok:∀b t,ok b t->ok1 b t) {v:V} {l:Loc} {ks:List Nat} {x:Value} (hv:v≠.undef)
  (ho:L8 (gq m1 (H5 q o.dst) l ks) (H5 q o.dst) v=Op) (hB:uM ⟨w.heap,ok1,gq m1 (H5 q o.dst) l ks⟩ (H5 q o.dst) v)
  (hx:l.view none x) {bx idx off:Nat} {md:M} {xs:List md.den} (hS:S1 (S9+bx)= .barrs md xs (some (idx,off,none))) {blk o' len cap sz:Nat} (hmb:m1 bx=some (.arr blk o' len cap sz))
  (hc:Z9 w.heap blk (o' +idx*md.size+off) 1=some [x]) (hsz:sz=md.size)
  (run:(execOp a.eval o).run X.P w0= .ok (.value x) w):
  (mY (H5 q o.dst) v (Cmd.set (S9+bx) (.barrs md xs (some (idx,off,some (H5 q o.dst)))) (ax X.E o.dst (.own (H5 q o.dst) none)))).post S1 (λ_ S' =>bV X (CB*q) (CB*q+CB) o a w0 m ok S'):=by
 refine mJ λhn=>?_;have key:∀n,n=H5 q o.dst->CB*q<=n->n<CB*q+CB->∃R2:Rel X (CB*q) (CB*q+CB) (upd (upd S1 (S9+n) v) (S9+bx) (.barrs md xs (some (idx,off,some n)))) (gq m1 n l ks) ok1 a w,∀k l',m k=some l' ->gq m1 n l ks k=some l' :=by
  rintro n rfl h1 h2;obtain⟨R',_,hm'⟩:=R.adopt (T:=[]) hn h1 hv (by simpa using hT) (λb h=>by rw[ho]at h;exact h) (by rw[ho];exact hT.nodup) hB;rw[Nat.max_eq_left o5]at R';have hne:bx≠H5 q o.dst:=λe=>by have:=R.fresh _ h1 hn;rw[←e,hmb]at this;cases this
  have hS' :upd S1 (S9+H5 q o.dst) v (S9+bx)= .barrs md xs (some (idx,off,none)):=by rw[V6 _ _ o5];exact hS
  have hb:=R'.box bx;rw[hS']at hb;obtain⟨hel,l0,Os,hm0,⟨ha,_⟩,hk⟩:=hb;have hmb' :=hm' _ _ hmb;simp only at hm0;rw[hmb']at hm0;cases hm0;refine⟨R'.mod (by rw[hS'];rfl) o7 rfl rfl rfl rfl (λ_ _=>rfl) ⟨hel,_,Os,hmb',⟨?_,?_⟩,hk⟩,λk l' h=>hm' k l' (hm k l' h)⟩
  .exact vg (λ_ _=>rfl) (λi x es O _ hr=>hr) ha
  .exact⟨blk,o',len,cap,x,l,by rw[hsz],hc,X6 _ _ _ _,hx⟩
 cases hd:o.dst with
 |none=>have hin:=jE H (q:=q) none (λt h=>by cases h);obtain⟨R2,hm2⟩:=key (H5 q none) (by rw[hd]) hin.1 o5;have:=kM (o:=o) H R2 (m0:=m) (ok0:=ok) hm2 hok (v:=.own (H5 q none) none) ⟨l,X6 _ _ _ _,hx⟩ run;rw[hd]at this;exact this
 |some t=>unfold ax;refine dW (aG λhb' =>?_);have hin:=jE H (q:=q) (some t) (λt' h=>by cases h;exact(qB hb').1);obtain⟨R2,hm2⟩:=key (H5 q (some t)) (by rw[hd]) hin.1 o5;have:=kM (o:=o) H R2 (m0:=m) (ok0:=ok) hm2 hok (v:=.own (H5 q (some t)) none) ⟨l,X6 _ _ _ _,hx⟩ run;rw[hd]at this;unfold ax at this;simp only[hb',cond_true]at this;exact this
theorem a0p(H:FxOk X)(R:Rel X (CB*q) (CB*q+CB) S m ok a w)(ho:o.op= .load t x):(V5 X.E q o).post S (λ_ S' =>bV X (CB*q) (CB*q+CB) o a w m ok S'):=by
 unfold V5;simp only[ho];refine P9 R λp hp=>?_;have plain:(Cc X.E t p λv=>ax X.E o.dst v).post S (λ_ S' =>bV X (CB*q) (CB*q+CB) o a w m ok S'):=by refine yu H R hp λv u ad hv hx hr=>U3 H R hv ?_;simp[execOp,ho,hx,Instr.loadAt,Instr.sureAddr,hr]
 unfold a1i;split
 .rename_i bx idx off;refine az ?_;split
  .rename_i md xs hS;cases hown:md.ownAt off
   .simpa only[cond_false]using plain
   simp only[cond_true];refine fK H λi hi=>aP λhi1=>?_;simp only[o6,Y4]at hi1;obtain⟨hsz,hagg⟩:=hi1;have hsz:=bT hsz;have hp' :=hp;obtain⟨blk,o',len,cap,sz,hm,hlt,hx⟩:=hp;obtain⟨hel,l,Os,hm',⟨ha,hho⟩,hk⟩:=R.own_barrs hS;simp only at hm;rw[hm]at hm';cases hm';cases uB (match o.dst with|some d=>d|none=>S9) X.E.tk<;>simp only[cond_true,cond_false]
   .refine sZ (T:=[]) (.sl md.ty) R Tk.nil (cs:=[.own bx none]) (vs:=[.slice (some ⟨blk,o',none⟩) len cap]) ⟨_,_,rfl,⟨_,hm,rfl⟩,rfl,rfl⟩ λS1 ok1 _ _ us us' R1 T1 k1 s1 e1 h1 l1=>?_;refine yu H R1 (BD k1 hp') λv u ad hv hx hr=>kM H R1 (λ_ _ h=>h) k1 hv ?_;simp[execOp,ho,hx,Instr.loadAt,Instr.sureAddr,hr]
   .refine aZ λe0 he0=>?_;obtain⟨rfl,rfl,h3,h7,c,T,hh,hs,hxs⟩:=ha;obtain⟨es,O,hO,he,hr⟩:=hxs idx e0 he0;refine Dv md off hr λv l2 ks u O1 Op O2 eO hr' hu hv hB hvu=>?_;refine dW ?_;have hOs:Os.flatten.Perm ((Os.set idx (O1++O2)).flatten++Op):=rZ (by rw[hO,eO]);have hown0:L8 m bx (S (S9+bx))=blk::Os.flatten:=by simp[L8,hS,hm,hk]
    have hown1:L8 (uY m bx (Os.set idx (O1++O2)).flatten) bx (.barrs md xs (some (idx,off,none)))=blk::(Os.set idx (O1++O2)).flatten:=by simp[L8,hm]
    have hnd:=R.nd bx;rw[hown0]at hnd;have hperm:(blk::Os.flatten).Perm ((blk::(Os.set idx (O1++O2)).flatten)++Op):=by simpa using hOs.cons blk
    have hnd' :=F9.1 (hperm.nodup_iff.1 hnd);have hB1:uM ⟨w.heap,ok,uY m bx (Os.set idx (O1++O2)).flatten⟩ bx (.barrs md xs (some (idx,off,none))):=by
     refine KQ (Os:=Os.set idx (O1++O2)) hel hm ⟨rfl,rfl,h3,by simp[h7],c,T,hh,hs,λj z hz=>?_⟩ o7 trivial;by_cases hj:j=idx
     .subst hj;rw[show xs[j]? =some e0 from he0]at hz;cases hz;refine⟨es,O1++O2,?_,he,by simp only[MX];exact hr'⟩;rw[P5,if_pos rfl,if_pos (by rw[h7];exact hlt)]
     .obtain⟨es2,O',hO2,he2,hr2⟩:=hxs j z hz;refine⟨es2,O',?_,he2,by simp only[JL hj];exact hr2⟩;rw[P5,if_neg (λe=>hj e.symm)];exact hO2
    obtain⟨R1,T1⟩:=R.modK (T:=[]) Tk.nil (n:=bx) (v:=.barrs md xs (some (idx,off,none))) (ks:=(Os.set idx (O1++O2)).flatten) (w' :=w) (T' :=Op) o7 (by rw[hown1];exact hnd'.1)
     (λb hb=> .inl (by rw[hown0];rw[hown1]at hb;exact hperm.mem_iff.2 (G7 _ hb))) rfl rfl rfl rfl (λ_ _=>rfl) hB1 hnd'.2.1
     (λb hb=>⟨.inl (by rw[hown0];exact hperm.mem_iff.2 (W9 _ hb)),λh=>hnd'.2.2 b (by rw[hown1]at h;exact h) b hb rfl⟩)
    obtain⟨hB2,hB3,hB4⟩:=hB (uY m bx (Os.set idx (O1++O2)).flatten) (H5 q o.dst);have hlt2:=(Z5.1 hu);have hle:off+1<=md.size:=by have:=au hr;have:=hlt2.1;omega
    have e:=qN he off i.size o5;have hr2:=lZ hi w e;have h1:(es.drop off).take i.size=[u]:=by obtain⟨hlt3,rfl⟩:=hlt2;rw[hsz,Y9 hlt3];rfl
    refine Wu (ok:=ok) (m:=m) H R1 T1 (λ_ _ h=>h) (λ_ _ h=>h) hvu hB3 hB2 hv (by rw[eX]) hm (by rw[←h1,←hsz];exact e) rfl ?_;rw[h1,hagg]at hr2;simp[execOp,ho,hx,Instr.loadAt,Instr.sureAddr,hr2,ER]
  .rename_i md xs i2 o2 n2 hS;cases hown:md.ownAt off
   .simpa only[cond_false]using plain
   simp only[cond_true];refine fK H λi hi=>aP λhi1=>⟨λhat=>?_,λ_=>trivial⟩;simp only[o6,Y4]at hi1;obtain⟨hsz,hagg⟩:=hi1;have hsz:=bT hsz;obtain⟨e1,e2⟩:=zF hat
   subst e1;subst e2;obtain⟨blk,o',len,cap,sz,hm,hlt,hx⟩:=hp;obtain⟨hel,l,Os,hm',⟨ha,blk',off',len',cap',u,l',hl,hc,hmn,hvw⟩,hk⟩:=R.own_barrs hS;simp only at hm;rw[hm]at hm';cases hm';cases hl;have e:Z9 w.heap blk (o' +i2*md.size+o2) i.size=some [u]:=by rw[hsz];exact hc
   have hr2:=lZ hi w e;rw[hagg]at hr2;refine U3 H R (v:=.own n2 none) (x:=u) ⟨l',hmn,hvw⟩ ?_;simp[execOp,ho,hx,Instr.loadAt,Instr.sureAddr,hr2,ER]
  .exact plain
 .exact plain
theorem yG{S' :Sm}{x y:Operand}{w' :World}{m' :Mp}{ok' :Nat->Ty->Prop}(ho:o.op= .store t x y)(hd:o.dst=none)(run:(Instr.storeAt t (a.eval x) (a.eval y)).run X.P w= .ok () w')
  (R:Rel X cl ch S' m' ok' a w') (hm:∀k l,m k=some l->m' k=some l) (hok:∀b t,ok b t->ok' b t):bV X cl ch o a w m ok S' :=by
 intro next Q hn
 unfold Oper.wp;have e:(execOp a.eval o).run X.P w= .ok .skip w' :=by simp[execOp,ho,run]
 rw[e,Oper.upon_skip,hd];exact hn m' ok' a w' R hm hok
theorem Uj{u:α}(h:off<L.length):U2 off [u] L=L.set off u:=by
 apply bu;intro i;rw[jL dZ,P5];by_cases h1:i=off
 .subst h1;rw[if_neg o5,if_pos o7,if_pos rfl,if_pos h];simp
 .by_cases h2:i<off
  .rw[if_pos h2,if_neg o5]
  .rw[if_neg h2,if_neg dZ,if_neg o5]
theorem VP{u:Value}(h:u.oneCell' =true):u.cells.toList=[u]:=by cases u<;>simp[Value.oneCell',Value.cells]at*
theorem KX{w:World}{blk o' sz len cap off idx:Nat}{c:Array Value}{T:TypeId}{f:Nat×Nat}(hh:w.heap[blk]? =some (.cells c T f))(hs:o' +cap*sz<=c.size)(hlc:len<=cap)(hlt:idx<len){us es:List Value}
  (he:Z9 w.heap blk (o' +idx*sz) sz=some es) (hf:off+us.length<=sz):
  o' +idx*sz+off+us.length<=c.size/\(U2 (o' +idx*sz+off) us c.toList).length=c.size/\
  Z9 (w.setRow blk (U2 (o' +idx*sz+off) us c.toList).toArray).heap blk (o' +idx*sz) sz=some (U2 off us es)/\
  (∀j,j<len->j≠idx->Z9 (w.setRow blk (U2 (o' +idx*sz+off) us c.toList).toArray).heap blk (o' +j*sz) sz=Z9 w.heap blk (o' +j*sz) sz):=by
 have hcap:(idx+1)*sz<=cap*sz:=C9 _ o5;rw[D8,L9]at hcap;have hfit:o' +idx*sz+off+us.length<=c.size:=o5;have hcl:c.toList.length=c.size:=o7;have hsp:(U2 (o' +idx*sz+off) us c.toList).length=c.size:=by rw[kZ (by rw[hcl];exact hfit)];exact hcl
 refine⟨hfit,hsp,?_,λj hj hne=>?_⟩
 .rw[AB hh _ _ _ (by rw[hsp];omega),BF (by rw[hcl];omega) o5];obtain⟨c2,T2,f2,hb2,hn2,rfl⟩:=lJ he;rw[hh]at hb2;cases hb2;rfl
 .have hcap' :(j+1)*sz<=cap*sz:=C9 _ o5;rw[D8,L9]at hcap';rw[AB hh _ _ _ (by rw[hsp];omega),fM hh _ _ o5,Uk (by rw[hcl];exact hfit)];rcases Nat.lt_or_gt_of_ne hne with hlt'|hgt
  .left;have:(j+1)*sz<=idx*sz:=C9 _ o5;rw[D8,L9]at this;omega
  .right;have:(idx+1)*sz<=j*sz:=C9 _ o5;rw[D8,L9]at this;omega
theorem Ip{Q:Unit->Sm->Prop}(R:Rel X cl ch S m ok a w)(hT:Tk X S m ok w Op){i:TI}(hi:TiOk X.P t i)(h1:i.size=1){bx idx off:Nat}{md:M}{xs:List md.den}{hole:Option (Nat×Nat×Option Nat)}
  (hS:S (S9+bx)= .barrs md xs hole) {blk o' len cap sz:Nat} (hm:m bx=some (.arr blk o' len cap sz)) {v:V} {u:Value} (hp:NY w.heap ok v u Op)
  (hK:∀S' m' w',Rel X cl ch S' m' ok a w' ->(∀k l,m k=some l->m' k=some l)->(storeVar t ⟨blk,o' +idx*sz+off,none⟩ u).run X.P w= .ok () w' ->Q () S'):
  (Pq bx idx off md xs hole v (.ret ())).post S Q:=by
 unfold Pq;refine⟨λhb=>?_,λ_=>trivial⟩;refine aZ λe0 he0=>?_;have he0' :xs[idx]? =some e0:=he0;obtain⟨hel,l,Os,hm',⟨ha,hho⟩,hk⟩:=R.own_barrs hS;rw[hm]at hm';cases hm';obtain⟨rfl,rfl,h3,h7,c,T,hh,hs,hxs⟩:=ha;obtain⟨es,O,hO,he,hr⟩:=hxs idx e0 he0';have hho:LV hole idx=none\/LV hole idx=some off:=by
  rcases hole with _|⟨j,o2,o3⟩
  .exact .inl rfl
  .obtain⟨e1,e2⟩:=zF hb;subst e1;subst e2;exact .inr MX
 have hho' :∀j,j≠idx->LV hole j=none:=λj hj=>by
  rcases hole with _|⟨j',o2,o3⟩
  .rfl
  .obtain⟨e1,_⟩:=zF hb;subst e1;exact JL hj
 refine FN hp md off hr hho hel λy O1 Old O2 eO hr' hoff=>dW ?_;have hlt:idx<xs.length:=(Z5.1 he0').1;have hes:es.length=md.size:=au hr;have hu1:=hp.one;have huc:=VP hu1;obtain⟨hfit,hsp,hnew,hold⟩:=KX (us:=[u]) (off:=off) hh hs h3 hlt he dZ;have run:=sK hi w (off:=o' +idx*md.size+off) hh (.inl rfl) (v:=u) (by have:=congrArg List.length huc;simp at this;omega) (by simpa[h1]using hfit) (by rw[huc];simp[hu1]);rw[huc]at run;generalize hw' :w.setRow blk (U2 (o' +idx*md.size+off) [u] c.toList).toArray=w' at run hnew hold;have hrow:w'.heap[blk]? =some (.cells (U2 (o' +idx*md.size+off) [u] c.toList).toArray T (0,0)):=by subst hw';exact setRow_heap w blk c _ T (0,0) hh
 have hoth:∀b,b≠blk->w'.heap[b]? =w.heap[b]?:=λb hb=>by subst hw';exact setRow_other w blk b _ hb
 have hsize:w'.heap.size=w.heap.size:=by subst hw';simp
 have hos:w'.os=w.os:=by subst hw';rfl
 have htp:w'.tape=w.tape:=by subst hw';rfl
 have hout:w'.output=w.output:=by subst hw';rfl
 have hO1:Os.flatten.Perm ((Os.set idx (O1++O2)).flatten++Old):=rZ (by rw[hO,eO]);have hO2:(Os.set idx (O1++Op++O2)).flatten.Perm ((Os.set idx (O1++O2)).flatten++Op):=by have:=rZ (Os:=Os.set idx (O1++Op++O2)) (i:=idx) (O1:=O1) (P:=Op) (O2:=O2) (by rw[P5,if_pos rfl,if_pos (by rw[h7];exact hlt)]);rwa[List.set_set]at this
 have hown0:L8 m bx (S (S9+bx))=blk::Os.flatten:=by simp[L8,hS,hm,hk]
 have hown1:L8 (uY m bx (Os.set idx (O1++Op++O2)).flatten) bx (.barrs md (aU xs idx y) none)=blk::(Os.set idx (O1++Op++O2)).flatten:=by simp[L8,hm]
 have hnd:=R.nd bx;rw[hown0]at hnd;have hnd0:=aH.1 hnd;have hndA:=F9.1 (hO1.nodup_iff.1 hnd0.2);have hfreeOp:∀b∈Op,b∉blk::Os.flatten:=λb hb h=>(hT.free b hb).2.2.2 bx (by rw[hown0];exact h);have hsubA:∀b∈(Os.set idx (O1++O2)).flatten,b∈Os.flatten:=λb hb=>hO1.mem_iff.2 (G7 _ hb);have hneO:∀b∈Os.flatten,b≠blk:=λb hb e=>hnd0.1 (e▸hb);have hneP:∀b∈Op,b≠blk:=λb hb e=>hfreeOp b hb (by simp[e]);have hkeep:∀b t,ok b t->w'.heap[b]? =w.heap[b]?:=λb t hb=>hoth b (λe=>(R.sep bx blk (by rw[hown0];simp)).1 t (e▸hb));have hB:uM ⟨w'.heap,ok,uY m bx (Os.set idx (O1++Op++O2)).flatten⟩ bx (.barrs md (aU xs idx y) none):=by
  refine KQ (Os:=Os.set idx (O1++Op++O2)) hel hm ⟨rfl,by simp[aU],h3,by simp[h7,aU],_,T,hrow,by simp[hsp];exact hs,λj z hz=>?_⟩ o7 trivial;unfold aU at hz;rw[P5]at hz;split at hz
  .rename_i hj;subst hj;cases hz;refine⟨_,O1++Op++O2,by rw[P5,if_pos rfl,if_pos (by rw[h7];exact hlt)],hnew,?_⟩;rw[Uj o5];refine dI (λ_ _ h=>h) hkeep (λb hb=>hoth b ?_) hr';rcases o8.1 hb with hb|hb
   .rcases o8.1 hb with hb|hb
    .exact hneO b (X7.2 ⟨O,BH hO,by rw[eO];simp[hb]⟩)
    .exact hneP b hb
   .exact hneO b (X7.2 ⟨O,BH hO,by rw[eO];simp[hb]⟩)
  .rename_i hj;obtain⟨es2,O',hO2',he2,hr2⟩:=hxs j z hz;refine⟨es2,O',by rw[P5,if_neg hj];exact hO2',by rw[←he2];exact hold j (Z5.1 hz).1 (λe=>hj e.symm),?_⟩;simp only[VZ];rw[hho' j (λe=>hj e.symm)]at hr2;exact dI (λ_ _ h=>h) hkeep (λb hb=>hoth b (hneO b (X7.2 ⟨O',BH hO2',hb⟩))) hr2
 have hmod:=R.modK hT (n:=bx) (v:=.barrs md (aU xs idx y) none) (ks:=(Os.set idx (O1++Op++O2)).flatten) (w' :=w') (T' :=[]) o7
  (by
   rw[hown1];refine aH.2 ⟨λh=>?_,hO2.nodup_iff.2 (F9.2 ⟨hndA.1,hT.nodup,λx hx z hz e=>?_⟩)⟩
   .rcases o8.1 (hO2.mem_iff.1 h)with h|h
    .exact hnd0.1 (hsubA _ h)
    .exact hneP _ h rfl
   .subst e;exact hfreeOp x hz (by simp[hsubA x hx]))
  (λb hb=>by
   rw[hown1]at hb;rw[hown0];rcases o9.1 hb with hb|hb
   .exact .inl (by simp[hb])
   .rcases o8.1 (hO2.mem_iff.1 hb)with h|h
    .exact .inl (by simp[hsubA _ h])
    .exact .inr h)
  hos htp hout hsize (λb hb=>hoth b (λe=>hb (by rw[hown0,e];simp))) hB U5 (λb hb=>by cases hb)
 exact hK _ _ w' hmod.1 (λ_ _ h=>h) run
theorem Yu(H:FxOk X)(R:Rel X cl ch S m ok a w){x y:Operand}(ho:o.op= .store t x y):(V5 X.E q o).post S (λ_ S' =>bV X cl ch o a w m ok S'):=by
 unfold V5;simp only[ho];cases hd:o.dst with
 |some d=>trivial|none=>
 refine P9 R λp hp=>P9 R λv hv=>?_;unfold D_;refine fK H λi hi=>?_;cases p<;>try trivial
 case ptr bx off=>
  obtain⟨blk,hm,hx⟩:=hp;refine az ?_;split<;>try trivial
  rename_i cs hS;obtain⟨blk',arr,T,hm',hh,hl⟩:=R.own_cells hS;simp only at hm hm';rw[hm]at hm';cases hm';refine lK hv λvs hvs=>aP λhlen=>sU _ _ _ λhle=>dW ?_;have hlen' :=bT hlen;have hL:=gK hl;have hL2:=gK hvs;have hsz:(a.eval y).cells.size=i.size:=by simp at hL2;omega
  have hown:L8 m bx (S (S9+bx))=[blk]:=by simp[L8,hS,hm]
  have hfit:off+i.size<=arr.size:=by simp at hL;omega
  have run:=sK hi w hh (.inl rfl) (v:=a.eval y) hsz hfit (EF hvs);refine yG ho hd (w' :=w.setRow blk (U2 off (a.eval y).cells.toList arr.toList).toArray) (by simp[Instr.storeAt,Instr.sureAddr,hx,run]) ?_ (λ_ _ h=>h) (λ_ _ h=>h);refine R.mod (by rw[hown];simp[L8,hm]) o7 rfl rfl rfl o7 (λb hb=>setRow_other w blk b _ (by rw[hown]at hb;simpa using hb)) ?_;refine⟨blk,_,T,hm,setRow_heap w blk arr _ T (0,0) hh,?_⟩;refine a2j (λb t hb=>setRow_other w blk b _ (λe=>(R.sep bx blk (by rw[hown];simp)).1 t (e▸hb))) ?_;simpa using vZ hvs hl
 case ep bx ix off=>
  obtain⟨blk,o',len,cap,sz,hm,hlt,hx⟩:=hp;simp only at hm;refine az ?_;split<;>try trivial
  .rename_i u xs hS;obtain⟨l,hm',ha⟩:=R.own_arr hS;rw[hm]at hm';cases hm';obtain⟨hE0,rfl,rfl,h3,c,T,f,hh,hz,hs,hxs⟩:=ha;refine aZ λe0 he0=>?_;obtain⟨es,he,hr⟩:=hxs ix e0 he0;refine lK hv λvs hvs=>aP λhlen=>sU _ _ _ λhle=>?_;rw[iJ]at hle;have hlen' :=bT hlen;have hL2:=gK hvs;have hsz:(a.eval y).cells.size=i.size:=by simp at hL2;omega
   have hes:=iQ he;have hnew:=vZ (off:=off) hvs (jw (C:=⟨w.heap,ok,m⟩) hr);refine sZ (T:=[]) u R Tk.nil hnew λS1 ok1 y1 q1 us us' R1 T1 k1 s1 e1 h1 l1=>?_;cases q1 with
   |cons _ _=>trivial|nil=>
   simp only[aY]at l1;subst l1;simp only[F7]at e1;subst e1;refine az ?_;split<;>try trivial
   rename_i u' xs' hS1;refine aA λe=>?_;subst e;refine dW ?_;obtain⟨l,hm',ha⟩:=R1.own_arr hS1;rw[hm]at hm';cases hm';obtain⟨_,hszu,hlen2,h3',c',T',f',hh',hz',hs',hxs'⟩:=ha;rw[hh]at hh';cases hh';have hown:L8 m bx (S1 (S9+bx))=[blk]:=by simp[L8,hS1,hm]
   have hvl:(a.eval y).cells.toList.length=i.size:=by simpa using hsz
   obtain⟨hfit,hsp,hnew2,hold⟩:=KX (us:=(a.eval y).cells.toList) (off:=off) hh hs h3 hlt he (by rw[hvl];omega);have run:=sK hi w (off:=o' +ix*u'.size+off) hh hz.of (v:=a.eval y) hsz (by rw[hvl]at hfit;exact hfit) (EF hvs);refine yG ho hd (w' :=w.setRow blk (U2 (o' +ix*u'.size+off) (a.eval y).cells.toList c.toList).toArray) (by simp[Instr.storeAt,Instr.sureAddr,hx,run]) ?_ (λ_ _ h=>h) k1;refine R1.mod (by rw[hown];simp[L8,hm]) o7 rfl rfl rfl o7 (λb hb=>setRow_other w blk b _ (by rw[hown]at hb;simpa using hb)) ?_;have hkeep:∀b t,ok1 b t->(w.setRow blk (U2 (o' +ix*u'.size+off) (a.eval y).cells.toList c.toList).toArray).heap[b]? =w.heap[b]?:=
    λb t hb=>setRow_other w blk b _ (λe=>(R1.sep bx blk (by rw[hown];simp)).1 t (e▸hb))
   refine⟨_,hm,hE0,rfl,by simp[aU,hlen2],h3,_,T,f,setRow_heap w blk c _ T f hh,by rw[V9,hsp];exact hz,by simp[hsp];exact hs,λj z hz=>?_⟩;unfold aU at hz;rw[P5]at hz;split at hz
   .rename_i hj;subst hj;split at hz
    .cases hz;exact⟨_,hnew2,Z8 (λ_ _ h=>h) hkeep h1⟩
    .cases hz
   .rename_i hj;obtain⟨es2,he2,hr2⟩:=hxs' j z hz;have hj2:=(Z5.1 hz).1;exact⟨_,(hold j (by rw[hlen2];exact hj2) (λe=>hj e.symm)).trans he2,Z8 (λ_ _ h=>h) hkeep hr2⟩
  .rename_i md xs hole hS;cases hcd:(md.ownAt off&&Nat.beq i.size 1&&!U8 i.td)
   .simp only[cond_false];cases hole with
    |some _=>trivial|none=>
    refine lK hv λvs hvs=>aP λhlen=>aZ λe0 he0=>?_;have he0' :xs[ix]? =some e0:=he0;obtain⟨hel,l,Os,hm',⟨ha,hho⟩,hk⟩:=R.own_barrs hS;rw[hm]at hm';cases hm';obtain⟨rfl,rfl,h3,h7,c,T,hh,hs,hxs⟩:=ha;obtain⟨es,O,hO,he,hr⟩:=hxs ix e0 he0';refine Fv md off hr hvs λy1 hle hr' =>dW ?_;have hes:es.length=md.size:=au hr;have hlen' :=bT hlen;have hL2:=gK hvs;have hsz:(a.eval y).cells.size=i.size:=by simp at hL2;omega
    have hvl:(a.eval y).cells.toList.length=i.size:=by simpa using hsz
    obtain⟨hfit,hsp,hnew2,hold⟩:=KX (us:=(a.eval y).cells.toList) (off:=off) hh hs h3 hlt he o5;have run:=sK hi w (off:=o' +ix*md.size+off) hh (.inl rfl) (v:=a.eval y) hsz (by rw[hvl]at hfit;exact hfit) (EF hvs);have hown:L8 m bx (S (S9+bx))=blk::Os.flatten:=by simp[L8,hS,hm,hk]
    have hnd:=R.nd bx;rw[hown]at hnd;have hnd0:=aH.1 hnd;have hneO:∀b∈Os.flatten,b≠blk:=λb hb e=>hnd0.1 (e▸hb);refine yG ho hd (w' :=w.setRow blk (U2 (o' +ix*md.size+off) (a.eval y).cells.toList c.toList).toArray) (by simp[Instr.storeAt,Instr.sureAddr,hx,run]) ?_ (λ_ _ h=>h) (λ_ _ h=>h);have hkeep:∀b t,ok b t->(w.setRow blk (U2 (o' +ix*md.size+off) (a.eval y).cells.toList c.toList).toArray).heap[b]? =w.heap[b]?:=
     λb t hb=>setRow_other w blk b _ (λe=>(R.sep bx blk (by rw[hown];simp)).1 t (e▸hb))
    refine R.mod (by rw[hown];simp[L8,hm,hk]) o7 rfl rfl rfl o7 (λb hb=>setRow_other w blk b _ (λe=>hb (by rw[hown,e];simp))) ?_;refine KQ (Os:=Os) hel hm ⟨rfl,by simp[aU],h3,by simp[h7,aU],_,T,setRow_heap w blk c _ T (0,0) hh,by simp[hsp];exact hs,λj z hz=>?_⟩ hk trivial;unfold aU at hz;rw[P5]at hz;split at hz
    .rename_i hj;subst hj;cases hz;exact⟨_,O,hO,hnew2,dI (λ_ _ h=>h) hkeep (λb hb=>setRow_other w blk b _ (hneO b (X7.2 ⟨O,BH hO,hb⟩))) hr'⟩
    .rename_i hj;obtain⟨es2,O2,hO2,he2,hr2⟩:=hxs j z hz;have hj2:=(Z5.1 hz).1;exact⟨_,O2,hO2,(hold j o5 (λe=>hj e.symm)).trans he2,dI (λ_ _ h=>h) hkeep (λb hb=>setRow_other w blk b _ (hneO b (X7.2 ⟨O2,BH hO2,hb⟩))) hr2⟩
   .simp only[cond_true];simp only[o6,Y4]at hcd;obtain⟨⟨_,hsz1⟩,_⟩:=hcd;have hsz1:=bT hsz1;have fin:∀{S' :Sm} {m' :Mp} {w' :World},Rel X cl ch S' m' ok a w' ->(∀k l,m k=some l->m' k=some l)->(storeVar t ⟨blk,o' +ix*sz+off,none⟩ (a.eval y)).run X.P w= .ok () w' ->bV X cl ch o a w m ok S' :=
     λR' hm' run=>yG ho hd (by simp[Instr.storeAt,Instr.sureAddr,hx,run]) R' hm' (λ_ _ h=>h)
    split
    .have hv' :a.eval y= .slice none 0 0:=hv;exact Ip (Op:=[]) R Tk.nil hi hsz1 hS hm (.inl ⟨rfl,hv',rfl⟩) (λS' m' w' R' h' run=>fin R' h' run)
    .rename_i b2;obtain⟨l2,hm2,hv2⟩:=hv;simp only at hm2;refine az ?_;refine aP λharr=>dW (az ?_);split<;>try trivial
     rename_i md2 xs2 hole2 hS2;have T1:=Tk.kill R (T:=[]) Tk.nil b2 (bs:=L8 m b2 (S (S9+b2))) (λ_ h=>h) (R.nd b2);rw[J5]at T1;refine Ip (R.kill b2) T1 hi hsz1 hS2 hm ?_ (λS' m' w' R' h' run=>fin R' h' run);cases hb2:S (S9+b2)<;>rw[hb2]at harr<;>try cases harr
     .rename_i t2 ys;obtain⟨l',hm',ha'⟩:=R.own_arr hb2;rw[hm2]at hm';cases hm';refine .inr (.inl ⟨t2,ys,l2,rfl,hv2,zt ha',?_⟩);cases l2<;>first|(simp[L8,hm2,Loc.blks];done)|cases ha'
     .rename_i md3 ys hole3;obtain⟨hel3,l',Os,hm',⟨ha',hho⟩,hk'⟩:=R.own_barrs hb2;rw[hm2]at hm';cases hm';rcases hole3 with _|⟨p1,p2,p3⟩
      .refine .inr (.inr ⟨md3,ys,l2,Os,rfl,hel3,hv2,ha',?_⟩);cases l2<;>first|(simp[L8,hm2,Loc.blks,hk'];done)|cases ha'
      .cases harr
    .trivial
end
end Go.GP
namespace Go.GP
variable {t:TypeId}{q:Nat}{f:Nat}{P:Program}{j:TI}{x:Operand}{sz:Nat}{α:Type}
section
variable {X:Fx} {cl ch:Nat} {S:Sm} {m:Mp} {ok:Nat->Ty->Prop} {a:Act} {w:World} {o:Oper}
theorem wP(H:FxOk X){t f off n:Nat}{ag:Bool}(h:zC X.E t f=some (off,n,ag)):
  ∃fields fld j,X.P.underlying t=some (.struct fields)/\fields[f]? =some fld/\fld.offset=off/\TiOk X.P fld.type j/\j.size=n/\n≠0/\ag=U8 j.td:=by
 unfold zC at h;cases hi:Z4 X.E.tt t with
 |none=>simp[hi]at h|some i=>
  have Hi:=H.tt t i hi;have htd:=Hi.td;simp only[hi]at h;cases hd:i.td<;>simp only[hd]at h<;>try (simp at h;done)
  rename_i fs;rw[hd]at htd;obtain⟨fields,hu,hf⟩:=htd;cases hfs:fs[f]? with
  |none=>simp[hfs]at h|some x=>
   obtain⟨ft,off'⟩:=x;simp only[hfs]at h;cases hj:Z4 X.E.tt ft with
   |none=>simp[hj]at h|some j=>
    simp only[hj]at h;cases hb:Nat.beq j.size 0
    .simp only[hb,cond_false,D6,cu]at h;obtain⟨rfl,rfl,rfl⟩:=h;rw[←hf]at hfs;simp only[O9,bK]at hfs;obtain⟨fld,hfl,he⟩:=hfs;simp only[cu]at he;obtain⟨rfl,rfl⟩:=he;refine⟨fields,fld,j,hu,by simpa using hfl,rfl,H.tt _ _ hj,rfl,λe=>?_,rfl⟩;rw[e]at hb;simp at hb
    .simp[hb]at h
theorem Aw{t f off:Nat}{fields:Array Field}{fld:Field}(w:World)(hu:P.underlying t=some (.struct fields))(hf:fields[f]? =some fld)(ho:fld.offset=off)
  (hj:TiOk P fld.type j) (hn:j.size≠0) (b p:Nat):(Instr.fieldAt t (.pointer (some ⟨b,p,none⟩)) f).run P w= .ok (.pointer (some ⟨b,p+off,none⟩)) w:=by
 simp[Instr.fieldAt,run_underlying hu,hf,Instr.sureAddr,fieldPlace,jb hj,hn,aW,ho]
theorem OG(H:FxOk X)(R:Rel X cl ch S m ok a w)(ho:o.op= .fieldAddr t x f):(V5 X.E q o).post S (λ_ S' =>bV X cl ch o a w m ok S'):=by
 unfold V5;simp only[ho];refine P9 R λp hp=>?_;split<;>try trivial
 rename_i off n ag hfo;obtain⟨fields,fld,j,hu,hf,hoff,hj,hn,hn0,_⟩:=wP H hfo;have hj0:j.size≠0:=o5;cases p<;>try trivial
 case ptr bx o' =>obtain⟨blk,h1,h2⟩:=hp;exact U3 H R (v:=.ptr bx (o' +off)) ⟨blk,h1,rfl⟩ (by simp[execOp,ho,h2,Aw w hu hf hoff hj hj0])
 case ep bx ix o' =>obtain⟨blk,o2,len,cap,sz,h1,h2,h3⟩:=hp;exact U3 H R (v:=.ep bx ix (o' +off)) ⟨blk,o2,len,cap,sz,h1,h2,rfl⟩ (by simp[execOp,ho,h3,Aw w hu hf hoff hj hj0,fP])
 case dp u y o' =>obtain⟨blk,o2,es,h1,h2⟩:=hp;exact U3 H R (v:=.dp u y (o' +off)) ⟨blk,o2,es,rfl,h2⟩ (by simp[execOp,ho,h1,Aw w hu hf hoff hj hj0,fP])
theorem Yq(H:FxOk X)(R:Rel X cl ch S m ok a w)(ho:o.op= .field t x f):(V5 X.E q o).post S (λ_ S' =>bV X cl ch o a w m ok S'):=by
 unfold V5;simp only[ho];refine P9 R λp hp=>?_;split<;>try trivial
 rename_i off n ag hfo;obtain⟨fields,fld,j,hu,hf,hoff,hj,hn,hn0,rfl⟩:=wP H hfo;refine vz hp λps us hg hl=>sW λhle=>?_;obtain⟨arr,hx,rfl⟩:=hg;have hL:=gK hl;have hlen:((arr.toList.drop off).take n).length=n:=by simp at hL ⊢;omega
 refine U3 H R (qE (oJ n (mM off hl)) (λha=>by rw[hlen,←hn];exact hj.one ha)) ?_;have hpart:(part fld.type arr off).run X.P w= .ok (ER (U8 j.td) ((arr.toList.drop off).take n)) w:=by
  unfold part;rw[D5,sV hj.td];simp only[D9];cases ha:U8 j.td
  .have h1:=hj.one ha;have hlt:off<arr.size:=by simp at hL;omega
   simp only[X5,if_false,ER];rw[show arr[off]? =some arr[off]from by simp[hlt]];have:n=1:=o5;subst this;simp[List.take_one,hlt]
  .simp only[if_true,ER,D5,jb hj,D9,hn,N8];congr 2;apply dL;simp[fO]
 simp[execOp,ho,hx,Instr.field,run_underlying hu,hf,asAgg,hoff,hpart]
theorem xN(H:FxOk X){t n sz:Nat}(h:xM X.E t=some (false,n,sz)):∃e j,X.P.underlying t=some (.slice e)/\TiOk X.P e j/\j.size=sz:=by
 unfold xM at h;cases hi:Z4 X.E.tt t with
 |none=>simp[hi]at h|some i=>
  have htd:=(H.tt t i hi).td;simp only[hi]at h;cases hd:i.td<;>simp only[hd]at h<;>try (simp at h;done)
  .rename_i e;rw[hd]at htd;cases hj:Z4 X.E.tt e with
   |none=>simp[hj]at h|some j=>simp[hj]at h;exact⟨e,j,htd,H.tt _ _ hj,h.2⟩
  .rename_i l e;cases hj:Z4 X.E.tt e<;>simp[hj]at h
theorem SG(H:FxOk X){t n sz:Nat}(h:xM X.E t=some (true,n,sz)):∃e j,X.P.underlying t=some (.array n e)/\TiOk X.P e j/\j.size=sz:=by
 unfold xM at h;cases hi:Z4 X.E.tt t with
 |none=>simp[hi]at h|some i=>
  have htd:=(H.tt t i hi).td;simp only[hi]at h;cases hd:i.td<;>simp only[hd]at h<;>try (simp at h;done)
  .rename_i e;cases hj:Z4 X.E.tt e<;>simp[hj]at h
  .rename_i l e;rw[hd]at htd;cases hj:Z4 X.E.tt e with
   |none=>simp[hj]at h|some j=>simp[hj]at h;obtain⟨rfl,h⟩:=h;exact⟨e,j,htd,H.tt _ _ hj,h⟩
theorem zO{l:List α}{n:Int}{y:α}(h:H9 l n=some y):0<=n/\l[n.toNat]? =some y/\n.toNat<l.length/\n<l.length:=by
 unfold H9 at h;split at h
 .rename_i h0;have:=(Z5.1 h).1;exact⟨h0,h,this,o5⟩
 .cases h
theorem lY{t e:TypeId}(w:World)(hu:P.underlying t=some (.slice e))(hj:TiOk P e j){k:IntKind}{n:Int}{b p len cap:Nat}(h0:0<=n)(hlt:n<len):
  (Instr.indexAt t (.slice (some ⟨b,p,none⟩) len cap) (.int k n)).run P w= .ok (.pointer (some ⟨b,p+n.toNat*j.size,none⟩)) w:=by
 simp[Instr.indexAt,asIntOf,run_underlying hu,h0,hlt,jb hj,aW]
theorem EN{t e:TypeId}(w:World){len:Nat}(hu:P.underlying t=some (.array len e))(hj:TiOk P e j){k:IntKind}{n:Int}{b p:Nat}(h0:0<=n)(hlt:n<len):
  (Instr.indexAt t (.pointer (some ⟨b,p,none⟩)) (.int k n)).run P w= .ok (.pointer (some ⟨b,p+n.toNat*j.size,none⟩)) w:=by
 simp[Instr.indexAt,asIntOf,run_underlying hu,h0,hlt,jb hj,aW,Instr.sureAddr]
theorem xY{w:World}{r:Nat}{es:Array MapEntry}{ck:Nat}(hb:w.heap[r]? =some (.map es ck)):(getObj r).run P w= .ok (.map es ck) w:=by simp[getObj,Sem.run,hb]
theorem AP{u:Ty}(h:szB sz u=true):u.isEnt=false/\sz=u.size:=by
 unfold szB at h;cases hu:u.isEnt<;>rw[hu]at h
 .exact⟨rfl,bT h⟩
 .cases h
theorem WW{C:Cx}{t:Ty}{xs:List t.den}{l:Loc}{vw:Option (Nat×Nat)}{v:Value}(h0:t.isEnt=false)(ha:arrOk C t xs l)(hv:l.view vw v){i:Nat}{y:t.den}(hy:(cZ vw xs)[i]? =some y):
  ∃blk off len cap,l= .arr blk off len cap t.size/\xs[Qs vw+i]? =some y/\∃p c,v= .slice (some ⟨blk,p,none⟩) (cZ vw xs).length c/\p+i*t.size=off+(Qs vw+i)*t.size:=by
 cases l with
 |nil=>obtain⟨ha,_⟩:=ha;subst ha;rcases vw with _|⟨lo,hi⟩<;>simp[cZ,oG]at hy
 |st b=>cases ha|mp b=>exact absurd ha.1 (by simp[h0])|arr blk off len cap sz=>
  obtain⟨_,rfl,rfl,hc,_⟩:=ha;rcases vw with _|⟨lo,hi⟩
  .simp only[Loc.view]at hv;subst hv;exact⟨blk,off,_,cap,rfl,by simpa[Qs,cZ]using hy,off,cap,rfl,by simp[Qs]⟩
  .obtain⟨h1,h2,rfl⟩:=hv;have hl:(cZ (some (lo,hi)) xs).length=hi -lo:=by simp[cZ,oG];omega
   have hi' :i<hi -lo:=by rw[←hl];exact(Z5.1 hy).1
   have hx' :xs[lo+i]? =some y:=by
    simp only[cZ,oG,J7,N7]at hy;split at hy
    .exact hy
    .cases hy
   have hne:cap≠lo:=o5;exact⟨blk,off,_,cap,rfl,hx',off+lo*t.size,cap -lo,by rw[hl];simp[hne],by simp[Qs,D8];omega⟩
theorem OH(H:FxOk X)(R:Rel X cl ch S m ok a w){x ix:Operand}(ho:o.op= .indexAddr t x ix):(V5 X.E q o).post S (λ_ S' =>bV X cl ch o a w m ok S'):=by
 unfold V5;simp only[ho];refine P9 R λu hu=>P9 R λv hv=>?_;unfold JP;split<;>try trivial
 ·
  rename_i k n l sz hsz;obtain⟨e,j,hut,hj,hjs⟩:=xN H hsz;have hix:=kE hv;cases u<;>try trivial
  case sl u xs=>refine aG λhb=>aZ λy hy=>?_;obtain⟨hE0,hb'⟩:=AP hb;obtain⟨h0,hget,hlt,hlt'⟩:=zO hy;obtain⟨ad,cap,hx,hc,hel⟩:=(rF hE0).1 hu;simp only[E8,and_true]at hx;obtain⟨blk,off,es,rfl,hok,he,hr⟩:=hel _ y hget;refine U3 H R (v:=.dp u y 0) (x:=.pointer (some ⟨blk,off+n.toNat*u.size,none⟩)) ⟨blk,off+n.toNat*u.size,es,rfl,hok,he,hr⟩ ?_;simp[execOp,ho,hx,hix,lY w hut hj h0 hlt',hjs,hb']
  case own bx vw=>
   obtain⟨loc,hm,hview⟩:=hu;refine az ?_;split
   .rename_i ln sz' hSl;split<;>try trivial
    refine aP λhb=>⟨λhin=>?_,λ_=>trivial⟩;have hb' :=bT hb;have hin' :=of_decide_eq_true (show decide (0<=n/\n<ln)=true from hin);have hbx:=R.box (EW+bx);rw[hSl]at hbx;obtain⟨k',l',e,hm',hl⟩:=hbx;have e' :k' =bx:=o5;subst e';simp only at hm hm';rw[hm]at hm';cases hm';cases loc with
    |nil=>simp only at hl;omega|st b=>cases hl|mp b=>cases hl|arr blk off len cap sz2=>obtain⟨rfl,rfl⟩:=hl;simp only[Loc.view]at hview;refine U3 H R (v:=.ep k' (Y7 n) 0) (x:=.pointer (some ⟨blk,off+n.toNat*sz',none⟩)) ⟨blk,off,len,cap,sz',hm,by unfold Y7;omega,rfl⟩ ?_;simp[execOp,ho,hview,hix,lY w hut hj hin'.1 hin'.2,hjs,hb']
   refine az ?_;split<;>try trivial
   .rename_i u xs hS;refine aG λhb=>aZ λy hy=>?_;obtain⟨hE0,hb'⟩:=AP hb;obtain⟨h0,hget,hlt,hlt'⟩:=zO hy;obtain⟨loc',hm',ha⟩:=R.own_arr hS;simp only at hm;rw[hm]at hm';cases hm';obtain⟨blk,off,len,cap,rfl,hx2,p,c,hvv,hp⟩:=WW hE0 ha hview hget;have hlen:=ha.2.2.1;have hlt2:=(Z5.1 hx2).1;rw[a0i];refine U3 H R (v:=.ep bx (Qs vw+Y7 n) 0) (x:=.pointer (some ⟨blk,p+n.toNat*u.size,none⟩)) ⟨blk,off,len,cap,u.size,hm,by rw[hlen];exact hlt2,by rw[hp];rfl⟩ ?_;simp[execOp,ho,hvv,hix,lY w hut hj h0 hlt',hjs,hb']
   .rename_i u xs hS;refine aG λhb=>aZ λy hy=>?_;obtain⟨hE0,hb'⟩:=AP hb;obtain⟨h0,hget,hlt,hlt'⟩:=zO hy;obtain⟨loc',hm',ha,hok⟩:=R.own_frz hS;simp only at hm;rw[hm]at hm';cases hm';obtain⟨ad,cap,hx,hc,hel⟩:=(rF hE0).1 (ja (C:=⟨w.heap,ok,m⟩) ha hview (λ_ _ h=>h) hok);simp only[E8,and_true]at hx;obtain⟨blk,off,es,rfl,hok',he,hr⟩:=hel _ y hget;refine U3 H R (v:=.dp u y 0) (x:=.pointer (some ⟨blk,off+n.toNat*u.size,none⟩)) ⟨blk,off+n.toNat*u.size,es,rfl,hok',he,hr⟩ ?_;simp[execOp,ho,hx,hix,lY w hut hj h0 hlt',hjs,hb']
   .rename_i md xs hole hS;split<;>try trivial
    refine aP λhb=>aZ λy hy=>?_;have hb' :=bT hb;obtain⟨h0,hget,hlt,hlt'⟩:=zO hy;obtain⟨hel,loc',Os,hm',⟨ha,hho⟩,hk⟩:=R.own_barrs hS;simp only at hm;rw[hm]at hm';cases hm';cases loc with
    |st b=>cases ha|mp b=>cases ha|nil=>obtain⟨e1,_⟩:=ha;subst e1;simp at hlt
    |arr blk off len cap sz' =>obtain⟨rfl,rfl,h3,_⟩:=ha;simp only[Loc.view]at hview;refine U3 H R (v:=.ep bx (Y7 n) 0) (x:=.pointer (some ⟨blk,off+n.toNat*md.size,none⟩)) ⟨blk,off,xs.length,cap,md.size,hm,hlt,rfl⟩ ?_;simp[execOp,ho,hview,hix,lY w hut hj h0 hlt',hjs,hb']
 ·
  rename_i k n l sz hsz;obtain⟨e,j,hut,hj,hjs⟩:=SG H hsz;have hix:=kE hv;cases u<;>try trivial
  case glob g=>
   cases hg:Z4 X.E.gl g with
   |none=>simp only[hg];trivial|some p=>
   obtain⟨u,xs⟩:=p;simp only[hg];refine aG λhb=>aZ λy hy=>?_;simp only[o6]at hb;have hb1:=bT hb.1;have hb2:=bT hb.2;obtain⟨h0,hget,hlt,hlt'⟩:=zO hy;obtain⟨hok,_,hel⟩:=R.gl g _ hg;obtain⟨es,he,hr⟩:=hel _ y hget;have hx:a.eval x= .pointer (some ⟨g,0,none⟩):=hu;refine U3 H R (v:=.dp u y 0) (x:=.pointer (some ⟨g,0+n.toNat*u.size,none⟩)) ⟨g,n.toNat*u.size,es,o7,hok,he,hr⟩ ?_;have:=EN w hut hj (k:=k) (b:=g) (p:=0) h0 (by rw[hb2];exact hlt');simp only[hjs,hb1]at this;simp[execOp,ho,hx,hix,this]
  case ptr bx off=>refine⟨λhin=>?_,λ_=>trivial⟩;have hin' :=of_decide_eq_true (show decide (0<=n/\n<(l:Int))=true from hin);obtain⟨blk,hm,hx⟩:=hu;refine U3 H R (v:=.ptr bx (off+Y7 n*sz)) (x:=.pointer (some ⟨blk,off+n.toNat*sz,none⟩)) ⟨blk,hm,rfl⟩ ?_;have:=EN w hut hj (k:=k) (b:=blk) (p:=off) hin'.1 hin'.2;simp only[hjs]at this;simp[execOp,ho,hx,hix,this]
theorem XO{α β:Type}{f:α->β}{args:Array α}{u:β}(h:args.toList.map f=[u]):∃y,args=#[y]/\f y=u:=by obtain⟨l⟩:=args;simp only[List.map_eq_cons_iff,List.map_eq_nil_iff]at h;obtain⟨y,r,h1,h2,h3⟩:=h;subst h3;exact⟨y,by rw[h1],h2⟩
theorem JY{α β:Type}{f:α->β}{args:Array α}{u v:β}(h:args.toList.map f=[u,v]):∃y z,args=#[y,z]/\f y=u/\f z=v:=by obtain⟨l⟩:=args;simp only[List.map_eq_cons_iff,List.map_eq_nil_iff]at h;obtain⟨y,r,h1,h2,z,r',h3,h4,h5⟩:=h;subst h5;subst h3;exact⟨y,z,by rw[h1],h2,h4⟩
theorem a2g(H:FxOk X)(R:Rel X cl ch S m ok a w){c:Call}(ho:o.op= .call c)(hc:c.callee= .builtin .len):(V5 X.E q o).post S (λ_ S' =>bV X cl ch o a w m ok S'):=by
 obtain⟨cal,args,ats⟩:=c;simp only at hc;subst hc;unfold V5;simp only[ho];refine fQ R _ λvs hvs=>?_;split<;>try trivial
 rename_i t rt x hat
 obtain⟨u,r,he,hx,hr⟩:=hvs;simp only[cO]at hr;subst hr;refine fK H λi hi=>?_;have htd:=hi.td;obtain⟨y,rfl,rfl⟩:=XO he;have h0:ats[0]? =some t:=by
  obtain⟨l⟩:=ats;simp only at hat
  simp[hat]
 have fin:∀(v:V) (n:Nat),fH ⟨w.heap,ok,m⟩ v (.int .i64 n)->(Builtin.len_ ats o.type #[a.eval y]).run X.P w= .ok (.int .i64 n) w->(ax X.E o.dst v).post S (λ_ S' =>bV X cl ch o a w m ok S'):=λv n hv h=>
  U3 H R hv (by simp[execOp,ho,resolve,invoke,builtin,h])
 have mapLen:∀{ke e n:Nat},X.P.underlying t=some (.map ke e)->(∃mv,a.eval y= .map mv/\(mv=none->n=0)/\∀blk,mv=some blk->∃es ck,w.heap[blk]? =some (.map es ck)/\es.size=n)->
   (ax X.E o.dst (.i .i64 n)).post S (λ_ S' =>bV X cl ch o a w m ok S'):=λ{ke e n} hu ⟨mv,hv,h1,h2⟩=>by
  refine fin _ n rfl ?_;cases mv with
  |none=>rw[h1 rfl];simp[Builtin.len_,h0,run_underlying hu,hv,goInt]|some blk=>obtain⟨es,ck,h3,h4⟩:=h2 blk rfl;simp[Builtin.len_,h0,run_underlying hu,hv,goInt,xY h3,h4]
 unfold a4v;split<;>try trivial
 .rename_i l htd';rw[htd']at htd;refine fin _ l.length rfl ?_;simp[Builtin.len_,h0,run_underlying (show X.P.underlying t=some .string from htd),Ak hx,goInt];rfl
 .rename_i e u xs htd';rw[htd']at htd;cases hE0:u.isEnt
  .simp only[cond_false];obtain⟨ad,cap,hv,_⟩:=(rF hE0).1 hx;simp only[E8,and_true]at hv;refine fin _ xs.length rfl ?_;simp[Builtin.len_,h0,run_underlying (show X.P.underlying t=some (.slice e)from htd),hv,goInt]
  .trivial
 .rename_i ke e u xs htd';rw[htd']at htd;cases hE0:u.isEnt
  .trivial
  .simp only[cond_true];refine mapLen htd ?_;obtain⟨mv,hv,h1,h2⟩:=(TM hE0).1 hx;exact⟨mv,by simpa using hv,(λe=>by simp[h1 e]),λblk hb=>by obtain⟨_,es,ck,h3,h4,_⟩:=h2 blk hb;exact⟨es,ck,h3,h4⟩⟩
 .rename_i ke e bx htd';rw[htd']at htd;obtain⟨loc,hm,hview⟩:=hx;simp only at hm;refine az ?_;have key:∀{u:Ty} {xs:List u.den},u.isEnt=true->arrOk ⟨w.heap,ok,m⟩ u xs loc->(ax X.E o.dst (.i .i64 (x9 xs))).post S (λ_ S' =>bV X cl ch o a w m ok S'):=λ{u xs} hE0 ha=>by
   refine mapLen htd ?_;cases loc with
   |nil=>exact absurd ha.2 (by simp[hE0])|st b=>cases ha|arr blk off len cap sz=>exact absurd ha.1 (by simp[hE0])|mp b=>simp only[Loc.view]at hview;obtain⟨_,es,ck,h3,h4,_⟩:=ha;exact⟨some b,hview,(λh=>nomatch h),λblk hb=>by cases hb;exact⟨es,ck,h3,h4⟩⟩
  split<;>try trivial
  .rename_i u xs hS;obtain⟨loc',hm',ha⟩:=R.own_arr hS;rw[hm]at hm';cases hm';cases hE0:u.isEnt
   .trivial
   .exact key hE0 ha
  .rename_i u xs hS;obtain⟨loc',hm',ha,_⟩:=R.own_frz hS;rw[hm]at hm';cases hm';cases hE0:u.isEnt
   .trivial
   .exact key hE0 ha
 .rename_i e htd';rw[htd']at htd;have hv:a.eval y= .slice none 0 0:=hx;refine fin _ 0 rfl ?_;simp[Builtin.len_,h0,run_underlying (show X.P.underlying t=some (.slice e)from htd),hv,goInt]
 .rename_i e bx vw htd';rw[htd']at htd;obtain⟨loc,hm,hview⟩:=hx;refine az ?_;split
  .rename_i ln sz' hSl;split<;>try trivial
   have hbx:=R.box (EW+bx);rw[hSl]at hbx;obtain⟨k',l',e',hm',hl⟩:=hbx;have e2:k' =bx:=o5;subst e2;simp only at hm hm';rw[hm]at hm';cases hm';cases loc with
   |nil=>simp only at hl;subst hl;simp only[Loc.view]at hview;refine fin _ 0 rfl ?_;simp[Builtin.len_,h0,run_underlying (show X.P.underlying t=some (.slice e)from htd),hview,goInt]|st b=>cases hl|mp b=>cases hl|arr blk off len cap sz2=>obtain⟨rfl,rfl⟩:=hl;simp only[Loc.view]at hview;refine fin _ len rfl ?_;simp[Builtin.len_,h0,run_underlying (show X.P.underlying t=some (.slice e)from htd),hview,goInt]
  refine az ?_;have key:∀{u:Ty} {xs:List u.den},u.isEnt=false->arrOk ⟨w.heap,ok,m⟩ u xs loc->(ax X.E o.dst (.i .i64 (x9 (cZ vw xs)))).post S (λ_ S' =>bV X cl ch o a w m ok S'):=λ{u xs} hE0 ha=>by obtain⟨ad,cap,hv,_⟩:=(rF hE0).1 (ja (C:=⟨w.heap,ok,m⟩) (ok' :=λ_ _=>True) ha hview (λ_ _ _=>trivial) (λ_ _=>trivial));simp only[E8,and_true]at hv;refine fin _ (cZ vw xs).length rfl ?_;simp[Builtin.len_,h0,run_underlying (show X.P.underlying t=some (.slice e)from htd),hv,goInt]
  split<;>try trivial
  .rename_i u xs hS;obtain⟨loc',hm',ha⟩:=R.own_arr hS;simp only at hm;rw[hm]at hm';cases hm';cases hE0:u.isEnt
   .exact key hE0 ha
   .trivial
  .rename_i u xs hS;obtain⟨loc',hm',ha,_⟩:=R.own_frz hS;simp only at hm;rw[hm]at hm';cases hm';cases hE0:u.isEnt
   .exact key hE0 ha
   .trivial
  .rename_i md xs hole hS;split<;>try trivial
   obtain⟨hel,loc',Os,hm',⟨ha,hho⟩,hk⟩:=R.own_barrs hS;simp only at hm;rw[hm]at hm';cases hm';cases loc with
   |st b=>cases ha|mp b=>cases ha|nil=>obtain⟨e1,_⟩:=ha;subst e1;simp only[Loc.view]at hview;refine fin _ 0 rfl ?_;simp[Builtin.len_,h0,run_underlying (show X.P.underlying t=some (.slice e)from htd),hview,goInt]
   |arr blk off len cap sz' =>obtain⟨rfl,rfl,h3,_⟩:=ha;simp only[Loc.view]at hview;refine fin _ xs.length rfl ?_;simp[Builtin.len_,h0,run_underlying (show X.P.underlying t=some (.slice e)from htd),hview,goInt]
theorem Nz(H:FxOk X)(R:Rel X cl ch S m ok a w){c:Call}(ho:o.op= .call c)(hc:c.callee= .builtin .min\/c.callee= .builtin .max):(V5 X.E q o).post S (λ_ S' =>bV X cl ch o a w m ok S'):=by
 obtain⟨cal,args,ats⟩:=c;simp only at hc;rcases hc with rfl|rfl
 all_goals
  unfold V5;simp only[ho];refine fQ R _ λvs hvs=>?_;split<;>try trivial
  rename_i k p k' r;obtain⟨u,r',he,hx,v,r'',he',hy,hr⟩:=hvs;simp only[cO]at hr;subst hr;rw[he']at he;refine aG λhk=>?_;have hk' :k=k' :=of_decide_eq_true hk;subst hk';obtain⟨y,z,rfl,rfl,rfl⟩:=JY he
 .refine U3 H R (v:=.i k (zG p r)) rfl ?_;simp[execOp,ho,resolve,invoke,builtin,Builtin.min_,Builtin.min2,kE hx,kE hy,zG]
 .refine U3 H R (v:=.i k (ul p r)) rfl ?_;simp[execOp,ho,resolve,invoke,builtin,Builtin.max_,Builtin.max2,kE hx,kE hy,ul]
end
end Go.GP
namespace Go.GP
def Bnd(d:Int)(o:Option Value)(n:Int):Prop:=(o=none/\n=d)\/∃k,o=some (.int k n)
theorem uS{P:Program}{w:World}{isS:Bool}{len cap:Nat}{lo hi:Option Value}{x y:Int}(hlo:Bnd 0 lo x)(hhi:Bnd len hi y)(h0:0<=x)(h1:x<=y)(h2:y<=len)(hc:len<=cap):
  (Instr.sliceBounds isS len cap lo hi none).run P w= .ok (x.toNat,y.toNat,cap) w:=by
 have hyc:y<=cap:=o5;have hy0:0<=y:=o5;have e:((y.toNat:Nat):Int)=y:=o5;rcases hlo with⟨rfl,rfl⟩|⟨k,rfl⟩<;>rcases hhi with⟨rfl,rfl⟩|⟨k',rfl⟩
 .simp[Instr.sliceBounds]
 .simp[Instr.sliceBounds,Instr.sliceBound,asIntOf,hy0,hyc]
 .simp[Instr.sliceBounds,Instr.sliceBound,asIntOf,h0,h1]
 .simp[Instr.sliceBounds,Instr.sliceBound,asIntOf,hy0,hyc,h0,e,h1]
theorem Nh{α:Type}{l r:List α}{x y:Int}(h:rD l x y=some r):0<=x/\x<=y/\y<=l.length/\r=(l.take y.toNat).drop x.toNat:=by
 unfold rD at h;split at h
 .rename_i hh;cases h;exact⟨hh.1,hh.2.1,hh.2.2,rfl⟩
 .cases h
theorem LK(l:List UInt8)(x y:Nat):(⟨l.toArray⟩:ByteArray).extract x y=⟨((l.take y).drop x).toArray⟩:=by apply ByteArray.ext;apply dL;simp[ByteArray.data_extract,fO,bI]
theorem a0x{h:Array Obj}{ok:Nat->Ty->Prop}{t:Ty}(ht:t.isEnt=false){xs:List t.den}{ad:Option Addr}{cap:Nat}{x y:Nat}(hr:eG h ok (.sl t) xs [.slice ad xs.length cap])(h1:x<=y)(h2:y<=xs.length):
  eG h ok (.sl t) ((xs.take y).drop x) [.slice (if cap=x then ad else ad.map (·.add (x*t.size))) (y -x) (cap -x)]:=by
 obtain⟨ad',cap',e,hc,hel⟩:=(rF ht).1 hr;simp only[E8,Value.slice.injEq,and_true,true_and]at e;obtain⟨rfl,rfl⟩:=e;have hl:((xs.take y).drop x).length=y -x:=by simp;omega
 refine(rF ht).2 ⟨_,cap -x,by rw[hl],by rw[hl];omega,λi z hz=>?_⟩;have hi:i<y -x:=by rw[←hl];exact(Z5.1 hz).1
 have hz' :xs[x+i]? =some z:=by
  simp only[J7,N7]at hz;split at hz
  .exact hz
  .cases hz
 obtain⟨blk,off,es,rfl,hb,he,hrp⟩:=hel _ z hz';have hne:cap≠x:=o5;refine⟨blk,off+x*t.size,es,by simp[hne,aW],hb,?_,hrp⟩;rw[←he];congr 1;rw[D8];omega
section
variable {X:Fx} {cl ch:Nat} {S:Sm} {m:Mp} {ok:Nat->Ty->Prop} {a:Act} {w:World} {o:Oper}
theorem lG{C:Cx}{d n:Int}{v:Option V}{u:Option Value}(h:ql d v=some n)(hr:(v=none/\u=none)\/∃c x,v=some c/\u=some x/\fH C c x):Bnd d u n:=by
 rcases hr with⟨rfl,rfl⟩|⟨c,x,rfl,rfl,hr⟩
 .simp[ql]at h;subst h;exact .inl ⟨rfl,rfl⟩
 .cases c<;>simp[ql]at h;subst h;exact .inr ⟨_,by rw[kE hr]⟩
theorem wC(H:FxOk X)(R:Rel X cl ch S m ok a w){t:TypeId}{x:V}{u:Value}{lo hi:Option V}{lv hv:Option Value}(hx:fH ⟨w.heap,ok,m⟩ x u)
  (hlo:(lo=none/\lv=none)\/∃c y,lo=some c/\lv=some y/\fH ⟨w.heap,ok,m⟩ c y) (hhi:(hi=none/\hv=none)\/∃c y,hi=some c/\hv=some y/\fH ⟨w.heap,ok,m⟩ c y)
  {K:V->Cmd Unit} {Q:Unit->Sm->Prop} (hK:∀v z,fH ⟨w.heap,ok,m⟩ v z->(Instr.sliceAt t u lv hv none).run X.P w= .ok z w->(K v).post S Q):(Gs X.E t x lo hi K).post S Q:=by
 unfold Gs;cases x<;>try trivial
 case s l=>
  refine fK H λi hi' =>?_;have htd:=hi'.td;split<;>try trivial
  rename_i p q htd' hp hq;rw[htd']at htd;refine aZ λr hr=>?_;obtain⟨h0,h1,h2,rfl⟩:=Nh hr;have hb:=uS (P:=X.P) (w:=w) (isS:=false) (cap:=l.length) (lG hp hlo) (lG hq hhi) h0 h1 h2 (A7 _);refine hK (.s _) (.string ⟨((l.take q.toNat).drop p.toNat).toArray⟩) rfl ?_;have hus:X.P.underlying t=some .string:=htd;have hs:(⟨l.toArray⟩:ByteArray).size=l.length:=rfl;simp[Instr.sliceAt,run_underlying hus,Instr.slice,Ak hx,hs,hb,LK]
 case sl v l=>
  dsimp only;split<;>try trivial
  rename_i n sz p q hsz hp hq;obtain⟨e,j,hut,hj,hjs⟩:=xN H hsz;refine aG λhbq=>aZ λr hr=>?_;obtain⟨hE0,hbq'⟩:=AP hbq;obtain⟨h0,h1,h2,rfl⟩:=Nh hr;have hx' :eG w.heap ok (.sl v) l [u]:=hx;obtain⟨ad,cap,hu,hc,_⟩:=(rF hE0).1 hx';simp only[E8,and_true]at hu;subst hu;have hb:=uS (P:=X.P) (w:=w) (isS:=true) (cap:=cap) (lG hp hlo) (lG hq hhi) h0 h1 h2 hc;refine hK (.sl v _) _ (a0x hE0 (x:=p.toNat) (y:=q.toNat) hx' o5 o5) ?_;simp[Instr.sliceAt,run_underlying hut,Instr.slice,hb,jb hj,hjs,hbq']
 case own bx vw=>
  cases vw with
  |some _=>trivial|none=>
  obtain⟨loc,hm,hview⟩:=hx;refine az ?_;have key:∀{v:Ty} {xs:List v.den} {n sz:Nat} {p q:Int},arrOk ⟨w.heap,ok,m⟩ v xs loc->xM X.E t=some (false,n,sz)->ql 0 lo=some p->ql (x9 xs) hi=some q->
    (bif szB sz v then Cmd.br (uP p q (x9 xs)) (K (.own bx (some (Y7 p,Y7 q)))) .fail else .fail).post S Q:=λ{v xs n sz p q} ha hsz hp hq=>by
   obtain⟨e,j,hut,hj,hjs⟩:=xN H hsz;refine aG λhbq=>⟨λhr=>?_,λ_=>trivial⟩;obtain⟨hE0,hbq'⟩:=AP hbq;have hr' :=of_decide_eq_true (show decide (0<=p/\p<=q/\q<=x9 xs)=true from hr);obtain⟨h0,h1,h2⟩:=hr';have h2' :q<=(xs.length:Int):=h2;cases loc with
   |st b=>cases ha|mp b=>exact absurd ha.1 (by simp[hE0])|nil=>
    obtain⟨ha,_⟩:=ha;subst ha;simp only[Loc.view]at hview;subst hview;have h2'' :q<=((0:Nat):Int):=by simpa using h2'
    have hb:=uS (P:=X.P) (w:=w) (isS:=true) (len:=0) (cap:=0) (lG hp hlo) (by have:=lG hq hhi;simpa[x9]using this) h0 h1 h2'' (A7 _);have ep:p=0:=o5;have eq:q=0:=o5;subst ep;subst eq;refine hK (.own bx (some (Y7 0,Y7 0))) (.slice none 0 0) ⟨.nil,hm,rfl,rfl,rfl⟩ ?_;simp[Instr.sliceAt,run_underlying hut,Instr.slice,hb,jb hj]
   |arr blk off len cap sz' =>
    obtain⟨_,rfl,rfl,hc,_⟩:=ha;simp only[Loc.view]at hview;subst hview;have hb:=uS (P:=X.P) (w:=w) (isS:=true) (cap:=cap) (lG hp hlo) (lG hq hhi) h0 h1 h2' hc;refine hK (.own bx (some (Y7 p,Y7 q))) _ ⟨_,hm,by unfold Y7;omega,by unfold Y7;omega,rfl⟩ ?_;have e1:(if cap=p.toNat then some (⟨blk,off,none⟩:Addr)else some ⟨blk,off+p.toNat*v.size,none⟩)=some (if cap=p.toNat then⟨blk,off,none⟩else⟨blk,off+p.toNat*v.size,none⟩):=by split<;>rfl
    simp[Instr.sliceAt,run_underlying hut,Instr.slice,hb,jb hj,hjs,hbq',aW,Y7,e1];by_cases ecp:cap=p.toNat<;>simp[ecp]
  split<;>try trivial
  .rename_i v xs hS;obtain⟨loc',hm',ha⟩:=R.own_arr hS;simp only at hm;rw[hm]at hm';cases hm';split<;>try trivial
   rename_i n sz p q hsz hp hq;exact key ha hsz hp hq
  .rename_i v xs hS;obtain⟨loc',hm',ha,_⟩:=R.own_frz hS;simp only at hm;rw[hm]at hm';cases hm';split<;>try trivial
   rename_i n sz p q hsz hp hq;exact key ha hsz hp hq
theorem WF(H:FxOk X)(R:Rel X cl ch S m ok a w){t:TypeId}{x:Operand}{lo hi:Option Operand}{q:Nat}(ho:o.op= .slice t x lo hi none)
  (hA:∀bx,lo=none->hi=none->fH ⟨w.heap,ok,m⟩ (.ptr bx 0) (a.eval x)->(Lm X.E (H5 q o.dst) t bx λr=>ax X.E o.dst r).post S (λ_ S' =>bV X cl ch o a w m ok S')):(V5 X.E q o).post S (λ_ S' =>bV X cl ch o a w m ok S'):=by
 unfold V5;simp only[ho];refine P9 R λv hv=>fQ R _ λbs hbs=>?_;split<;>try trivial
 .split
  .exact hA _ rfl rfl hv
  refine wC H R (lv:=none) (hv:=none) hv (.inl ⟨rfl,rfl⟩) (.inl ⟨rfl,rfl⟩) λr z hr hz=>U3 H R hr ?_;simp[execOp,ho,hz]
 .rename_i l c;obtain⟨y,r,he,h1,h2⟩:=hbs;simp only[cO]at h2;subst h2;simp at he;subst he;refine wC H R (lv:=some (a.eval l)) (hv:=none) hv (.inr ⟨_,_,rfl,rfl,h1⟩) (.inl ⟨rfl,rfl⟩) λr z hr hz=>U3 H R hr ?_;simp[execOp,ho,hz]
 .rename_i h c;obtain⟨y,r,he,h1,h2⟩:=hbs;simp only[cO]at h2;subst h2;simp at he;subst he;refine wC H R (lv:=none) (hv:=some (a.eval h)) hv (.inl ⟨rfl,rfl⟩) (.inr ⟨_,_,rfl,rfl,h1⟩) λr z hr hz=>U3 H R hr ?_;simp[execOp,ho,hz]
 .rename_i l h c d;obtain⟨y,r,he,h1,y',r',he',h2,h3⟩:=hbs;simp only[cO]at h3;subst h3;subst he';simp at he;obtain⟨rfl,rfl⟩:=he;refine wC H R (lv:=some (a.eval l)) (hv:=some (a.eval h)) hv (.inr ⟨_,_,rfl,rfl,h1⟩) (.inr ⟨_,_,rfl,rfl,h2⟩) λr z hr hz=>U3 H R hr ?_;simp[execOp,ho,hz]
end
end Go.GP
