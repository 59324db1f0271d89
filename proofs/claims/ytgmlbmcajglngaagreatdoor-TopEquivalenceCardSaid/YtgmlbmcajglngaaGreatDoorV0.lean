import Derived.ProofKit
import Derived.Below
import Derived.Defers
import Derived.Laws.CopyRow
import Derived.Laws.BytesArg
import Derived.Laws.Cells
import Derived.Laws.Append
import Derived.Laws.Strings
import Derived.Lib.SmallJoins
set_option linter.all false
namespace Go.GP
abbrev d4C:Type:=List UInt8
abbrev d4D:Type:=List Int
abbrev d4E:Type:=List Value
abbrev d4F:Type:=List Nat
abbrev d4G:Type:=Option Bool
abbrev d4H:Type:=Option Int
variable {p:Prop}
theorem l7(h:p:=by omega):p:=h
theorem x9(h:p:=by simp):p:=h
theorem E5(h:p:=by decide):p:=h
theorem U3(h:p:=by simp;omega):p:=h
theorem J5:True:=trivial
def P9:=@List.take_succ_eq_append_getElem
def U9:=@Int.mul_le_mul_of_nonneg_right
def iy:=@Nat.and_two_pow_sub_one_eq_mod
def X7:=@Array.getD_eq_getD_getElem?
def dY:=@Int.add_mul_emod_self_right
def F6:=@List.getElem?_append_right
def qw:=@Array.getElem?_append_left
def I9:=@Array.getElem?_eq_some_iff
def kW:=@List.perm_ext_iff_of_nodup
def ig:=@Int.tmod_eq_emod_of_nonneg
def aG:=@List.drop_eq_getElem_cons
def G5:=@List.getElem?_append_left
def aF:=@Classical.byContradiction
def I5:=@Array.getElem?_eq_getElem
def lQ:=@List.pairwise_iff_getElem
def aj:=@List.getElem?_take_of_lt
def rP:=@List.Perm.eq_of_pairwise
def di:=@List.getElem?_cons_zero
def P5:=@List.length_eq_zero_iff
def ku:=@List.getElem?_cons_succ
def nN:=@Int.eq_ofNat_of_zero_le
def eQ:=@List.getElem?_replicate
def jq:=@List.drop_eq_nil_of_le
def bV:=@List.take_of_length_le
def oO:=@MapKept.run_setObj_map
def jr:=@List.range_succ_eq_map
def uu:=@List.pairwise_lt_range
def ax:=@List.getElem?_set_self
def oN:=@List.filter_eq_nil_iff
def bU:=@Int.add_mul_ediv_right
def oM:=@Int.ediv_eq_zero_of_lt
def uy:=@Nat.testBit_lt_two_pow
def X6:=@Option.map_eq_some_iff
def d4B:=@Nat.eq_of_beq_eq_true
def ed:=@List.mem_append_right
def gu:=@List.take_append_drop
def lC:=@List.perm_append_comm
def X4:=@Nat.le_of_ble_eq_true
def pK:=@Nat.ble_eq_true_of_le
def J7:=@Array.getElem?_toList
def dZ:=@List.length_filter_le
def uU:=@Int.le_ediv_of_mul_le
def Y8:=@Int.ediv_mul_add_emod
def pI:=@Int.ediv_lt_of_lt_mul
def jI:=@List.set_append_right
def iM:=@List.length_replicate
def Y6:=@List.mem_append_left
def X9:=@List.mem_cons_of_mem
def N9:=@Nat.mul_le_mul_right
def BU:=@List.replicate_succ'
def vM:=@MapKept.run_checkKey
def lX:=@List.range_eq_range'
def dJ:=@List.getElem?_of_mem
def fD:=@Nat.pow_le_pow_right
def vN:=@Nat.pow_lt_pow_right
def qG:=@Nat.eq_of_testBit_eq
def kz:=@List.replicate_succ
def ng:=@List.flatten_append
def Y5:=@List.getElem_of_mem
def O0:=@Array.length_toList
def dU:=@List.map_congr_left
def Y4:=@Int.toNat_of_nonneg
def nz:=@List.mergeSort_perm
def kC:=@Nat.testBit_two_pow
def J9:=@List.length_append
def kT:=@List.mem_cons_self
def aT:=@List.getElem?_take
def O8:=@List.getElem?_drop
def jK:=@Nat.eq_zero_or_pos
def Y9:=@Nat.lt_of_lt_of_le
def ah:=@List.pairwise_cons
def I7:=@List.mem_singleton
def U6:=@Int.emod_lt_of_pos
def sS:=@Nat.lt_of_le_of_lt
def sU:=@Nat.xor_lt_two_pow
def H8:=@List.nodup_append
def N7:=@Result.andThen_ok
def aB:=@List.ext_getElem?
def aQ:=@Bool.not_eq_true'
def J8:=@List.getElem?_set
def E9:=@Option.some.injEq
def G7:=@List.append_assoc
def lS:=@List.reverse_cons
def Y3:=@List.length_range
def ut:=@List.any_eq_false
def D9:=@Int.toNat_natCast
def H6:=@List.getElem?_map
def lT:=@List.take_add_one
def bg:=@List.mem_flatten
def A7:=@Bool.and_eq_true
def cO:=@List.cons_append
def H7:=@List.length_cons
def mW:=@List.ext_getElem
def qL:=@Nat.mod_eq_of_lt
def iR:=@List.range'_succ
def V7:=@List.take_length
def kG:=@List.all_eq_true
def P8:=@List.getElem_mem
def kH:=@Option.bind_some
def Z9:=@Option.getD_some
def Z8:=@Nat.le_add_right
def jy:=@List.not_mem_nil
def Fz:=@List.drop_length
def mV:=@List.any_eq_true
def bH:=@List.length_take
def fG:=@List.filter_cons
def gV:=@Int.ediv_le_self
def D6:=@List.mem_append
def G9:=@List.append_nil
def gz:=@Nat.le_max_left
def P6:=@List.nil_append
def J3:=@List.cons.injEq
def jh:=@Oper.upon_value
def jf:=@List.length_nil
def az:=@List.nodup_cons
def Ha:=@Nat.max_eq_left
def F8:=@Option.some.inj
def aY:=@List.map_append
def J4:=@List.length_map
def iC:=@Option.map_some
def gq:=@List.range_succ
def Y0:=@List.mem_filter
def gm:=@List.foldl_cons
def af:=@Int.ediv_nonneg
def X3:=@Int.emod_nonneg
def wG:=@Nat.testBit_and
def mi:=@List.drop_take
def bz:=@List.drop_drop
def bZ:=@List.nodup_nil
def Y7:=@List.mem_range
def X5:=@Int.mul_nonneg
def mg:=@Int.mul_le_mul
def C9:=@List.mem_cons
def jm:=@Nat.add_assoc
def bf:=@List.cons.inj
def qP:=@Nat.lt_irrefl
def aH:=@Prod.mk.injEq
def qO:=@Bool.true_and
def aS:=@List.map_cons
def lu:=@Bool.not_true
def ay:=@Nat.le_trans
def aU:=@Nat.sub_self
def bJ:=@Sem.run_pure
def H5:=@Sem.run_bind
def kL:=@Addr.add_lit
def bI:=@Nat.add_zero
def gQ:=@Nat.zero_add
def J6:=@List.mem_map
def pJ:=@List.map_map
def D5:=@Nat.le_refl
def U1:=@Nat.add_mul
def lU:=@Nat.zero_le
def iF:=@Nat.le_succ
def aW:=@Int.le_refl
def iE:=@Int.one_mul
def dA:=@Nat.blt_eq
def nO:=@Int.not_le
def jD:=@Int.not_lt
def Z7:=@Prod.ext
variable {i:Nat}
theorem U8{α:Type _}{l:List α}{a:α} :l[i]? =some a↔∃h:i<l.length,l[i]=a:=List.getElem?_eq_some_iff
theorem dE{α:Type _}{l:List α}(h:i<l.length):l[i]? =some l[i]:=List.getElem?_eq_getElem h
theorem ik{n m:Nat}(h:Nat.beq n m=true):n=m:=d4B h
theorem lM{α:Type _}{l:List α}{a:α}(h:l[i]? =some a):a∈l:=List.mem_of_getElem? h
theorem BG{α:Type _}{l:List α}{a:α} :l.getD i a=l[i]?.getD a:=List.getD_eq_getElem?_getD
universe u
set_option linter.unusedVariables false
inductive Ty where
 |bool|int (k:IntKind)|str|sl (t:Ty)|prod (a b:Ty)|unit|ent (ka va:Bool) (k v:Ty)|any (o:Option IntKind)
def tbb(a b:Bool):Bool:=bif a then b else !b
theorem b0H:∀{a b:Bool},tbb a b=true->a=b:=by decide
theorem a7X:∀(a:Bool),tbb a a=true:=by decide
def Ty.beq:Ty->Ty->Bool
 | .bool,b=>match b with| .bool=>true|_=>false
 | .int k,b=>match b with| .int k' =>decide (k=k')|_=>false
 | .str,b=>match b with| .str=>true|_=>false
 | .sl t,b=>match b with| .sl u=>Ty.beq t u|_=>false
 | .prod p q,b=>match b with| .prod p' q' =>bif Ty.beq p p' then Ty.beq q q' else false|_=>false
 | .unit,b=>match b with| .unit=>true|_=>false
 | .any o,b=>match b with| .any o' =>decide (o=o')|_=>false
 | .ent x y p q,b=>match b with| .ent x' y' p' q' =>bif tbb x x' &&tbb y y' then(bif Ty.beq p p' then Ty.beq q q' else false)else false|_=>false
theorem Ty.beq_eq:∀{a b:Ty},Ty.beq a b=true->a=b
 | .bool,b,h=>by cases b<;>first|rfl|cases h
 | .int k,b,h=>by cases b<;>first|(cases h;done)|(rename_i k';have:=of_decide_eq_true (show decide (k=k')=true from h);subst this;rfl)
 | .str,b,h=>by cases b<;>first|rfl|cases h
 | .sl t,b,h=>by cases b<;>first|(cases h;done)|(rename_i u;have:=Ty.beq_eq (show Ty.beq t u=true from h);subst this;rfl)
 | .prod p q,b,h=>by
  cases b<;>try (cases h;done)
  rename_i p' q';cases hp:Ty.beq p p'
  .have h' :(bif Ty.beq p p' then Ty.beq q q' else false)=true:=h;rw[hp]at h';cases h'
  .have h' :(bif Ty.beq p p' then Ty.beq q q' else false)=true:=h;rw[hp]at h';rw[Ty.beq_eq hp,Ty.beq_eq (show Ty.beq q q' =true from h')]
 | .unit,b,h=>by cases b<;>first|rfl|cases h
 | .any o,b,h=>by cases b<;>first|(cases h;done)|(rename_i o';have:=of_decide_eq_true (show decide (o=o')=true from h);subst this;rfl)
 | .ent x y p q,b,h=>by
  cases b<;>try (cases h;done)
  rename_i x' y' p' q';have h0:(bif tbb x x' &&tbb y y' then(bif Ty.beq p p' then Ty.beq q q' else false)else false)=true:=h;cases hx:tbb x x'<;>cases hy:tbb y y'<;>rw[hx,hy]at h0<;>try (cases h0;done)
  cases hp:Ty.beq p p'<;>rw[hp]at h0
  .cases h0
  .rw[b0H hx,b0H hy,Ty.beq_eq hp,Ty.beq_eq (show Ty.beq q q' =true from h0)]
theorem Ty.beq_refl:∀(a:Ty),Ty.beq a a=true
 | .bool=>rfl| .int k=>by show decide (k=k)=true;simp| .str=>rfl| .sl t=>Ty.beq_refl t| .prod p q=>by show(bif Ty.beq p p then Ty.beq q q else false)=true;rw[Ty.beq_refl p,Ty.beq_refl q];rfl| .unit=>rfl| .any o=>by show decide (o=o)=true;simp| .ent x y p q=>by show(bif tbb x x&&tbb y y then(bif Ty.beq p p then Ty.beq q q else false)else false)=true;rw[a7X,a7X,Ty.beq_refl p,Ty.beq_refl q];rfl
instance:DecidableEq Ty:=λa b=>match h:Ty.beq a b with
 |true=> .isTrue (Ty.beq_eq h)|false=> .isFalse (λe=>by subst e;rw[Ty.beq_refl]at h;cases h)
@[reducible] def Ty.den:Ty->Type
 | .bool=>Bool| .int _=>Int| .str=>d4C| .sl t=>List t.den| .prod a b=>a.den×b.den| .unit=>Unit| .any _=>Unit| .ent _ _ a b=>a.den×b.den
def Ty.isEnt:Ty->Bool| .ent ..=>true|_=>false
def Ty.size:Ty->Nat
 | .bool| .int _| .str| .sl _=>1| .prod a b=>a.size+b.size| .unit=>0| .any _=>1| .ent _ _ a b=>a.size+b.size
def Ty.flat:Ty->Bool
 | .bool| .int _| .str| .unit=>true| .sl _=>false| .prod a b=>a.flat&&b.flat
 | .ent ..=>false| .any _=>false
def Ty.zero:(t:Ty)->t.den
 | .bool=>false| .int _=>(0:Int)| .str=>[]| .sl _=>[]| .prod a b=>(a.zero,b.zero)| .unit=>()| .any _=>()| .ent _ _ a b=>(a.zero,b.zero)
inductive M where
 |dat (t:Ty)|own (t:Ty)|pair (a b:M)|unit|box (m:M)
 |owns (el:M)|ownb (t:Ty)|rp (t:Ty)|fn (f:Nat) (ts:List Ty)|ifc (t:Nat) (m:M)|cell (n:Option d4G)|lp (t:Ty)
def M.beq:M->M->Bool
 | .dat t,b=>match b with| .dat u=>Ty.beq t u|_=>false
 | .own t,b=>match b with| .own u=>Ty.beq t u|_=>false
 | .pair p q,b=>match b with| .pair p' q' =>bif M.beq p p' then M.beq q q' else false|_=>false
 | .unit,b=>match b with| .unit=>true|_=>false
 | .owns m,b=>match b with| .owns m' =>M.beq m m'|_=>false
 |_,_=>false
theorem M.beq_eq:∀{a b:M},M.beq a b=true->a=b
 | .dat t,b,h=>by cases b<;>first|(cases h;done)|(rename_i u;have:=Ty.beq_eq (show Ty.beq t u=true from h);subst this;rfl)
 | .own t,b,h=>by cases b<;>first|(cases h;done)|(rename_i u;have:=Ty.beq_eq (show Ty.beq t u=true from h);subst this;rfl)
 | .pair p q,b,h=>by
  cases b<;>try (cases h;done)
  rename_i p' q';cases hp:M.beq p p'
  .have h' :(bif M.beq p p' then M.beq q q' else false)=true:=h;rw[hp]at h';cases h'
  .have h' :(bif M.beq p p' then M.beq q q' else false)=true:=h;rw[hp]at h';rw[M.beq_eq hp,M.beq_eq (show M.beq q q' =true from h')]
 | .unit,b,h=>by cases b<;>first|rfl|cases h
 | .owns m,b,h=>by cases b<;>first|(cases h;done)|(rename_i u;have:=M.beq_eq (show M.beq m u=true from h);subst this;rfl)
 | .box _,b,h=>by cases h| .ownb _,b,h=>by cases h| .rp _,b,h=>by cases h| .fn _ _,b,h=>by cases h| .ifc _ _,b,h=>by cases h| .cell _,b,h=>by cases h| .lp _,b,h=>by cases h
@[reducible] def Xu:List Ty->Type
 |[]=>Unit|[t]=>t.den|t::t' ::r=>t.den×Xu (t' ::r)
@[reducible] def M.den:M->Type
 | .dat t=>t.den| .own t=>List t.den| .pair a b=>a.den×b.den| .unit=>Unit| .box m=>m.den| .owns el=>List el.den| .ownb t=>List t.den| .rp t=>t.den| .fn _ ts=>Xu ts| .ifc _ m=>m.den| .cell _=>Unit| .lp t=>t.den
def M.size:M->Nat
 | .dat t=>t.size| .own _=>1| .pair a b=>a.size+b.size| .unit=>0| .box _=>1| .owns _| .ownb _| .rp _| .fn _ _| .ifc _ _| .cell _| .lp _=>1
def M.el:M->Bool
 | .unit=>true| .dat t| .own t=> !t.isEnt| .owns m=>m.el| .pair a b=>a.el&&b.el|_=>false
def M.ty:M->Ty
 | .dat t=>t| .own t=> .sl t| .owns m=> .sl m.ty| .pair a b=> .prod a.ty b.ty|_=> .unit
theorem M.denEq:∀(m:M),m.el=true->m.den=m.ty.den
 | .dat _,_=>rfl| .own _,_=>rfl| .unit,_=>rfl| .owns m,h=>congrArg List (M.denEq m h)| .pair a b,h=>by
  have h' :a.el=true/\b.el=true:=by simpa[M.el]using h
  show(a.den×b.den)=(a.ty.den×b.ty.den);rw[M.denEq a h'.1,M.denEq b h'.2]
 | .box _,h=>by simp[M.el]at h| .ownb _,h=>by simp[M.el]at h| .rp _,h=>by simp[M.el]at h| .fn _ _,h=>by simp[M.el]at h| .ifc _ _,h=>by simp[M.el]at h| .cell _,h=>by simp[M.el]at h| .lp _,h=>by simp[M.el]at h
def M.zero:(m:M)->m.el=true->m.den
 |m,h=>cast (M.denEq m h).symm m.ty.zero
abbrev MG:=Bool×M
@[reducible] def bF:List MG->Type
 |[]=>Unit|[m]=>m.2.den|m::m' ::r=>m.2.den×bF (m' ::r)
inductive V where
 |undef
 |un
 |b (x:Bool)|i (k:IntKind) (n:Int)|s (l:d4C)
 |nl
 |sl (t:Ty) (xs:List t.den)
 |own (bx:Nat) (vw:Option (Nat×Nat))
 |ptr (bx off:Nat)
 |ep (bx idx off:Nat)
 |dp (t:Ty) (x:t.den) (off:Nat)
 |agg (cs:List V)|tup (cs:List V)
 |glob (g:Nat)|fnv (f:Nat)|idl (f n:Nat)|clos (f:Nat) (caps:List ((t:Ty)×t.den))|ifc (t:Nat) (v:V)
 |bcells (cs:List V)|barr (t:Ty) (xs:List t.den)|bfrz (t:Ty) (xs:List t.den)
 |barrs (el:M) (xs:List el.den) (hole:Option (Nat×Nat×Option Nat))|bfc (t:Ty) (x:t.den)
 |barrp (el:M) (xs:List el.den) (n:Int) (o:Nat)
 |dead|gone (t:Ty)|blen (n:Int) (sz:Nat)
 |ne (b:Bool)
variable {α:Type}{β:Type}
def o5(o:Option α)(f:α->Option β):Option β:=match o with|some x=>f x|none=>none
def l9(b:Bool)(x y:α):α:=match b with|true=>x|false=>y
def F7(a b:Int):Bool:=decide (a<b)
def S9(a b:Int):Bool:=decide (a<=b)
def x8(a b:Int):Bool:=decide (a=b)
def ji(a b:Bool):Bool:=a==b
def G6(a:Bool):Bool:=!a
def fF(a b:Bool):Bool:=a&&b
def seq(a b:d4C):Bool:=decide (a=b)
def slt(a b:d4C):Bool:=Op.bytesLess a b
def wrap(k:IntKind)(n:Int):Int:=k.wrap n
def A8(k:IntKind)(a b:Int):Int:=k.wrap (a+b)
def I8(k:IntKind)(a b:Int):Int:=k.wrap (a -b)
def aP(k:IntKind)(a b:Int):Int:=k.wrap (a*b)
def eH(k:IntKind)(a b:Int):Int:=k.wrap (a.tdiv b)
def fC(a b:Int):Int:=a.tmod b
def tZ(k:IntKind)(a b:Int):d4H:=if b=0 then none else some (k.wrap (a.tdiv b))
def BQ(a b:Int):d4H:=if b=0 then none else some (a.tmod b)
def dI(k:IntKind)(a b:Int):Int:=k.wrap (BitVec.ofInt k.bits a&&& BitVec.ofInt k.bits b).toNat
def ior(k:IntKind)(a b:Int):Int:=k.wrap (BitVec.ofInt k.bits a ||| BitVec.ofInt k.bits b).toNat
def Pm(k:IntKind)(a b:Int):Int:=k.wrap (BitVec.ofInt k.bits a^^^BitVec.ofInt k.bits b).toNat
def wo(k:IntKind)(a b:Int):Int:=k.wrap (BitVec.ofInt k.bits a&&& ~~~(BitVec.ofInt k.bits b)).toNat
def b5R(k:IntKind)(a b:Int):Int:=k.wrap (a*2^(min b.toNat k.bits))
def dR(k:IntKind)(a b:Int):Int:=a.fdiv (2^(min b.toNat k.bits))
def zt(k:IntKind)(a b:Int):d4H:=if b<0 then none else some (b5R k a b)
def Qd(k:IntKind)(a b:Int):d4H:=if b<0 then none else some (dR k a b)
def ww(a b:Int):Int:=if b<a then b else a
def qX(a b:Int):Int:=if a<b then b else a
def o9(l:List α):Int:=l.length
def d2B(a b:d4C):Option d4C:=if a.length+b.length<=4611686018427387904 then some (a++b)else none
def Px(a b:Nat):Bool:=Nat.beq a b
def inb(i n:Int):Bool:=decide (0<=i/\i<n)
def H9(l:List α)(i:Int):Option α:=if 0<=i then l[i.toNat]? else none
def sat(l:d4C)(i:Int):d4H:=if 0<=i then(l[i.toNat]?).map (λc=>(c.toNat:Int))else none
def P7(l:List α)(i:Nat):Option α:=l[i]?
def V8(l:List α)(i:Nat)(x:α):List α:=l.set i x
def LK(l:List α)(lo hi:Int):Option (List α):=if 0<=lo/\lo<=hi/\hi<=l.length then some ((l.take hi.toNat).drop lo.toNat)else none
def lJ(l:List α)(lo hi:Nat):List α:=(l.take hi).drop lo
def nG(lo hi n:Int):Bool:=decide (0<=lo/\lo<=hi/\hi<=n)
def fE(xs ys:List α):Option (List α):=if xs.length+ys.length<=1073741824 then some (xs++ys)else none
def lI(n:Int)(x:α):Option (List α):=if 0<=n/\n<=1073741824 then some (List.replicate n.toNat x)else none
def O9(i:Int):Nat:=i.toNat
def Yu(i:Int):Int:=i+1
def d4u(n:Int):UInt8:=UInt8.ofNat n.toNat
def b5p(l:d4D):d4C:=l.map d4u
def a1x(l:d4C):d4D:=l.map λc=>(c.toNat:Int)
def b1P{α β:Type}(eq:α->α->Bool):List (α×β)->α->β->β
 |[],_,z=>z|p::r,k,z=>bif eq k p.1 then p.2 else b1P eq r k z
def b1Q{α β:Type}(eq:α->α->Bool):List (α×β)->α->Bool
 |[],_=>false|p::r,k=>bif eq k p.1 then true else b1Q eq r k
def b1V{α β:Type}(eq:α->α->Bool):List (α×β)->α->β->List (α×β)
 |[],k,x=>[(k,x)]|p::r,k,x=>bif eq k p.1 then(k,x)::r else p::b1V eq r k x
def b1L{α β:Type}(eq:α->α->Bool):List (α×β)->α->List (α×β)
 |[],_=>[]|p::r,k=>bif eq k p.1 then r else p::b1L eq r k
def Pv(eq:α->α->Bool)(l:List (α×β))(k:α)(z:β):β:=b1P eq l k z
def c0F(eq:α->α->Bool)(l:List (α×β))(k:α):Bool:=b1Q eq l k
def SG(eq:α->α->Bool)(l:List (α×β))(k:α)(x:β):List (α×β):=b1V eq l k x
def Yw(eq:α->α->Bool)(l:List (α×β))(k:α):List (α×β):=b1L eq l k
def keq:(t:Ty)->t.den->t.den->Bool
 | .bool=>λa b=>ji a b
 | .int _=>λa b=>x8 a b
 | .str=>λa b=>seq a b
 | .prod p q=>λa b=>fF (keq p a.1 b.1) (keq q a.2 b.2)
 |_=>λ_ _=>true
inductive Out (σ ε ρ:Type) where
 |nx (s:σ)|ex (e:ε)|rt (r:ρ)
variable {σ:Type}{ε:Type}
def bn(o:σ⊕ε)(f:σ->α)(g:ε->α):α:=match o with| .inl s=>f s| .inr e=>g e
def qi{σ ε ρ:Type}(f:σ->Option (Out σ ε ρ)):Nat->σ->Option (ε⊕ρ)
 |0,_=>none
 |n+1,s=>match f s with
  |some (.nx s')=>qi f n s'|some (.ex e)=>some (.inl e)|some (.rt r)=>some (.inr r)|none=>none
def qC{σ ε:Type}(f:σ->Option (σ⊕ε)):Nat->σ->Option ε
 |0,_=>none
 |n+1,s=>match f s with
  |some (.inl s')=>qC f n s'|some (.inr e)=>some e|none=>none
def kK:Nat:=18446744073709551616
variable {ρ:Type}
def bD(f:σ->Option (Out σ ε ρ))(s:σ):Option (ε⊕ρ):=qi f kK s
def X8(f:σ->Option (σ⊕ε))(s:σ):Option ε:=qC f kK s
inductive Cmd (α:Type):Type 1 where
 |ret (x:α)
 |fail
 |get (k:Nat) (c:V->Cmd α)
 |set (k:Nat) (v:V) (c:Cmd α)
 |opt {β:Type} (o:Option β) (c:β->Cmd α)
 |br (b:Bool) (c d:Cmd α)
inductive Ent where
 |kv (k:Nat) (v:V)|mask (lo hi:Nat)
abbrev St:=List Ent
def Y1:St->Nat->V
 |[],_=> .undef| .kv k v::r,n=>bif Nat.beq k n then v else Y1 r n| .mask lo hi::r,n=>bif Nat.ble lo n&&Nat.blt n hi then .undef else Y1 r n
abbrev Tr:=d4F×d4F
variable {R:Type}
def V.force(v:V)(K:V->R):R:=
 match v with
 | .undef=>K .undef| .un=>K .un| .b x=>K (.b x)
 | .i k n=>match k with
  | .i8=>K (.i .i8 n)| .i16=>K (.i .i16 n)| .i32=>K (.i .i32 n)| .i64=>K (.i .i64 n)| .u8=>K (.i .u8 n)| .u16=>K (.i .u16 n)| .u32=>K (.i .u32 n)| .u64=>K (.i .u64 n)
 | .s l=>K (.s l)| .nl=>K .nl| .ne z=>K (.ne z)| .sl t xs=>K (.sl t xs)
 | .own bx vw=>match vw with|none=>K (.own bx none)|some p=>K (.own bx (some p))
 | .ptr bx off=>K (.ptr bx off)| .ep bx idx off=>K (.ep bx idx off)| .dp t x off=>K (.dp t x off)| .agg cs=>K (.agg cs)| .tup cs=>K (.tup cs)| .glob g=>K (.glob g)| .fnv f=>K (.fnv f)| .idl f n=>K (.idl f n)| .clos f bs=>K (.clos f bs)
 | .ifc t v=>v.force λv=>K (.ifc t v)
 | .barrs t xs h=>match h with|none=>K (.barrs t xs none)|some (p1,p2,p3)=>match p3 with|none=>K (.barrs t xs (some (p1,p2,none)))|some p3=>K (.barrs t xs (some (p1,p2,some p3)))
 | .bfc t x=>K (.bfc t x)| .barrp m xs n o=>K (.barrp m xs n o)| .bcells cs=>K (.bcells cs)| .barr t xs=>K (.barr t xs)| .bfrz t xs=>K (.bfrz t xs)| .dead=>K .dead| .gone t=>K (.gone t)| .blen n sz=>K (.blen n sz)
def WM{R:Type} :List V->(List V->R)->R
 |[],K=>K []
 |v::r,K=>v.force λv' =>WM r λr' =>K (v' ::r')
def V.force2(v:V)(K:V->R):R:=
 v.force λv=>match v with
  | .agg cs=>WM cs λcs=>K (.agg cs)
  | .bcells cs=>WM cs λcs=>K (.bcells cs)
  | .tup cs=>WM cs λcs=>K (.tup cs)|v=>K v
def Cmd.runK :Cmd α->St->Tr->(α->St->Tr->Option R)->Option R
 | .ret x,s,t,K=>K x s t| .fail,_,_,_=>none
 | .get k c,s,t,K=>(Y1 s k).force λv=>(c v).runK s (k::t.1,t.2) K
 | .set k v c,s,t,K=>v.force2 λv=>c.runK (.kv k v::s) (t.1,k::t.2) K
 | .opt o c,s,t,K=>o5 o λx=>(c x).runK s t K| .br b c d,s,t,K=>l9 b (c.runK s t K) (d.runK s t K)
def Cmd.bind :Cmd α->(α->Cmd β)->Cmd β
 | .ret x,f=>f x| .fail,_=> .fail
 | .get k c,f=> .get k λv=>(c v).bind f| .set k v c,f=> .set k v (c.bind f)
 | .opt o c,f=> .opt o λx=>(c x).bind f| .br b c d,f=> .br b (c.bind f) (d.bind f)
inductive TD where
 |bool|int (k:IntKind)|str
 |sl (elem:Nat)|ptr (elem:Nat)
 |struct (fs:List (Nat×Nat))
 |arr (n elem:Nat)
 |map (key elem:Nat)
 |other
structure TI where
 size:Nat
 bytes:Nat
 td:TD
 ty:Option Ty
 zero:List V
def fZ{α:Type} :List (Nat×α)->Nat->Option α
 |[],_=>none|(k,v)::r,n=>bif Nat.beq k n then some v else fZ r n
structure FSpec where
 ps:List MG
 rs:List MG
 outs:List MG
 fn:bF ps->Option (bF (rs++outs))
structure Env where
 nt:Nat
 eqs:List (Nat×List Ty)
 tt:List (Nat×TI)
 gl:List (Nat×(t:Ty)×List t.den)
 fs:List (Nat×FSpec)
 om:List (Nat×M):=[]
 tk:d4F:=[]
 ms:List ((Nat×String)×Nat×Option Nat):=[]
 kp:d4F:=[]
 rc:d4F:=[]
 pl:List (Nat×Nat×Nat):=[]
abbrev Z4:Nat:=1000000
abbrev CB:Nat:=1000000
abbrev TG:Nat:=1000000000000
def Ty.castL{R:Type u}(a b:Ty)(xs:List a.den)(k:List b.den->R)(f:R):R:=if h:a=b then k (h▸xs)else f
def ZJ{R:Type u}(a b:Ty)(x:a.den)(k:b.den->R)(f:R):R:=if h:a=b then k (h▸x)else f
def flat:(t:Ty)->t.den->List V->List V
 | .bool,x,r=> .b x::r| .int k,n,r=> .i k n::r| .str,l,r=> .s l::r| .sl t,xs,r=> .sl t xs::r| .prod a b,x,r=>flat a x.1 (flat b x.2 r)| .unit,_,r=>r| .any _,_,r=> .undef::r| .ent _ _ a b,x,r=>flat a x.1 (flat b x.2 r)
def lF(vw:Option (Nat×Nat))(xs:List α):List α:=match vw with|none=>xs|some (lo,hi)=>lJ xs lo hi
def OO:(m:M)->m.den->List V->List V
 | .dat t,x,r=>flat t x r| .pair a b,x,r=>OO a x.1 (OO b x.2 r)| .unit,_,r=>r|_,_,r=> .undef::r
def a2f{R:Type u}(a b:M)(xs:List a.den)(k:List b.den->R)(f:R):R:=match h:M.beq a b with
 |true=>k (M.beq_eq h▸xs)|false=>f
def a8O{R:Type u}(m:M)(t:Ty)(xs:List m.den)(k:List t.den->R)(f:R):R:=
 if h:m.el=true/\m.ty=t then k (cast (congrArg List ((M.denEq m h.1).trans (congrArg Ty.den h.2))) xs)else f
def M.owned:M->List Ty
 | .own t=>[t]| .owns m=>m.ty::m.owned| .pair a b=>a.owned++b.owned|_=>[]
def a5C(ln:Ty->Bool):List Ty->Bool|[]=>true|t::r=>bif ln t then a5C ln r else false
def qF{α:Type}(ln:Ty->Bool):(t:Ty)->List V->(t.den->List V->Cmd α)->Cmd α
 | .bool,cs,K=>match cs with| .b x::r=>K x r|_=> .fail
 | .int k,cs,K=>match cs with| .i k' n::r=>(bif decide (k=k')then K n r else Cmd.fail)|_=> .fail
 | .str,cs,K=>match cs with| .s l::r=>K l r|_=> .fail
 | .prod a b,cs,K=>qF ln a cs λx r=>qF ln b r λy r' =>K (x,y) r'| .unit,cs,K=>K () cs
 | .any none,cs,K=>match cs with|_::r=>K () r|_=> .fail
 | .any (some k),cs,K=>match cs with| .i k' _::r=>bif decide (k=k')then K () r else Cmd.fail|_=> .fail
 | .ent ..,_,_=> .fail
 | .sl t,cs,K=>match cs with
  | .nl::r=>bif t.isEnt then .fail else K [] r| .sl t' xs::r=>Ty.castL t' t xs (λys=>K ys r) Cmd.fail
  | .own bx vw::r=> .get (Z4+bx) λ
   | .barr t' xs=>Ty.castL t' t xs (λys=>bif ln t then K (lF vw ys) r else Cmd.set (Z4+bx) (.bfrz t ys) (K (lF vw ys) r)) Cmd.fail| .bfrz t' xs=>Ty.castL t' t xs (λys=>K (lF vw ys) r) Cmd.fail| .barrs el xs none=>a8O el t xs (λys=>bif ln t&&a5C ln el.owned then K (lF vw ys) r else Cmd.set (Z4+bx) (.bfrz t ys) (K (lF vw ys) r)) Cmd.fail|_=> .fail
  |_=> .fail
def EO:Ty->Bool:=λ_=>false
def b4b(t:Ty)(v:V)(K:List t.den->Cmd α):Cmd α:=match v with
 | .nl=>bif t.isEnt then .fail else K []| .ne _=>bif t.isEnt then .fail else K []| .sl t' xs=>Ty.castL t' t xs K Cmd.fail
 | .own bx vw=> .get (Z4+bx) λ
  | .barr t' xs=>Ty.castL t' t xs (λys=>K (lF vw ys)) Cmd.fail| .bfrz t' xs=>Ty.castL t' t xs (λys=>K (lF vw ys)) Cmd.fail|_=> .fail
 |_=> .fail
def rpC(t:Ty)(v:V)(K:t.den->Cmd α):Cmd α:=match v with
 | .dp t' x 0=>ZJ t' t x K .fail
 | .ptr bx 0=> .get (Z4+bx) λ
  | .bfc t' x=>ZJ t' t x K .fail
  | .bcells bs=>qF EO t bs λx q=>(match q with
   |[]=> .get (Z4+bx) λ
    | .bcells _=>Cmd.set (Z4+bx) (.bfc t x) (K x)|_=> .fail
   |_=> .fail)
  |_=> .fail
 |_=> .fail
def lpC(ln:Ty->Bool)(t:Ty)(v:V)(K:t.den->Cmd α):Cmd α:=match v with
 | .dp t' x 0=>ZJ t' t x K .fail
 | .ptr bx 0=> .get (Z4+bx) λ
  | .bcells bs=>bif ln t then qF ln t bs λx q=>(match q with
   |[]=> .get (Z4+bx) λ
    | .bcells _=>K x|_=> .fail
   |_=> .fail)else .fail
  |_=> .fail
 |_=> .fail
def TM{α:Type} :(ts:List Ty)->List ((t:Ty)×t.den)->(Xu ts->Cmd α)->Cmd α
 |[],cs,K=>match cs with|[]=>K ()|_=> .fail
 |[t],cs,K=>match cs with|[⟨t',x⟩]=>ZJ t' t x K .fail|_=> .fail
 |t::t' ::r,cs,K=>match cs with
  |⟨u,x⟩::cs=>ZJ u t x (λx=>TM (t' ::r) cs λy=>K (x,y)) .fail|[]=> .fail
def Xr:(ts:List Ty)->Xu ts->List ((t:Ty)×t.den)
 |[],_=>[]|[t],x=>[⟨t,x⟩]|t::t' ::r,x=>⟨t,x.1⟩::Xr (t' ::r) x.2
def exM{α:Type}(ln:Ty->Bool):(m:M)->List V->(m.den->List V->Cmd α)->Cmd α
 | .dat t,cs,K=>qF ln t cs K
 | .own t,cs,K=>match cs with
  | .nl::r=>bif t.isEnt then .fail else K [] r
  | .own bx vw::r=> .get (Z4+bx) λ
   | .barr t' xs=>Ty.castL t' t xs (λys=>Cmd.set (Z4+bx) .dead (K (lF vw ys) r)) Cmd.fail|_=> .fail
  |_=> .fail
 | .pair a b,cs,K=>exM EO a cs λx r=>exM EO b r λy r' =>K (x,y) r'| .unit,cs,K=>K () cs
 | .box m,cs,K=>match cs with
  | .ptr bx 0::r=> .get (Z4+bx) λ
   | .bcells bs=>Cmd.set (Z4+bx) .dead (exM EO m bs λx q=>match q with|[]=>K x r|_=> .fail)|_=> .fail
  |_=> .fail
 | .owns m,cs,K=>match cs with
  | .nl::r=>bif m.el then K [] r else .fail
  | .own bx none::r=> .get (Z4+bx) λ
   | .barrs m' xs none=>a2f m' m xs (λys=>Cmd.set (Z4+bx) .dead (K ys r)) Cmd.fail| .barrp m' xs n _=>a2f m' m xs (λys=> .br (S9 (o9 xs) n) (Cmd.set (Z4+bx) .dead (K ys r)) .fail) Cmd.fail|_=> .fail
  |_=> .fail
 | .ownb t,cs,K=>match cs with
  | .nl::r=>bif t.isEnt then .fail else K [] r
  | .own bx none::r=> .get (Z4+bx) λ
   | .barr t' xs=>Ty.castL t' t xs (λys=>Cmd.set (Z4+bx) (.gone t) (K ys r)) Cmd.fail|_=> .fail
  |_=> .fail
 | .rp t,cs,K=>match cs with
  |v::r=>rpC t v λx=>K x r|_=> .fail
 | .fn f ts,cs,K=>match cs with
  | .clos g caps::r=>bif Nat.beq g f then TM ts caps λx=>K x r else .fail
  | .fnv g::r=>bif Nat.beq g f then TM ts [] λx=>K x r else .fail|_=> .fail
 | .ifc t m,cs,K=>match cs with
  | .ifc t' v::r=>bif Nat.beq t' t then exM EO m [v] λx q=>(match q with|[]=>K x r|_=> .fail)else .fail|_=> .fail
 | .cell (some none),cs,K=>match cs with
  | .nl::r=>K () r|_=> .fail
 | .cell (some (some b)),cs,K=>match cs with
  | .ne true::r=>bif b then K () r else .fail| .ne false::r=>bif b then .fail else K () r|_=> .fail
 | .cell none,cs,K=>match cs with
  |_::r=>K () r|_=> .fail
 | .lp t,cs,K=>match cs with
  |v::r=>lpC ln t v λx=>K x r|_=> .fail
def cellsOf(v:V):List V:=match v with| .agg cs=>cs|v=>[v]
def xQ(n:Nat)(v:V)(K:Cmd α):Cmd α:=.get (Z4+n) λ
 | .undef=> .set (Z4+n) v K|_=> .fail
def emM{α:Type} :(m:M)->m.den->Nat->List V->(List V->Nat->Cmd α)->Cmd α
 | .dat t,x,n,r,K=>K (flat t x r) n| .own t,xs,n,r,K=>xQ n (.barr t xs) (K (.own n none::r) (n+1))
 | .pair a b,x,n,r,K=>emM b x.2 n r λr' n' =>emM a x.1 n' r' K| .unit,_,n,r,K=>K r n
 | .box m,x,n,r,K=>emM m x (n+1) [] λcs n' =>xQ n (.bcells cs) (K (.ptr n 0::r) n')| .owns m,xs,n,r,K=>xQ n (.barrs m xs none) (.set (Z4+(TG+n)) (.blen (o9 xs) m.size) (K (.own n none::r) (n+1)))| .ownb t,xs,n,r,K=>xQ n (.barr t xs) (K (.own n none::r) (n+1))| .rp t,x,n,r,K=>K (.dp t x 0::r) n| .fn f ts,x,n,r,K=>K (.clos f (Xr ts x)::r) n
 | .ifc t m,x,n,r,K=>emM m x n [] λcs n' =>match cs with|[c]=>K (.ifc t c::r) n'|_=> .fail
 | .cell (some none),_,n,r,K=>K (.nl::r) n| .cell (some (some b)),_,n,r,K=>K (.ne b::r) n| .cell none,_,n,r,K=>K (.undef::r) n| .lp t,x,n,r,K=>K (.dp t x 0::r) n
structure Sig where
 ms:List (Nat×MG)
 als:List (Nat×Nat×Option (Nat×Nat×Nat×Nat))
@[reducible] def jY (s:Sig):Type:=bF (s.ms.map (·.2))
def a3N(ag:Bool)(v:V)(K:List V->Cmd α):Cmd α:=match ag,v with
 |true,.agg cs=>K cs|true,_=> .fail|false,.agg _=> .fail|false,.tup _=> .fail|false,.undef=> .fail|false,.un=> .fail|false,v=>K [v]
def Ls(v:V)(K:List V->Cmd α):Cmd α:=match v with
 | .agg cs=>K cs| .tup _=> .fail| .undef=> .fail| .un=> .fail|v=>K [v]
def M.isDat:M->Bool| .dat _=>true| .lp _=>true|_=>false
def h_(ln:Ty->Bool)(m:MG)(v:V)(K:m.2.den->Cmd α):Cmd α:=
 a3N m.1 v λcs=>exM ln m.2 cs λx q=>match q with|[]=>K x|_=> .fail
def OL{α:Type}(ln:Ty->Bool):(ms:List MG)->List V->(bF ms->Cmd α)->Cmd α
 |[],vs,K=>match vs with|[]=>K ()|_=> .fail
 |[m],vs,K=>match vs with
  |[v]=>h_ ln m v K|_=> .fail
 |m::m' ::r,vs,K=>match vs with
  |v::vs=>bif m.2.isDat then OL ln (m' ::r) vs λy=>h_ ln m v λx=>K (x,y)
   else h_ ln m v λx=>OL ln (m' ::r) vs λy=>K (x,y)
  |[]=> .fail
def a4c{α:Type} :d4F->(List V->Cmd α)->Cmd α
 |[],K=>K []
 |s::r,K=>bif Nat.blt s Z4 then .get s λv=>a4c r λvs=>K (v::vs)else .fail
def c3t:V->V->Bool
 | .own a none,.own b none=>Nat.beq a b|_,_=>false
def mkV(ag:Bool)(cs:List V):V:=match ag,cs with|true,cs=> .agg cs|false,[v]=>v|false,_=> .undef
def Il{α:Type} :(ms:List MG)->bF ms->Nat->(List V->Nat->Cmd α)->Cmd α
 |[],_,n,K=>K [] n
 |[m],x,n,K=>emM m.2 x n [] λcs n' =>K [mkV m.1 cs] n'
 |m::m' ::r,x,n,K=>emM m.2 x.1 n [] λcs n' =>Il (m' ::r) x.2 n' λvs n'' =>K (mkV m.1 cs::vs) n''
def Lc:d4F->List V->Cmd Unit->Cmd Unit
 |[],[],K=>K|n::ns,v::vs,K=>bif Nat.blt n Z4 then .set n v (Lc ns vs K)else .fail|_,_,_=> .fail
def a8E:Value->V
 | .bool b=> .b b| .int k n=> .i k n| .string s=> .s s.data.toList| .slice none 0 0=> .nl|_=> .undef
def wK(x:Operand)(K:V->Cmd α):Cmd α:=
 match x with
 | .tmp t=>bif Nat.blt t Z4 then .get t K else .fail| .const v=>K (a8E v)| .global g=>K (.glob g)| .func f=>K (.fnv f)
def OV{α:Type} :List Operand->(List V->Cmd α)->Cmd α
 |[],K=>K []
 |x::r,K=>wK x λv=>OV r λvs=>K (v::vs)
def a_(n:Nat)(cs:List V):Option (List V):=match n,cs with
 |0,cs=>some cs|n+1,_::cs=>a_ n cs|_+1,[]=>none
def a7V{R:Type u}(n:Nat)(cs:List V)(K:List V->R)(f:R):R:=match n,cs with
 |0,_=>K []|n+1,c::cs=>a7V n cs (λr=>K (c::r)) f|_+1,[]=>f
def YA{R:Type u}(off n:Nat)(cs:List V)(K:List V->R)(f:R):R:=match a_ off cs with|some r=>a7V n r K f|none=>f
def Vw{R:Type u}(off:Nat)(vs cs:List V)(K:List V->R)(f:R):R:=match off,vs,cs with
 |0,[],cs=>K cs|0,v::vs,_::cs=>Vw 0 vs cs (λr=>K (v::r)) f|n+1,vs,c::cs=>Vw n vs cs (λr=>K (c::r)) f|_,_,[]=>f
def Je:Operand->Bool
 | .const (.int _ n)=>decide (n=0)|_=>true
def MJ:Operand->Bool
 | .const (.int _ n)=>decide (n<0)|_=>true
def eq1:V->V->d4G
 | .b x,.b y=>some (ji x y)| .i j x,.i k y=>bif decide (j=k)then some (x8 x y)else none| .s x,.s y=>some (seq x y)|_,_=>none
def EC:List V->List V->d4G
 |[],[]=>some true
 |a::r,b::q=>match eq1 a b with
  |none=>none
  |some e=>match r,q with
   |[],[]=>some e|_,_=>(match EC r q with|some e' =>some (fF e e')|none=>none)
 |_,_=>none
def EZ:List Ty->List V->Bool
 |[],[]=>true| .bool::ts,.b _::cs=>EZ ts cs| .int k::ts,.i k' _::cs=>decide (k=k')&&EZ ts cs| .str::ts,.s _::cs=>EZ ts cs|_,_=>false
def He(n:Nat):d4F->Bool|[]=>false|k::r=>bif Nat.beq k n then true else He n r
def b6t(E:Env)(t:Nat)(op:BinOp)(b:Bool)(K:V->Cmd α):Cmd α:=
 match fZ E.tt t with
 |some i=>match i.td,op with
  | .sl _,.eql=>K (.b b)| .sl _,.neq=>K (.b (G6 b))|_,_=> .fail
 |none=> .fail
def PM(E:Env)(t:Nat)(op:BinOp)(yc:Operand)(x y:V)(K:V->Cmd α):Cmd α:=
 match x,y with
 | .i k a,.i k' b=>
  match op with
  | .shl=>bif MJ yc then Cmd.opt (zt k a b) λr=>K (.i k r)else K (.i k (b5R k a b))
  | .shr=>bif MJ yc then Cmd.opt (Qd k a b) λr=>K (.i k r)else K (.i k (dR k a b))|_=>
  bif decide (k=k')then
   match op with
   | .add=>K (.i k (A8 k a b))| .sub=>K (.i k (I8 k a b))| .mul=>K (.i k (aP k a b))
   | .quo=>bif Je yc then Cmd.opt (tZ k a b) λr=>K (.i k r)else K (.i k (eH k a b))
   | .rem=>bif Je yc then Cmd.opt (BQ a b) λr=>K (.i k r)else K (.i k (fC a b))| .and=>K (.i k (dI k a b))| .or=>K (.i k (ior k a b))| .xor=>K (.i k (Pm k a b))| .andNot=>K (.i k (wo k a b))| .eql=>K (.b (x8 a b))| .neq=>K (.b (G6 (x8 a b)))| .lss=>K (.b (F7 a b))| .leq=>K (.b (S9 a b))| .gtr=>K (.b (F7 b a))| .geq=>K (.b (S9 b a))|_=> .fail
  else .fail
 | .s a,.s b=>
  match op with
  | .add=>Cmd.opt (d2B a b) λr=>K (.s r)| .eql=>K (.b (seq a b))| .neq=>K (.b (G6 (seq a b)))| .lss=>K (.b (slt a b))|_=> .fail
 | .b a,.b b=>
  match fZ E.tt t with
  |some i=>match i.td,op with
   | .bool,.eql=>K (.b (ji a b))| .bool,.neq=>K (.b (G6 (ji a b)))|_,_=> .fail
  |none=> .fail
 | .agg xs,.agg ys=>
  match fZ E.eqs t with
  |some sh=>bif EZ sh xs&&EZ sh ys then(match op,EC xs ys with
   | .eql,some e=>K (.b e)| .neq,some e=>K (.b (G6 e))
   |_,_=> .fail)else .fail
  |none=> .fail
 | .nl,.nl=>b6t E t op true K| .ne b,.nl=>b6t E t op b K| .sl u xs,.nl=>bif u.isEnt then .fail else .br (x8 (o9 xs) 0) .fail (b6t E t op false K)|_,_=> .fail
def unC(op:UnOp)(x:V)(K:V->Cmd α):Cmd α:=
 match op,x with
 | .neg,.i k a=>K (.i k (I8 k 0 a))| .xor,.i k a=>K (.i k (Pm k (bif k.signed then -1 else k.max) a))| .not,.b a=>K (.b (G6 a))|_,_=> .fail
def OU(E:Env)(t:Nat):Bool:=bif Nat.blt t E.nt then !(He t E.kp)else false
def gW(E:Env)(d:Option Tmp)(v:V):Cmd Unit:=match d with|some t=>bif OU E t then .set t v (.ret ())else .fail|none=> .ret ()
def U2(q:Nat)(d:Option Tmp):Nat:=match d with|some t=>CB*q+64*t|none=>CB*q+999936
def tiC(E:Env)(t:Nat)(K:TI->Cmd α):Cmd α:=match fZ E.tt t with|some i=>K i|none=> .fail
def dX:TD->Bool| .struct _| .arr _ _=>true|_=>false
def MN(E:Env)(t:Nat)(p:V)(K:V->Cmd α):Cmd α:=
 tiC E t λi=>match p with
 | .ptr bx off=> .get (Z4+bx) λ
  | .bcells cs=>YA off i.size cs (λr=>K (mkV (dX i.td) r)) Cmd.fail| .bfc u x=>YA off i.size (flat u x []) (λr=>K (mkV (dX i.td) r)) Cmd.fail|_=> .fail
 | .ep bx idx off=> .get (Z4+bx) λ
  | .barr u xs=>Cmd.opt (P7 xs idx) λx=>YA off i.size (flat u x []) (λr=>K (mkV (dX i.td) r)) Cmd.fail
  | .bfrz u xs=>Cmd.opt (P7 xs idx) λx=>YA off i.size (flat u x []) (λr=>K (mkV (dX i.td) r)) Cmd.fail
  | .barrs m xs _=>Cmd.opt (P7 xs idx) λx=>YA off i.size (OO m x []) (λr=>K (mkV (dX i.td) r)) Cmd.fail|_=> .fail
 | .dp u x off=>YA off i.size (flat u x []) (λr=>K (mkV (dX i.td) r)) Cmd.fail|_=> .fail
def XX{R:Type u} :(m:M)->Nat->m.den->(V->R)->R->R
 | .own t,off,xs,K,f=>bif Nat.beq off 0 then K (.barr t xs)else f| .owns m,off,xs,K,f=>bif Nat.beq off 0 then K (.barrs m xs none)else f| .pair a b,off,x,K,f=>bif Nat.blt off a.size then XX a off x.1 K f else XX b (off -a.size) x.2 K f|_,_,_,_,f=>f
def K_{R:Type u} :(m:M)->Nat->V->m.den->(m.den->R)->R->R
 | .own t,off,v,_,K,f=>bif Nat.beq off 0 then(match v with| .barr t' ys=>Ty.castL t' t ys K f| .nl=>bif t.isEnt then f else K []|_=>f)else f| .owns m,off,v,_,K,f=>bif Nat.beq off 0 then(match v with| .barrs m' ys none=>a2f m' m ys K f| .nl=>K []|_=>f)else f| .pair a b,off,v,x,K,f=>bif Nat.blt off a.size then K_ a off v x.1 (λy=>K (y,x.2)) f else K_ b (off -a.size) v x.2 (λy=>K (x.1,y)) f|_,_,_,_,_,f=>f
def b3h{α:Type} :(m:M)->Nat->List V->m.den->(m.den->Cmd α)->Cmd α
 | .dat t,off,vs,x,K=>bif t.flat then Vw off vs (flat t x []) (λr=>qF EO t r λy q=>match q with|[]=>K y|_=> .fail) .fail else .fail| .pair a b,off,vs,x,K=>bif Nat.blt off a.size then b3h a off vs x.1 (λy=>K (y,x.2))else b3h b (off -a.size) vs x.2 (λy=>K (x.1,y))|_,_,_,_,_=> .fail
def M.ownAt:M->Nat->Bool
 | .own _,off=>Nat.beq off 0| .owns _,off=>Nat.beq off 0| .pair a b,off=>bif Nat.blt off a.size then a.ownAt off else b.ownAt (off -a.size)|_,_=>false
def M.firstOwn(m:M):Nat->Nat->Option Nat
 |_,0=>none|off,n+1=>bif m.ownAt off then some off else m.firstOwn (off+1) n
def a4T:Nat->V->List V->List V
 |_,_,[]=>[]|0,v,_::cs=>v::cs|n+1,v,c::cs=>c::a4T n v cs
def a9w(o n:Nat)(v:V):V:=match v with
 | .agg cs=> .agg (a4T o (.own n none) cs)|v=>v
def tkD(E:Env)(d:Option Nat):Bool:=match d with|some t=>OU E t&&He t E.tk|none=>false
def x_(h:Option (Nat×Nat×Option Nat))(idx off:Nat):Bool:=match h with|none=>true|some (i,o,_)=>bif Nat.beq o off then Px i idx else false
def c2t(E:Env)(d:Option Tmp)(nm t:Nat)(p:V)(K:V->Cmd α):Cmd α:=
 match p with
 | .ep bx idx off=> .get (Z4+bx) λ
  | .barrs m xs none=>bif m.ownAt off then tiC E t λi=>(bif Nat.beq i.size 1&&!dX i.td then
     (bif He (match d with|some d=>d|none=>Z4) E.tk then
      Cmd.opt (P7 xs idx) λx=>XX m off x (λv=>Cmd.set (Z4+bx) (.barrs m xs (some (idx,off,none))) (xQ nm v (Cmd.set (Z4+bx) (.barrs m xs (some (idx,off,some nm))) (K (.own nm none))))) .fail
     else qF EO (.sl m.ty) [.own bx none] λ_ _=>MN E t p K)else .fail)
    else bif tkD E d then tiC E t λi=>(match m.firstOwn off i.size with
     |none=>MN E t p K
     |some o=>bif dX i.td&&Nat.ble (off+i.size) m.size then Cmd.opt (P7 xs idx) λx=>XX m o x (λv=>Cmd.set (Z4+bx) (.barrs m xs (some (idx,o,none))) (xQ nm v (Cmd.set (Z4+bx) (.barrs m xs (some (idx,o,some nm))) (MN E t p λu=>K (a9w (o -off) nm u))))) .fail else .fail)
    else MN E t p K
  | .barrs m xs (some (i,o,some n))=>bif m.ownAt off then tiC E t λj=>(bif Nat.beq j.size 1&&!dX j.td then
     .br (x_ (some (i,o,some n)) idx off) (K (.own n none)) .fail else .fail)
    else bif tkD E d then tiC E t λj=>(match m.firstOwn off j.size with
     |none=>MN E t p K
     |some o' =>bif dX j.td&&Nat.ble (off+j.size) m.size then .br (x_ (some (i,o,some n)) idx o') (MN E t p λu=>K (a9w (o' -off) n u)) .fail else .fail)
    else MN E t p K
  |_=>MN E t p K
 |_=>MN E t p K
def b5Q:V->Bool| .barr ..=>true| .barrs _ _ none=>true|_=>false
def a3Q(bx:Nat)(K:Cmd α):Cmd α:=.get (Z4+bx) λ
 | .barrs _ _ (some (_,_,some n))=> .get (Z4+n) λw=>bif b5Q w then Cmd.set (Z4+n) .dead (.get (Z4+bx) λ
  | .barrs m xs (some (i,o,some _))=>Cmd.opt (P7 xs i) λx=>K_ m o w x (λy=>Cmd.set (Z4+bx) (.barrs m (V8 xs i y) none) K) .fail
  |_=> .fail)else .fail
 |_=>K
def Wx{α:Type} :List V->Cmd α->Cmd α
 |[],K=>K
 |v::r,K=>match v with
  | .own bx none=>a3Q bx (Wx r K)|_=>Wx r K
def Nu{α:Type} :List V->Cmd α->Cmd α
 |[],K=>K
 |v::r,K=>match v with
  | .own bx none=>a3Q bx (Nu r K)
  | .ptr bx 0=> .get (Z4+bx) λ
   | .bcells cs=>Wx cs (Nu r K)|_=>Nu r K
  | .agg cs=>Wx cs (Nu r K)|_=>Nu r K
def b1p(c:Nat)(u:V)(K:Nat->Cmd α):Cmd α:=match u with
 | .own b none=>K b
 | .ptr pb 0=> .get (Z4+pb) λ
  | .bcells cs=>YA c 1 cs (λr=>match r with|[.own b none]=>K b|_=> .fail) .fail|_=> .fail
 |_=> .fail
def c1T(b sz:Nat)(K:Cmd α):Cmd α:=.get (Z4+b) λ
 | .barrs m _ _=>bif Nat.beq m.size sz then K else .fail| .barr t _=>bif Nat.beq t.size sz then K else .fail|_=> .fail
def b2X{α:Type} :List (Nat×Nat×Option (Nat×Nat×Nat×Nat))->Cmd α->Cmd α
 |[],K=>K
 |(n,k,none)::r,K=>bif Nat.blt n Z4&&Nat.blt k Z4 then .get n λv=> .get k λu=>bif c3t v u then b2X r K else .fail else .fail
 |(n,k,some (c,j,o,sz))::r,K=>bif Nat.blt n Z4&&Nat.blt k Z4&&Nat.blt j Z4 then .get n λv=> .get k λu=> .get j λx=>(match v,x with
  | .ep b' i o',.i _ y=>b1p c u λb=>bif Nat.beq o' o&&Nat.beq b' b then c1T b sz (.br (Px i (O9 y)) (b2X r K) .fail)else .fail
  |_,_=> .fail)else .fail
def j_(s:Sig):Cmd (jY s):=b2X s.als (a4c (s.ms.map (·.1)) λvs=>Nu vs (OL EO (s.ms.map (·.2)) vs .ret))
def Xm:List (Nat×Nat×Option (Nat×Nat×Nat×Nat))->Cmd Unit
 |[]=> .ret ()
 |(n,k,none)::r=>bif Nat.blt n Z4&&Nat.blt k Z4 then .get k λv=> .set n v (Xm r)else .fail
 |(n,k,some (c,j,o,sz))::r=>bif Nat.blt n Z4&&Nat.blt k Z4&&Nat.blt j Z4 then .get k λu=> .get j λx=>(match x with
  | .i _ y=>b1p c u λb=>c1T b sz (.set n (.ep b (O9 y) o) (Xm r))
  |_=> .fail)else .fail
def b5F(s:Sig)(x:jY s)(nb lim:Nat):Cmd Unit:=
 Il (s.ms.map (·.2)) x nb λvs n=>bif Nat.ble n lim then Lc (s.ms.map (·.1)) vs (Xm s.als)else .fail
def a5f(bx idx off:Nat)(m:M)(xs:List m.den)(hole:Option (Nat×Nat×Option Nat))(v:V)(K:Cmd Unit):Cmd Unit:=
 .br (x_ hole idx off) (Cmd.opt (P7 xs idx) λx=>K_ m off v x (λy=>Cmd.set (Z4+bx) (.barrs m (V8 xs idx y) none) K) .fail) .fail
def b9m(E:Env)(t:Nat)(p v:V):Cmd Unit:=
 tiC E t λi=>match p with
 | .ptr bx off=> .get (Z4+bx) λ
  | .bcells cs=>Ls v λvs=>bif Nat.beq vs.length i.size then Vw off vs cs (λr=>Cmd.set (Z4+bx) (.bcells r) (.ret ())) Cmd.fail else .fail|_=> .fail
 | .ep bx idx off=> .get (Z4+bx) λ
  | .barr u xs=>Cmd.opt (P7 xs idx) λx=>Ls v λvs=>bif Nat.beq vs.length i.size then Vw off vs (flat u x []) (λr=>
    qF EO u r λy q=>match q with
     |[]=> .get (Z4+bx) λ
      | .barr u' xs' =>Ty.castL u' u xs' (λxs' =>Cmd.set (Z4+bx) (.barr u (V8 xs' idx y)) (.ret ())) Cmd.fail|_=> .fail
     |_=> .fail) Cmd.fail else .fail
  | .barrs m xs hole=>bif m.ownAt off&&Nat.beq i.size 1&&!dX i.td then(match v with
    | .nl=>a5f bx idx off m xs hole .nl (.ret ())
    | .own b2 none=> .get (Z4+b2) λw=>bif b5Q w then Cmd.set (Z4+b2) .dead (.get (Z4+bx) λ
     | .barrs m xs hole=>a5f bx idx off m xs hole w (.ret ())
     |_=> .fail)else .fail
    |_=> .fail)
   else match hole with
    |none=>Ls v λvs=>bif Nat.beq vs.length i.size then Cmd.opt (P7 xs idx) λx=>b3h m off vs x λy=>Cmd.set (Z4+bx) (.barrs m (V8 xs idx y) none) (.ret ())else .fail|some _=> .fail
  | .barrp _ _ _ o=>bif Nat.beq off o&&Nat.beq i.size 1&&!dX i.td then(match v with
    | .own b2 none=> .get (Z4+b2) λw=>bif b5Q w then Cmd.set (Z4+b2) .dead (.get (Z4+bx) λ
     | .barrp m xs n o=> .br (Px idx (O9 n)) (Cmd.opt (P7 xs idx) λx=>K_ m off w x (λy=>Cmd.set (Z4+bx) (.barrp m (V8 xs idx y) (Yu n) o) (.ret ())) .fail) .fail
     |_=> .fail)else .fail
    |_=> .fail)else .fail
  |_=> .fail
 |_=> .fail
def szB(sz:Nat)(u:Ty):Bool:=bif u.isEnt then false else Nat.beq sz u.size
def UL(E:Env)(t f:Nat):Option (Nat×Nat×Bool):=
 match fZ E.tt t with
 |some i=>match i.td with
  | .struct fs=>match fs[f]? with
   |some (ft,off)=>match fZ E.tt ft with|some j=>bif Nat.beq j.size 0 then none else some (off,j.size,dX j.td)|none=>none
   |none=>none
  |_=>none
 |none=>none
def a6F(vw:Option (Nat×Nat)):Nat:=match vw with|none=>0|some (lo,_)=>lo
def c4x(vw:Option (Nat×Nat))(n:Nat):Nat:=match vw with|none=>n|some (lo,_)=>lo+n
theorem c0y(vw:Option (Nat×Nat))(n:Nat):c4x vw n=a6F vw+n:=by cases vw<;>simp[c4x,a6F]
def Nz(E:Env)(t:Nat):Option (Bool×Nat×Nat):=
 match fZ E.tt t with
 |some i=>match i.td with
  | .sl e=>match fZ E.tt e with|some j=>some (false,0,j.size)|none=>none
  | .arr n e=>match fZ E.tt e with|some j=>some (true,n,j.size)|none=>none
  |_=>none
 |none=>none
def B_(E:Env)(t:Nat)(x ix:V)(K:V->Cmd α):Cmd α:=
 match ix,Nz E t with
 | .i _ n,some (false,_,sz)=>match x with
  | .sl u xs=>bif szB sz u then Cmd.opt (H9 xs n) λy=>K (.dp u y 0)else .fail
  | .own bx vw=> .get (Z4+(TG+bx)) λ
   | .blen ln sz' =>(match vw with|none=>bif Nat.beq sz sz' then .br (inb n ln) (K (.ep bx (O9 n) 0)) .fail else .fail|_=> .fail)
   |_=> .get (Z4+bx) λ
   | .barr u xs=>bif szB sz u then Cmd.opt (H9 (lF vw xs) n) λ_=>K (.ep bx (c4x vw (O9 n)) 0)else .fail
   | .bfrz u xs=>bif szB sz u then Cmd.opt (H9 (lF vw xs) n) λy=>K (.dp u y 0)else .fail| .barrs m xs _=>(match vw with|none=>bif Nat.beq sz m.size then Cmd.opt (H9 xs n) λ_=>K (.ep bx (O9 n) 0)else .fail|_=> .fail)| .barrp m xs _ _=>(match vw with|none=>bif Nat.beq sz m.size then Cmd.opt (H9 xs n) λ_=>K (.ep bx (O9 n) 0)else .fail|_=> .fail)|_=> .fail
  |_=> .fail
 | .i _ n,some (true,l,sz)=>match x with
  | .glob g=>match fZ E.gl g with
   |some ⟨u,xs⟩=>bif Nat.beq sz u.size&&Nat.beq l xs.length then Cmd.opt (H9 xs n) λy=>K (.dp u y 0)else .fail|none=> .fail
  | .ptr bx off=> .br (inb n l) (K (.ptr bx (off+O9 n*sz))) .fail|_=> .fail
 |_,_=> .fail
def c8j(td:TD)(x:V)(K:V->Cmd α):Cmd α:=
 match td,x with
 | .str,.s l=>K (.i .i64 (o9 l))| .sl _,.sl t xs=>bif t.isEnt then .fail else K (.i .i64 (o9 xs))| .map ..,.sl t xs=>bif t.isEnt then K (.i .i64 (o9 xs))else .fail
 | .map ..,.own bx none=> .get (Z4+bx) λ
  | .barr t xs=>bif t.isEnt then K (.i .i64 (o9 xs))else .fail| .bfrz t xs=>bif t.isEnt then K (.i .i64 (o9 xs))else .fail|_=> .fail
 | .sl _,.nl=>K (.i .i64 0)
 | .sl _,.own bx vw=> .get (Z4+(TG+bx)) λ
  | .blen ln _=>(match vw with|none=>K (.i .i64 ln)|_=> .fail)
  |_=> .get (Z4+bx) λ
  | .barr t xs=>bif t.isEnt then .fail else K (.i .i64 (o9 (lF vw xs)))| .bfrz t xs=>bif t.isEnt then .fail else K (.i .i64 (o9 (lF vw xs)))| .barrs _ xs _=>(match vw with|none=>K (.i .i64 (o9 xs))|_=> .fail)| .barrp _ xs _ _=>(match vw with|none=>K (.i .i64 (o9 xs))|_=> .fail)|_=> .fail
 |_,_=> .fail
def FH(d:Int):Option V->d4H
 |none=>some d|some (.i _ n)=>some n|some _=>none
def Xo(E:Env)(t:Nat)(x:V)(lo hi:Option V)(K:V->Cmd α):Cmd α:=
 match x with
 | .s l=>tiC E t λi=>match i.td,FH 0 lo,FH (o9 l) hi with
  | .str,some a,some b=>Cmd.opt (LK l a b) λr=>K (.s r)|_,_,_=> .fail
 | .sl u l=>match Nz E t,FH 0 lo,FH (o9 l) hi with
  |some (false,_,sz),some a,some b=>bif szB sz u then Cmd.opt (LK l a b) λr=>K (.sl u r)else .fail|_,_,_=> .fail
 | .own bx none=> .get (Z4+bx) λ
  | .barr u xs=>match Nz E t,FH 0 lo,FH (o9 xs) hi with
   |some (false,_,sz),some a,some b=>bif szB sz u then .br (nG a b (o9 xs)) (K (.own bx (some (O9 a,O9 b)))) .fail else .fail|_,_,_=> .fail
  | .bfrz u xs=>match Nz E t,FH 0 lo,FH (o9 xs) hi with
   |some (false,_,sz),some a,some b=>bif szB sz u then .br (nG a b (o9 xs)) (K (.own bx (some (O9 a,O9 b)))) .fail else .fail|_,_,_=> .fail
  |_=> .fail
 |_=> .fail
def a7Y{α:Type}(u:Ty):Nat->List V->(List u.den->Cmd α)->Cmd α
 |0,cs,K=>match cs with|[]=>K []|_=> .fail
 |n+1,cs,K=>qF EO u cs λx r=>a7Y u n r λxs=>K (x::xs)
def a0U(E:Env)(nm t bx:Nat)(K:V->Cmd Unit):Cmd Unit:=tiC E t λi=>match i.td with
 | .arr n e=>tiC E e λj=>(match j.ty with
  |some u=>bif u.flat then .get (Z4+bx) λ
   | .bcells cs=>a7Y u n cs λxs=>Cmd.set (Z4+bx) .dead (xQ nm (.barr u xs) (K (.own nm none)))|_=> .fail
   else .fail
  |none=> .fail)
 |_=> .fail
def Ju(E:Env)(t:Nat):Option (Nat×Ty):=
 match fZ E.tt t with
 |some i=>match i.td with
  | .sl e=>match fZ E.tt e with
   |some j=>match j.ty with|some u=>bif (Nat.beq u.size j.size&&Nat.ble j.bytes 65536&&!u.isEnt)then some (e,u)else none|none=>none
   |none=>none
  |_=>none
 |none=>none
def YF(nm:Nat)(u:Ty)(x:V)(ys:List u.den)(K:V->Cmd Unit):Cmd Unit:=
 match x with
 | .nl=>Cmd.opt (fE [] ys) λzs=>xQ nm (.barr u zs) (K (.own nm none))
 | .own bx vw=> .get (Z4+bx) λ
  | .barr u' xs=>Ty.castL u' u xs (λxs=>Cmd.opt (fE (lF vw xs) ys) λzs=>Cmd.set (Z4+bx) .dead (xQ nm (.barr u zs) (K (.own nm none)))) Cmd.fail|_=> .fail
 |_=> .fail
def b1l(E:Env)(nm:Nat)(t:Nat)(x:V)(l:d4C)(K:V->Cmd Unit):Cmd Unit:=
 match Ju E t with
 |some (_,.int .u8)=>(match fZ E.om t with|none=>YF nm (.int .u8) x (a1x l) K|some _=> .fail)|_=> .fail
def b5x(E:Env)(nm:Nat)(t:Nat)(l:d4C)(K:V->Cmd Unit):Cmd Unit:=
 match Ju E t with
 |some (e,.int .u8)=>tiC E e λk=>(match k.td with
  | .int .u8=>xQ nm (.barr (.int .u8) (a1x l)) (K (.own nm none))
  |_=> .fail)
 |_=> .fail
def b1k(E:Env)(nm:Nat)(t:Nat)(x y:V)(K:V->Cmd Unit):Cmd Unit:=
 match Ju E t with
 |none=> .fail
 |some (_,u)=>match fZ E.om t with
  |none=>b4b u y λys=>YF nm u x ys K
  |some m=>bif Nat.beq m.size u.size then exM EO (.owns m) [y] λys _=>exM EO (.owns m) [x] λxs _=>Cmd.opt (fE xs ys) λzs=>xQ nm (.barrs m zs none) (K (.own nm none))else .fail
def Dz{α:Type}(u:Ty):List (Nat×V)->Nat->Nat->(List u.den->Cmd α)->Cmd α
 |[],_,0,K=>K []
 |(i,v)::r,n,m+1,K=>bif Nat.beq i n then Ls v λcs=>qF EO u cs λx q=>match q with|[]=>Dz u r (n+1) m λxs=>K (x::xs)|_=> .fail else .fail
 |_,_,_,_=> .fail
def Ai{α:Type}(m:M):List (Nat×V)->Nat->Nat->(List m.den->Cmd α)->Cmd α
 |[],_,0,K=>K []
 |(i,v)::r,n,k+1,K=>bif Nat.beq i n then Ls v λcs=>exM EO m cs λx q=>match q with|[]=>Ai m r (n+1) k λxs=>K (x::xs)|_=> .fail else .fail
 |_,_,_,_=> .fail
def b1e(E:Env):List (Nat×Nat)->Bool
 |[]=>true
 |(t,_)::r=>match fZ E.tt t with|some _=>b1e E r|none=>false
def Hu{α:Type}(E:Env)(t:Nat):List (Nat×V)->List V->(List V->Cmd α)->Cmd α
 |[],cs,K=>K cs
 |(f,v)::r,cs,K=>match UL E t f with
  |some (off,n,_)=>Ls v λvs=>bif Nat.beq vs.length n then Vw off vs cs (λcs' =>Hu E t r cs' K) .fail else .fail|none=> .fail
def PK{α:Type}(sz:Nat):List (Nat×V)->List V->(List V->Cmd α)->Cmd α
 |[],cs,K=>K cs
 |(i,v)::r,cs,K=>Ls v λvs=>bif Nat.beq vs.length sz then Vw (i*sz) vs cs (λcs' =>PK sz r cs' K) .fail else .fail
def aX{α:Type} :List MG->List V->List V->Cmd α->Cmd α
 |(_,.box _)::ms,.ptr bx _::vs,.agg cs::os,K=> .get (Z4+bx) λ
  | .dead=>Cmd.set (Z4+bx) (.bcells cs) (aX ms vs os K)|_=> .fail
 |(_,.box _)::_,_,_,_=> .fail
 |(_,.ifc _ (.box _))::ms,.ifc _ (.ptr bx _)::vs,.agg cs::os,K=> .get (Z4+bx) λ
  | .dead=>Cmd.set (Z4+bx) (.bcells cs) (aX ms vs os K)|_=> .fail
 |(_,.ifc _ (.box _))::_,_,_,_=> .fail
 |(_,.ownb _)::ms,.own bx none::vs,.own nm none::os,K=> .get (Z4+nm) λ
  | .barr u xs=>Cmd.set (Z4+nm) .dead (.get (Z4+bx) λ
   | .gone t=>Ty.castL u t xs (λxs=>Cmd.set (Z4+bx) (.barr t xs) (aX ms vs os K)) .fail
   |_=> .fail)
  |_=> .fail
 |(_,.ownb _)::ms,.nl::vs,.own nm none::os,K=>Cmd.set (Z4+nm) .dead (aX ms vs os K)|(_,.ownb _)::_,_,_,_=> .fail|_::ms,_::vs,os,K=>aX ms vs os K|[],[],[],K=>K|_,_,_,_=> .fail
def Ty.occ(t:Ty):Ty->Bool
 | .sl u=>decide (t=u) || Ty.occ t u| .prod a b=>Ty.occ t a || Ty.occ t b| .ent _ _ a b=>Ty.occ t a || Ty.occ t b|_=>false
def XU(t:Ty):List Ty->Bool|[]=>false|u::r=>decide (t=u) || Ty.occ t u || XU t r
def M.occ(t:Ty):M->Bool
 | .dat u=>Ty.occ t u| .own u=>Ty.occ t u| .pair a b=>a.occ t || b.occ t| .unit=>false| .box m=>m.occ t| .owns m=>m.occ t| .ownb u=>Ty.occ t u| .rp u=>decide (t=u) || Ty.occ t u| .fn _ ts=>XU t ts| .ifc _ m=>m.occ t| .cell _=>false| .lp u=>decide (t=u) || Ty.occ t u
def Qo(t:Ty):List MG->Bool|[]=>false|m::r=>m.2.occ t || Qo t r
def Gg(s:FSpec):Ty->Bool:=λt=> !(Qo t s.rs || Qo t s.outs)
def Gq:Nat->List V->Option (List V×List V)
 |0,vs=>some ([],vs)
 |n+1,v::vs=>match Gq n vs with|some (a,b)=>some (v::a,b)|none=>none
 |_+1,[]=>none
def Ep:List V->Bool|[]=>false| .tup _::_=>true|_::r=>Ep r
def a7x:List V->V|[v]=>v|vs=> .tup vs
def TR:List MG->List V->Bool
 |(_,.fn g _)::ms,.clos f _::vs=>Nat.beq f g&&TR ms vs|(_,.fn g _)::ms,.fnv f::vs=>Nat.beq f g&&TR ms vs|(_,.ifc t _)::ms,.ifc t' _::vs=>Nat.beq t t' &&TR ms vs|_::ms,_::vs=>TR ms vs|_,_=>true
def a2X:List (Nat×FSpec)->Nat->List V->Option FSpec
 |[],_,_=>none|(g,s)::r,f,vs=>bif Nat.beq g f&&TR s.ps vs then some s else a2X r f vs
def dvC{α:Type}(all:List V):List MG->List V->Cmd α->Cmd α
 |_::ms,_::vs,K=>dvC all ms vs K|[],[],K=>K|_,_,_=> .fail
def b1r(E:Env)(q:Nat)(d:Option Tmp)(f:Nat)(vs:List V):Cmd Unit:=
 bif Nat.ble 1000000000 f then .fail else
 match a2X E.fs f vs with
 |none=> .fail|some s=>dvC vs s.ps vs<|
  OL (Gg s) s.ps vs λx=>Cmd.opt (s.fn x) λr=>
   Il (s.rs++s.outs) r (U2 q d) λws n' =>bif Nat.ble n' (U2 q d+64)then(match Gq s.rs.length ws with
    |some (a,o)=>bif Ep a then .fail else aX s.ps vs o (gW E d (a7x a))
    |none=> .fail)else .fail
abbrev PB:Nat:=1000000000
abbrev cd:MG:=(false,.dat (.int .i64))
def a8Y:(l:List MG)->bF (cd::l)->Int
 |[],x=>x|_::_,x=>x.1
def tlT:(l:List MG)->bF (cd::l)->bF l
 |[],_=>()|_::_,x=>x.2
def c4t:List (Nat×FSpec)->Nat->Bool
 |[],_=>false|(g,_)::r,f=>bif Nat.beq g (PB+f)then true else c4t r f
def a8r(E:Env)(q:Nat)(d:Option Tmp)(vs:List V)(ps:List MG):(rs outs:List MG)->(bF ps->Option (bF (rs++outs)))->Cmd d4H
 |(false,.dat (.int .i64))::rs,outs,fn=>dvC vs ps vs<|
   OL (Gg ⟨ps,rs,outs,λ_=>none⟩) ps vs λx=>Cmd.opt (fn x) λr=>
    .br (x8 (a8Y (rs++outs) r) 0)
     ((Il (rs++outs) (tlT (rs++outs) r) (U2 q d) λws n' =>bif Nat.ble n' (U2 q d+64)then(match Gq rs.length ws with
      |some (a,o)=>bif Ep a then .fail else aX ps vs o (gW E d (a7x a))
      |none=> .fail)else .fail).bind λ_=> .ret none)
     (.ret (some (a8Y (rs++outs) r)))
 |_,_,_=> .fail
def b5r(E:Env)(q:Nat)(d:Option Tmp)(f:Nat)(vs:List V):Cmd d4H:=
 match a2X E.fs (PB+f) vs with
 |none=> .fail|some s=>a8r E q d vs s.ps s.rs s.outs s.fn
def zQ{α:Type} :List MG->List V->(List ((t:Ty)×t.den)->Cmd α)->Cmd α
 |(_,.rp t)::ms,v::vs,K=>rpC t v λx=>zQ ms vs λcs=>K (⟨t,x⟩::cs)|[],[],K=>K []|_,_,_=> .fail
def c8b(c:(t:Ty)×t.den):V:=.dp c.1 c.2 0
def d4x:List ((Nat×String)×Nat×Option Nat)->Nat->String->Option (Nat×Option Nat)
 |[],_,_=>none|((t,n),r)::l,u,m=>bif Nat.beq t u&&(n==m)then some r else d4x l u m
def Ty.leaves:Ty->List Ty
 | .prod a b=>a.leaves++b.leaves| .unit=>[]|t=>[t]
def Xk:List Ty->List Ty->Bool
 |[],[]=>true|a::r,b::q=>bif Ty.beq a b then Xk r q else false|_,_=>false
def a6y(E:Env)(ke:Nat)(td:TD)(k:Ty):Bool:=
 match td,k with
 | .bool,.bool=>true| .int i,.int j=>decide (i=j)| .str,.str=>true| .struct _,k=>bif k.flat then(match fZ E.eqs ke with|some sh=>Xk sh k.leaves|none=>false)else false|_,_=>false
structure MT where
 ke:Nat
 el:Nat
 ka:Bool
 va:Bool
 k:Ty
 v:Ty
abbrev MT.ent(m:MT):Ty:=.ent m.ka m.va m.k m.v
def MO(E:Env)(t:Nat):Option MT:=
 match fZ E.tt t with
 |some i=>match i.td with
  | .map ke el=>match fZ E.tt ke,fZ E.tt el with
   |some a,some b=>(match a.ty,b.ty with
    |some k,some v=>bif a6y E ke a.td k&&k.flat then some ⟨ke,el,dX a.td,dX b.td,k,v⟩else none
    |_,_=>none)
   |_,_=>none
  |_=>none
 |none=>none
def b3g(ag:Bool)(t:Ty)(v:V)(K:t.den->Cmd α):Cmd α:=
 a3N ag v λcs=>qF EO t cs λx q=>match q with|[]=>K x|_=> .fail
def b6O(u:Ty)(v:V)(K:List u.den->Cmd α):Cmd α:=
 match v with
 | .sl t xs=>Ty.castL t u xs K .fail
 | .own bx none=> .get (Z4+bx) λ
  | .barr t xs=>Ty.castL t u xs K .fail| .bfrz t xs=>Ty.castL t u xs K .fail|_=> .fail
 |_=> .fail
def Qj(E:Env)(nm t:Nat)(K:V->Cmd Unit):Cmd Unit:=
 match MO E t with
 |some m=>xQ nm (.barr m.ent []) (K (.own nm none))|none=> .fail
def b1J(E:Env)(t:Nat)(ok:Bool)(x ix:V)(K:V->Cmd Unit):Cmd Unit:=
 match MO E t with
 |some m=>b3g m.ka m.k ix λkey=>b6O m.ent x λes=>
   bif ok then K (.tup [mkV m.va (flat m.v (Pv (keq m.k) es key m.v.zero) []),.b (c0F (keq m.k) es key)])
   else K (mkV m.va (flat m.v (Pv (keq m.k) es key m.v.zero) []))
 |none=> .fail
def a5l(E:Env)(t:Nat)(x ix y:V):Cmd Unit:=
 match MO E t with
 |some m=>b3g m.ka m.k ix λkey=>b3g m.va m.v y λz=>match x with
  | .own bx none=> .get (Z4+bx) λ
   | .barr u xs=>Ty.castL u m.ent xs (λes=>Cmd.set (Z4+bx) (.barr m.ent (SG (keq m.k) es key z)) (.ret ())) .fail|_=> .fail
  |_=> .fail
 |none=> .fail
def b1v(E:Env)(t:Nat)(x ix:V):Cmd Unit:=
 match MO E t with
 |some m=>b3g m.ka m.k ix λkey=>match x with
  | .own bx none=> .get (Z4+bx) λ
   | .barr u xs=>Ty.castL u m.ent xs (λes=>Cmd.set (Z4+bx) (.barr m.ent (Yw (keq m.k) es key)) (.ret ())) .fail|_=> .fail
  |_=> .fail
 |none=> .fail
def XR:M->List V->Bool
 | .dat _,_=>true| .unit,_=>true
 | .own t,cs=>match cs with| .nl::_=> !t.isEnt|_=>false
 | .owns _,cs=>match cs with| .nl::_=>true|_=>false
 | .pair a b,cs=>match a_ a.size cs with|some r=>bif XR a cs then XR b r else false|none=>false
 |_,_=>false
def b2P(E:Env)(t:Nat)(m:M):Bool:=
 match Ju E t with
 |some (e,_)=>match fZ E.tt e with|some j=>bif Nat.beq j.zero.length j.size then XR m j.zero else false|none=>false
 |none=>false
def a0N:Operand->Operand->Bool
 | .tmp a,.tmp b=>Nat.beq a b|_,_=>false
def c7Y(t:Nat)(zs:List V):V:=match zs with
 |zs=> .bcells zs
def fM(E:Env)(q:Nat)(o:Oper):Cmd Unit:=
 match o.op with
 | .move x| .assign x=>wK x λv=>gW E o.dst v
 | .pick c a b=>wK c λ
  | .b t=>bif t then wK a λva=>gW E o.dst va else wK b λvb=>gW E o.dst vb|_=> .fail
 | .alloc t=>tiC E t λi=>bif Nat.beq i.zero.length i.size then xQ (U2 q o.dst) (c7Y t i.zero) (gW E o.dst (.ptr (U2 q o.dst) 0))else .fail
 | .box _ x=>wK x λv=>Ls v λcs=>xQ (U2 q o.dst) (.bcells cs) (gW E o.dst (.ptr (U2 q o.dst) 0))
 | .build t ps=>tiC E t λi=>match i.td with
  | .struct fs=>bif b1e E fs&&Nat.beq i.zero.length i.size then(OV (ps.toList.map (·.2)) λvs=>
    Hu E t ((ps.toList.map (·.1)).zip vs) i.zero (λcs=>gW E o.dst (.agg cs)))else .fail
  | .arr _ e=>tiC E e λj=>bif Nat.beq i.zero.length i.size then(OV (ps.toList.map (·.2)) λvs=>
    PK j.size ((ps.toList.map (·.1)).zip vs) i.zero (λcs=>gW E o.dst (.agg cs)))else .fail
  |_=> .fail
 | .buildSlice t n ps=>match Ju E t with
  |some (_,u)=>bif Nat.ble (n*u.size) 16777216 then(OV (ps.toList.map (·.2)) λvs=>match fZ E.om t with
    |none=>Dz u ((ps.toList.map (·.1)).zip vs) 0 n λxs=>xQ (U2 q o.dst) (.barr u xs) (gW E o.dst (.own (U2 q o.dst) none))
    |some m=>bif Nat.beq m.size u.size&&m.el then Ai m ((ps.toList.map (·.1)).zip vs) 0 n λxs=>xQ (U2 q o.dst) (.barrs m xs none) (gW E o.dst (.own (U2 q o.dst) none))else .fail)else .fail
  |none=> .fail
 | .load t x=>wK x λp=>c2t E o.dst (U2 q o.dst) t p λv=>gW E o.dst v
 | .store t x y=>match o.dst with|none=>wK x λp=>wK y λv=>b9m E t p v|some _=> .fail
 | .binOp op t x y _=>wK x λa=>wK y λb=>PM E t op y a b λv=>gW E o.dst v
 | .unOp op _ x=>wK x λa=>unC op a λv=>gW E o.dst v
 | .convert src t x=>wK x λa=>tiC E src λj=>tiC E t λi=>match a,i.td with
  | .i _ n,.int k=>gW E o.dst (.i k (wrap k n))| .s l,.str=>gW E o.dst (.s l)| .s l,.sl _=>(match j.td with| .str=>b5x E (U2 q o.dst) t l λv=>gW E o.dst v|_=> .fail)
  |_,.str=>(match j.td with
   | .sl e=>tiC E e λk=>(match k.td with
    | .int .u8=>b4b (.int .u8) a λxs=>gW E o.dst (.s (b5p xs))
    |_=> .fail)
   |_=> .fail)
  |_,_=> .fail
 | .makeSlice t l c=>match fZ E.om t with
  |some m=>(match Ju E t with
   |some (_,u)=>wK l λ
    | .i _ n=>bif a0N l c&&Nat.beq m.size u.size&&b2P E t m then(if h:m.el=true/\m.ty=u then Cmd.opt (lI n (m.zero h.1)) λxs=>xQ (U2 q o.dst) (.barrs m xs none) (.set (Z4+(TG+U2 q o.dst)) (.blen (o9 xs) m.size) (gW E o.dst (.own (U2 q o.dst) none)))else .fail)else .fail|_=> .fail
   |none=> .fail)
  |none=>match Ju E t with
  |some (_,u)=>wK l λ
   | .i _ n=>bif a0N l c then
     Cmd.opt (lI n u.zero) λxs=>xQ (U2 q o.dst) (.barr u xs) (gW E o.dst (.own (U2 q o.dst) none))
    else wK c λ
     | .i _ k=>Cmd.br (nG n k 1073741824) (Cmd.opt (lI n u.zero) λxs=>xQ (U2 q o.dst) (.barr u xs) (gW E o.dst (.own (U2 q o.dst) none))) .fail|_=> .fail
   |_=> .fail
  |none=> .fail
 | .slice t x lo hi none=>wK x λv=>OV (lo.toList++hi.toList) λbs=>
   match lo,hi,bs with
   |none,none,[]=>(match v with
    | .ptr bx 0=>a0U E (U2 q o.dst) t bx λr=>gW E o.dst r
    |_=>Xo E t v none none λr=>gW E o.dst r)
   |some _,none,[a]=>Xo E t v (some a) none λr=>gW E o.dst r
   |none,some _,[b]=>Xo E t v none (some b) λr=>gW E o.dst r
   |some _,some _,[a,b]=>Xo E t v (some a) (some b) λr=>gW E o.dst r|_,_,_=> .fail
 | .fieldAddr t x f=>wK x λp=>match UL E t f with
  |some (off,_,_)=>match p with
   | .ptr bx o' =>gW E o.dst (.ptr bx (o' +off))| .ep bx ix o' =>gW E o.dst (.ep bx ix (o' +off))| .dp u y o' =>gW E o.dst (.dp u y (o' +off))|_=> .fail
  |none=> .fail
 | .field t x f=>wK x λp=>match UL E t f with
  |some (off,n,ag)=>a3N true p λps=>YA off n ps (λcs=>gW E o.dst (mkV ag cs)) Cmd.fail|none=> .fail
 | .indexAddr t x ix=>wK x λv=>wK ix λn=>B_ E t v n λr=>gW E o.dst r
 | .index t x ix=>wK x λv=>wK ix λn=>tiC E t λi=>match i.td,v,n with
  | .str,.s l,.i _ k=>Cmd.opt (sat l k) λc=>gW E o.dst (.i .u8 c)|_,_,_=> .fail
 | .extract x n=>wK x λ
  | .tup vs=>match vs[n]? with|some v=>gW E o.dst v|none=> .fail
  |_=> .fail
 | .nilCheck x=>wK x λv=>match v with
  | .ptr ..| .ep ..| .dp ..| .glob _=>gW E o.dst v|_=> .fail
 | .call c=>OV c.args.toList λvs=>match c.callee with
  | .builtin .len=>(match c.argTypes.toList,vs with
   |t::_,[x]=>tiC E t λi=>c8j i.td x λv=>gW E o.dst v
   |_,_=> .fail)
  | .builtin .append=>(match c.argTypes.toList,vs with
   |[t,t'],[x,y]=>bif Nat.beq t t' then b1k E (U2 q o.dst) t x y λv=>gW E o.dst v else(match y with
    | .s l=>tiC E t' λi=>(match i.td with| .str=>b1l E (U2 q o.dst) t x l λv=>gW E o.dst v|_=> .fail)
    |_=> .fail)
   |_,_=> .fail)
  | .builtin .delete=>(match o.dst,c.argTypes.toList,vs with|none,t::_,[x,ix]=>b1v E t x ix|_,_,_=> .fail)| .builtin .min=>(match vs with|[.i k a,.i k' b]=>bif decide (k=k')then gW E o.dst (.i k (ww a b))else .fail|_=> .fail)| .builtin .max=>(match vs with|[.i k a,.i k' b]=>bif decide (k=k')then gW E o.dst (.i k (qX a b))else .fail|_=> .fail)| .value (.func f)=>b1r E q o.dst f vs
  | .value x=>wK x λ
   | .clos f caps=>b1r E q o.dst f (vs++caps.map c8b)|_=> .fail
  | .invoke x n=>wK x λ
   | .ifc t v=>(match d4x E.ms t n with
    |some (f,none)=>b1r E q o.dst f (v::vs)
    |some (f,some e)=>MN E e v λr=>b1r E q o.dst f (r::vs)
    |none=> .fail)
   |_=> .fail
  |_=> .fail
 | .makeFunc (.func f) first caps=>bif Nat.beq first.size 0 then(match fZ E.fs f with
   |some s=>OV caps.toList λvs=>zQ (s.ps.drop (s.ps.length -vs.length)) vs λcs=>gW E o.dst (.clos f cs)
   |none=> .fail)else .fail
 | .makeInterface t x=>tiC E t λi=>(match i.td with
  | .bool| .int _| .str| .ptr _=>wK x λv=>(match v with
   | .b ..| .i ..| .s ..| .ptr ..=>gW E o.dst (.ifc t v)
   |_=> .fail)
  |_=> .fail)
 | .typeAssert x _ t ok=>tiC E t λi=>(match i.td with
  | .other=> .fail
  |_=>wK x λ
   | .ifc t' v=>bif Nat.beq t' t then gW E o.dst (bif ok then .tup [v,.b true]else v)else .fail
   |_=> .fail)
 | .makeMap t r=>(match r with
  |none=>Qj E (U2 q o.dst) t λv=>gW E o.dst v
  |some h=>wK h λ
   | .i _ _=>Qj E (U2 q o.dst) t λv=>gW E o.dst v
   |_=> .fail)
 | .lookup t x ix ok=>wK x λm=>wK ix λk=>b1J E t ok m k λv=>gW E o.dst v
 | .mapUpdate t x ix y| .insert t x ix y=>match o.dst with|none=>wK x λm=>wK ix λk=>wK y λv=>a5l E t m k v|some _=> .fail
 |_=> .fail
def Oq(E:Env)(q:Nat)(ops:List Oper)(o:Oper):Cmd Unit:=
 match o.guard with
 |none=>fM E q o
 |some (j,want)=>match ops[j]? with
  |some p=>match p.dst with
   |some t=>bif Nat.blt t Z4 then(.get t λ
    | .b y=>bif (bif want then y else !y)then fM E q o else gW E o.dst .un| .un=>gW E o.dst .un
    |_=> .fail)else .fail
   |none=> .fail
  |none=> .fail
def Iq(E:Env)(o:Oper):Option Nat:=match o.op with
 | .call c=>(match c.callee with
  | .value (.func f)=>bif c4t E.fs f then some f else none
  |_=>none)
 |_=>none
def opP(E:Env)(q:Nat)(o:Oper)(f:Nat):Cmd d4H:=match o.op with
 | .call c=>OV c.args.toList λvs=>b5r E q o.dst f vs|_=> .fail
def Nb(E:Env)(q:Nat)(ops:List Oper)(o:Oper)(f:Nat):Cmd d4H:=
 match o.guard with
 |none=>opP E q o f
 |some (j,want)=>match ops[j]? with
  |some p=>match p.dst with
   |some t=>bif Nat.blt t Z4 then(.get t λ
    | .b y=>bif (bif want then y else !y)then opP E q o f else(gW E o.dst .un).bind λ_=> .ret none
    | .un=>(gW E o.dst .un).bind λ_=> .ret none
    |_=> .fail)else .fail
   |none=> .fail
  |none=> .fail
def c8q(x:d4H):Cmd Unit:=match x with|none=> .ret ()|some _=> .fail
def qU(E:Env)(q:Nat)(ops:List Oper)(o:Oper):Cmd Unit:=match Iq E o with
 |none=>Oq E q ops o|some f=>(Nb E q ops o f).bind c8q
def VA(t:Nat)(s:St)(K:St->Option R):Option R:=
 (Y1 s t).force λ
  | .b y=>l9 y (K (.kv t (.b true)::s)) (K (.kv t (.b false)::s))| .un=>K s|_=>none
def b5e(ops:List Oper)(o:Oper):Option Nat:=
 match o.guard with
 |some (j,_)=>match ops[j]? with|some p=>p.dst|none=>none
 |none=>match o.op with| .pick (.tmp t) _ _=>some t|_=>none
abbrev Trs:=List Tr
def Ii{R:Type}(E:Env)(q:Nat)(all:List Oper)(P:Int->St->Tr->Trs->Option R):List Oper->St->Trs->(St->Trs->Option R)->Option R
 |[],s,t,K=>K s t
 |o::r,s,t,K=>match Iq E o with
  |none=>(match b5e all o with
   |none=>(Oq E q all o).runK s ([],[]) λ_ s' tr=>Ii E q all P r s' (tr::t) K
   |some p=>VA p s λs=>(Oq E q all o).runK s ([],[]) λ_ s' tr=>Ii E q all P r s' (tr::t) K)
  |some f=>(match b5e all o with
   |none=>(Nb E q all o f).runK s ([],[]) λx s' tr=>(match x with|none=>Ii E q all P r s' (tr::t) K|some c=>P c s' tr t)
   |some p=>VA p s λs=>(Nb E q all o f).runK s ([],[]) λx s' tr=>(match x with|none=>Ii E q all P r s' (tr::t) K|some c=>P c s' tr t))
def KZ:d4F->d4F->Bool
 |[],[]=>true|a::r,b::q=>bif Nat.beq a b then KZ r q else false|_,_=>false
def UH(a b:d4F):Bool:=match a with|[]=>true|k::r=>bif He k b then false else UH r b
def a0i(ordered:Bool)(x y:Tr):Bool:=bif ordered then true else(UH x.2 y.1&&UH x.2 y.2&&UH x.1 y.2)
def RF(mask:Nat)(y:Tr):Trs->Nat->Bool
 |[],_=>true|x::r,i=>a0i (Nat.testBit mask (i -1)) x y&&RF mask y r (i -1)
def Ud:d4F->Trs->Bool
 |m::ms,y::r=>RF m y r r.length&&Ud ms r|[],[]=>true|_,_=>false
inductive Flow (ρ:Type) where
 |nm|ex (id:Nat)|rt (r:ρ)
def SV(acc:d4F)(n:Nat):List Edge->Nat->Option Nat
 |[],m=>some m
 |e::r,m=>match e.ground with
  | .textOnly _=>SV acc n r m| .gcOnly _=>SV acc n r m|_=>bif Nat.blt e.on n then SV acc n r (m ||| 2^e.on ||| acc.getD (n -1 -e.on) 0)else none
def Yy:List Oper->Nat->d4F->Option d4F
 |[],_,acc=>some acc
 |o::r,n,acc=>match SV acc n o.after.toList 0 with
  |some m=>Yy r (n+1) (m::acc)|none=>none
def Ug(md:Region.Mode)(done:d4F):List Edge->Bool
 |[]=>true|e::r=>bif (!Region.binds md e || He e.on done)then Ug md done r else false
def Az(md:Region.Mode)(done:d4F):List Oper->Nat->Option Nat
 |[],_=>none|o::r,n=>bif He n done then Az md done r (n+1)else bif Ug md done o.after.toList then some n else Az md done r (n+1)
def b1d:Nat->d4F->Bool
 |0,_=>true|n+1,d=>He n d&&b1d n d
def a1d(md:Region.Mode)(ops:List Oper):Nat->d4F->Bool
 |0,d=>b1d ops.length d
 |k+1,done=>match Az md done ops 0 with|some n=>a1d md ops k (n::done)|none=>false
def WZ:List Edge->Bool
 |[]=>true
 |e::r=>match e.ground with| .textOnly _=>false| .gcOnly _=>false|_=>WZ r
def EQ:List Oper->Bool|[]=>true|o::r=>bif WZ o.after.toList then EQ r else false
def b5E(ops:List Oper)(t:Trs):Bool:=
 match Yy ops 0 []with
 |some ms=>bif Ud ms t then(bif EQ ops then true else a1d .text ops ops.length []&&a1d .gc ops ops.length [])else false|none=>false
abbrev Rgs:=List (Nat×Nat)
inductive Ann where
 |leaf
 |seq (a b:Ann)|cond (a b:Ann)|blk (a:Ann)
 |loop (rs:Rgs) (hd:Sig) (xid:Nat) (xs:Sig) (body:Ann)
 |loopR (rs:Rgs) (hd:Sig) (xid:Nat) (xs:Sig) (body:Ann)
 |join (rs:Rgs) (nm:Sig) (inner:Ann)
 |joinR (rs:Rgs) (nm:Sig) (inner:Ann)
structure Ret where
 rs:List (ResultVar×MG)
 outs:List (Nat×MG)
@[reducible] def Ret.den (r:Ret):Type:=bF (r.rs.map (·.2)++r.outs.map (·.2))
def Xi{α:Type}(E:Env):List ResultVar->(List V->Cmd α)->Cmd α
 |[],K=>K []| .tmp t::r,K=>bif Nat.blt t Z4 then(.get t λv=>Xi E r λvs=>K (v::vs))else .fail| .cell a t::r,K=>bif Nat.blt a Z4 then(.get a λp=>MN E t p λv=>Xi E r λvs=>K (v::vs))else .fail
def WW{α:Type} :d4F->(List V->Cmd α)->Cmd α
 |[],K=>K []
 |n::r,K=>bif Nat.blt n Z4 then .get n λv=>(match v with
  | .ptr bx 0=> .get (Z4+bx) λ
   | .bcells cs=>Cmd.set (Z4+bx) .dead (WW r λvs=>K (.agg cs::vs))|_=> .fail
  | .ifc _ u=>(match u with
   | .ptr bx 0=> .get (Z4+bx) λ
    | .bcells cs=>Cmd.set (Z4+bx) .dead (WW r λvs=>K (.agg cs::vs))|_=> .fail
   |_=> .fail)
  | .own bx none=>WW r λvs=>K (.own bx none::vs)
  |_=> .fail)else .fail
def b7D(E:Env)(r:Ret):Cmd r.den:=
 Xi E (r.rs.map (·.1)) λvs=>WW (r.outs.map (·.1)) λws=>Nu (vs++ws) (OL EO (r.rs.map (·.2)++r.outs.map (·.2)) (vs++ws) .ret)
def Ann.l:Ann->Ann| .seq a _=>a| .cond a _=>a| .blk a=>a|_=> .leaf
def Ann.r:Ann->Ann| .seq _ b=>b| .cond _ b=>b|_=> .leaf
def yh:Code->Nat
 | .region ..=>2| .seq x y=>1+yh x+yh y| .cond _ x y=>1+yh x+yh y| .block _ x=>1+yh x| .loop x=>3+yh x|_=>1
abbrev Den(ρ:Type):=Nat->Ann->St->Rgs->(R:Type)->(Flow ρ->St->Rgs->Option R)->Option R
def A_(lo hi:Nat):Rgs->Bool|[]=>false|(a,b)::r=>bif Nat.ble a lo&&Nat.ble hi b then true else A_ lo hi r
def ZP(lim:Nat)(rs:Rgs):Rgs->Bool|[]=>true|(a,b)::w=>bif Nat.ble lim a || A_ a b rs then ZP lim rs w else false
def OT(ks:d4F)(w:Rgs):Rgs:=match ks with|[]=>w|k::r=>(k,k+1)::OT r w
def uh(rs:Rgs)(s:St):St:=match rs with|[]=>s|(a,b)::r=> .mask a b::uh r s
def KH(q:Nat)(sg:Sig)(rs:Rgs)(s:St)(w:Rgs)(K:jY sg->Option R):Option R:=
 (j_ sg).runK s ([],[]) λx _ tr=>bif ZP (Z4+CB*q) rs (OT tr.2 w)then K x else none
def enter(q:Nat)(sg:Sig)(rs:Rgs)(s:St)(x:jY sg)(K:St->Rgs->Option R):Option R:=
 (b5F sg x (CB*q) (CB*q+CB)).runK (uh rs s) ([],[]) λ_ s' tr=>K s' (OT tr.2 rs)
def Yo(a b:Rgs):Rgs:=match a with|[]=>b|x::r=>x::Yo r b
def Nl(core:Den ρ):Den ρ:=λq a s w R K=>
 match a with
 | .join rs nm a=>o5 (core (q+1) a s [] (jY nm) λfl s' w' =>match fl with
   | .nm=>KH q nm rs s' w' some
   |_=>none) λx=>enter q nm rs s x λs' w' =>K .nm s' (Yo w' w)
 | .joinR rs nm a=>o5 (core (q+1) a s [] (jY nm⊕ρ) λfl s' w' =>match fl with
   | .nm=>KH q nm rs s' w' λx=>some (Sum.inl x)| .rt r=>some (Sum.inr r)
   |_=>none) λo=>bn o (λx=>enter q nm rs s x λs' w' =>K .nm s' (Yo w' w)) (λr=>K (.rt r) [] [])
 |a=>core (q+1) a s w R K
def b7H(core:Den ρ)(q:Nat)(rs:Rgs)(hd:Sig)(xid:Nat)(xs:Sig)(a:Ann)(s:St)(x:jY hd):Option (jY hd⊕jY xs):=
 enter q hd rs s x λs w=>core (q+2) a s w (jY hd⊕jY xs) λfl s' w' =>match fl with
  | .nm=>KH q hd rs s' w' λx=>some (Sum.inl x)
  | .ex id=>bif Nat.beq id xid then KH q xs rs s' w' λy=>some (Sum.inr y)else none| .rt _=>none
def b7I(core:Den ρ)(q:Nat)(rs:Rgs)(hd:Sig)(xid:Nat)(xs:Sig)(a:Ann)(s:St)(x:jY hd):Option (Out (jY hd) (jY xs) ρ):=
 enter q hd rs s x λs w=>core (q+2) a s w (Out (jY hd) (jY xs) ρ) λfl s' w' =>match fl with
  | .nm=>KH q hd rs s' w' λx=>some (.nx x)
  | .ex id=>bif Nat.beq id xid then KH q xs rs s' w' λy=>some (.ex y)else none| .rt r=>some (.rt r)
def a6H(core:Den ρ):Den ρ:=λq a s w R K=>
 match a with
 | .loop rs hd xid xs a=>KH q hd rs s [] λx0=>
  o5 (X8 (λx=>b7H core q rs hd xid xs a s x) x0) λy=>enter (q+1) xs rs s y λs' w' =>K (.ex xid) s' (Yo w' w)
 | .loopR rs hd xid xs a=>KH q hd rs s [] λx0=>
  o5 (bD (λx=>b7I core q rs hd xid xs a s x) x0) λo=>bn o (λy=>enter (q+1) xs rs s y λs' w' =>K (.ex xid) s' (Yo w' w)) (λr=>K (.rt r) [] [])
 |_=>none
def zf(t:Trs)(w:Rgs):Rgs:=match t with|[]=>w|x::r=>OT x.2 (zf r w)
def a4I(E:Env)(q:Nat)(ops:Array Oper)(draw:Bool)(s:St)(w:Rgs)(K:St->Rgs->Option R)(P:Int->St->d4F->Option R):Option R:=
 Ii E q ops.toList (λ_ _ _ _=>none) ops.toList s [] λs' t=>
  bif draw then(bif b5E ops.toList t then K s' (zf t w)else none)else K s' (zf t w)
abbrev SC(ρ:Type):Type 1:=Int⊕Nat->Cmd ρ
def c8s(pan:SC ρ)(K:Flow ρ->St->Rgs->Option R)(c:Int)(s:St)(ws:d4F):Option R:=
 (pan (.inl c)).runK s ([],[]) λx _ tr=>bif UH tr.1 ws then K (.rt x) [] []else none
def FK{ρ:Type}(E:Env)(rt:Ret)(ret:rt.den->ρ)(pan:SC ρ):Code->Den ρ
 | .skip=>Nl λ_ _ s w _ K=>K .nm s w
 | .label _=>Nl λ_ _ s w _ K=>K .nm s w
 | .region _ ops draw=>Nl λq _ s w _ K=>a4I E q ops draw s w (λs' w' =>K .nm s' w') (c8s pan K)
 | .seq x y=>Nl λq a s w R K=>FK E rt ret pan x q a.l s w R λfl s' w' =>match fl with
   | .nm=>FK E rt ret pan y (q+yh x) a.r s' w' R K| .ex id=>K (.ex id) s' w'| .rt r=>K (.rt r) s' w'
 | .cond c x y=>Nl λq a s w R K=>(wK c λv=>Cmd.ret v:Cmd V).runK s ([],[]) λv s' _=>match v with
   | .b t=>l9 t (FK E rt ret pan x q a.l s' w R K) (FK E rt ret pan y (q+yh x) a.r s' w R K)|_=>none
 | .block id x=>Nl λq a s w R K=>FK E rt ret pan x q a.l s w R λfl s' w' =>match fl with
   | .nm=>K .nm s' w'| .ex j=>bif Nat.beq j id then K .nm s' w' else K (.ex j) s' w'| .rt r=>K (.rt r) s' w'
 | .loop x=>Nl (a6H λq a s w R K=>FK E rt ret pan x q a s w R K)
 | .exit id=>Nl λ_ _ s w _ K=>K (.ex id) s w
 | .goto l=>Nl λ_ _ s _ _ K=>(pan (.inr l)).runK s ([],[]) λx _ _=>K (.rt x) [] []
 | .ret=>Nl λ_ _ s _ _ K=>(b7D E rt).runK s ([],[]) λr _ _=>K (.rt (ret r)) [] []
 |_=>λ_ _ _ _ _ _=>none
def c0n(E:Env)(rt:Ret)(ret:rt.den->ρ)(fl:Flow ρ)(s:St):Option ρ:=match fl with
 | .rt r=>some r
 | .nm=>(b7D E rt).runK s ([],[]) λr _ _=>some (ret r)| .ex _=>none
def den(E:Env)(rt:Ret):Code->Den rt.den:=FK E rt (λr=>r) (λ_=> .fail)
def kN:List MG->Nat->d4F
 |[],_=>[]|(_,.box _)::ms,n=>n::kN ms (n+1)|(_,.ifc _ (.box _))::ms,n=>n::kN ms (n+1)|(_,.ownb _)::ms,n=>n::kN ms (n+1)|_::ms,n=>kN ms (n+1)
def a7T:d4F->d4F->Bool
 |[],_=>true|a::r,b=>bif He a b then a7T r b else false
def a6S:List MG->Bool
 |[]=>true|_::r=>a6S r
def a3W:List MG->Nat->Cmd Unit->Cmd Unit
 |[],_,K=>K|_::ms,n,K=>a3W ms (n+1) K
def b3l(E:Env)(ps:List MG)(rt:Ret)(body:Code)(a:Ann)(x:bF ps):Option rt.den:=
 bif Nat.ble ps.length E.nt&&KZ (rt.outs.map (·.1)) (kN ps 0)&&a7T (rt.outs.map (·.1)) E.kp&&a6S ps then
 (Il ps x 0 λvs n=>bif Nat.ble n CB then Lc (List.range vs.length) vs (a3W ps 0 (.ret ()))else .fail).runK [] ([],[]) λ_ s _=>
  FK E rt (λr=>r) (λ_=> .fail) body 1 a s [] rt.den λfl s' _=>c0n E rt (λr=>r) fl s'
 else none
end Go.GP
namespace Go.GP
open RowKit
def fP(h:Array Obj)(blk off n:Nat):Option d4E:=
 match h[blk]? with
 |some (.cells c _ _)=>if off+n<=c.size then some ((c.toList.drop off).take n)else none|_=>none
variable {h:Array Obj}{blk:Nat}{h':Array Obj}
theorem wV(e:h'[blk]? =h[blk]?)(off n:Nat):fP h' blk off n=fP h blk off n:=by simp[fP,e]
variable {n:Nat}{off:Nat}{es:d4E}
theorem rE(e:fP h blk off n=some es):es.length=n:=by
 grind [fP]
theorem nX{c:Array Value}{T:TypeId}{f:Nat×Nat}(hb:h[blk]? =some (.cells c T f))(off n:Nat)(hn:off+n<=c.size):
  fP h blk off n=some ((c.toList.drop off).take n):=by simp_all [fP]
theorem wW(e:fP h blk off n=some es):
  ∃c T f,h[blk]? =some (.cells c T f)/\off+n<=c.size/\es=(c.toList.drop off).take n:=by
 grind [fP]
theorem uI(e:fP h blk off n=some es)(a k:Nat)(hk:a+k<=n):
  fP h blk (off+a) k=some ((es.drop a).take k):=by
 obtain⟨c,T,f,hb,hn,rfl⟩:=wW e;rw[nX hb _ _ l7]
 grind [List.drop_take,List.drop_drop]
def uo(ag:Bool)(v:Value):d4E:=match ag with
 |true=>v.cells.toList|false=>[v]
def gok(ag:Bool)(v:Value):Prop:=match ag with
 |true=>∃arr,v= .agg arr|false=>v.oneCell' =true
def Cj(t:Ty)(e:MapEntry):d4E:=match t with
 | .ent ka va _ _=>uo ka e.key++uo va e.val|_=>[]
def SX(t:Ty)(e:MapEntry):Prop:=match t with
 | .ent ka va k v=>gok ka e.key/\gok va e.val/\(uo ka e.key).length=k.size|_=>False
def c7S:Option IntKind->Value->Prop
 |none,_=>True|some k,v=>∃n,v= .int k n
def xF(es:Array MapEntry)(ck n:Nat):Prop:=es.size=n/\(∀e∈es.toList,e.born<ck)/\(es.toList.map (·.born)).Nodup
def oq(h:Array Obj)(ok:Nat->Ty->Prop):(t:Ty)->t.den->d4E->Prop
 | .ent _ _ a b,x,cs=>∃c d,cs=c++d/\oq h ok a x.1 c/\oq h ok b x.2 d| .bool,x,cs=>cs=[.bool x]| .int k,n,cs=>cs=[.int k n]| .str,l,cs=>cs=[.string ⟨l.toArray⟩]| .prod a b,x,cs=>∃c d,cs=c++d/\oq h ok a x.1 c/\oq h ok b x.2 d| .unit,_,cs=>cs=[]| .any o,_,cs=>∃v,cs=[v]/\v.oneCell' =true/\c7S o v
 | .sl t,xs,cs=>(t.isEnt=false/\∃a cap,cs=[.slice a xs.length cap]/\xs.length<=cap/\
   ∀i x,xs[i]? =some x->∃blk off es,a=some ⟨blk,off,none⟩/\ok blk t/\fP h blk (off+i*t.size) t.size=some es/\oq h ok t x es)\/
   (t.isEnt=true/\∃mv,cs=[.map mv]/\(mv=none->xs=[])/\∀blk,mv=some blk->ok blk t/\∃(es:Array MapEntry) (ck:Nat),h[blk]? =some (.map es ck)/\xF es ck (xs:List t.den).length/\
    ∀(i:Nat) (x:t.den),(xs:List t.den)[i]? =some x->∃e:MapEntry,es[i]? =some e/\SX t e/\oq h ok t x (Cj t e))
variable {t:Ty}{xs:List t.den}{ok:Nat->Ty->Prop}
theorem DJ{cs:d4E}(ht:t.isEnt=false):oq h ok (.sl t) xs cs↔∃a cap,cs=[.slice a xs.length cap]/\xs.length<=cap/\
   ∀i x,xs[i]? =some x->∃blk off es,a=some ⟨blk,off,none⟩/\ok blk t/\fP h blk (off+i*t.size) t.size=some es/\oq h ok t x es:=by
 constructor
 .rintro(h|h)<;>simp_all
 .exact λh=> .inl ⟨ht,h⟩
theorem a4Q{cs:d4E}(ht:t.isEnt=true):oq h ok (.sl t) xs cs↔∃mv,cs=[.map mv]/\(mv=none->xs=[])/\∀blk,mv=some blk->ok blk t/\∃(es:Array MapEntry) (ck:Nat),h[blk]? =some (.map es ck)/\xF es ck (xs:List t.den).length/\
    ∀(i:Nat) (x:t.den),(xs:List t.den)[i]? =some x->∃e:MapEntry,es[i]? =some e/\SX t e/\oq h ok t x (Cj t e):=by
 constructor
 .rintro(h|h)<;>simp_all
 .exact λh=> .inr ⟨ht,h⟩
theorem iO{h:Array Obj}{ok:Nat->Ty->Prop} :∀{t:Ty} {x:t.den} {cs:d4E},oq h ok t x cs->cs.length=t.size
 | .bool,_,_,e=>by simp_all [oq,Ty.size]| .int _,_,_,e=>by simp_all [oq,Ty.size]| .str,_,_,e=>by simp_all [oq,Ty.size]| .unit,_,_,e=>by simp_all [oq,Ty.size]| .any _,_,_,e=>by obtain⟨v,rfl,_⟩:=e;rfl
 | .prod a b,_,_,e=>by obtain⟨c,d,rfl,h1,h2⟩:=e;simp[iO h1,iO h2,Ty.size]
 | .ent _ _ a b,_,_,e=>by obtain⟨c,d,rfl,h1,h2⟩:=e;simp[iO h1,iO h2,Ty.size]
 | .sl t,_,_,e=>by rcases e with⟨_,a,cap,rfl,_⟩|⟨_,mv,rfl,_⟩<;>simp[Ty.size]
theorem gU{h h' :Array Obj}{ok ok' :Nat->Ty->Prop}(hok:∀b t,ok b t->ok' b t)(hh:∀b t,ok b t->h'[b]? =h[b]?):
  ∀{t:Ty} {x:t.den} {cs:d4E},oq h ok t x cs->oq h' ok' t x cs
 | .bool,_,_,e=>e| .int _,_,_,e=>e| .str,_,_,e=>e| .unit,_,_,e=>e| .any _,_,_,e=>e| .prod a b,_,_,e=>by obtain⟨c,d,rfl,h1,h2⟩:=e;exact⟨c,d,rfl,gU hok hh h1,gU hok hh h2⟩
 | .ent _ _ a b,_,_,e=>by obtain⟨c,d,rfl,h1,h2⟩:=e;exact⟨c,d,rfl,gU hok hh h1,gU hok hh h2⟩
 | .sl t,xs,_,e=>by
  rcases e with⟨ht,a,cap,rfl,hc,hx⟩|⟨ht,mv,rfl,hn,hx⟩
  .refine .inl ⟨ht,a,cap,rfl,hc,λi x hi=>?_⟩;obtain⟨blk,off,es,ha,hb,he,hr⟩:=hx i x hi;exact⟨blk,off,es,ha,hok _ _ hb,by rw[wV (hh _ _ hb)];exact he,gU hok hh hr⟩
  .refine .inr ⟨ht,mv,rfl,hn,λblk hb=>?_⟩;obtain⟨ho,es,ck,he,hs,hi⟩:=hx blk hb;refine⟨hok _ _ ho,es,ck,by rw[hh _ _ ho];exact he,hs,λi x hx=>?_⟩;obtain⟨e,h1,h2,h3⟩:=hi i x hx;exact⟨e,h1,h2,gU hok hh h3⟩
theorem su{h h' :Array Obj}{ok ok' :Nat->Ty->Prop} :∀{t:Ty} {x:t.den} {cs:d4E},t.flat=true->oq h ok t x cs->oq h' ok' t x cs
 | .bool,_,_,_,e=>e| .int _,_,_,_,e=>e| .str,_,_,_,e=>e| .unit,_,_,_,e=>e| .prod a b,_,_,f,e=>by simp[Ty.flat]at f;obtain⟨c,d,rfl,h1,h2⟩:=e;exact⟨c,d,rfl,su f.1 h1,su f.2 h2⟩
 | .sl t,xs,_,f,e=>by grind [Ty.flat]| .ent ..,xs,_,f,e=>by grind [Ty.flat]| .any _,xs,_,f,e=>by grind [Ty.flat]
theorem Be{h:Array Obj}{ok:Nat->Ty->Prop} :∀{t:Ty} {x:t.den} {cs:d4E},oq h ok t x cs->∀v∈cs,v.oneCell' =true
 | .bool,_,_,e=>by simp_all [oq,Value.oneCell']| .int _,_,_,e=>by simp_all [oq,Value.oneCell']| .str,_,_,e=>by simp_all [oq,Value.oneCell']| .unit,_,_,e=>by simp_all [oq]| .any _,_,_,e=>by obtain⟨v,rfl,h,_⟩:=e;grind
 | .prod a b,_,_,e=>by
  obtain⟨c,d,rfl,h1,h2⟩:=e;intro v hv;rcases D6.1 hv with hv|hv
  .exact Be h1 v hv
  .exact Be h2 v hv
 | .ent _ _ a b,_,_,e=>by
  obtain⟨c,d,rfl,h1,h2⟩:=e;intro v hv;rcases D6.1 hv with hv|hv
  .exact Be h1 v hv
  .exact Be h2 v hv
 | .sl t,xs,_,e=>by rcases e with⟨_,a,cap,rfl,_⟩|⟨_,mv,rfl,_⟩<;>simp[Value.oneCell']
theorem BL{h:Array Obj}{ok ok' :Nat->Ty->Prop} :∀{t:Ty} {x:t.den} {cs:d4E},(∀b u,ok b u->Ty.occ u t=true->ok' b u)->oq h ok t x cs->oq h ok' t x cs
 | .bool,_,_,_,e=>e| .int _,_,_,_,e=>e| .str,_,_,_,e=>e| .unit,_,_,_,e=>e| .any _,_,_,_,e=>e| .prod a b,_,_,f,e=>by obtain⟨c,d,rfl,h1,h2⟩:=e;exact⟨c,d,rfl,BL (λb u h k=>f b u h (by simp[Ty.occ,k])) h1,BL (λb u h k=>f b u h (by simp[Ty.occ,k])) h2⟩
 | .ent _ _ a b,_,_,f,e=>by obtain⟨c,d,rfl,h1,h2⟩:=e;exact⟨c,d,rfl,BL (λb u h k=>f b u h (by simp[Ty.occ,k])) h1,BL (λb u h k=>f b u h (by simp[Ty.occ,k])) h2⟩
 | .sl t,xs,_,f,e=>by
  rcases e with⟨ht,a,cap,rfl,hc,hx⟩|⟨ht,mv,rfl,hn,hx⟩
  .refine .inl ⟨ht,a,cap,rfl,hc,λi x hi=>?_⟩;obtain⟨blk,off,es,ha,hb,he,hr⟩:=hx i x hi;exact⟨blk,off,es,ha,f _ _ hb (by simp[Ty.occ]),he,BL (λb u h k=>f b u h (by simp[Ty.occ,k])) hr⟩
  .refine .inr ⟨ht,mv,rfl,hn,λblk hb=>?_⟩;obtain⟨ho,es,ck,he,hs,hi⟩:=hx blk hb;refine⟨f _ _ ho (by simp[Ty.occ]),es,ck,he,hs,λi x hx=>?_⟩;obtain⟨e,h1,h2,h3⟩:=hi i x hx;exact⟨e,h1,h2,BL (λb u h k=>f b u h (by simp[Ty.occ,k])) h3⟩
inductive Loc where
 |nil|arr (blk off len cap sz:Nat)|st (blk:Nat)|mp (blk:Nat)
structure Mp where
 loc:Nat->Option Loc
 kid:Nat->d4F
instance:CoeFun Mp (λ_=>Nat->Option Loc):=⟨Mp.loc⟩
def nom:Mp:=⟨λ_=>none,λ_=>[]⟩
structure Cx where
 h:Array Obj
 ok:Nat->Ty->Prop
 m:Mp
def Loc.view:Loc->Option (Nat×Nat)->Value->Prop
 | .nil,none,v=>v= .slice none 0 0| .nil,some (lo,hi),v=>lo=0/\hi=0/\v= .slice none 0 0| .arr blk off len cap _,none,v=>v= .slice (some ⟨blk,off,none⟩) len cap| .arr blk off len cap sz,some (lo,hi),v=>lo<=hi/\hi<=len/\v= .slice (some (if cap=lo then⟨blk,off,none⟩else⟨blk,off+lo*sz,none⟩)) (hi -lo) (cap -lo)| .st _,_,_=>False| .mp b,none,v=>v= .map (some b)| .mp _,some _,_=>False
def Loc.blks:Loc->d4F
 | .nil=>[]| .arr b _ _ _ _=>[b]| .st b=>[b]| .mp b=>[b]
def a3X(h:Array Obj)(ok:Nat->Ty->Prop)(t:Ty)(x:t.den)(o:Nat)(v:Value):Prop:=
 ∃blk off es,v= .pointer (some ⟨blk,off+o,none⟩)/\ok blk t/\fP h blk off t.size=some es/\oq h ok t x es
def Jo(h:Array Obj)(ok:Nat->Ty->Prop):List ((t:Ty)×t.den)->d4E->Prop
 |[],vs=>vs=[]|c::cs,vs=>∃v r,vs=v::r/\a3X h ok c.1 c.2 0 v/\Jo h ok cs r
def yR(C:Cx):V->Value->Prop
 | .undef,_=>True| .un,v=>v=Go.undef| .b x,v=>v= .bool x| .i k n,v=>v= .int k n| .s l,v=>v= .string ⟨l.toArray⟩| .nl,v=>v= .slice none 0 0| .ne b,v=>∃a c,v= .slice a 0 c/\a.isNone=b| .sl t xs,v=>oq C.h C.ok (.sl t) xs [v]| .own bx vw,v=>∃loc,C.m bx=some loc/\loc.view vw v| .ptr bx o,v=>∃blk,C.m bx=some (.st blk)/\v= .pointer (some ⟨blk,o,none⟩)| .ep bx ix o,v=>∃blk off len cap sz,C.m bx=some (.arr blk off len cap sz)/\ix<len/\v= .pointer (some ⟨blk,off+ix*sz+o,none⟩)| .dp t x o,v=>a3X C.h C.ok t x o v| .glob g,v=>v= .pointer (some ⟨g,0,none⟩)| .fnv f,v=>v= .func (.func f) #[] #[]| .idl f n,v=>∃cap:Array Value,v= .func (.func f) #[] cap/\cap.size=n| .clos f caps,v=>∃vs,v= .func (.func f) #[] vs/\Jo C.h C.ok caps vs.toList| .ifc t c,v=>∃u,v= .iface t u/\u.oneCell' =true/\yR C c u|_,_=>False
def jc(C:Cx):List V->d4E->Prop
 |[],vs=>vs=[]|c::cs,vs=>∃v r,vs=v::r/\yR C c v/\v.oneCell' =true/\jc C cs r
def a0z(C:Cx):V->Value->Prop
 | .agg cs,v=>∃arr,v= .agg arr/\jc C cs arr.toList|c,v=>yR C c v
def a4M(C:Cx):List V->d4E->Prop
 |[],vs=>vs=[]|c::cs,vs=>∃v r,vs=v::r/\a0z C c v/\a4M C cs r
def nU(C:Cx):V->Value->Prop
 | .tup cs,v=>∃arr,v= .tuple arr/\a4M C cs arr.toList|c,v=>a0z C c v
def fzo(t:Ty)(n:Nat)(f:Nat×Nat):Prop:=f=(0,0)\/(t= .int .u8/\f=(n,n+1))
theorem fzo.of{f:Nat×Nat}(h:fzo t n f):f=(0,0)\/f=(n,n+1):=h.elim .inl λh=> .inr h.2
def arrOk(C:Cx)(t:Ty)(xs:List t.den):Loc->Prop
 | .nil=>xs=[]/\t.isEnt=false| .arr blk off len cap sz=>t.isEnt=false/\sz=t.size/\len=xs.length/\len<=cap/\∃c T f,C.h[blk]? =some (.cells c T f)/\fzo t c.size f/\off+cap*sz<=c.size/\
   ∀i x,xs[i]? =some x->∃es,fP C.h blk (off+i*sz) sz=some es/\oq C.h C.ok t x es
 | .st _=>False| .mp blk=>t.isEnt=true/\∃(es:Array MapEntry) (ck:Nat),C.h[blk]? =some (.map es ck)/\xF es ck xs.length/\
   ∀(i:Nat) (x:t.den),(xs:List t.den)[i]? =some x->∃e:MapEntry,es[i]? =some e/\SX t e/\oq C.h C.ok t x (Cj t e)
def yB{α:Type}(h:Array Obj)(sz:Nat)(R:Nat->α->d4E->d4F->Prop)(xs:List α)(Os:List d4F):Loc->Prop
 | .nil=>xs=[]/\Os=[]| .arr blk off len cap sz' =>sz' =sz/\len=xs.length/\len<=cap/\Os.length=xs.length/\∃c T,h[blk]? =some (.cells c T (0,0))/\off+cap*sz<=c.size/\
   ∀i x,xs[i]? =some x->∃es O,Os[i]? =some O/\fP h blk (off+i*sz) sz=some es/\R i x es O
 | .st _=>False| .mp _=>False
def zM(o n i:Nat):Option Nat:=if n<=i then some o else none
def qc(h:Array Obj)(ok:Nat->Ty->Prop):(m:M)->Option Nat->m.den->d4E->d4F->Prop
 | .dat t,_,x,cs,O=>oq h ok t x cs/\O=[]| .own t,ho,xs,cs,O=>∃v,cs=[v]/\v.oneCell' =true/\(match ho with|some 0=>O=[]|_=>∃l,l.view none v/\arrOk ⟨h,ok,nom⟩ t xs l/\O=l.blks)| .pair a b,ho,x,cs,O=>∃c d O1 O2,cs=c++d/\O=O1++O2/\qc h ok a (match ho with|some o=>if o<a.size then some o else none|none=>none) x.1 c O1/\
   qc h ok b (match ho with|some o=>if o<a.size then none else some (o -a.size)|none=>none) x.2 d O2
 | .unit,_,_,cs,O=>cs=[]/\O=[]| .box m,_,x,cs,O=>∃blk arr T O',cs=[.pointer (some ⟨blk,0,none⟩)]/\h[blk]? =some (.cells arr T (0,0))/\qc h ok m none x arr.toList O' /\O=blk::O'| .owns m,ho,xs,cs,O=>∃v,cs=[v]/\v.oneCell' =true/\(match ho with|some 0=>O=[]|_=>m.el=true/\∃l Os,l.view none v/\yB h m.size (λ_ x es O=>qc h ok m none x es O) xs Os l/\O=l.blks++Os.flatten)| .ownb t,_,xs,cs,O=>∃l v,cs=[v]/\l.view none v/\arrOk ⟨h,ok,nom⟩ t xs l/\O=l.blks| .rp t,_,x,cs,O=>∃v,cs=[v]/\a3X h ok t x 0 v/\O=[]| .fn f ts,_,x,cs,O=>∃vs,cs=[.func (.func f) #[] vs]/\Jo h ok (Xr ts x) vs.toList/\O=[]| .ifc t m,_,x,cs,O=>∃u,cs=[.iface t u]/\qc h ok m none x [u] O| .lp t,_,x,cs,O=>∃v,cs=[v]/\a3X h ok t x 0 v/\O=[]| .cell b,_,x,cs,O=>∃v,cs=[v]/\v.oneCell' =true/\(b=some none->v= .slice none 0 0)/\(∀b',b=some (some b')->∃a c,v= .slice a 0 c/\a.isNone=b')/\O=[]
def a1v(hole:Option (Nat×Nat×Option Nat))(i:Nat):Option Nat:=match hole with|some (j,o,_)=>if i=j then some o else none|none=>none
def y_(C:Cx)(sz:Nat)(l:Loc):Option (Nat×Nat×Option Nat)->Prop
 |none=>True|some (_,_,none)=>True|some (i,o,some n)=>∃blk off len cap u l',l= .arr blk off len cap sz/\fP C.h blk (off+i*sz+o) 1=some [u]/\C.m n=some l' /\l'.view none u
def b1n(C:Cx)(m:M)(xs:List m.den)(hole:Option (Nat×Nat×Option Nat))(Os:List d4F)(l:Loc):Prop:=
 yB C.h m.size (λi x es O=>qc C.h C.ok m (a1v hole i) x es O) xs Os l/\y_ C m.size l hole
def Gl(C:Cx)(n:Nat):V->Prop
 | .bcells cs=>∃blk arr T,C.m n=some (.st blk)/\C.h[blk]? =some (.cells arr T (0,0))/\jc C cs arr.toList| .barr t xs=>∃loc,C.m n=some loc/\arrOk C t xs loc| .bfrz t xs=>∃loc,C.m n=some loc/\arrOk C t xs loc/\(∀blk,blk∈loc.blks->C.ok blk t)| .barrs m xs hole=>m.el=true/\∃loc Os,C.m n=some loc/\b1n C m xs hole Os loc/\C.m.kid n=Os.flatten| .barrp m xs k o=>m.el=true/\0<=k/\∃loc Os,C.m n=some loc/\yB C.h m.size (λi x es O=>qc C.h C.ok m (zM o k.toNat i) x es O) xs Os loc/\C.m.kid n=Os.flatten| .bfc t x=>∃blk es,C.m n=some (.st blk)/\C.ok blk t/\fP C.h blk 0 t.size=some es/\oq C.h C.ok t x es| .gone t=>∃l,C.m n=some l/\∀blk off len cap sz,l= .arr blk off len cap sz->sz=t.size| .blen ln sz=>∃k l,n=TG+k/\C.m k=some l/\(match l with| .arr _ _ len _ sz' =>ln=(len:Int)/\sz=sz'| .nil=>ln=0| .st _=>False| .mp _=>False)|_=>True
def V5(m:Mp)(n:Nat):V->d4F
 | .bcells _=>match m n with|some (.st blk)=>[blk]|_=>[]
 | .barr _ _=>match m n with|some (.arr blk _ _ _ _)=>[blk]|some (.mp blk)=>[blk]|_=>[]
 | .barrs _ _ _=>(match m n with|some (.arr blk _ _ _ _)=>[blk]|_=>[])++m.kid n| .barrp _ _ _ _=>(match m n with|some (.arr blk _ _ _ _)=>[blk]|_=>[])++m.kid n|_=>[]
def c0S:V->List Ty
 | .barr t _=>[t]| .barrs m _ _=>m.ty::m.owned|_=>[]
def b6L(v:V)(t:Ty):Prop:=match v with
 | .bcells _=>True|v=>t∈c0S v
structure Cx.le (C D:Cx):Prop where
 ok:∀b t,C.ok b t->D.ok b t
 h:∀b t,C.ok b t->D.h[b]? =C.h[b]?
 m:∀n l,C.m n=some l->D.m n=some l
theorem Cx.le.refl(C:Cx):C.le C:=⟨λ_ _ h=>h,λ_ _ _=>rfl,λ_ _ h=>h⟩
theorem Cx.le.trans{A B C:Cx}(h:A.le B)(k:B.le C):A.le C:=
 ⟨λb t x=>k.ok _ _ (h.ok _ _ x),λb t x=>(k.h _ _ (h.ok _ _ x)).trans (h.h _ _ x),λn l x=>k.m _ _ (h.m _ _ x)⟩
variable {v:Value}{ok':Nat->Ty->Prop}
theorem Jb(hok:∀b t,ok b t->ok' b t)(hh:∀b t,ok b t->h'[b]? =h[b]?){x:t.den}{o:Nat}(hr:a3X h ok t x o v):a3X h' ok' t x o v:=by obtain⟨b,o',es,hv,hb,hc,hp⟩:=hr;exact⟨b,o',es,hv,hok _ _ hb,by grind [wV],gU hok hh hp⟩
theorem PN{h h' :Array Obj}{ok ok' :Nat->Ty->Prop}(hok:∀b t,ok b t->ok' b t)(hh:∀b t,ok b t->h'[b]? =h[b]?):∀{cs:List ((t:Ty)×t.den)} {vs:d4E},Jo h ok cs vs->Jo h' ok' cs vs
 |[],_,hr=>hr|_::_,_,⟨v,r,e,h1,h2⟩=>⟨v,r,e,Jb hok hh h1,PN hok hh h2⟩
variable {C:Cx}{D:Cx}
theorem a4L(h:C.le D):∀{c:V} {v:Value},yR C c v->yR D c v:=by
 intro c;induction c using V.rec<;>try trivial
 all_goals
  intro v hr;simp[yR]at hr ⊢
  try exact hr
 case sl t xs=>exact gU h.ok h.h hr
 case own bx vw=>obtain⟨l,hm,hv⟩:=hr;exact⟨l,h.m _ _ hm,hv⟩
 case ptr bx o=>obtain⟨b,hm,hv⟩:=hr;exact⟨b,h.m _ _ hm,hv⟩
 case ep bx ix o=>obtain⟨b,o',l,c,s,hm,hv⟩:=hr;exact⟨b,o',l,c,s,h.m _ _ hm,hv⟩
 case dp t x o=>exact Jb h.ok h.h hr
 case clos f caps=>obtain⟨vs,e,hc⟩:=hr;exact⟨vs,e,PN h.ok h.h hc⟩
 grind
theorem KR{C D:Cx}(h:C.le D):∀{cs:List V} {vs:d4E},jc C cs vs->jc D cs vs
 |[],_,hr=>hr|_::_,_,⟨v,r,e,h1,h2,h3⟩=>⟨v,r,e,a4L h h1,h2,KR h h3⟩
theorem b2o(h:C.le D){c:V}(hr:a0z C c v):a0z D c v:=by
 cases c<;>simp[a0z]at hr ⊢<;>try exact a4L h hr
 grind [KR]
theorem b2p{C D:Cx}(h:C.le D):∀{cs:List V} {vs:d4E},a4M C cs vs->a4M D cs vs
 |[],_,hr=>hr|_::_,_,⟨v,r,e,h1,h3⟩=>⟨v,r,e,b2o h h1,b2p h h3⟩
theorem KT(h:C.le D){c:V}(hr:nU C c v):nU D c v:=by
 cases c<;>simp[nU]at hr ⊢<;>try exact b2o h hr
 grind [b2p]
variable {l:Loc}
theorem tq{m m' :Mp}(hok:∀b t,ok b t->ok' b t)(hh:∀b t,ok b t->h'[b]? =h[b]?)
  (hb:∀b∈l.blks,h'[b]? =h[b]?) (hr:arrOk ⟨h,ok,m⟩ t xs l):arrOk ⟨h',ok',m'⟩ t xs l:=by
 cases l with
 |nil=>exact hr|st b=>exact hr|mp blk=>have e:=hb blk (by simp[Loc.blks]);obtain⟨h1,es,ck,h2,h3,h4⟩:=hr;refine⟨h1,es,ck,by rw[e];exact h2,h3,λi x hi=>?_⟩<;>grind [gU]
 |arr blk off len cap sz=>have e:=hb blk (by simp[Loc.blks]);obtain⟨h0,h1,h2,h3,c,T,f,h4,hz,h5,h6⟩:=hr;refine⟨h0,h1,h2,h3,c,T,f,by show h'[blk]? =_;rw[e];exact h4,hz,h5,λi x hi=>?_⟩<;>grind [wV,gU]
theorem a5J(h:C.le D)(hb:∀b∈l.blks,D.h[b]? =C.h[b]?)(hr:arrOk C t xs l):arrOk D t xs l:=
 tq h.ok h.h hb hr
theorem yl{α:Type}{sz:Nat}{R R' :Nat->α->d4E->d4F->Prop}{xs:List α}{Os:List d4F}(hb:∀b∈l.blks,h'[b]? =h[b]?)
  (hR:∀i x es O,O∈Os->R i x es O->R' i x es O) (hr:yB h sz R xs Os l):yB h' sz R' xs Os l:=by
 cases l with
 |nil=>exact hr|st b=>exact hr|mp b=>exact hr|arr blk off len cap sz=>have e:=hb blk (by simp[Loc.blks]);obtain⟨h1,h2,h3,h7,c,T,h4,h5,h6⟩:=hr;refine⟨h1,h2,h3,h7,c,T,by rw[e];exact h4,h5,λi x hi=>?_⟩<;>grind [wV]
theorem jS{h h' :Array Obj}{ok ok' :Nat->Ty->Prop}(hok:∀b t,ok b t->ok' b t)(hh:∀b t,ok b t->h'[b]? =h[b]?):
  ∀{m:M} {ho:Option Nat} {x:m.den} {cs:d4E} {O:d4F},(∀b∈O,h'[b]? =h[b]?)->qc h ok m ho x cs O->qc h' ok' m ho x cs O
 | .dat t,_,_,_,_,_,e=>⟨gU hok hh e.1,e.2⟩| .own t,ho,_,_,O,hb,⟨v,e,h1,ha⟩=>by refine⟨v,e,h1,?_⟩<;>grind [tq]| .pair a b,_,_,_,_,hb,⟨c,d,O1,O2,e,eo,h1,h2⟩=>by subst eo;exact⟨c,d,O1,O2,e,rfl,jS hok hh (λb h=>hb b (by grind)) h1,jS hok hh (λb h=>hb b (by grind)) h2⟩| .unit,_,_,_,_,_,e=>e| .box m,_,_,_,_,hb,⟨blk,arr,T,O',e,hh',hr,eo⟩=>by subst eo;exact⟨blk,arr,T,O',e,by simp_all,jS hok hh (λb h=>hb b (by grind)) hr,rfl⟩| .owns m,ho,_,_,O,hb,⟨v,e,h1,ha⟩=>by
  refine⟨v,e,h1,?_⟩;split at ha
  .omega
  .obtain⟨he,l,Os,hv,ha,ho⟩:=ha;subst ho;exact⟨he,l,Os,hv,yl (λb h=>hb b (by grind)) (λi x es O hO hr=>jS hok hh (λb h=>hb b (by
    grind [List.mem_flatten])) hr) ha,rfl⟩
 | .ownb t,_,_,_,_,hb,⟨l,v,e,hv,ha,ho⟩=>⟨l,v,e,hv,tq hok hh (by simp_all) ha,ho⟩| .rp t,_,_,_,_,_,⟨v,e,h1,h2⟩=>⟨v,e,Jb hok hh h1,h2⟩| .fn f ts,_,_,_,_,_,⟨vs,e,h1,h2⟩=>⟨vs,e,PN hok hh h1,h2⟩| .lp t,_,_,_,_,_,⟨v,e,h1,h2⟩=>⟨v,e,Jb hok hh h1,h2⟩| .ifc t m,_,_,_,_,hb,⟨u,e,h1⟩=>⟨u,e,jS hok hh hb h1⟩| .cell b,_,_,_,_,_,h=>h
theorem VB(h:C.le D){v:V}(hk:D.m.kid n=C.m.kid n)(hb:∀b∈V5 C.m n v,D.h[b]? =C.h[b]?)(hr:Gl C n v):Gl D n v:=by
 cases v<;>simp only[Gl]at hr ⊢
 case bcells cs=>obtain⟨blk,arr,T,hm,hh,hl⟩:=hr;exact⟨blk,arr,T,h.m _ _ hm,by simp_all [V5],KR h hl⟩
 case barr t xs=>
  obtain⟨l,hm,ha⟩:=hr;refine⟨l,h.m _ _ hm,a5J h ?_ ha⟩;intro b hbl;cases l<;>simp[Loc.blks]at hbl
  .simp_all [V5]
  .cases ha
  simp_all [V5]
 case bfrz t xs=>obtain⟨l,hm,ha,hok⟩:=hr;refine⟨l,h.m _ _ hm,a5J h ?_ ha,λblk e=>h.ok _ _ (hok _ e)⟩;intro b hbl;exact h.h _ _ (hok _ hbl)
 case barrp m xs k o=>
  obtain⟨he,h0,l,Os,hm,ha,ho⟩:=hr;refine⟨he,h0,l,Os,h.m _ _ hm,yl ?_ ?_ ha,hk.trans ho⟩
  .intro b hbl;cases l<;>simp[Loc.blks]at hbl
   .simp_all [V5]
   .cases ha
   .cases ha
  .intro i x es O hO hr;refine jS h.ok h.h (λb hbO=>hb b ?_) hr;simp[V5,D6];right;rw[ho];exact bg.2 ⟨O,hO,hbO⟩
 case barrs m xs hole=>
  obtain⟨he,l,Os,hm,ha,ho⟩:=hr;obtain⟨ha,hh⟩:=ha;refine⟨he,l,Os,h.m _ _ hm,⟨yl ?_ ?_ ha,?_⟩,hk.trans ho⟩
  .intro b hbl;cases l<;>simp[Loc.blks]at hbl
   .simp_all [V5]
   .cases ha
   .cases ha
  .intro i x es O hO hr;refine jS h.ok h.h (λb hbO=>hb b ?_) hr;simp[V5,D6];right;rw[ho];exact bg.2 ⟨O,hO,hbO⟩
  .rcases hole with _|⟨i,o,_|k⟩
   .trivial
   .trivial
   .obtain⟨blk,off,len,cap,u,l',rfl,h1,h2,h3⟩:=hh;exact⟨blk,off,len,cap,u,l',rfl,by grind [wV,V5],h.m _ _ h2,h3⟩
 case bfc t x=>obtain⟨blk,es,hm,hok,he,hr⟩:=hr;exact⟨blk,es,h.m _ _ hm,h.ok _ _ hok,by rw[wV (h.h _ _ hok)];omega,gU h.ok h.h hr⟩
 case gone t=>obtain⟨l,hm,hs⟩:=hr;exact⟨l,h.m _ _ hm,hs⟩
 case blen ln sz=>obtain⟨k,l,e,hm,hs⟩:=hr;exact⟨k,l,e,h.m _ _ hm,hs⟩
theorem oK{C:Cx} :∀{cs:List V} {vs:d4E},jc C cs vs->cs.length=vs.length
 |[],_,h=>by simp_all [jc]|_::_,_,⟨v,r,e,_,_,h3⟩=>by subst e;simp[oK h3]
theorem Bc{C:Cx} :∀{a:List V} {va:d4E} {b:List V} {vb:d4E},jc C a va->jc C b vb->jc C (a++b) (va++vb)
 |[],_,_,_,h,k=>by simp_all [jc]|_::_,_,_,_,⟨v,r,e,h1,h2,h3⟩,k=>by subst e;exact⟨v,r++_,rfl,h1,h2,Bc h3 k⟩
theorem VC{C:Cx} :∀{cs:List V} {vs:d4E},jc C cs vs->∀v∈vs,v.oneCell' =true
 |[],_,h=>by simp_all [jc]|_::_,_,⟨v,r,e,_,h2,h3⟩=>by
  subst e;intro u hu;rcases C9.1 hu with rfl|hu
  .exact h2
  .exact VC h3 u hu
theorem xW{C:Cx} :∀(n:Nat) {cs:List V} {vs:d4E},jc C cs vs->jc C (cs.drop n) (vs.drop n)
 |0,_,_,h=>by simp_all|n+1,[],_,h=>by simp_all [jc]|n+1,_::_,_,⟨v,r,e,_,_,h3⟩=>by simp_all [xW]
theorem zJ{C:Cx} :∀(n:Nat) {cs:List V} {vs:d4E},jc C cs vs->jc C (cs.take n) (vs.take n)
 |0,_,_,h=>by simp[jc]|n+1,[],_,h=>by simp_all [jc]|n+1,_::_,_,⟨v,r,e,h1,h2,h3⟩=>by subst e;exact⟨v,r.take n,x9,h1,h2,zJ n h3⟩
theorem qh:∀(t:Ty) (x:t.den) (r:List V),flat t x r=flat t x []++r
 | .bool,_,_=>rfl| .int _,_,_=>rfl| .str,_,_=>rfl| .sl _,_,_=>rfl| .unit,_,_=>rfl| .any _,_,_=>rfl| .prod a b,x,r=>by simp[flat];rw[qh a x.1 (flat b x.2 r),qh b x.2 r,qh a x.1 (flat b x.2 [])];simp| .ent _ _ a b,x,r=>by simp[flat];rw[qh a x.1 (flat b x.2 r),qh b x.2 r,qh a x.1 (flat b x.2 [])];simp
theorem qR{C:Cx} :∀{t:Ty} {x:t.den} {cs:d4E},oq C.h C.ok t x cs->jc C (flat t x []) cs
 | .bool,x,_,h=>by subst h;exact⟨_,_,rfl,rfl,rfl,rfl⟩| .int _,x,_,h=>by subst h;exact⟨_,_,rfl,rfl,rfl,rfl⟩| .str,x,_,h=>by subst h;exact⟨_,_,rfl,rfl,rfl,rfl⟩| .unit,_,_,h=>by subst h;rfl| .any _,_,_,h=>by obtain⟨v,rfl,h1,_⟩:=h;exact⟨v,[],rfl,trivial,h1,rfl⟩
 | .sl t,xs,_,h=>by have h' :=h;rcases h with⟨_,a,cap,rfl,_⟩|⟨_,mv,rfl,_⟩<;>exact⟨_,_,rfl,h',rfl,rfl⟩
 | .ent _ _ a b,x,_,h=>by obtain⟨c,d,rfl,h1,h2⟩:=h;simp[flat];rw[qh a];exact Bc (qR h1) (qR h2)
 | .prod a b,x,_,h=>by obtain⟨c,d,rfl,h1,h2⟩:=h;simp[flat];rw[qh a];exact Bc (qR h1) (qR h2)
theorem rH:∀(t:Ty) (x:t.den),(flat t x []).length=t.size
 | .bool,_=>rfl| .int _,_=>rfl| .str,_=>rfl| .sl _,_=>rfl| .unit,_=>rfl| .any _,_=>rfl| .prod a b,x=>by simp[flat,Ty.size];rw[qh a,J9,rH a x.1,rH b x.2]| .ent _ _ a b,x=>by simp[flat,Ty.size];rw[qh a,J9,rH a x.1,rH b x.2]
theorem tN{vw:Option (Nat×Nat)}(ha:arrOk C t xs l)(hv:l.view vw v)
  (hok:∀b t,C.ok b t->ok' b t) (hb:∀blk,blk∈l.blks->ok' blk t):oq C.h ok' (.sl t) (lF vw xs) [v]:=by
 cases l with
 |st b=>cases ha|mp b=>
  obtain⟨h0,es,ck,h1,h2,h3⟩:=ha;cases vw with
  |some p=>cases hv|none=>subst hv;refine .inr ⟨h0,some b,rfl,(λh=>nomatch h),λblk e=>?_⟩;cases e;refine⟨hb b (by simp[Loc.blks]),es,ck,h1,h2,λi x hi=>?_⟩;obtain⟨en,a1,a2,a3⟩:=h3 i x hi<;>grind [gU]
 |nil=>
  obtain⟨ha,h0⟩:=ha;subst ha;cases vw with
  |none=>subst hv;exact .inl ⟨h0,none,0,rfl,D5 _,λi x hi=>by grind [lF]⟩|some p=>obtain⟨lo,hi⟩:=p;obtain⟨rfl,rfl,rfl⟩:=hv;exact .inl ⟨h0,none,0,by simp[lF,lJ],by simp[lF,lJ],λi x hi=>by grind [lF,lJ]⟩
 |arr blk off len cap sz=>
  obtain⟨h0,rfl,rfl,hc,c,T,f,hh,hz,hs,hx⟩:=ha;have hbk:=hb blk (by simp[Loc.blks]);cases vw with
  |none=>subst hv;refine .inl ⟨h0,_,cap,rfl,hc,λi x hi=>?_⟩;obtain⟨es,he,hr⟩:=hx i x hi<;>grind [gU]
  |some p=>
   obtain⟨lo,hi⟩:=p;obtain⟨h1,h2,rfl⟩:=hv;have hl:(lF (some (lo,hi)) xs).length=hi -lo:=by simp_all [lF,lJ]
   refine .inl ⟨h0,_,cap -lo,by rw[hl],l7,λi x hix=>?_⟩;have hi' :i<hi -lo:=by grind
   have hx' :xs[lo+i]? =some x:=by
    grind [lF,lJ]
   obtain⟨es,he,hr⟩:=hx _ x hx';have hne:cap≠lo:=l7;refine⟨blk,off+lo*t.size,es,by simp[hne],hbk,?_,gU hok (λ_ _ _=>rfl) hr⟩<;>grind
end Go.GP
namespace Go.GP
abbrev Sm:=Nat->V
def upd(S:Sm)(k:Nat)(v:V):Sm:=λn=>if n=k then v else S n
@[simp] theorem iQ (S:Sm) (k:Nat) (v:V):upd S k v k=v:=by simp[upd]
theorem Z5(S:Sm){k n:Nat}(v:V)(h:n≠k):upd S k v n=S n:=by simp[upd,h]
variable {α:Type}
def Cmd.eval :Cmd α->Sm->Tr->Option (α×Sm×Tr)
 | .ret x,S,t=>some (x,S,t)| .fail,_,_=>none| .get k c,S,t=>(c (S k)).eval S (k::t.1,t.2)| .set k v c,S,t=>c.eval (upd S k v) (t.1,k::t.2)
 | .opt o c,S,t=>match o with|some x=>(c x).eval S t|none=>none
 | .br b c d,S,t=>if b=true then c.eval S t else d.eval S t
def Cmd.post :Cmd α->Sm->(α->Sm->Prop)->Prop
 | .ret x,S,Q=>Q x S| .fail,_,_=>True| .get k c,S,Q=>(c (S k)).post S Q| .set k v c,S,Q=>c.post (upd S k v) Q| .opt o c,S,Q=>∀x,o=some x->(c x).post S Q| .br b c d,S,Q=>(b=true->c.post S Q)/\(b=false->d.post S Q)
theorem pY{α:Type}{Q:α->Sm->Prop} :∀{c:Cmd α} {S S' :Sm} {t t' :Tr} {x:α},c.post S Q->c.eval S t=some (x,S',t')->Q x S'
 | .ret x,_,_,_,_,_,h,e=>by obtain⟨rfl,rfl,rfl⟩:=e;exact h
 | .fail,_,_,_,_,_,h,e=>by grind [Cmd.eval]| .get k c,_,_,_,_,_,h,e=>pY (c:=c _) h e| .set k v c,_,_,_,_,_,h,e=>pY (c:=c) h e| .opt o c,_,_,_,_,_,h,e=>by
  cases o with
  |none=>grind [Cmd.eval]|some x=>exact pY (h x rfl) e
 | .br b c d,_,_,_,_,_,h,e=>by
  cases b
  .exact pY (h.2 rfl) (by simpa[Cmd.eval]using e)
  .exact pY (h.1 rfl) (by simpa[Cmd.eval]using e)
theorem xU{α:Type}{Q Q' :α->Sm->Prop}(hq:∀x S,Q x S->Q' x S):∀{c:Cmd α} {S:Sm},c.post S Q->c.post S Q'
 | .ret x,_,h=>hq _ _ h| .fail,_,_=>trivial| .get k c,_,h=>xU hq (c:=c _) h| .set k v c,_,h=>xU hq (c:=c) h
 | .opt o c,_,h=>λx e=>xU hq (c:=c x) (h x e)| .br b c d,_,h=>⟨λe=>xU hq (c:=c) (h.1 e),λe=>xU hq (c:=d) (h.2 e)⟩
theorem BA{α β:Type}{f:α->Cmd β} :∀(c:Cmd α) (S:Sm) (t:Tr),(c.bind f).eval S t=(match c.eval S t with|some (x,S',t')=>(f x).eval S' t'|none=>none)
 | .ret x,S,t=>rfl| .fail,_,_=>rfl| .get k c,S,t=>BA (c (S k)) S _| .set k v c,S,t=>BA c _ _| .opt o c,S,t=>by
  cases o with
  |none=>rfl|some x=>exact BA (c x) S t
 | .br b c d,S,t=>by
  cases b
  .simpa[Cmd.bind,Cmd.eval]using BA d S t
  .simpa[Cmd.bind,Cmd.eval]using BA c S t
theorem Ee{α β:Type}{Q:β->Sm->Prop}{f:α->Cmd β} :∀{c:Cmd α} {S:Sm},c.post S (λx S' =>(f x).post S' Q)->(c.bind f).post S Q
 | .ret x,_,h=>h| .fail,_,_=>trivial| .get k c,_,h=>Ee (c:=c _) h| .set k v c,_,h=>Ee (c:=c) h
 | .opt o c,_,h=>λx e=>Ee (c:=c x) (h x e)| .br b c d,_,h=>⟨λe=>Ee (c:=c) (h.1 e),λe=>Ee (c:=d) (h.2 e)⟩
theorem MI{R:Type} :∀(v:V) (K:V->R),v.force K=K v:=by
 intro v;induction v using V.rec<;>try trivial
 all_goals intro K
 case i k n=>cases k<;>rfl
 case own bx vw=>cases vw<;>rfl
 case barrs m xs h=>rcases h with _|⟨p,q,_|r⟩<;>rfl
 all_goals simp_all [V.force]
theorem a2u{R:Type} :∀(l:List V) (K:List V->R),WM l K=K l
 |[],_=>rfl|v::r,K=>by simp[WM,MI,a2u r]
theorem b3t{R:Type}(v:V)(K:V->R):v.force2 K=K v:=by
 grind [V.force2,MI,a2u]
theorem yJ(k:Nat)(v:V)(s:St):Y1 (.kv k v::s)=upd (Y1 s) k v:=by
 funext n;simp[Y1,upd];by_cases h:n=k
 .simp_all
 grind [Nat.eq_of_beq_eq_true]
theorem AU{α β:Type}{o:Option α}{f:α->Option β}{r:β}(h:o5 o f=some r):∃x,o=some x/\f x=some r:=by cases o<;>simp_all [o5]
theorem jT{α R:Type} :∀{c:Cmd α} {s:St} {t:Tr} {K:α->St->Tr->Option R} {r:R},c.runK s t K=some r->
  ∃x s' t',c.eval (Y1 s) t=some (x,Y1 s',t')/\K x s' t' =some r
 | .ret x,s,t,K,r,h=>⟨x,s,t,rfl,h⟩| .fail,_,_,_,_,h=>by grind [Cmd.runK]| .get k c,s,t,K,r,h=>by simp[Cmd.runK,MI]at h;exact jT (c:=c _) h| .set k v c,s,t,K,r,h=>by simp[Cmd.runK,b3t]at h;obtain⟨x,s',t',e,hk⟩:=jT h<;>grind [Cmd.eval,yJ]
 | .opt o c,s,t,K,r,h=>by obtain⟨y,rfl,h⟩:=AU h;exact jT (c:=c y) h
 | .br b c d,s,t,K,r,h=>by
  cases b
  .obtain⟨x,s',t',e,hk⟩:=jT (show d.runK s t K=some r from h)<;>grind [Cmd.eval]
  .obtain⟨x,s',t',e,hk⟩:=jT (show c.runK s t K=some r from h)<;>grind [Cmd.eval]
theorem FP{α:Type} :∀{c:Cmd α} {S S' :Sm} {t t' :Tr} {x:α},c.eval S t=some (x,S',t')->(∀k∈t.1,k∈t'.1)/\(∀k∈t.2,k∈t'.2)
 | .ret x,_,_,_,_,_,e=>by simp_all [Cmd.eval]| .fail,_,_,_,_,_,e=>by grind [Cmd.eval]| .get k c,_,_,_,_,_,e=>by have h:=FP (c:=c _) e;exact⟨λn hn=>h.1 n (by simp[hn]),h.2⟩| .set k v c,_,_,_,_,_,e=>by have h:=FP (c:=c) e;exact⟨h.1,λn hn=>h.2 n (by simp[hn])⟩| .opt o c,_,_,_,_,_,e=>by
  cases o with
  |none=>simp[Cmd.eval]at e|some x=>exact FP (c:=c x) e
 | .br b c d,_,_,_,_,_,e=>by
  cases b
  .exact FP (by simpa[Cmd.eval]using e)
  .exact FP (by simpa[Cmd.eval]using e)
theorem wY{α:Type} :∀{c:Cmd α} {S S' :Sm} {t t' :Tr} {x:α},c.eval S t=some (x,S',t')->∀T:Sm,(∀k∈t'.1,T k=S k)->
  ∃T',c.eval T t=some (x,T',t')/\(∀k,T k=S k->T' k=S' k)/\(∀k,k∉t'.2->T' k=T k)/\(∀k,k∈t'.2->k∉t.2->T' k=S' k)
 | .ret x,_,_,_,_,_,e,T,hT=>by simp_all [Cmd.eval]| .fail,_,_,_,_,_,e,_,_=>by grind [Cmd.eval]| .get k c,S,_,t,t',_,e,T,hT=>by have hk:T k=S k:=hT k ((FP (c:=c _) e).1 k x9);obtain⟨T',h1,h2,h3,h4⟩:=wY (c:=c _) e T hT<;>simp_all [Cmd.eval]
 | .set k v c,S,_,t,t',_,e,T,hT=>by
  obtain⟨T',h1,h2,h3,h4⟩:=wY (c:=c) e (upd T k v) (λn hn=>by by_cases h:n=k<;>simp_all [Z5])
  have hkin:=(FP (c:=c) e).2 k x9;refine⟨T',h1,λn hn=>h2 n ?_,λn hn=>?_,λn hn hn' =>?_⟩
  .by_cases h:n=k<;>simp_all [Z5]
  .grind [Z5]
  .by_cases h:n=k<;>simp_all
 | .opt o c,_,_,_,_,_,e,T,hT=>by
  cases o with
  |none=>grind [Cmd.eval]|some x=>exact wY (c:=c x) e T hT
 | .br b c d,_,_,_,_,_,e,T,hT=>by
  cases b
  .obtain⟨T',h1,h2⟩:=wY (by simpa[Cmd.eval]using e) T hT<;>simp_all [Cmd.eval]
  .obtain⟨T',h1,h2⟩:=wY (by simpa[Cmd.eval]using e) T hT<;>simp_all [Cmd.eval]
theorem uS{c:Cmd α}{S S' :Sm}{t t' :Tr}{x:α}(e:c.eval S t=some (x,S',t'))(k:Nat)(h:k∉t'.2):S' k=S k:=by obtain⟨T',h1,_,h3,_⟩:=wY e S (λ_ _=>rfl)<;>simp_all
section draws
variable {n:Nat} {c:Nat->Cmd Unit} {S:Nat->Sm} {T:Nat->Tr}
def SD(S:Nat->Sm)(T:Nat->Tr)(D:d4F):Nat->Sm
 |0=>S 0
 |m+1=>λk=>if m∈D/\k∈(T m).2 then S (m+1) k else SD S T D m k
theorem IY(hs:∀i,i<n->(c i).eval (S i) ([],[])=some ((),S (i+1),T i))(D:d4F)(k:Nat):
  ∀m,m<=n->(∀j,j<m->k∈(T j).2->j∈D)->SD S T D m k=S m k
 |0,_,_=>rfl|m+1,hm,h=>by
  have ih:=IY hs D k m l7 (λj hj=>h j l7);simp only[SD];by_cases hk:k∈(T m).2
  .simp_all
  .rw[if_neg (λx=>hk x.2),ih,uS (hs m l7) k hk]
theorem Us(D:d4F)(k i:Nat):∀m,i<=m->(∀j,i<=j->j<m->k∈(T j).2->j∉D)->SD S T D m k=SD S T D i k
 |m,hm,h=>by induction m<;>grind [SD]
theorem b1b(D:d4F)(i k:Nat)(hk:k∉(T i).2):∀m,SD S T (i::D) m k=SD S T D m k
 |0=>rfl|m+1=>by
  simp[SD,b1b D i k hk m];by_cases e:m=i
  .subst e;simp[hk]
  .simp[C9,e]
theorem b4S(hs:∀i,i<n->(c i).eval (S i) ([],[])=some ((),S (i+1),T i)){D:d4F}(hD:∀i,i<n->i∈D):SD S T D n=S n:=by funext k;exact IY hs D k n l7 (λj hj _=>hD j hj)
theorem b4T(n:Nat):SD S T [] n=S 0:=by induction n<;>simp_all [SD]
end draws
end Go.GP
namespace Go.GP
def b0X(P:Program)(d:Deferred):Prop:=∃fv cap f args,d.target= .fn fv cap/\(∀w:World,(invoke d.target d.args).run P w= .ok (.enter f args) w)/\
 ∀w,CallsD P f args .returning w λe u' w' =>(∃v,e= .returned v)/\u' = .returning/\w' =w
def c7F(P:Program)(f n:Nat):Prop:=∀cap:Array Value,cap.size=n->b0X P { target:=.fn (.func f) cap,args:=#[] }
theorem XJ{P:Program}{fn:Func}{tmps:Array Value}{R:Ending->World->Prop}{w:World}(h:∃v,(results fn tmps).run P w= .ok v w/\R (.returned v) w):∀(ds:List Deferred),(∀d∈ds,b0X P d)->Leaves P fn tmps R ds .returning w
 |[],_=>h
 |d::ds,hd=>by obtain⟨fv,cap,f,args,ht,hi,hc⟩:=hd d x9;refine⟨x9,fv,cap,f,args,ht,hi w,(hc w).mono ?_⟩;rintro e u' w' ⟨⟨v,rfl⟩,rfl,rfl⟩;exact XJ h ds λx hx=>hd x (by simp[hx])
structure Fx where
 P:Program
 E:Env
 w0:World
 O:d4F
 ok0:Nat->Ty->Prop
 tm0:Array Value
 df:Option (List Deferred)
structure Frame' (μ:Prop) (w0 w:World) (O:d4F):Prop where
 os:w.os=w0.os
 tape:w.tape=w0.tape
 output:w.output=w0.output
 size:w0.heap.size<=w.heap.size
 block:∀b,b<w0.heap.size->b∉O->w.heap[b]? =w0.heap[b]?
 drawn:μ->w0.drawn<=w.drawn
theorem Frame'.refl{μ:Prop}(w:World)(O:d4F):Frame' μ w w O:=⟨rfl,rfl,rfl,D5 _,λ_ _ _=>rfl,λ_=>D5 _⟩
def c2e(h:Array Obj)(g n:Nat):Prop:=∃c T f,h[g]? =some (.cells c T f)/\c.size=n
def Ph(C:Cx)(g:Nat)(t:Ty)(xs:List t.den):Prop:=
 C.ok g t/\c2e C.h g (xs.length*t.size)/\∀i x,xs[i]? =some x->∃es,fP C.h g (i*t.size) t.size=some es/\oq C.h C.ok t x es
theorem Ph.le{C D:Cx}(h:C.le D){g:Nat}{t:Ty}{xs:List t.den}(k:Ph C g t xs):Ph D g t xs:=by obtain⟨h1,h3,h2⟩:=k;refine⟨h.ok _ _ h1,by unfold c2e at h3 ⊢;rw[h.h _ _ h1];omega,λi x hi=>?_⟩;obtain⟨es,he,hr⟩:=h2 i x hi;exact⟨es,by rw[wV (h.h _ _ h1)];omega,gU h.ok h.h hr⟩
structure Rel (X:Fx) (cl ch:Nat) (S:Sm) (m:Mp) (ok:Nat->Ty->Prop) (a:Act) (w:World):Prop where
 size:a.tmps.size=X.E.nt
 nodef:∀d∈a.defers,b0X X.P d
 dfs:∀l,X.df=some l->a.defers=l
 slot:∀n,n<Z4->nU ⟨w.heap,ok,m⟩ (S n) (a.tmps.getD n Go.undef)
 box:∀n,Gl ⟨w.heap,ok,m⟩ n (S (Z4+n))
 inj:∀n n' b,b∈V5 m n (S (Z4+n))->b∈V5 m n' (S (Z4+n'))->n=n'
 nd:∀n,(V5 m n (S (Z4+n))).Nodup
 sep:∀n b,b∈V5 m n (S (Z4+n))->(∀t,¬ok b t)/\b<w.heap.size/\(X.w0.heap.size<=b\/b∈X.O)
 okLt:∀b t,ok b t->b<w.heap.size
 okIn:∀b t,X.ok0 b t->ok b t
 okOut:∀b t,ok b t->X.ok0 b t\/X.w0.heap.size<=b\/b∈X.O
 frame:Frame' (X.E.gl=[]) X.w0 w X.O
 fresh:∀n,cl<=n->S (Z4+n)= .undef->m n=none
 strict:∀n,ch<=n->m n=none
 gl:∀g u,fZ X.E.gl g=some u->Ph ⟨w.heap,ok,m⟩ g u.1 u.2
 kept:∀n∈X.E.kp,a.tmps.getD n Go.undef=X.tm0.getD n Go.undef
def oV(m:Mp)(n:Nat)(l:Loc)(ks:d4F):Mp:=⟨λk=>if k=n then some l else m k,λk=>if k=n then ks else m.kid k⟩
@[simp] theorem bu (m:Mp) (n:Nat) (l:Loc) (ks:d4F):oV m n l ks n=some l:=by simp[oV]
variable {n:Nat}{k:Nat}
theorem jZ(m:Mp)(l:Loc)(ks:d4F)(h:k≠n):oV m n l ks k=m k:=by simp[oV,h]
@[simp] theorem d3T (m:Mp) (n:Nat) (l:Loc) (ks:d4F):(oV m n l ks).kid n=ks:=by simp[oV]
theorem Su(m:Mp)(l:Loc)(ks:d4F)(h:k≠n):(oV m n l ks).kid k=m.kid k:=by simp[oV,h]
def EY(m:Mp)(n:Nat)(ks:d4F):Mp:=⟨m.loc,λk=>if k=n then ks else m.kid k⟩
@[simp] theorem d2F (m:Mp) (n k:Nat) (ks:d4F):EY m n ks k=m k:=rfl
@[simp] theorem d2E (m:Mp) (n:Nat) (ks:d4F):(EY m n ks).kid n=ks:=by simp[EY]
theorem a3l(m:Mp)(ks:d4F)(h:k≠n):(EY m n ks).kid k=m.kid k:=by simp[EY,h]
theorem BM(m:Mp)(n:Nat):EY m n (m.kid n)=m:=by cases m<;>grind [EY,Mp.mk.injEq]
variable {v:V}
theorem JM{m m' :Mp}(h:m' n=m n)(k:m'.kid n=m.kid n):V5 m' n v=V5 m n v:=by simp_all [V5]
variable {d:Nat}
theorem Td{tmps:Array Value}(h:d<tmps.size)(x e:Value):(tmps.setIfInBounds d x).getD d e=x:=by simp_all
theorem JA{tmps:Array Value}(h:n≠d)(x e:Value):(tmps.setIfInBounds d x).getD n e=tmps.getD n e:=by
 simp
 grind
structure Tk (X:Fx) (S:Sm) (m:Mp) (ok:Nat->Ty->Prop) (w:World) (T:d4F):Prop where
 nodup:T.Nodup
 free:∀b∈T,(∀t,¬ok b t)/\b<w.heap.size/\(X.w0.heap.size<=b\/b∈X.O)/\∀n,b∉V5 m n (S (Z4+n))
theorem Tk.nil{X:Fx}{S:Sm}{m:Mp}{ok:Nat->Ty->Prop}{w:World} :Tk X S m ok w []:=⟨bZ,λb h=>by grind⟩
def okW(ok:Nat->Ty->Prop)(bs:d4F)(Ts:List Ty):Nat->Ty->Prop:=λb t=>ok b t\/(b∈bs/\t∈Ts)
variable {w':World}{bs:d4F}
section
variable {X:Fx} {cl ch:Nat} {S:Sm} {m:Mp} {ok:Nat->Ty->Prop} {a:Act} {w:World} {T:d4F}
theorem Tk.perm{T T' :d4F}(h:Tk X S m ok w T)(p:T.Perm T'):Tk X S m ok w T' :=
 ⟨p.nodup_iff.1 h.nodup,λb hb=>h.free b (p.mem_iff.2 hb)⟩
theorem NM{n:Nat} :∀{l:d4F},He n l=false->n∉l
 |[],_,h=>by grind|k::r,hb,h=>by
  unfold He at hb;cases hk:Nat.beq k n<;>rw[hk]at hb
  .rcases C9.1 h with e|h
   .subst e;rw[show Nat.beq n n=true from Nat.beq_refl n]at hk;cases hk
   .exact NM hb h
  .cases hb
theorem a2J{n:Nat} :∀{l:d4F},He n l=true->n∈l
 |[],h=>by cases h|k::r,hb=>by
  unfold He at hb;cases hk:Nat.beq k n<;>rw[hk]at hb
  .exact X9 _ (a2J hb)
  .have:=ik hk;subst this;exact kT
theorem jX{E:Env}{t:Nat}(h:OU E t=true):t<E.nt/\t∉E.kp:=by
 grind [OU,Nat.blt_eq,NM]
theorem Rel.put(R:Rel X cl ch S m ok a w)(hnt:X.E.nt<=Z4){x:Value}(hd:OU X.E d=true)(hv:nU ⟨w.heap,ok,m⟩ v x):
  Rel X cl ch (upd S d v) m ok (a.put (some d) x) w:=by
 obtain⟨hd,hkp⟩:=jX hd;have hb:∀n,upd S d v (Z4+n)=S (Z4+n):=λn=>Z5 _ _ l7;have hkept:∀n∈X.E.kp,(a.put (some d) x).tmps.getD n Go.undef=X.tm0.getD n Go.undef:=λn hn=>by have e:n≠d:=λe=>hkp (e▸hn);simp only[Act.put];rw[JA e];exact R.kept n hn
 refine { R with size:=(by simp[Act.put,R.size]),nodef:=(by simpa[Act.put]using R.nodef),dfs:=(by simpa[Act.put]using R.dfs),slot:=λn hn=>?_,box:=λn=>(by rw[hb];exact R.box n),inj:=λn n' b=>(by rw[hb,hb];exact R.inj n n' b),nd:=λn=>(by rw[hb];exact R.nd n),sep:=λn b=>(by rw[hb];exact R.sep n b),fresh:=λn h1 h2=>R.fresh n h1 (by simp_all),kept:=hkept };by_cases e:n=d
 .subst e;simp only[iQ,Act.put];rw[Td (by rw[R.size];omega)];omega
 .rw[Z5 _ _ e];simp only[Act.put];rw[JA e];exact R.slot n hn
theorem Rel.slotV(R:Rel X cl ch S m ok a w)(hd:d<Z4)(hv:nU ⟨w.heap,ok,m⟩ v (a.tmps.getD d Go.undef)):
  Rel X cl ch (upd S d v) m ok a w:=by
 have hb:∀n,upd S d v (Z4+n)=S (Z4+n):=λn=>Z5 _ _ l7;refine { R with slot:=λn hn=>?_,box:=λn=>(by rw[hb];exact R.box n),inj:=λn n' b=>(by rw[hb,hb];exact R.inj n n' b),nd:=λn=>(by rw[hb];exact R.nd n),sep:=λn b=>(by rw[hb];exact R.sep n b),fresh:=λn h1 h2=>R.fresh n h1 (by simp_all) };by_cases e:n=d
 .simp_all
 .rw[Z5 _ _ e];exact R.slot n hn
theorem Rel.world(R:Rel X cl ch S m ok a w){ok' :Nat->Ty->Prop}(hos:w'.os=w.os)(htp:w'.tape=w.tape)(hout:w'.output=w.output)(hsz:w.heap.size<=w'.heap.size)
  (hkeep:∀b,b<w.heap.size->((∃t,ok b t)\/(∃n,b∈V5 m n (S (Z4+n)))\/¬(X.w0.heap.size<=b\/b∈X.O))->w'.heap[b]? =w.heap[b]?)
  (hok:∀b t,ok b t->ok' b t) (hok' :∀b t,ok' b t->b<w'.heap.size/\(ok b t\/((X.w0.heap.size<=b\/b∈X.O)/\∀n,b∉V5 m n (S (Z4+n)))))
  (hdr:X.E.gl=[]->w.drawn<=w'.drawn:=by exact λ_=>D5 _):Rel X cl ch S m ok' a w' :=by
 have hle:Cx.le ⟨w.heap,ok,m⟩ ⟨w'.heap,ok',m⟩:=⟨hok,λb t hb=>hkeep b (R.okLt b t hb) (.inl ⟨t,hb⟩),λ_ _ h=>h⟩;refine { kept:=R.kept,size:=R.size,nodef:=R.nodef,dfs:=R.dfs,inj:=R.inj,nd:=R.nd,fresh:=R.fresh,strict:=R.strict,slot:=λn hn=>KT hle (R.slot n hn),box:=λn=>VB hle rfl (λb hb=>hkeep b (R.sep n b hb).2.1 (.inr (.inl ⟨n,hb⟩))) (R.box n),sep:=λn b hb=>?_,okLt:=λb t hb=>(hok' b t hb).1,okIn:=λb t hb=>hok b t (R.okIn b t hb),okOut:=λb t hb=>?_,frame:=?_,gl:=λg u hg=>Ph.le hle (R.gl g u hg) }
 .obtain⟨h1,h2,h3⟩:=R.sep n b hb<;>grind
 .rcases(hok' b t hb).2 with h|⟨h,_⟩
  .exact R.okOut b t h
  simp_all
 .obtain⟨f1,f2,f3,f4,f5,f6⟩:=R.frame;refine⟨hos.trans f1,htp.trans f2,hout.trans f3,l7,λb hb hO=>?_,λh=>ay (f6 h) (hdr h)⟩<;>grind
theorem Rel.same(R:Rel X cl ch S m ok a w)(hos:w'.os=w.os)(htp:w'.tape=w.tape)(hout:w'.output=w.output)(hh:w'.heap=w.heap)(hdr:X.E.gl=[]->w.drawn<=w'.drawn:=by exact λ_=>D5 _):Rel X cl ch S m ok a w' :=by exact R.world hos htp hout (by simp_all) (λb _ _=>by rw[hh]) (λ_ _ h=>h) (λb t h=>⟨by rw[hh];exact R.okLt b t h,.inl h⟩) hdr
theorem Ed{n k b:Nat}(hv:V5 m n v=[])(h:b∈V5 m k (upd S (Z4+n) v (Z4+k))):k≠n/\b∈V5 m k (S (Z4+k)):=by
 grind [iQ,Z5]
theorem Rel.killV(R:Rel X cl ch S m ok a w)(n:Nat)(hv:v≠.undef)(hw:V5 m n v=[])(hB:Gl ⟨w.heap,ok,m⟩ n v):Rel X cl ch (upd S (Z4+n) v) m ok a w:=by
 have ho:∀k b,b∈V5 m k (upd S (Z4+n) v (Z4+k))->k≠n/\b∈V5 m k (S (Z4+k)):=λk b h=>Ed hw h;refine { R with slot:=λk hk=>(by rw[Z5 _ _ l7];exact R.slot k hk),box:=λk=>?_,inj:=λk k' b h h' =>R.inj k k' b (ho _ _ h).2 (ho _ _ h').2,nd:=λk=>?_,sep:=λk b h=>R.sep k b (ho _ _ h).2,fresh:=λk h1 h2=>?_ }
 .by_cases e:k=n
  .simp_all
  .rw[Z5 _ _ l7];exact R.box k
 .by_cases e:k=n
  .simp_all
  .rw[Z5 _ _ l7];exact R.nd k
 .by_cases e:k=n
  .simp_all
  .rw[Z5 _ _ l7]at h2;exact R.fresh k h1 h2
theorem Rel.kill(R:Rel X cl ch S m ok a w)(n:Nat):Rel X cl ch (upd S (Z4+n) .dead) m ok a w:=R.killV n x9 rfl trivial
theorem Tk.killV(R:Rel X cl ch S m ok a w)(h:Tk X S m ok w T)(n:Nat)(hw:V5 m n v=[])(hbs:∀b,b∈bs->b∈V5 m n (S (Z4+n)))(hnd:bs.Nodup):
  Tk X (upd S (Z4+n) v) m ok w (T++bs):=by
 refine⟨H8.2 ⟨h.nodup,hnd,λx hx y hy e=>?_⟩,λb hb=>?_⟩
 .subst e;exact(h.free x hx).2.2.2 n (hbs x hy)
 .rcases D6.1 hb with hb|hb
  .obtain⟨h1,h2,h3,h4⟩:=h.free b hb;exact⟨h1,h2,h3,λk e=>h4 k (Ed hw e).2⟩
  .obtain⟨h1,h2,h3⟩:=R.sep n b (hbs b hb);exact⟨h1,h2,h3,λk e=>(Ed hw e).1 (R.inj k n b (Ed hw e).2 (hbs b hb))⟩
theorem Rel.mark(R:Rel X cl ch S m ok a w){md:M}{xs:List md.den}(hS:S (Z4+n)= .barrs md xs none):Rel X cl ch (upd S (Z4+(TG+n)) (.blen (o9 xs) md.size)) m ok a w:=by
 refine R.killV (TG+n) x9 rfl ?_;have hb:=R.box n;rw[hS]at hb;obtain⟨_,l,Os,hm,⟨ha,hho⟩,_⟩:=hb;refine⟨n,l,rfl,hm,?_⟩;cases l with
 |nil=>obtain⟨rfl,_⟩:=ha;rfl
 |st b=>cases ha|mp b=>cases ha|arr blk off len cap sz=>exact⟨by rw[ha.2.1];rfl,ha.1.symm⟩
theorem Tk.kill(R:Rel X cl ch S m ok a w)(h:Tk X S m ok w T)(n:Nat)(hbs:∀b,b∈bs->b∈V5 m n (S (Z4+n)))(hnd:bs.Nodup):
  Tk X (upd S (Z4+n) .dead) m ok w (T++bs):=h.killV R n rfl hbs hnd
theorem Rel.lay(R:Rel X cl ch S m ok a w){l:Loc}{ks:d4F}(hn:S (Z4+n)= .undef)(hcl:cl<=n)(hch:n<ch)(hv:v≠.undef)
  (hos:w'.os=w.os) (htp:w'.tape=w.tape) (hout:w'.output=w.output) (hsz:w.heap.size<=w'.heap.size)
  (hkeep:∀b,b<w.heap.size->b∉V5 (oV m n l ks) n v->w'.heap[b]? =w.heap[b]?)
  (hnd:(V5 (oV m n l ks) n v).Nodup)
  (hfree:∀b∈V5 (oV m n l ks) n v,(∀t,¬ok b t)/\b<w'.heap.size/\(X.w0.heap.size<=b\/b∈X.O)/\∀k,b∉V5 m k (S (Z4+k)))
  (hB:Gl ⟨w'.heap,ok,oV m n l ks⟩ n v) (hdr:X.E.gl=[]->w.drawn<=w'.drawn:=by exact λ_=>D5 _):Rel X cl ch (upd S (Z4+n) v) (oV m n l ks) ok a w' :=by
 have hm:m n=none:=R.fresh n hcl hn;have hR:Rel X cl ch S m ok a w' :=by refine R.world hos htp hout hsz (λb hb h=>?_) (λ_ _ h=>h) (λb t h=>⟨by have:=R.okLt b t h;omega,.inl h⟩) hdr<;>grind
 have hle:Cx.le ⟨w'.heap,ok,m⟩ ⟨w'.heap,ok,oV m n l ks⟩:=⟨λ_ _ h=>h,λ_ _ _=>rfl,λk x h=>by
  grind [jZ]⟩
 have hob:∀k,k≠n->V5 (oV m n l ks) k (upd S (Z4+n) v (Z4+k))=V5 m k (S (Z4+k)):=λk e=>by
  grind [Z5,JM,jZ,Su]
 have hobn:V5 (oV m n l ks) n (upd S (Z4+n) v (Z4+n))=V5 (oV m n l ks) n v:=x9;refine { kept:=hR.kept,size:=hR.size,nodef:=hR.nodef,dfs:=hR.dfs,okLt:=hR.okLt,okIn:=hR.okIn,okOut:=hR.okOut,frame:=hR.frame,slot:=λk hk=>(by rw[Z5 _ _ l7];exact KT hle (hR.slot k hk)),box:=λk=>?_,inj:=λk k' b h h' =>?_,nd:=λk=>?_,sep:=λk b h=>?_,fresh:=λk h1 h2=>?_,strict:=λk h=>?_,gl:=λg u hg=>Ph.le hle (hR.gl g u hg) }
 .by_cases e:k=n
  .simp_all
  .rw[Z5 _ _ l7];refine VB hle (Su _ _ _ e) (λb hb=>rfl) (hR.box k)
 .by_cases e:k=n
  .grind
  .by_cases e' :k' =n
   .simp_all
   .rw[hob k e]at h;rw[hob k' e']at h';exact R.inj k k' b h h'
 .by_cases e:k=n
  .simp_all
  .rw[hob k e];exact R.nd k
 .by_cases e:k=n
  .simp_all
  .rw[hob k e]at h;exact hR.sep k b h
 .by_cases e:k=n
  .simp_all
  .rw[Z5 _ _ l7]at h2;rw[jZ _ _ _ e];exact R.fresh k h1 h2
 .have e:k≠n:=l7;rw[jZ _ _ _ e];exact R.strict k h
theorem Rel.modK(R:Rel X cl ch S m ok a w)(hT:Tk X S m ok w T){ks:d4F}(hv:v≠.undef)
  (hnd:(V5 (EY m n ks) n v).Nodup) (hsub:∀b∈V5 (EY m n ks) n v,b∈V5 m n (S (Z4+n))\/b∈T)
  (hos:w'.os=w.os) (htp:w'.tape=w.tape) (hout:w'.output=w.output) (hsz:w'.heap.size=w.heap.size)
  (hkeep:∀b,b∉V5 m n (S (Z4+n))->w'.heap[b]? =w.heap[b]?) (hB:Gl ⟨w'.heap,ok,EY m n ks⟩ n v)
  {T' :d4F} (hnd' :T'.Nodup) (hT' :∀b∈T',(b∈V5 m n (S (Z4+n))\/b∈T)/\b∉V5 (EY m n ks) n v) (hdr:X.E.gl=[]->w.drawn<=w'.drawn:=by exact λ_=>D5 _):
  Rel X cl ch (upd S (Z4+n) v) (EY m n ks) ok a w' /\Tk X (upd S (Z4+n) v) (EY m n ks) ok w' T' :=by
 have hsep:∀b,b∈V5 m n (S (Z4+n))\/b∈T->(∀t,¬ok b t)/\b<w.heap.size/\(X.w0.heap.size<=b\/b∈X.O)/\∀k,k≠n->b∉V5 m k (S (Z4+k)):=λb h=>by
  rcases h with h|h
  .obtain⟨h1,h2,h3⟩:=R.sep n b h;exact⟨h1,h2,h3,λk e h' =>e (R.inj k n b h' h)⟩
  .obtain⟨h1,h2,h3,h4⟩:=hT.free b h<;>simp_all
 have hle:Cx.le ⟨w.heap,ok,m⟩ ⟨w'.heap,ok,EY m n ks⟩:=⟨λ_ _ h=>h,λb t hb=>hkeep b (λe=>(R.sep n b e).1 t hb),λ_ _ h=>h⟩;have hob:∀k,k≠n->V5 (EY m n ks) k (upd S (Z4+n) v (Z4+k))=V5 m k (S (Z4+k)):=λk e=>by rw[Z5 _ _ l7];exact JM rfl (a3l _ _ e)
 have hobn:V5 (EY m n ks) n (upd S (Z4+n) v (Z4+n))=V5 (EY m n ks) n v:=x9;refine⟨?_,hnd',λb hb=>?_⟩
 .refine { kept:=R.kept,size:=R.size,nodef:=R.nodef,dfs:=R.dfs,okLt:=λb t hb=>(by rw[hsz];exact R.okLt b t hb),okIn:=R.okIn,okOut:=R.okOut,strict:=R.strict,slot:=λk hk=>(by rw[Z5 _ _ l7];exact KT hle (R.slot k hk)),box:=λk=>?_,inj:=λk k' b h h' =>?_,nd:=λk=>?_,sep:=λk b h=>?_,fresh:=λk h1 h2=>?_,frame:=?_,gl:=λg u hg=>Ph.le hle (R.gl g u hg) }
  .by_cases e:k=n
   .simp_all
   .rw[Z5 _ _ l7];refine VB hle (a3l _ _ e) (λb hb=>hkeep b (λe' =>e (R.inj k n b hb e'))) (R.box k)
  .by_cases e:k=n
   .grind
   .by_cases e' :k' =n
    .simp_all
    .rw[hob k e]at h;rw[hob k' e']at h';exact R.inj k k' b h h'
  .by_cases e:k=n
   .simp_all
   .rw[hob k e];exact R.nd k
  .by_cases e:k=n
   .simp_all
   .rw[hob k e]at h;obtain⟨h1,h2,h3⟩:=R.sep k b h<;>simp_all
  .obtain⟨f1,f2,f3,f4,f5,f6⟩:=R.frame;refine⟨hos.trans f1,htp.trans f2,hout.trans f3,by rw[hsz];exact f4,λb hb hO=>?_,λh=>ay (f6 h) (hdr h)⟩<;>grind
  .by_cases e:k=n
   .simp_all
   .rw[Z5 _ _ l7]at h2;exact R.fresh k h1 h2
 grind
theorem Rel.mod(R:Rel X cl ch S m ok a w)(ho:V5 m n v=V5 m n (S (Z4+n)))(hv:v≠.undef)
  (hos:w'.os=w.os) (htp:w'.tape=w.tape) (hout:w'.output=w.output) (hsz:w'.heap.size=w.heap.size)
  (hkeep:∀b,b∉V5 m n (S (Z4+n))->w'.heap[b]? =w.heap[b]?) (hB:Gl ⟨w'.heap,ok,m⟩ n v) (hdr:X.E.gl=[]->w.drawn<=w'.drawn:=by exact λ_=>D5 _):Rel X cl ch (upd S (Z4+n) v) m ok a w' :=by
 have h:=R.modK Tk.nil hv (by rw[BM,ho];exact R.nd n) (by simp_all [BM]) hos htp hout hsz hkeep (by simp_all [BM]) bZ (λb h=>by grind) hdr;simp_all [BM]
theorem Rel.widen(R:Rel X cl ch S m ok a w)(hv:v≠.undef)(ho:V5 m n v=[]){Ts:List Ty}(hbs:∀b∈bs,b∈V5 m n (S (Z4+n)))
  (hB:Gl ⟨w.heap,okW ok bs Ts,m⟩ n v):Rel X cl ch (upd S (Z4+n) v) m (okW ok bs Ts) a w:=by
 have hmono:∀b t,ok b t->okW ok bs Ts b t:=λb t h=> .inl h;have hob:∀k b,b∈V5 m k (upd S (Z4+n) v (Z4+k))->k≠n/\b∈V5 m k (S (Z4+k)):=λk b h=>Ed ho h;have hle:Cx.le ⟨w.heap,ok,m⟩ ⟨w.heap,okW ok bs Ts,m⟩:=⟨hmono,λ_ _ _=>rfl,λ_ _ h=>h⟩;refine { kept:=R.kept,size:=R.size,nodef:=R.nodef,dfs:=R.dfs,strict:=R.strict,frame:=R.frame,okIn:=λb t h=>hmono b t (R.okIn b t h),slot:=λk hk=>(by rw[Z5 _ _ l7];exact KT hle (R.slot k hk)),box:=λk=>?_,inj:=λk k' b h h' =>R.inj k k' b (hob _ _ h).2 (hob _ _ h').2,nd:=λk=>?_,sep:=λk b h=>?_,okLt:=λb t h=>?_,okOut:=λb t h=>?_,fresh:=λk h1 h2=>?_,gl:=λg u hg=>Ph.le hle (R.gl g u hg) }
 .by_cases e:k=n
  .simp_all
  .rw[Z5 _ _ l7];exact VB hle rfl (λb hb=>rfl) (R.box k)
 .by_cases e:k=n
  .simp_all
  .rw[Z5 _ _ l7];exact R.nd k
 .obtain⟨e,h⟩:=hob k b h;obtain⟨h1,h2,h3⟩:=R.sep k b h;refine⟨λt h' =>?_,h2,h3⟩;rcases h' with h'|⟨h',_⟩
  .simp_all
  .exact e (R.inj k n b h (hbs b h'))
 .rcases h with h|⟨h,_⟩
  .exact R.okLt b t h
  .exact(R.sep n b (hbs b h)).2.1
 .rcases h with h|⟨h,_⟩
  .exact R.okOut b t h
  .exact .inr (R.sep n b (hbs b h)).2.2
 .by_cases e:k=n
  .simp_all
  .rw[Z5 _ _ l7]at h2;exact R.fresh k h1 h2
theorem Tk.widen(h:Tk X S m ok w T)(ho:V5 m n v=[]){Ts:List Ty}(hbs:∀b∈bs,b∈V5 m n (S (Z4+n))):
  Tk X (upd S (Z4+n) v) m (okW ok bs Ts) w T:=by
 refine⟨h.nodup,λb hb=>?_⟩;obtain⟨h1,h2,h3,h4⟩:=h.free b hb;refine⟨λt e=>?_,h2,h3,λk e=>h4 k (Ed ho e).2⟩;rcases e with e|⟨e,_⟩<;>grind
theorem Rel.backV(R:Rel X cl ch S m ok a w){O1 B:d4F}(hv:v≠.undef)(hT:Tk X S m ok w (O1++B))(ho:V5 m n v=O1)(hB:Gl ⟨w.heap,ok,m⟩ n v):
  Rel X cl ch (upd S (Z4+n) v) m ok a w/\Tk X (upd S (Z4+n) v) m ok w B:=by
 have hnd:=H8.1 hT.nodup;have h:=R.modK hT (n:=n) (ks:=m.kid n) hv (by simp_all [BM]) (by simp_all [BM]) rfl rfl rfl rfl (λ_ _=>rfl) (by simp_all [BM]) hnd.2.1
  (λb hb=>⟨.inr (by grind),by grind [BM]⟩)
 simp_all [BM]
end
end Go.GP
namespace Go.GP
def OG:Loc->Option (Nat×Nat)->Loc
 | .arr blk off len cap sz,some (lo,hi)=>if cap=lo then .arr blk off 0 0 sz else .arr blk (off+lo*sz) (hi -lo) (cap -lo) sz|l,_=>l
variable {v:Value}{t:Ty}{l:Loc}
theorem Nq{C:Cx}{xs:List t.den}{vw:Option (Nat×Nat)}(ha:arrOk C t xs l)(hv:l.view vw v):
  arrOk C t (lF vw xs) (OG l vw)/\(OG l vw).view none v/\(OG l vw).blks=l.blks:=by
 cases l with
 |st b=>cases ha|mp b=>
  cases vw with
  |none=>exact⟨ha,hv,rfl⟩|some p=>cases hv
 |nil=>
  obtain⟨ha,h0⟩:=ha;subst ha;cases vw with
  |none=>exact⟨⟨rfl,h0⟩,hv,rfl⟩|some p=>obtain⟨lo,hi⟩:=p;obtain⟨rfl,rfl,rfl⟩:=hv;exact⟨⟨rfl,h0⟩,rfl,rfl⟩
 |arr blk off len cap sz=>
  cases vw with
  |none=>exact⟨ha,hv,rfl⟩|some p=>
   obtain⟨lo,hi⟩:=p;obtain⟨h0,rfl,rfl,hc,c,T,f,hh,hz,hs,hx⟩:=ha;obtain⟨h1,h2,rfl⟩:=hv;have hl:(lF (some (lo,hi)) xs).length=hi -lo:=by simp_all [lF,lJ]
   by_cases e:cap=lo
   .subst e;have e2:hi=cap:=l7;subst e2;simp only[OG,if_true,Loc.view,aU];refine⟨⟨h0,rfl,l7,D5 _,c,T,f,hh,hz,?_,λi x hi=>?_⟩,trivial,rfl⟩<;>grind
   .simp only[OG,e,if_false,Loc.view];refine⟨⟨h0,rfl,by rw[hl],l7,c,T,f,hh,hz,?_,λi x hix=>?_⟩,trivial,rfl⟩
    .have:off+lo*t.size+(cap -lo)*t.size=off+cap*t.size:=by
      rw[jm,←U1];grind
     omega
    grind [lF,lJ]
def Xd(ag:Bool)(v:Value)(cs:d4E):Prop:=match ag with
 |true=>∃arr,v= .agg arr/\arr.toList=cs|false=>cs=[v]
def oP(h:Array Obj)(ok:Nat->Ty->Prop):(ms:List MG)->bF ms->d4E->d4F->Prop
 |[],_,vs,O=>vs=[]/\O=[]|[m],x,vs,O=>∃v cs,vs=[v]/\Xd m.1 v cs/\qc h ok m.2 none x cs O|m::m' ::r,x,vs,O=>∃v cs vs' O1 O2,vs=v::vs' /\O=O1++O2/\Xd m.1 v cs/\qc h ok m.2 none x.1 cs O1/\oP h ok (m' ::r) x.2 vs' O2
theorem pW{vw:Option (Nat×Nat)}(h:l.view vw v):v.oneCell' =true:=by
 cases l<;>rcases vw with _|⟨lo,hi⟩<;>simp[Loc.view]at h
 .subst h;rfl
 .obtain⟨_,_,rfl⟩:=h;rfl
 .subst h;rfl
 .obtain⟨_,_,rfl⟩:=h;rfl
 .subst h;rfl
variable {h:Array Obj}
theorem PW{ok:Nat->Ty->Prop}{x:t.den}{o:Nat}(k:a3X h ok t x o v):v.oneCell' =true:=by obtain⟨_,_,_,rfl,_⟩:=k;rfl
variable {α:Type}{ok':Nat->Ty->Prop}{cs:d4E}{O:d4F}{Os:List d4F}
section
variable {h:Array Obj} {ok:Nat->Ty->Prop}
theorem zy{xs:List t.den} :qc h ok (.own t) none xs cs O↔∃l v,cs=[v]/\l.view none v/\arrOk ⟨h,ok,nom⟩ t xs l/\O=l.blks:=by
 constructor
 .rintro⟨v,e,_,l,hv,ha,ho⟩<;>grind
 .rintro⟨l,v,e,hv,ha,ho⟩;exact⟨v,e,pW hv,l,hv,ha,ho⟩
theorem BK{m:M}{xs:List m.den} :qc h ok (.owns m) none xs cs O↔m.el=true/\∃l v Os,cs=[v]/\l.view none v/\
  yB h m.size (λ_ x es O=>qc h ok m none x es O) xs Os l/\O=l.blks++Os.flatten:=by
 constructor
 .rintro⟨v,e,_,he,l,Os,hv,ha,ho⟩<;>grind
 .rintro⟨he,l,v,Os,e,hv,ha,ho⟩;exact⟨v,e,pW hv,he,l,Os,hv,ha,ho⟩
theorem b4n{a b:M}{x:a.den×b.den} :qc h ok (.pair a b) none x cs O↔∃c d O1 O2,cs=c++d/\O=O1++O2/\qc h ok a none x.1 c O1/\qc h ok b none x.2 d O2:=Iff.rfl
theorem rZ:∀{m:M} {ho:Option Nat} {x:m.den} {cs:d4E} {O:d4F},qc h ok m ho x cs O->∀v∈cs,v.oneCell' =true
 | .dat t,_,_,_,_,e=>Be e.1| .own t,_,_,_,_,⟨v,e,hv,_⟩=>by simp_all| .owns t,_,_,_,_,⟨v,e,hv,_⟩=>by simp_all| .ownb t,_,_,_,_,⟨l,v,e,hv,_⟩=>by grind [pW]| .pair a b,_,_,_,_,⟨c,d,_,_,e,_,h1,h2⟩=>by
  subst e;intro v hv;rcases D6.1 hv with hv|hv
  .exact rZ h1 v hv
  .exact rZ h2 v hv
 | .unit,_,_,_,_,⟨e,_⟩=>by simp_all| .box m,_,_,_,_,⟨_,_,_,_,e,_⟩=>by simp_all [Value.oneCell']| .rp t,_,_,_,_,⟨v,e,hv,_⟩=>by grind [PW]| .fn f ts,_,_,_,_,⟨vs,e,_⟩=>by simp_all [Value.oneCell']| .ifc t m,_,_,_,_,⟨u,e,_⟩=>by simp_all [Value.oneCell']| .cell _,_,_,_,_,⟨v,e,h,_⟩=>by simp_all| .lp t,_,_,_,_,⟨v,e,hv,_⟩=>by grind [PW]
theorem Md{α β α' β' :Type}(ea:α=α')(eb:β=β')(e:(α×β)=(α' ×β'))(x:α×β):cast e x=(cast ea x.1,cast eb x.2):=by grind
theorem M.ty_size:∀{m:M},m.el=true->m.ty.size=m.size
 | .dat _,_=>rfl| .own _,_=>rfl| .owns _,_=>rfl| .unit,_=>rfl| .pair a b,h=>by
  have h' :=by simpa[M.el]using h
  simp[M.ty,Ty.size,M.size,M.ty_size h'.1,M.ty_size h'.2]
 | .box _,h=>by grind [M.el]| .ownb _,h=>by grind [M.el]| .rp _,h=>by grind [M.el]| .fn _ _,h=>by grind [M.el]| .ifc _ _,h=>by grind [M.el]| .cell _,h=>by grind [M.el]| .lp _,h=>by grind [M.el]
theorem dh:∀{m:M} {ho:Option Nat} {x:m.den} {cs:d4E} {O:d4F},qc h ok m ho x cs O->cs.length=m.size
 | .dat t,_,_,_,_,e=>iO e.1| .own t,_,_,_,_,⟨v,e,hv,_⟩=>by subst e;rfl| .owns t,_,_,_,_,⟨v,e,hv,_⟩=>by subst e;rfl| .ownb t,_,_,_,_,⟨l,v,e,hv,_⟩=>by subst e;rfl| .pair a b,_,_,_,_,⟨c,d,_,_,e,_,h1,h2⟩=>by subst e;simp[dh h1,dh h2,M.size]| .unit,_,_,_,_,⟨e,_⟩=>by subst e;rfl| .box m,_,_,_,_,⟨_,_,_,_,e,_⟩=>by subst e;rfl| .rp t,_,_,_,_,⟨v,e,hv,_⟩=>by subst e;rfl| .fn f ts,_,_,_,_,⟨vs,e,_⟩=>by subst e;rfl| .ifc t m,_,_,_,_,⟨u,e,_⟩=>by subst e;rfl| .cell _,_,_,_,_,⟨v,e,_⟩=>by subst e;rfl| .lp t,_,_,_,_,⟨v,e,_⟩=>by subst e;rfl
theorem a5K{sz:Nat}{mp:Mp}(h0:t.isEnt=false)(e:α=t.den)(e' :List α=List t.den)(hs:t.size=sz){R:Nat->α->d4E->d4F->Prop}{xs:List α}
  (hR:∀i x es O,O∈Os->R i x es O->oq h ok' t (cast e x) es) (ha:yB h sz R xs Os l):arrOk ⟨h,ok',mp⟩ t (cast e' xs) l:=by
 subst e;cases l with
 |nil=>exact⟨ha.1,h0⟩|st b=>exact ha|mp b=>exact ha.elim|arr blk off len cap sz' =>obtain⟨h1,h2,h3,h7,c,T,h4,h5,h6⟩:=ha;refine⟨h0,by rw[hs];exact h1,h2,h3,c,T,_,h4,.inl rfl,by rw[h1];exact h5,λi x hi=>?_⟩<;>grind
theorem M.ty_ent:∀{m:M},m.el=true->m.ty.isEnt=false
 | .dat t,h=>by simp_all [M.el,M.ty]| .own _,_=>rfl| .owns _,_=>rfl| .unit,_=>rfl| .pair _ _,_=>rfl| .box _,h=>by grind [M.el]| .ownb _,h=>by grind [M.el]| .rp _,h=>by grind [M.el]| .fn _ _,h=>by grind [M.el]| .ifc _ _,h=>by grind [M.el]| .cell _,h=>by grind [M.el]| .lp _,h=>by grind [M.el]
theorem VE{ok' :Nat->Ty->Prop}(hok:∀b t,ok b t->ok' b t):∀{m:M} (he:m.el=true) {x:m.den} {cs:d4E} {O:d4F},(∀b∈O,∀t∈m.owned,ok' b t)->qc h ok m none x cs O->oq h ok' m.ty (cast (M.denEq m he) x) cs
 | .dat t,_,_,_,_,_,e=>gU hok (λ_ _ _=>rfl) e.1| .unit,_,_,_,_,_,e=>e.1| .own t,he,xs,_,_,hO,e=>by obtain⟨l,v,rfl,hv,ha,rfl⟩:=zy.1 e;exact tN ha hv hok (λblk hb=>hO blk hb t (by simp[M.owned]))
 | .pair a b,he,x,_,_,hO,e=>by
  obtain⟨c,d,O1,O2,rfl,rfl,h1,h2⟩:=e;have h' :a.el=true/\b.el=true:=by simp_all [M.el]
  have e:cast (M.denEq (.pair a b) he) x=(cast (M.denEq a h'.1) x.1,cast (M.denEq b h'.2) x.2):=Md _ _ _ _;refine⟨c,d,rfl,?_,?_⟩
  .rw[e];exact VE hok h'.1 (λb hb t ht=>hO b (by grind) t (by grind [M.owned])) h1
  .rw[e];exact VE hok h'.2 (λb hb t ht=>hO b (by grind) t (by grind [M.owned])) h2
 | .owns m,he,xs,_,_,hO,e=>by
  obtain⟨_,l,v,Os,rfl,hv,ha,rfl⟩:=BK.1 e;have he' :m.el=true:=he;have hA:arrOk ⟨h,ok',nom⟩ m.ty (cast (congrArg List (M.denEq m he')) xs) l:=a5K (M.ty_ent he') (M.denEq m he') _ (M.ty_size he') (λi x es O hOi hr=>VE hok he' (λb hb t ht=>hO b (by
   grind [List.mem_flatten]) t (by grind [M.owned])) hr) ha
  exact tN (C:=⟨h,ok',nom⟩) hA hv (λ_ _ h=>h) (λblk hb=>hO blk (by grind) m.ty (by simp[M.owned]))
 | .box _,h,_,_,_,_,_=>by grind [M.el]| .ownb _,h,_,_,_,_,_=>by grind [M.el]| .rp _,h,_,_,_,_,_=>by grind [M.el]| .fn _ _,h,_,_,_,_,_=>by grind [M.el]| .ifc _ _,h,_,_,_,_,_=>by grind [M.el]| .cell _,h,_,_,_,_,_=>by grind [M.el]| .lp _,h,_,_,_,_,_=>by grind [M.el]
theorem a8p{sz:Nat}{R R' :Nat->α->d4E->d4F->Prop}{xs:List α}
  (hR:∀i x es O,i<xs.length->R i x es O->R' i x es O) (hr:yB h sz R xs Os l):yB h sz R' xs Os l:=by
 cases l with
 |nil=>exact hr|st b=>exact hr|mp b=>exact hr|arr blk off len cap sz=>obtain⟨h1,h2,h3,h7,c,T,h4,h5,h6⟩:=hr;refine⟨h1,h2,h3,h7,c,T,h4,h5,λi x hi=>?_⟩<;>grind
theorem a6v{o n i k:Nat}(h:i<k)(hn:k<=n):zM o n i=none:=by grind [zM]
theorem SN{m:M}{mp:Mp}(he:m.el=true)(hok:∀b t,ok b t->ok' b t){xs:List m.den}(hO:∀b∈Os.flatten,∀t∈m.owned,ok' b t)
  (ha:yB h m.size (λ_ x es O=>qc h ok m none x es O) xs Os l):arrOk ⟨h,ok',mp⟩ m.ty (cast (congrArg List (M.denEq m he)) xs) l:=
 a5K (M.ty_ent he) (M.denEq m he) _ (M.ty_size he) (λi x es O hOi hr=>VE hok he (λb hb t ht=>hO b (bg.2 ⟨O,hOi,hb⟩) t ht) hr) ha
end
theorem Yg{h h' :Array Obj}{ok ok' :Nat->Ty->Prop}(hok:∀b t,ok b t->ok' b t)(hh:∀b t,ok b t->h'[b]? =h[b]?):
  ∀{ms:List MG} {x:bF ms} {vs:d4E} {O:d4F},(∀b∈O,h'[b]? =h[b]?)->oP h ok ms x vs O->oP h' ok' ms x vs O
 |[],_,_,_,_,e=>e|[m],_,_,_,hb,⟨v,cs,e,hg,hr⟩=>⟨v,cs,e,hg,jS hok hh hb hr⟩|m::m' ::r,_,_,_,hb,⟨v,cs,vs',O1,O2,e,eo,hg,h1,h2⟩=>by subst eo;exact⟨v,cs,vs',O1,O2,e,rfl,hg,jS hok hh (λb h=>hb b (by grind)) h1,Yg hok hh (λb h=>hb b (by grind)) h2⟩
variable {Q:α->Sm->Prop}{c:V}
section
variable {X:Fx} {cl ch:Nat} {S:Sm} {m:Mp} {ok:Nat->Ty->Prop} {a:Act} {w:World} {T:d4F}
theorem iw{p q:Ty}{xs:List p.den}{k:List q.den->Cmd α}{S:Sm}
  (h:∀e:p=q,(k (e▸xs)).post S Q):(Ty.castL p q xs k .fail).post S Q:=by
 unfold Ty.castL;split
 .simp_all
 .trivial
theorem bP{b:Bool}{c:Cmd α}{S:Sm}(h:b=true->c.post S Q):(bif b then c else Cmd.fail).post S Q:=by
 cases b
 .trivial
 simp_all
theorem Jp{p q:Ty}{x:p.den}{k:q.den->Cmd α}{S:Sm}
  (h:∀e:p=q,(k (e▸x)).post S Q):(ZJ p q x k .fail).post S Q:=by
 unfold ZJ;split
 .simp_all
 .trivial
theorem Nr{p q:M}{xs:List p.den}{k:List q.den->Cmd α}{S:Sm}
  (h:∀e:p=q,(k (e▸xs)).post S Q):(a2f p q xs k .fail).post S Q:=by
 unfold a2f;split
 .simp_all
 .trivial
theorem a6k{p:M}{xs:List p.den}{k:List t.den->Cmd α}{S:Sm}
  (h:∀(e:p.el=true) (e' :p.ty=t),(k (e' ▸cast (congrArg List (M.denEq p e)) xs)).post S Q):(a8O p t xs k .fail).post S Q:=by
 unfold a8O;split
 .grind
 .trivial
theorem Oe{ok ok' :Nat->Ty->Prop}{m:Mp}(k:∀b t,ok b t->ok' b t){cs:List V}{vs:d4E}(hr:jc ⟨h,ok,m⟩ cs vs):jc ⟨h,ok',m⟩ cs vs:=
 KR (C:=⟨h,ok,m⟩) (D:=⟨h,ok',m⟩) ⟨k,λ_ _ _=>rfl,λ_ _ h=>h⟩ hr
theorem RX{ok ok' :Nat->Ty->Prop}{m:Mp}(k:∀b t,ok b t->ok' b t)(hr:nU ⟨h,ok,m⟩ c v):nU ⟨h,ok',m⟩ c v:=
 KT (C:=⟨h,ok,m⟩) (D:=⟨h,ok',m⟩) ⟨k,λ_ _ _=>rfl,λ_ _ h=>h⟩ hr
theorem JK{bs:d4F}{Ts:List Ty} :∀b t,ok b t->okW ok bs Ts b t:=λ_ _ h=> .inl h
def okL(ln:Ty->Bool)(S:Sm)(m:Mp)(ok:Nat->Ty->Prop):Nat->Ty->Prop:=λb t=>ok b t\/(ln t=true/\∃n,b∈V5 m n (S (Z4+n))/\b6L (S (Z4+n)) t)
theorem a9m:okL EO S m ok=ok:=by grind [okL,EO]
theorem a2Q{ln:Ty->Bool}{n:Nat}{v:V}(hv:V5 m n v=[]){Ts:List Ty}{bs:d4F}(hbs:V5 m n (S (Z4+n)) ⊆ bs)(hTs:∀t,b6L (S (Z4+n)) t->t∈Ts):
  ∀b t,okL ln S m ok b t->okL ln (upd S (Z4+n) v) m (okW ok bs Ts) b t:=by
 intro b t h;rcases h with h|⟨hl,k,hk,ht⟩
 .exact .inl (.inl h)
 .by_cases e:k=n
  .subst e;exact .inl (.inr ⟨hbs hk,hTs _ ht⟩)
  .exact .inr ⟨hl,k,by simp_all [Z5]⟩
def dD(S S' :Sm):Prop:=∀n,n<Z4->S' n=S n
theorem dD.refl(S:Sm):dD S S:=λ_ _=>rfl
theorem dD.trans{A B C:Sm}(h:dD A B)(k:dD B C):dD A C:=λn hn=>(k n hn).trans (h n hn)
theorem dD.box(S:Sm)(n:Nat)(v:V):dD S (upd S (Z4+n) v):=λk hk=>Z5 _ _ l7
theorem a1V{ln:Ty->Bool} :∀{ts:List Ty},a5C ln ts=true->∀t∈ts,ln t=true
 |[],_,_,h=>by grind|u::r,e,t,h=>by
  unfold a5C at e;cases hl:ln u with
  |false=>rw[hl]at e;cases e|true=>
   rw[hl]at e;rcases C9.1 h with rfl|h
   .exact hl
   .exact a1V e t h
theorem Hz{α:Type}{Q:α->Sm->Prop}(ln:Ty->Bool):∀(t:Ty) {cs:List V} {K:t.den->List V->Cmd α} {S:Sm} {ok:Nat->Ty->Prop} {vs:d4E} (R:Rel X cl ch S m ok a w) (hT:Tk X S m ok w T)
  (hL:jc ⟨w.heap,ok,m⟩ cs vs)
  (hK:∀S' ok' x r us us',Rel X cl ch S' m ok' a w->Tk X S' m ok' w T->(∀b t,ok b t->ok' b t)->(∀b t,okL ln S m ok b t->okL ln S' m ok' b t)->dD S S' ->vs=us++us' ->oq w.heap (okL ln S' m ok') t x us->jc ⟨w.heap,ok',m⟩ r us' ->(K x r).post S' Q),
  (qF ln t cs K).post S Q
 | .bool,cs,K,S,ok,vs,R,hT,hL,hK=>by
  unfold qF;split
  .obtain⟨v,r,rfl,h1,_,h3⟩:=hL;exact hK _ _ _ _ [v] r R hT (λ_ _ h=>h) (λ_ _ h=>h) (dD.refl _) rfl (by simp_all [yR,oq]) h3
  .trivial
 | .int k,cs,K,S,ok,vs,R,hT,hL,hK=>by
  unfold qF;split
  .rename_i k' n r0;obtain⟨v,r,rfl,h1,_,h3⟩:=hL;by_cases e:k=k'
   .subst e;simp;exact hK _ _ _ _ [v] r R hT (λ_ _ h=>h) (λ_ _ h=>h) (dD.refl _) rfl (by simp_all [yR,oq]) h3
   .simp only[e,decide_false,cond_false];trivial
  .trivial
 | .str,cs,K,S,ok,vs,R,hT,hL,hK=>by
  unfold qF;split
  .obtain⟨v,r,rfl,h1,_,h3⟩:=hL;exact hK _ _ _ _ [v] r R hT (λ_ _ h=>h) (λ_ _ h=>h) (dD.refl _) rfl (by simp_all [yR,oq]) h3
  .trivial
 | .unit,cs,K,S,ok,vs,R,hT,hL,hK=>by unfold qF;exact hK _ _ _ _ [] vs R hT (λ_ _ h=>h) (λ_ _ h=>h) (dD.refl _) rfl rfl hL| .any none,cs,K,S,ok,vs,R,hT,hL,hK=>by
  unfold qF;split
  .obtain⟨v,r,rfl,h1,h2,h3⟩:=hL;exact hK _ _ _ _ [v] r R hT (λ_ _ h=>h) (λ_ _ h=>h) (dD.refl _) rfl ⟨v,rfl,h2,trivial⟩ h3
  .trivial
 | .any (some k),cs,K,S,ok,vs,R,hT,hL,hK=>by
  unfold qF;split
  .rename_i k' n r0;obtain⟨v,r,rfl,h1,h2,h3⟩:=hL;by_cases e:k=k'
   .subst e;simp;exact hK _ _ _ _ [v] r R hT (λ_ _ h=>h) (λ_ _ h=>h) (dD.refl _) rfl ⟨v,rfl,h2,n,h1⟩ h3
   .simp only[e,decide_false,cond_false];trivial
  .trivial
 | .prod p q,cs,K,S,ok,vs,R,hT,hL,hK=>by refine Hz ln p R hT hL λS1 ok1 x r us us' R1 T1 k1 g1 s1 e1 h1 l1=>?_;refine Hz ln q R1 T1 l1 λS2 ok2 y r' vs2 vs2' R2 T2 k2 g2 s2 e2 h2 l2=>?_;subst e1;subst e2;exact hK _ _ _ _ (us++vs2) vs2' R2 T2 (λb t h=>k2 b t (k1 b t h)) (λb t h=>g2 b t (g1 b t h)) (s1.trans s2) x9 ⟨us,vs2,rfl,gU g2 (λ_ _ _=>rfl) h1,h2⟩ l2| .ent ..,cs,K,S,ok,vs,R,hT,hL,hK=>by unfold qF;trivial| .sl t,cs,K,S,ok,vs,R,hT,hL,hK=>by
  unfold qF;split
  .obtain⟨v,r,rfl,h1,_,h3⟩:=hL;subst h1;cases ht:t.isEnt
   .exact hK _ _ _ _ [_] r R hT (λ_ _ h=>h) (λ_ _ h=>h) (dD.refl _) rfl (.inl ⟨ht,none,0,rfl,D5 _,λi x hi=>by simp_all⟩) h3
   .trivial
  .obtain⟨v,r,rfl,h1,_,h3⟩:=hL;refine iw λe=>?_;subst e;exact hK _ _ _ _ [v] r R hT (λ_ _ h=>h) (λ_ _ h=>h) (dD.refl _) rfl (gU (λ_ _ h=> .inl h) (λ_ _ _=>rfl) h1) h3
  .rename_i bx vw r0;obtain⟨v,r,rfl,h1,_,h3⟩:=hL;obtain⟨l,hm,hv⟩:=h1;show Cmd.post (match S (Z4+bx)with| .barr t' xs=>_| .bfrz t' xs=>_| .barrs el xs none=>_|_=>_) S Q;have hb:=R.box bx;split
   .rename_i t' xs hS;rw[hS]at hb;obtain⟨l',hm',ha⟩:=hb;simp only at hm hm';rw[hm]at hm';cases hm';refine iw λe=>?_;subst e;have hob:V5 m bx (S (Z4+bx))=l.blks:=by
     rw[hS];cases l<;>first|(simp[V5,hm,Loc.blks];done)|cases ha
    cases hl:ln t'
    .have hbs:∀b∈l.blks,b∈V5 m bx (S (Z4+bx)):=λb h=>by simp_all
     refine hK _ (okW ok l.blks [t']) _ _ [v] r (R.widen x9 rfl hbs ?_) (hT.widen rfl hbs) JK (a2Q rfl (by simp_all) (by rw[hS];exact λ_ h=>h)) (dD.box _ _ _) rfl ?_ (Oe JK h3)
     .exact⟨l,hm,tq JK (λ_ _ _=>rfl) (λ_ _=>rfl) ha,λblk hb=> .inr ⟨hb,x9⟩⟩
     .exact tN ha hv (λb t h=> .inl (.inl h)) (λblk hb=> .inl (.inr ⟨hb,x9⟩))
    .refine hK _ _ _ _ [v] r R hT (λ_ _ h=>h) (λ_ _ h=>h) (dD.refl _) rfl ?_ h3;refine tN ha hv (λb t h=> .inl h) (λblk hb=> .inr ⟨hl,bx,?_,by rw[hS];simp[b6L,c0S]⟩)<;>simp_all
   .rename_i t' xs hS;rw[hS]at hb;obtain⟨l',hm',ha,hok⟩:=hb;rw[hm]at hm';cases hm';refine iw λe=>?_;subst e;exact hK _ _ _ _ [v] r R hT (λ_ _ h=>h) (λ_ _ h=>h) (dD.refl _) rfl (tN ha hv (λ_ _ h=> .inl h) (λblk e=> .inl (hok _ e))) h3
   .rename_i md xs hS;rw[hS]at hb;obtain⟨hel,l',Os,hm',⟨ha,hho⟩,hk⟩:=hb;simp only at hm hm' hk;rw[hm]at hm';cases hm';refine a6k λe e' =>?_;subst e';have hob:V5 m bx (S (Z4+bx))=l.blks++Os.flatten:=by
     rw[hS];simp only[V5];rw[hk];cases l<;>first|(simp[hm,Loc.blks];done)|cases ha
    simp only;cases hl:(ln md.ty&&a5C ln md.owned)
    .have hbs:∀b∈l.blks++Os.flatten,b∈V5 m bx (S (Z4+bx)):=λb h=>by simp_all
     have ha' :arrOk ⟨w.heap,okW ok (l.blks++Os.flatten) (md.ty::md.owned),m⟩ md.ty (cast (congrArg List (M.denEq md e)) xs) l:=
      SN e JK (λb hb t ht=> .inr ⟨by grind,by grind⟩) ha
     refine hK _ (okW ok (l.blks++Os.flatten) (md.ty::md.owned)) _ _ [v] r (R.widen x9 rfl hbs ?_) (hT.widen rfl hbs) JK (a2Q rfl (by simp_all) (by rw[hS];exact λ_ h=>h)) (dD.box _ _ _) rfl ?_ (Oe JK h3)
     .exact⟨l,hm,ha',λblk hb=> .inr ⟨by grind,x9⟩⟩
     .exact tN ha' hv (λb t h=> .inl h) (λblk hb=> .inl (.inr ⟨by grind,x9⟩))
    .simp only[A7]at hl;have ha' :arrOk ⟨w.heap,okL ln S m ok,m⟩ md.ty (cast (congrArg List (M.denEq md e)) xs) l:=
      SN e (λb t h=> .inl h) (λb hb t ht=> .inr ⟨a1V hl.2 t ht,bx,by simp_all,by simp_all [b6L,c0S]⟩) ha
     refine hK _ _ _ _ [v] r R hT (λ_ _ h=>h) (λ_ _ h=>h) (dD.refl _) rfl ?_ h3;refine tN ha' hv (λb t h=>h) (λblk hb=> .inr ⟨hl.1,bx,?_,by rw[hS];simp[b6L,c0S]⟩)<;>simp_all
   .trivial
  .trivial
theorem Jh(t:Ty){cs:List V}{K:t.den->List V->Cmd α}{S:Sm}{ok:Nat->Ty->Prop}{vs:d4E}(R:Rel X cl ch S m ok a w)(hT:Tk X S m ok w T)
  (hL:jc ⟨w.heap,ok,m⟩ cs vs)
  (hK:∀S' ok' x r us us',Rel X cl ch S' m ok' a w->Tk X S' m ok' w T->(∀b t,ok b t->ok' b t)->dD S S' ->vs=us++us' ->oq w.heap ok' t x us->jc ⟨w.heap,ok',m⟩ r us' ->(K x r).post S' Q):
  (qF EO t cs K).post S Q:=
 Hz EO t R hT hL λS' ok' x r us us' R' T' k g s e h l=>hK S' ok' x r us us' R' T' k s e (by simp_all [a9m]) l
theorem Loc.blks_nodup(l:Loc):l.blks.Nodup:=by cases l<;>simp[Loc.blks]
theorem a7E(t:Ty){K:t.den->Cmd α}{S:Sm}{ok:Nat->Ty->Prop}(R:Rel X cl ch S m ok a w)(hT:Tk X S m ok w T)
  (hv:yR ⟨w.heap,ok,m⟩ c v)
  (hK:∀S' ok' x,Rel X cl ch S' m ok' a w->Tk X S' m ok' w T->(∀b t,ok b t->ok' b t)->dD S S' ->a3X w.heap ok' t x 0 v->(K x).post S' Q):(rpC t c K).post S Q:=by
 unfold rpC;split
 .refine Jp λe=>?_;subst e;exact hK _ _ _ R hT (λ_ _ h=>h) (dD.refl _) hv
 .rename_i bx;obtain⟨blk,hm,rfl⟩:=hv;show Cmd.post (match S (Z4+bx)with| .bfc t' x=>_| .bcells bs=>_|_=>_) S Q;have hb:=R.box bx;split
  .rename_i t' x hS;rw[hS]at hb;obtain⟨blk',es,hm',hok,hc,hr⟩:=hb;rw[hm]at hm';cases hm';refine Jp λe=>?_;subst e;exact hK _ _ _ R hT (λ_ _ h=>h) (dD.refl _) ⟨blk,0,es,rfl,hok,hc,hr⟩
  .rename_i bs hS;rw[hS]at hb;obtain⟨blk',arr,Ty',hm',hh,hl⟩:=hb;rw[hm]at hm';cases hm';refine Jh t R hT hl λS1 ok1 x q us us' R1 T1 k1 s1 e1 h1 l1=>?_;cases q with
   |cons c q=>trivial|nil=>
    subst l1;show Cmd.post (match S1 (Z4+bx)with| .bcells _=>_|_=>_) S1 Q;split
    .have hbs:∀b∈[blk],b∈V5 m bx (S1 (Z4+bx)):=λb h=>by simp_all [V5]
     have hce:fP w.heap blk 0 t.size=some us:=by rw[nX hh 0 t.size (by have:=iO h1;grind)];rw[e1,←iO h1];simp
     have hr:=gU (JK (bs:=[blk]) (Ts:=[t])) (λ_ _ _=>rfl) h1;refine hK _ (okW ok1 [blk] [t]) _ (R1.widen x9 rfl hbs ?_) (T1.widen rfl hbs) (λb t h=> .inl (k1 b t h)) (s1.trans (dD.box _ _ _)) ?_
     .exact⟨blk,us,hm,.inr ⟨x9,x9⟩,hce,hr⟩
     .exact⟨blk,0,us,rfl,.inr ⟨x9,x9⟩,hce,hr⟩
    .trivial
  .trivial
 .trivial
theorem a6J(ln:Ty->Bool)(t:Ty){K:t.den->Cmd α}{S:Sm}{ok:Nat->Ty->Prop}(R:Rel X cl ch S m ok a w)(hT:Tk X S m ok w T)
  (hv:yR ⟨w.heap,ok,m⟩ c v)
  (hK:∀S' ok' x,Rel X cl ch S' m ok' a w->Tk X S' m ok' w T->(∀b t,ok b t->ok' b t)->(∀b t,okL ln S m ok b t->okL ln S' m ok' b t)->dD S S' ->a3X w.heap (okL ln S' m ok') t x 0 v->(K x).post S' Q):(lpC ln t c K).post S Q:=by
 unfold lpC;split
 .refine Jp λe=>?_;subst e;exact hK _ _ _ R hT (λ_ _ h=>h) (λ_ _ h=>h) (dD.refl _) (Jb (λ_ _ h=> .inl h) (λ_ _ _=>rfl) hv)
 .rename_i bx;obtain⟨blk,hm,rfl⟩:=hv;show Cmd.post (match S (Z4+bx)with| .bcells bs=>_|_=>_) S Q;have hb:=R.box bx;split
  .rename_i bs hS;rw[hS]at hb;obtain⟨blk',arr,Ty',hm',hh,hl⟩:=hb;rw[hm]at hm';cases hm';cases hlt:ln t
   .trivial
   refine Hz ln t R hT hl λS1 ok1 x q us us' R1 T1 k1 g1 s1 e1 h1 l1=>?_;cases q with
   |cons c q=>trivial|nil=>
    subst l1;show Cmd.post (match S1 (Z4+bx)with| .bcells _=>_|_=>_) S1 Q;split
    .rename_i bs' hS';have hce:fP w.heap blk 0 t.size=some us:=by
      rw[nX hh 0 t.size (by have:=iO h1;grind)];rw[e1,←iO h1];simp
     exact hK _ _ _ R1 T1 k1 g1 s1 ⟨blk,0,us,rfl,.inr ⟨hlt,bx,by simp_all [V5],by rw[hS'];trivial⟩,hce,h1⟩
    .trivial
  .trivial
 .trivial
theorem PO{α:Type}{Q:α->Sm->Prop}{h:Array Obj}{ok:Nat->Ty->Prop} :∀(ts:List Ty) {cs:List ((t:Ty)×t.den)} {vs:d4E} {K:Xu ts->Cmd α} {S:Sm}
  (hc:Jo h ok cs vs) (hK:∀x,Jo h ok (Xr ts x) vs->(K x).post S Q),(TM ts cs K).post S Q
 |[],cs,vs,K,S,hc,hK=>by
  unfold TM;split
  .exact hK _ hc
  .trivial
 |[t],cs,vs,K,S,hc,hK=>by
  unfold TM;split
  .refine Jp λe=>?_;subst e;exact hK _ hc
  .trivial
 |t::t' ::r,cs,vs,K,S,hc,hK=>by
  unfold TM;split
  .obtain⟨v,vs',rfl,h1,h2⟩:=hc;refine Jp λe=>?_;subst e;exact PO (t' ::r) h2 λy hy=>hK _ ⟨v,vs',rfl,h1,hy⟩
  .trivial
theorem Jw{α:Type}{Q:α->Sm->Prop} :∀(md:M) {cs:List V} {K:md.den->List V->Cmd α} {S:Sm} {ok:Nat->Ty->Prop} {vs:d4E} {T:d4F} (R:Rel X cl ch S m ok a w) (hT:Tk X S m ok w T)
  (hL:jc ⟨w.heap,ok,m⟩ cs vs)
  (hK:∀S' ok' x r us us' O,Rel X cl ch S' m ok' a w->Tk X S' m ok' w (T++O)->(∀b t,ok b t->ok' b t)->dD S S' ->vs=us++us' ->qc w.heap ok' md none x us O->jc ⟨w.heap,ok',m⟩ r us' ->(K x r).post S' Q),
  (exM EO md cs K).post S Q
 | .dat t,cs,K,S,ok,vs,T,R,hT,hL,hK=>by unfold exM;exact Jh t R hT hL λS' ok' x r us us' R' T' k s e h l=>hK S' ok' x r us us' [] R' (by simp_all) k s e ⟨h,rfl⟩ l| .own t,cs,K,S,ok,vs,T,R,hT,hL,hK=>by
  unfold exM;split
  .obtain⟨v,r,rfl,h1,_,h3⟩:=hL;simp only[yR]at h1;subst h1;cases ht:t.isEnt
   .exact hK _ _ _ _ [_] r [] R (by simp_all) (λ_ _ h=>h) (dD.refl _) rfl (zy.2 ⟨.nil,_,rfl,rfl,⟨rfl,ht⟩,rfl⟩) h3
   .trivial
  .rename_i bx vw r0;obtain⟨v,r,rfl,h1,_,h3⟩:=hL;obtain⟨l,hm,hv⟩:=h1;show Cmd.post (match S (Z4+bx)with| .barr t' xs=>_|_=>_) S Q;have hb:=R.box bx;split
   .rename_i t' xs hS;rw[hS]at hb;obtain⟨l',hm',ha⟩:=hb;simp only at hm hm';rw[hm]at hm';cases hm';refine iw λe=>?_;subst e;obtain⟨a1,a2,a3⟩:=Nq (C:=⟨w.heap,ok,m⟩) ha hv;refine hK _ ok _ _ [v] r (OG l vw).blks (R.kill bx) ?_ (λ_ _ h=>h) (dD.box _ _ _) rfl (zy.2 ⟨_,v,rfl,a2,tq (λ_ _ h=>h) (λ_ _ _=>rfl) (λ_ _=>rfl) a1,rfl⟩) h3;rw[a3];refine hT.kill R bx (λb hb=>?_) (Loc.blks_nodup l);cases l with
    |nil=>grind [Loc.blks]|st _=>cases ha|arr blk off len cap sz=>simp_all [Loc.blks,V5]|mp blk=>simp_all [Loc.blks,V5]
   .trivial
  .trivial
 | .ownb t,cs,K,S,ok,vs,T,R,hT,hL,hK=>by
  unfold exM;split
  .obtain⟨v,r,rfl,h1,_,h3⟩:=hL;simp only[yR]at h1;subst h1;cases ht:t.isEnt
   .exact hK _ _ _ _ [_] r [] R (by simp_all) (λ_ _ h=>h) (dD.refl _) rfl ⟨.nil,_,rfl,rfl,⟨rfl,ht⟩,rfl⟩ h3
   .trivial
  .rename_i bx r0;obtain⟨v,r,rfl,h1,_,h3⟩:=hL;obtain⟨l,hm,hv⟩:=h1;show Cmd.post (match S (Z4+bx)with| .barr t' xs=>_|_=>_) S Q;have hb:=R.box bx;split
   .rename_i t' xs hS;rw[hS]at hb;obtain⟨l',hm',ha⟩:=hb;simp only at hm hm';rw[hm]at hm';cases hm';refine iw λe=>?_;subst e;refine hK _ ok _ _ [v] r l.blks (R.killV bx x9 rfl ⟨l,hm,λblk off len cap sz e=>by subst e;exact ha.2.1⟩) ?_ (λ_ _ h=>h) (dD.box _ _ _) rfl ⟨l,v,rfl,hv,tq (λ_ _ h=>h) (λ_ _ _=>rfl) (λ_ _=>rfl) ha,rfl⟩ h3;refine hT.killV R bx rfl (λb hb=>?_) (Loc.blks_nodup l);cases l with
    |nil=>grind [Loc.blks]|st _=>cases ha|arr blk off len cap sz=>simp_all [Loc.blks,V5]|mp blk=>simp_all [Loc.blks,V5]
   .trivial
  .trivial
 | .owns md,cs,K,S,ok,vs,T,R,hT,hL,hK=>by
  unfold exM;split
  .obtain⟨v,r,rfl,h1,_,h3⟩:=hL;simp only[yR]at h1;subst h1;refine bP λhe=>?_;exact hK _ _ _ _ [_] r [] R (by simp_all) (λ_ _ h=>h) (dD.refl _) rfl (BK.2 ⟨he,.nil,_,[],rfl,rfl,⟨rfl,rfl⟩,rfl⟩) h3
  .rename_i bx r0;obtain⟨v,r,rfl,h1,_,h3⟩:=hL;obtain⟨l,hm,hv⟩:=h1;show Cmd.post (match S (Z4+bx)with| .barrs m' xs none=>_| .barrp m' xs n _=>_|_=>_) S Q;have hb:=R.box bx;split
   .rename_i md' xs hS;rw[hS]at hb;obtain⟨hel,l',Os,hm',⟨ha,hho⟩,hk⟩:=hb;simp only at hm hm' hk;rw[hm]at hm';cases hm';refine Nr λe=>?_;subst e;have hob:V5 m bx (S (Z4+bx))=l.blks++Os.flatten:=by
     rw[hS];simp only[V5];rw[hk];cases l<;>first|(simp[hm,Loc.blks];done)|cases ha
    refine hK _ ok _ _ [v] r (l.blks++Os.flatten) (R.kill bx) ?_ (λ_ _ h=>h) (dD.box _ _ _) rfl (BK.2 ⟨hel,l,v,Os,rfl,hv,ha,rfl⟩) h3;refine hT.kill R bx (λb hb=>by simp_all) (by rw[←hob];exact R.nd bx)
   .rename_i md' xs n o hS;rw[hS]at hb;obtain⟨hel,h0,l',Os,hm',ha,hk⟩:=hb;simp only at hm hm' hk;rw[hm]at hm';cases hm';refine Nr λe=>⟨λhn=>?_,λ_=>trivial⟩;subst e;have hob:V5 m bx (S (Z4+bx))=l.blks++Os.flatten:=by
     rw[hS];simp only[V5];rw[hk];cases l<;>first|(simp[hm,Loc.blks];done)|cases ha
    have hn' :(xs.length:Int)<=n:=of_decide_eq_true hn;have ha' :yB w.heap md'.size (λ_ x es O=>qc w.heap ok md' none x es O) xs Os l:=a8p (λi x es O hi hr=>by
     grind [a6v]) ha
    refine hK _ ok _ _ [v] r (l.blks++Os.flatten) (R.kill bx) ?_ (λ_ _ h=>h) (dD.box _ _ _) rfl (BK.2 ⟨hel,l,v,Os,rfl,hv,ha',rfl⟩) h3;refine hT.kill R bx (λb hb=>by simp_all) (by rw[←hob];exact R.nd bx)
   .trivial
  .trivial
 | .unit,cs,K,S,ok,vs,T,R,hT,hL,hK=>by unfold exM;exact hK _ _ _ _ [] vs [] R (by simp_all) (λ_ _ h=>h) (dD.refl _) rfl ⟨rfl,rfl⟩ hL
 | .pair p q,cs,K,S,ok,vs,T,R,hT,hL,hK=>by unfold exM;refine Jw p R hT hL λS1 ok1 x r us us' O1 R1 T1 k1 s1 e1 h1 l1=>?_;refine Jw q R1 T1 l1 λS2 ok2 y r' vs2 vs2' O2 R2 T2 k2 s2 e2 h2 l2=>?_;subst e1;subst e2;exact hK _ _ _ _ (us++vs2) vs2' (O1++O2) R2 (by simp_all) (λb t h=>k2 b t (k1 b t h)) (s1.trans s2) x9 ⟨us,vs2,O1,O2,rfl,rfl,jS k2 (λ_ _ _=>rfl) (λ_ _=>rfl) h1,h2⟩ l2| .box md,cs,K,S,ok,vs,T,R,hT,hL,hK=>by
  unfold exM;split
  .rename_i bx r0;obtain⟨v,r,rfl,h1,_,h3⟩:=hL;obtain⟨blk,hm,hv⟩:=h1;show Cmd.post (match S (Z4+bx)with| .bcells bs=>_|_=>_) S Q;have hb:=R.box bx;split
   .rename_i bs hS;rw[hS]at hb;obtain⟨blk',arr,Ty',hm',hh,hl⟩:=hb;simp only at hm hm' hv;rw[hm]at hm';cases hm';subst hv;have hT1:Tk X (upd S (Z4+bx) .dead) m ok w (T++[blk]):=hT.kill R bx (λb hb=>by simp_all [V5]) x9;refine Jw md (R.kill bx) hT1 hl λS1 ok1 x q us us' O R1 T1 k1 s1 e1 h1 l1=>?_;cases q with
    |nil=>simp only[jc]at l1;subst l1;simp only[G9]at e1;refine hK _ _ _ _ [_] r (blk::O) R1 (by simp_all) k1 ((dD.box _ _ _).trans s1) rfl ⟨blk,arr,Ty',O,rfl,hh,by simp_all,rfl⟩ (Oe k1 h3)|cons c q=>trivial
   .trivial
  .trivial
 | .rp t,cs,K,S,ok,vs,T,R,hT,hL,hK=>by
  unfold exM;split
  .obtain⟨v,r,rfl,h1,_,h3⟩:=hL;refine a7E t R hT h1 λS1 ok1 x R1 T1 k1 s1 h1=>?_;exact hK _ _ _ _ [v] r [] R1 (by simp_all) k1 s1 rfl ⟨v,rfl,h1,rfl⟩ (Oe k1 h3)
  .trivial
 | .fn f ts,cs,K,S,ok,vs,T,R,hT,hL,hK=>by
  unfold exM;split
  .rename_i g caps r0;obtain⟨v,r,rfl,⟨us,rfl,hc⟩,_,h3⟩:=hL;cases hb:Nat.beq g f
   .trivial
   .simp only[cond_true];have e:=ik hb;subst e;exact PO ts hc λx hx=>hK _ _ _ _ [_] r [] R (by simp_all) (λ_ _ h=>h) (dD.refl _) rfl ⟨us,rfl,hx,rfl⟩ h3
  .rename_i g r0;obtain⟨v,r,rfl,h1,_,h3⟩:=hL;subst h1;cases hb:Nat.beq g f
   .trivial
   .simp only[cond_true];have e:=ik hb;subst e;exact PO (cs:=[]) (vs:=[]) ts rfl λx hx=>hK _ _ _ _ [_] r [] R (by simp_all) (λ_ _ h=>h) (dD.refl _) rfl ⟨#[],rfl,hx,rfl⟩ h3
  .trivial
 | .ifc t md,cs,K,S,ok,vs,T,R,hT,hL,hK=>by
  unfold exM;split
  .rename_i t' c r0;obtain⟨v,r,rfl,⟨u,rfl,hu,hc⟩,_,h3⟩:=hL;cases hb:Nat.beq t' t
   .trivial
   .simp only[cond_true];have e:=ik hb;subst e;refine Jw md (vs:=[u]) R hT ⟨u,[],rfl,hc,hu,rfl⟩ λS1 ok1 x q us us' O R1 T1 k1 s1 e1 h1 l1=>?_;cases q with
    |cons c q=>trivial|nil=>simp only[jc]at l1;subst l1;simp only[G9]at e1;subst e1;exact hK _ _ _ _ [_] r O R1 T1 k1 s1 rfl ⟨u,rfl,h1⟩ (Oe k1 h3)
  .trivial
 | .cell (some none),cs,K,S,ok,vs,T,R,hT,hL,hK=>by
  unfold exM;split
  .obtain⟨v,r,rfl,h1,h2,h3⟩:=hL;exact hK _ _ _ _ [v] r [] R (by simp_all) (λ_ _ h=>h) (dD.refl _) rfl ⟨v,rfl,h2,λ_=>h1,(λ_ h=>nomatch h),rfl⟩ h3
  .trivial
 | .cell (some (some b)),cs,K,S,ok,vs,T,R,hT,hL,hK=>by
  unfold exM;split
  .obtain⟨v,r,rfl,h1,h2,h3⟩:=hL;cases b
   .trivial
   .exact hK _ _ _ _ [v] r [] R (by simp_all) (λ_ _ h=>h) (dD.refl _) rfl ⟨v,rfl,h2,(λh=>nomatch h),(λb' h=>by cases h;exact h1),rfl⟩ h3
  .obtain⟨v,r,rfl,h1,h2,h3⟩:=hL;cases b
   .exact hK _ _ _ _ [v] r [] R (by simp_all) (λ_ _ h=>h) (dD.refl _) rfl ⟨v,rfl,h2,(λh=>nomatch h),(λb' h=>by cases h;exact h1),rfl⟩ h3
   .trivial
  .trivial
 | .cell none,cs,K,S,ok,vs,T,R,hT,hL,hK=>by
  unfold exM;split
  .obtain⟨v,r,rfl,h1,h2,h3⟩:=hL;exact hK _ _ _ _ [v] r [] R (by simp_all) (λ_ _ h=>h) (dD.refl _) rfl ⟨v,rfl,h2,(λh=>nomatch h),(λ_ h=>nomatch h),rfl⟩ h3
  .trivial
 | .lp t,cs,K,S,ok,vs,T,R,hT,hL,hK=>by
  unfold exM;split
  .obtain⟨v,r,rfl,h1,_,h3⟩:=hL;refine a6J EO t R hT h1 λS1 ok1 x R1 T1 k1 g1 s1 h1=>?_;rw[a9m]at h1;exact hK _ _ _ _ [v] r [] R1 (by simp_all) k1 s1 rfl ⟨v,rfl,h1,rfl⟩ (Oe k1 h3)
  .trivial
end
end Go.GP
namespace Go.GP
def jk(C:Cx):List V->d4E->Prop
 |[],vs=>vs=[]|c::cs,vs=>∃v r,vs=v::r/\nU C c v/\jk C cs r
theorem QB{h:Array Obj}{ok ok' :Nat->Ty->Prop}{m:Mp}(k:∀b t,ok b t->ok' b t):∀{cs:List V} {vs:d4E},jk ⟨h,ok,m⟩ cs vs->jk ⟨h,ok',m⟩ cs vs
 |[],_,e=>e|_::_,_,⟨v,r,e,h1,h2⟩=>⟨v,r,e,RX k h1,QB k h2⟩
theorem a4O{h:Array Obj}{ok:Nat->Ty->Prop}{m m' :Mp}(k:∀n l,m n=some l->m' n=some l):∀{cs:List V} {vs:d4E},jk ⟨h,ok,m⟩ cs vs->jk ⟨h,ok,m'⟩ cs vs
 |[],_,e=>e|_::_,_,⟨v,r,e,h1,h2⟩=>⟨v,r,e,KT (C:=⟨h,ok,m⟩) (D:=⟨h,ok,m'⟩) ⟨λ_ _ h=>h,λ_ _ _=>rfl,k⟩ h1,a4O k h2⟩
theorem Gm{h:Array Obj}{ok:Nat->Ty->Prop}{m m' :Mp}(k:∀n l,m n=some l->m' n=some l){cs:List V}{vs:d4E}(hr:jc ⟨h,ok,m⟩ cs vs):jc ⟨h,ok,m'⟩ cs vs:=
 KR (C:=⟨h,ok,m⟩) (D:=⟨h,ok,m'⟩) ⟨λ_ _ h=>h,λ_ _ _=>rfl,k⟩ hr
variable {C:Cx}
theorem a7v{c:V}{v:Value}(h1:c≠.undef)(h2:c≠.un)(h:yR C c v):v.oneCell' =true:=by
 cases c<;>simp only[yR]at h<;>try (subst h;rfl)
 case ne=>obtain⟨_,_,rfl,_⟩:=h;rfl
 .simp_all
 .simp_all
 .rcases h with⟨_,a,cap,e,_⟩|⟨_,mv,e,_⟩<;>(simp at e;subst e;rfl)
 .grind [pW]
 .obtain⟨b,_,rfl⟩:=h;rfl
 .obtain⟨_,_,_,_,_,_,_,rfl⟩:=h;rfl
 .exact PW h
 all_goals first|exact h.elim|(obtain⟨_,rfl,_⟩:=h;rfl)|(rfl)
theorem a4N{c:V}{v:Value}(h:yR C c v):nU C c v:=by cases c<;>simp only[yR]at h<;>try exact h
variable {α:Type}{v:V}{Q:α->Sm->Prop}{x:Value}{ln:Ty->Bool}
section
variable {X:Fx} {cl ch:Nat} {S:Sm} {m:Mp} {ok:Nat->Ty->Prop} {a:Act} {w:World} {T:d4F}
theorem Kt{ag:Bool}{K:List V->Cmd α}{S:Sm}(hv:nU C v x)
  (hK:∀cs us,Xd ag x us->jc C cs us->(K cs).post S Q):(a3N ag v K).post S Q:=by
 unfold a3N;split<;>try trivial
 .obtain⟨arr,rfl,hl⟩:=hv;exact hK _ _ ⟨arr,rfl,rfl⟩ hl
 .rename_i h1 h2 h3 h4;have hc:yR C v x:=by cases v<;>first|exact hv|exact absurd rfl (h1 _)|simp_all
  exact hK [v] [x] rfl ⟨x,[],rfl,hc,a7v (λe=>h3 e) (λe=>h4 e) hc,rfl⟩
theorem yw{K:List V->Cmd α}{S:Sm}(hv:nU C v x)
  (hK:∀cs,jc C cs x.cells.toList->(K cs).post S Q):(Ls v K).post S Q:=by
 unfold Ls;split<;>try trivial
 .obtain⟨arr,rfl,hl⟩:=hv;exact hK _ hl
 .rename_i h1 h2 h3 h4;have hc:yR C v x:=by cases v<;>first|exact hv|exact absurd rfl (h1 _)|simp_all
  have h1' :=a7v (λe=>h3 e) (λe=>h4 e) hc;have e:x.cells.toList=[x]:=by cases x<;>simp[Value.cells]<;>simp[Value.oneCell']at h1'
  refine hK [v] ?_;rw[e];exact⟨x,[],rfl,hc,h1',rfl⟩
theorem a6n{md:MG}{K:md.2.den->Cmd α}(R:Rel X cl ch S m ok a w)(hT:Tk X S m ok w T)(hv:nU ⟨w.heap,ok,m⟩ v x)
  (hK:∀S' ok' y cs O,Rel X cl ch S' m ok' a w->Tk X S' m ok' w (T++O)->(∀b t,ok b t->ok' b t)->dD S S' ->Xd md.1 x cs->qc w.heap ok' md.2 none y cs O->(K y).post S' Q):
  (h_ EO md v K).post S Q:=by
 refine Kt hv λcs us hg hl=>?_;refine Jw md.2 R hT hl λS1 ok1 y r us1 us' O R1 T1 k1 s1 e1 h1 l1=>?_;cases r with
 |cons c q=>trivial|nil=>
  grind [jc]
theorem b5H{md:M}(hd:md.isDat=false)(cs:List V)(K:md.den->List V->Cmd α):exM ln md cs K=exM EO md cs K:=by cases md<;>first|rfl|(simp[M.isDat]at hd;done)|(rename_i b;cases b<;>first|rfl|(rename_i b;cases b<;>rfl))
theorem a2q{md:MG}(hd:md.2.isDat=true){K:md.2.den->Cmd α}(R:Rel X cl ch S m ok a w)(hT:Tk X S m ok w T)(hv:nU ⟨w.heap,ok,m⟩ v x)
  (hK:∀S' ok' y cs,Rel X cl ch S' m ok' a w->Tk X S' m ok' w T->(∀b t,ok b t->ok' b t)->(∀b t,okL ln S m ok b t->okL ln S' m ok' b t)->dD S S' ->Xd md.1 x cs->qc w.heap (okL ln S' m ok') md.2 none y cs []->(K y).post S' Q):
  (h_ ln md v K).post S Q:=by
 obtain⟨ag,mm⟩:=md;cases mm<;>simp[M.isDat]at hd
 case dat t=>
  refine Kt hv λcs us hg hl=>?_;refine Hz ln _ R hT hl λS1 ok1 y r us1 us' R1 T1 k1 g1 s1 e1 h1 l1=>?_;cases r with
  |cons c q=>trivial|nil=>subst l1;simp at e1;subst e1;exact hK _ _ _ _ R1 T1 k1 g1 s1 hg ⟨h1,rfl⟩
 case lp t=>
  refine Kt hv λcs us hg hl=>?_;cases cs with
  |nil=>trivial|cons c q=>
   obtain⟨u,r',rfl,h1,h2,h3⟩:=hl;refine a6J ln t R hT h1 λS1 ok1 y R1 T1 k1 g1 s1 d1=>?_;cases q with
   |cons c q=>trivial|nil=>subst h3;exact hK _ _ _ _ R1 T1 k1 g1 s1 hg ⟨u,rfl,d1,rfl⟩
theorem c4K :∀b t,ok b t->okL ln S m ok b t:=λ_ _ h=> .inl h
theorem FT{α:Type}{Q:α->Sm->Prop}{ln:Ty->Bool} :∀(ms:List MG) {vs:List V} {xs:d4E} {K:bF ms->Cmd α} {S:Sm} {ok:Nat->Ty->Prop} {T:d4F} (R:Rel X cl ch S m ok a w) (hT:Tk X S m ok w T)
  (hv:jk ⟨w.heap,ok,m⟩ vs xs)
  (hK:∀S' ok' y O,Rel X cl ch S' m ok' a w->Tk X S' m ok' w (T++O)->(∀b t,ok b t->ok' b t)->dD S S' ->oP w.heap (okL ln S' m ok') ms y xs O->(K y).post S' Q),
  (OL ln ms vs K).post S Q
 |[],vs,xs,K,S,ok,T,R,hT,hv,hK=>by
  unfold OL;split
  .subst hv;exact hK _ _ _ [] R (by simp_all) (λ_ _ h=>h) (dD.refl _) ⟨rfl,rfl⟩
  .trivial
 |[md],vs,xs,K,S,ok,T,R,hT,hv,hK=>by
  unfold OL;split
  .obtain⟨x,r,rfl,h1,h2⟩:=hv;subst h2;cases hd:md.2.isDat
   .unfold h_;simp[b5H hd];exact a6n R hT h1 λS' ok' y cs O R' T' k s g h=>hK _ _ _ O R' T' k s ⟨x,cs,rfl,g,jS c4K (λ_ _ _=>rfl) (λ_ _=>rfl) h⟩
   .exact a2q hd R hT h1 λS' ok' y cs R' T' k g s hg h=>hK _ _ _ [] R' (by simp_all) k s ⟨x,cs,rfl,hg,h⟩
  .trivial
 |md::md' ::r,vs,xs,K,S,ok,T,R,hT,hv,hK=>by
  unfold OL;split
  .obtain⟨x,xr,rfl,h1,h2⟩:=hv;cases hd:md.2.isDat
   .unfold h_;simp[b5H hd];refine a6n R hT h1 λS1 ok1 y cs O R1 T1 k1 s1 g1 h1' =>?_;refine FT (md' ::r) R1 T1 (QB k1 h2) λS2 ok2 z O2 R2 T2 k2 s2 h2' =>?_;exact hK _ _ _ (O++O2) R2 (by simp_all) (λb t h=>k2 b t (k1 b t h)) (s1.trans s2) ⟨x,cs,xr,O,O2,rfl,rfl,g1,jS (λb t h=> .inl (k2 b t h)) (λ_ _ _=>rfl) (λ_ _=>rfl) h1',h2'⟩
   .refine FT (md' ::r) R hT h2 λS2 ok2 z O2 R2 T2 k2 s2 h2' =>?_;refine a2q hd R2 T2 (RX k2 h1) λS1 ok1 y cs R1 T1 k1 g1 s1 hg h1' =>?_;exact hK _ _ _ ([]++O2) R1 (by simp_all) (λb t h=>k1 b t (k2 b t h)) (s2.trans s1) ⟨x,cs,xr,[],O2,rfl,rfl,hg,h1',Yg g1 (λ_ _ _=>rfl) (λ_ _=>rfl) h2'⟩
  .trivial
theorem a6m(ms:List MG){vs:List V}{xs:d4E}{K:bF ms->Cmd α}{S:Sm}{ok:Nat->Ty->Prop}{T:d4F}(R:Rel X cl ch S m ok a w)(hT:Tk X S m ok w T)
  (hv:jk ⟨w.heap,ok,m⟩ vs xs)
  (hK:∀S' ok' y O,Rel X cl ch S' m ok' a w->Tk X S' m ok' w (T++O)->(∀b t,ok b t->ok' b t)->dD S S' ->oP w.heap ok' ms y xs O->(K y).post S' Q):
  (OL EO ms vs K).post S Q:=
 FT ms R hT hv λS' ok' y O R' T' k s h=>hK S' ok' y O R' T' k s (by simp_all [a9m])
theorem XG{α:Type}{Q:α->Sm->Prop}{tmps:Array Value}{C:Cx} :∀(ns:d4F) {K:List V->Cmd α} {S:Sm} (hs:∀n,n<Z4->nU C (S n) (tmps.getD n Go.undef))
  (hK:∀vs,jk C vs (ns.map λn=>tmps.getD n Go.undef)->(K vs).post S Q),(a4c ns K).post S Q
 |[],K,S,hs,hK=>hK [] rfl|n::ns,K,S,hs,hK=>by
  unfold a4c;cases hb:Nat.blt n Z4
  .trivial
  .refine XG ns hs λvs hvs=>?_;exact hK _ ⟨_,_,rfl,hs n (by simp_all),hvs⟩
def atV(h:Array Obj)(c:Nat)(u v:Value):Prop:=u=v\/∃b arr T f,u= .pointer (some ⟨b,0,none⟩)/\h[b]? =some (.cells arr T f)/\arr.toList[c]? =some v
def alR(h:Array Obj)(tmps:Array Value)(p:Nat×Nat×Option (Nat×Nat×Nat×Nat)):Prop:=match p with
 |(n,k,none)=>tmps.getD n Go.undef=tmps.getD k Go.undef|(n,k,some (c,j,o,sz))=>∃blk off len cap q y,atV h c (tmps.getD k Go.undef) (.slice (some ⟨blk,off,none⟩) len cap)/\tmps.getD j Go.undef= .int q y/\y.toNat<len/\tmps.getD n Go.undef= .pointer (some ⟨blk,off+y.toNat*sz+o,none⟩)
def TJ(h:Array Obj)(ok:Nat->Ty->Prop)(sg:Sig)(x:jY sg)(tmps:Array Value)(O:d4F):Prop:=
 oP h ok (sg.ms.map (·.2)) x ((sg.ms.map (·.1)).map λn=>tmps.getD n Go.undef) O/\∀p∈sg.als,alR h tmps p
theorem b8j{v u:V}{x y:Value}(h:c3t v u=true)(hv:nU C v x)(hu:nU C u y):x=y:=by
 cases v<;>try (cases h)
 case own a vw=>
 cases u<;>try (cases vw<;>cases h)
 case own b vu=>
 cases vw<;>cases vu<;>try (cases h)
 have:=ik (show Nat.beq a b=true from h);subst this;obtain⟨l,hm,h1⟩:=hv;obtain⟨l',hm',h2⟩:=hu;rw[hm]at hm';cases hm';cases l with
 |nil=>exact(show x=_ from h1).trans (show y=_ from h2).symm|st b=>cases h1|mp b=>exact(show x=_ from h1).trans (show y=_ from h2).symm|arr blk off len cap sz=>exact(show x=_ from h1).trans (show y=_ from h2).symm
theorem Rel.chmono(R:Rel X cl ch S m ok a w){ch' :Nat}(h:ch<=ch'):Rel X cl ch' S m ok a w:={ R with strict:=λn hn=>R.strict n l7 }
theorem qQ{n:Nat}{K:Cmd α}(hK:S (Z4+n)= .undef->K.post (upd S (Z4+n) v) Q):(xQ n v K).post S Q:=by
 show Cmd.post (match S (Z4+n)with| .undef=>_|_=>_) S Q;split
 .rename_i h;exact hK h
 .trivial
theorem Rel.adopt(R:Rel X cl ch S m ok a w){n:Nat}{l:Loc}{ks:d4F}{O:d4F}(hn:S (Z4+n)= .undef)(hcl:cl<=n)(hv:v≠.undef)
  (hT:Tk X S m ok w (O++T)) (ho:∀b∈V5 (oV m n l ks) n v,b∈O) (hnd:(V5 (oV m n l ks) n v).Nodup) (hB:Gl ⟨w.heap,ok,oV m n l ks⟩ n v):
  Rel X cl (max ch (n+1)) (upd S (Z4+n) v) (oV m n l ks) ok a w/\Tk X (upd S (Z4+n) v) (oV m n l ks) ok w T/\(∀k l',m k=some l' ->oV m n l ks k=some l'):=by
 have hm:=R.fresh n hcl hn;refine⟨(R.chmono (gz ch (n+1))).lay hn hcl l7 hv rfl rfl rfl (D5 _) (λ_ _ _=>rfl) hnd (λb hb=>hT.free b (by simp_all)) hB,⟨?_,λb hb=>?_⟩,λk l' h=>?_⟩
 .exact(H8.1 hT.nodup).2.1
 .obtain⟨h1,h2,h3,h4⟩:=hT.free b (by grind);refine⟨h1,h2,h3,λk e=>?_⟩;by_cases ek:k=n
  .subst ek;rw[iQ]at e;exact(H8.1 hT.nodup).2.2 b (ho b e) b hb rfl
  grind [Z5,JM,jZ,Su]
 grind [jZ]
theorem Jl{h:Array Obj}{ok:Nat->Ty->Prop}{m m' :Mp}{t:Ty}{xs:List t.den}{l:Loc}(hr:arrOk ⟨h,ok,m⟩ t xs l):arrOk ⟨h,ok,m'⟩ t xs l:=by cases l<;>exact hr
theorem b4v{S:Sm}{k:Nat}{c:Cmd α}(h:c.post (upd S k v) Q):(Cmd.set k v c).post S Q:=h
theorem MB{α:Type}{Q:α->Sm->Prop} :∀(md:M) {x:md.den} {n:Nat} {r:List V} {K:List V->Nat->Cmd α} {S:Sm} {m:Mp} {ch:Nat} {us us' :d4E} {O T:d4F}
  (R:Rel X cl ch S m ok a w) (hcl:cl<=n) (hT:Tk X S m ok w (O++T)) (h:qc w.heap ok md none x us O) (hL:jc ⟨w.heap,ok,m⟩ r us')
  (hK:∀S' m' cs n' ch',Rel X cl ch' S' m' ok a w->ch' <=max ch n' ->Tk X S' m' ok w T->(∀k l,m k=some l->m' k=some l)->dD S S' ->jc ⟨w.heap,ok,m'⟩ cs (us++us')->n<=n' ->(K cs n').post S' Q),
  (emM md x n r K).post S Q
 | .dat t,x,n,r,K,S,m,ch,us,us',O,T,R,hcl,hT,h,hL,hK=>by unfold emM;obtain⟨hr,rfl⟩:=h;refine hK S m _ n ch R (gz _ _) (by simpa using hT) (λ_ _ h=>h) (dD.refl _) ?_ (D5 _)<;>grind [qh,Bc,qR]
 | .own t,x,n,r,K,S,m,ch,us,us',O,T,R,hcl,hT,h,hL,hK=>by
  unfold emM;obtain⟨l,v,rfl,hv,ha,rfl⟩:=zy.1 h;refine qQ λhn=>?_;have hob:V5 (oV m n l []) n (.barr t x)=l.blks:=by cases l<;>first|(simp[V5,Loc.blks];done)|cases ha
  obtain⟨R',T',k'⟩:=R.adopt (l:=l) (ks:=[]) (v:=.barr t x) hn hcl x9 hT (λb hb=>by simp_all) (by simp_all [Loc.blks_nodup]) ⟨l,bu _ _ _ _,Jl ha⟩;exact hK _ _ _ _ _ R' l7 T' k' (dD.box _ _ _) ⟨v,us',rfl,⟨l,bu _ _ _ _,hv⟩,pW hv,Gm k' hL⟩ l7
 | .ownb t,x,n,r,K,S,m,ch,us,us',O,T,R,hcl,hT,h,hL,hK=>by
  unfold emM;obtain⟨l,v,rfl,hv,ha,rfl⟩:=h;refine qQ λhn=>?_;have hob:V5 (oV m n l []) n (.barr t x)=l.blks:=by cases l<;>first|(simp[V5,Loc.blks];done)|cases ha
  obtain⟨R',T',k'⟩:=R.adopt (l:=l) (ks:=[]) (v:=.barr t x) hn hcl x9 hT (λb hb=>by simp_all) (by simp_all [Loc.blks_nodup]) ⟨l,bu _ _ _ _,Jl ha⟩;exact hK _ _ _ _ _ R' l7 T' k' (dD.box _ _ _) ⟨v,us',rfl,⟨l,bu _ _ _ _,hv⟩,pW hv,Gm k' hL⟩ l7
 | .owns md,x,n,r,K,S,m,ch,us,us',O,T,R,hcl,hT,h,hL,hK=>by
  unfold emM;obtain⟨hw,l,v,Os,rfl,hv,ha,rfl⟩:=BK.1 h;refine qQ λhn=>?_;have hob:V5 (oV m n l Os.flatten) n (.barrs md x none)=l.blks++Os.flatten:=by cases l<;>first|(simp[V5,Loc.blks];done)|cases ha
  obtain⟨R',T',k'⟩:=R.adopt (l:=l) (ks:=Os.flatten) (v:=.barrs md x none) hn hcl x9 hT (λb hb=>by simp_all) (by rw[hob];exact(H8.1 hT.nodup).1)
   ⟨hw,l,Os,bu _ _ _ _,⟨ha,trivial⟩,x9⟩
  refine b4v ?_;have T2:=T'.killV R' (TG+n) (v:=.blen (o9 x) md.size) rfl (bs:=[]) (λb h=>by grind) bZ;rw[G9]at T2;exact hK _ _ _ _ _ (R'.mark (iQ _ _ _)) l7 T2 k' ((dD.box _ _ _).trans (dD.box _ _ _)) ⟨v,us',rfl,⟨l,bu _ _ _ _,hv⟩,pW hv,Gm k' hL⟩ l7
 | .pair p q,x,n,r,K,S,m,ch,us,us',O,T,R,hcl,hT,h,hL,hK=>by
  unfold emM;obtain⟨c,d,O1,O2,rfl,rfl,h1,h2⟩:=b4n.1 h;have hT1:Tk X S m ok w (O2++(O1++T)):=hT.perm (by
   grind)
  refine MB q R hcl hT1 h2 hL λS1 m1 cs1 n1 ch1 R1 c1 T1 k1 s1 l1 e1=>?_;refine MB p R1 l7 T1 h1 l1 λS2 m2 cs2 n2 ch2 R2 c2 T2 k2 s2 l2 e2=>?_;exact hK _ _ _ _ _ R2 l7 T2 (λk l h=>k2 k l (k1 k l h)) (s1.trans s2) (by simp_all) l7
 | .unit,x,n,r,K,S,m,ch,us,us',O,T,R,hcl,hT,h,hL,hK=>by unfold emM;obtain⟨rfl,rfl⟩:=h;exact hK S m _ n ch R (gz _ _) (by simp_all) (λ_ _ h=>h) (dD.refl _) (by simp_all) (D5 _)
 | .box md,x,n,r,K,S,m,ch,us,us',O,T,R,hcl,hT,h,hL,hK=>by
  unfold emM;obtain⟨blk,arr,Tt,O',rfl,hh,hr,rfl⟩:=h;have hT1:Tk X S m ok w (O' ++([blk]++T)):=hT.perm (by grind);refine MB md (r:=[]) (us' :=[]) R l7 hT1 hr rfl λS1 m1 cs1 n1 ch1 R1 c1 T1 k1 s1 l1 e1=>?_;refine qQ λhn=>?_;obtain⟨R',T',k'⟩:=R1.adopt (l:=.st blk) (ks:=[]) (v:=.bcells cs1) hn hcl x9 T1 (λb hb=>by
   simp_all [V5]) (by simp[V5]) ⟨blk,arr,Tt,bu _ _ _ _,hh,Gm (λk l (h:m1 k=some l)=>by
    by_cases ek:k=n
    .subst ek;have:=R1.fresh k hcl hn;simp_all
    simp_all [jZ]) (by simp_all)⟩
  refine hK _ _ _ _ _ R' l7 T' (λk l h=>k' k l (k1 k l h)) (s1.trans (dD.box _ _ _)) ⟨_,us',rfl,⟨blk,bu _ _ _ _,rfl⟩,rfl,Gm k' (Gm k1 hL)⟩ l7
 | .rp t,x,n,r,K,S,m,ch,us,us',O,T,R,hcl,hT,h,hL,hK=>by unfold emM;obtain⟨v,rfl,hv,rfl⟩:=h;exact hK S m _ n ch R (gz _ _) (by simp_all) (λ_ _ h=>h) (dD.refl _) ⟨v,us',rfl,hv,PW hv,hL⟩ (D5 _)
 | .fn f ts,x,n,r,K,S,m,ch,us,us',O,T,R,hcl,hT,h,hL,hK=>by unfold emM;obtain⟨vs,rfl,hv,rfl⟩:=h;exact hK S m _ n ch R (gz _ _) (by simp_all) (λ_ _ h=>h) (dD.refl _) ⟨_,us',rfl,⟨vs,rfl,hv⟩,rfl,hL⟩ (D5 _)
 | .ifc t md,x,n,r,K,S,m,ch,us,us',O,T,R,hcl,hT,h,hL,hK=>by
  unfold emM;obtain⟨u,rfl,h1⟩:=h;refine MB md (r:=[]) (us' :=[]) R hcl hT h1 rfl λS1 m1 cs1 n1 ch1 R1 c1 T1 k1 s1 l1 e1=>?_;split
  .rename_i c;obtain⟨v',r',e,h1',h2',h3'⟩:=l1;simp only[G9,cO,P6,J3]at e;obtain⟨rfl,rfl⟩:=e;exact hK _ _ _ _ _ R1 c1 T1 k1 s1 ⟨_,us',rfl,⟨u,rfl,h2',h1'⟩,rfl,Gm k1 hL⟩ e1
  .trivial
 | .cell (some none),x,n,r,K,S,m,ch,us,us',O,T,R,hcl,hT,h,hL,hK=>by unfold emM;obtain⟨v,rfl,hv,h2,h4,rfl⟩:=h;exact hK S m _ n ch R (gz _ _) (by simp_all) (λ_ _ h=>h) (dD.refl _) ⟨v,us',rfl,h2 rfl,hv,hL⟩ (D5 _)
 | .cell (some (some b)),x,n,r,K,S,m,ch,us,us',O,T,R,hcl,hT,h,hL,hK=>by unfold emM;obtain⟨v,rfl,hv,h2,h4,rfl⟩:=h;exact hK S m _ n ch R (gz _ _) (by simp_all) (λ_ _ h=>h) (dD.refl _) ⟨v,us',rfl,h4 _ rfl,hv,hL⟩ (D5 _)
 | .cell none,x,n,r,K,S,m,ch,us,us',O,T,R,hcl,hT,h,hL,hK=>by unfold emM;obtain⟨v,rfl,hv,h2,h4,rfl⟩:=h;exact hK S m _ n ch R (gz _ _) (by simp_all) (λ_ _ h=>h) (dD.refl _) ⟨v,us',rfl,trivial,hv,hL⟩ (D5 _)
 | .lp t,x,n,r,K,S,m,ch,us,us',O,T,R,hcl,hT,h,hL,hK=>by unfold emM;obtain⟨v,rfl,hv,rfl⟩:=h;exact hK S m _ n ch R (gz _ _) (by simp_all) (λ_ _ h=>h) (dD.refl _) ⟨v,us',rfl,hv,PW hv,hL⟩ (D5 _)
theorem VF{ag:Bool}{cs:List V}{us:d4E}(hg:Xd ag x us)(hl:jc C cs us):nU C (mkV ag cs) x:=by
 cases ag
 .subst hg;cases cs with
  |nil=>grind [jc]|cons c r=>
   obtain⟨v,r',e,h1,h2,h3⟩:=hl;obtain⟨rfl,rfl⟩:=e;cases r with
   |nil=>exact a4N h1|cons d r=>obtain⟨_,_,e,_⟩:=h3;grind
 .obtain⟨arr,rfl,rfl⟩:=hg;exact⟨arr,rfl,hl⟩
theorem NE{α:Type}{Q:α->Sm->Prop} :∀(ms:List MG) {x:bF ms} {n:Nat} {K:List V->Nat->Cmd α} {S:Sm} {m:Mp} {ch:Nat} {xs:d4E} {O T:d4F}
  (R:Rel X cl ch S m ok a w) (hcl:cl<=n) (hT:Tk X S m ok w (O++T)) (h:oP w.heap ok ms x xs O)
  (hK:∀S' m' vs n' ch',Rel X cl ch' S' m' ok a w->ch' <=max ch n' ->Tk X S' m' ok w T->(∀k l,m k=some l->m' k=some l)->dD S S' ->jk ⟨w.heap,ok,m'⟩ vs xs->n<=n' ->(K vs n').post S' Q),
  (Il ms x n K).post S Q
 |[],x,n,K,S,m,ch,xs,O,T,R,hcl,hT,h,hK=>by obtain⟨rfl,rfl⟩:=h;exact hK S m [] n ch R (gz _ _) (by simp_all) (λ_ _ h=>h) (dD.refl _) rfl (D5 _)
 |[md],x,n,K,S,m,ch,xs,O,T,R,hcl,hT,h,hK=>by obtain⟨v,cs,rfl,hg,hr⟩:=h;refine MB md.2 R hcl hT hr rfl λS1 m1 cs1 n1 ch1 R1 c1 T1 k1 s1 l1 e1=>?_;exact hK _ _ _ _ _ R1 c1 T1 k1 s1 ⟨v,[],rfl,VF hg (by simp_all),rfl⟩ e1
 |md::md' ::r,x,n,K,S,m,ch,xs,O,T,R,hcl,hT,h,hK=>by obtain⟨v,cs,vs',O1,O2,rfl,rfl,hg,h1,h2⟩:=h;refine MB md.2 R hcl (by simpa using hT) h1 rfl λS1 m1 cs1 n1 ch1 R1 c1 T1 k1 s1 l1 e1=>?_;refine NE (md' ::r) R1 l7 T1 h2 λS2 m2 vs2 n2 ch2 R2 c2 T2 k2 s2 l2 e2=>?_;exact hK _ _ _ _ _ R2 l7 T2 (λk l h=>k2 k l (k1 k l h)) (s1.trans s2) ⟨v,vs',rfl,VF hg (Gm k2 (by simp_all)),l2⟩ l7
theorem Oo{Q:Unit->Sm->Prop} :∀(ns:d4F) {vs:List V} {S:Sm} {K:Cmd Unit} (R:Rel X cl ch S m ok a w) (hv:jk ⟨w.heap,ok,m⟩ vs (ns.map λn=>a.tmps.getD n Go.undef))
  (hK:∀S',Rel X cl ch S' m ok a w->K.post S' Q),(Lc ns vs K).post S Q
 |[],vs,S,K,R,hv,hK=>by
  cases vs with
  |nil=>exact hK S R|cons _ _=>obtain⟨_,_,e,_⟩:=hv;grind
 |n::ns,vs,S,K,R,hv,hK=>by
  cases vs with
  |nil=>trivial
  |cons v vs=>obtain⟨x,r,e,h1,h2⟩:=hv;obtain⟨rfl,rfl⟩:=e;refine bP λhb=>?_;exact Oo ns (R.slotV (by simp_all) h1) h2 hK
end
end Go.GP
namespace Go.GP
def b9u(P:Program)(t:TypeId):TD->Prop
 | .bool=>P.underlying t=some .bool| .int k=>P.underlying t=some (.int k)| .str=>P.underlying t=some .string| .sl e=>P.underlying t=some (.slice e)| .ptr e=>P.underlying t=some (.pointer e)| .struct fs=>∃fields,P.underlying t=some (.struct fields)/\fields.toList.map (λf=>(f.type,f.offset))=fs| .arr n e=>P.underlying t=some (.array n e)| .map k e=>P.underlying t=some (.map k e)| .other=>∃d,P.underlying t=some d/\(match d with| .struct _| .array _ _=>False|_=>True)
structure TiOk (P:Program) (t:TypeId) (i:TI):Prop where
 info:∃inf,P.info? t=some inf/\inf.size=i.size/\inf.bytes=i.bytes/\
  (i.zero.length=i.size->∃z,inf.zero=some z/\jc ⟨#[],λ_ _=>False,nom⟩ i.zero z.cells.toList)/\
  (∀u,i.ty=some u->u.size=i.size/\∃z,inf.zero=some z/\oq #[] (λ_ _=>False) u u.zero z.cells.toList)
 td:b9u P t i.td
 one:dX i.td=false->i.size=1
 agg:∀inf z,P.info? t=some inf->inf.zero=some z->(dX i.td=true->∃arr,z= .agg arr)/\(dX i.td=false->z.oneCell' =true)
def Wp(n:Nat)(v:Value)(rs:d4E):Prop:=rs.length=n/\v=(match rs with|[x]=>x|l=> .tuple l.toArray)
def vJ(h:Array Obj):List MG->d4E->d4E->d4F->Prop
 |[],[],os,B=>os=[]/\B=[]|(_,.box _)::ms,v::vs,os,B=>∃b arr T os' B',v= .pointer (some ⟨b,0,none⟩)/\h[b]? =some (.cells arr T (0,0))/\os= .agg arr::os' /\B=b::B' /\vJ h ms vs os' B'|(_,.ifc _ (.box _))::ms,v::vs,os,B=>∃t b arr T os' B',v= .iface t (.pointer (some ⟨b,0,none⟩))/\h[b]? =some (.cells arr T (0,0))/\os= .agg arr::os' /\B=b::B' /\vJ h ms vs os' B'|(_,.ownb _)::ms,v::vs,os,B=>∃os',os=v::os' /\vJ h ms vs os' B|_::ms,_::vs,os,B=>vJ h ms vs os B|_,_,_,_=>False
def Wn(h:Array Obj)(x:Value)(off sz fo:Nat)(y:Value):Prop:=∃blk o b bo n c,x= .pointer (some ⟨blk,o,none⟩)/\fP h blk (o+off) 1=some [.slice (some ⟨b,bo,none⟩) n c]/\
 0<=I8 .i64 (n:Int) 1/\I8 .i64 (n:Int) 1<(n:Int)/\y= .pointer (some ⟨b,bo+(I8 .i64 (n:Int) 1).toNat*sz+fo,none⟩)
theorem Wn.det{h:Array Obj}{x y z:Value}{off sz fo:Nat}(h1:Wn h x off sz fo y)(h2:Wn h x off sz fo z):y=z:=by obtain⟨blk,o,b,bo,n,c,rfl,e,_,_,rfl⟩:=h1;obtain⟨blk',o',b',bo',n',c',e1,e',_,_,rfl⟩:=h2<;>simp_all
def Zh(h:Array Obj)(all:d4E):List MG->d4E->Prop
 |_::ms,_::vs=>Zh h all ms vs|_,_=>True
def b0Y(P:Program)(f:FuncId)(off sz:Nat):Prop:=(∃fn,P.funcs[f]? =some fn/\fn.body.isSome=true/\(fn.name== "runtime.NumGoroutine")=false)/\
 ∀(w:World) (x y:Value),Wn w.heap x off sz 0 y->Calls P f #[x] w λe w' =>e= .returned y/\∃n,w' =w.drewN n
def PlP(P:Program)(f:FuncId)(off sz:Nat):Prop:=match sz with|0=>c7F P f off|_+1=>b0Y P f off sz
theorem PlP.snd{P:Program}{f:FuncId}{off sz:Nat}(h:PlP P f off sz)(hz:Nat.beq sz 0=false):b0Y P f off sz:=by
 cases sz with
 |zero=>cases hz|succ n=>exact h
class GlNe (gl:List (Nat×(t:Ty)×List t.den)):Prop where
 ne:gl≠[]
def iZ(P:Program)(gl:List (Nat×(t:Ty)×List t.den))(f:FuncId)(s:FSpec):Prop:=
 ∀(w:World) (ok:Nat->Ty->Prop) (O:d4F) (vals:d4E) (x:bF s.ps) (r:bF (s.rs++s.outs)),
  (∀b t,ok b t->b<w.heap.size)->O.Nodup->(∀b∈O,(∀t,¬ok b t)/\b<w.heap.size)->(∀g u,fZ gl g=some u->Ph ⟨w.heap,ok,nom⟩ g u.1 u.2)->
  oP w.heap ok s.ps x vals O->Zh w.heap vals s.ps vals->s.fn x=some r->
  Calls P f vals.toArray w λe w' =>∃v ok' O' rs os B,e= .returned v/\Frame' (gl=[]) w w' O/\(∀b t,ok b t->ok' b t)/\(∀b t,ok' b t->b<w'.heap.size/\(ok b t\/w.heap.size<=b\/b∈O))/\
   (O' ++B).Nodup/\(∀b∈O' ++B,(∀t,¬ok' b t)/\b<w'.heap.size/\(w.heap.size<=b\/b∈O))/\
   Wp s.rs.length v rs/\vJ w'.heap s.ps vals os B/\oP w'.heap ok' (s.rs++s.outs) r (rs++os) O'
def c0k(P:Program):Nat:=P.types.toList.findIdx λi=>i.str== "amend.fault"
def Bq(P:Program)(c:Int):List PanicEntry:=[{ v:=.iface (c0k P) (.agg #[.int .i64 c]),recovered:=false }]
def b9S(P:Program)(gl:List (Nat×(t:Ty)×List t.den))(f:FuncId)(ps rs outs:List MG)(fn:bF ps->Option (bF (cd::(rs++outs)))):Prop:=
 ∀(w:World) (ok:Nat->Ty->Prop) (O:d4F) (vals:d4E) (x:bF ps) (r:bF (cd::(rs++outs))),
  (∀b t,ok b t->b<w.heap.size)->O.Nodup->(∀b∈O,(∀t,¬ok b t)/\b<w.heap.size)->(∀g u,fZ gl g=some u->Ph ⟨w.heap,ok,nom⟩ g u.1 u.2)->
  oP w.heap ok ps x vals O->Zh w.heap vals ps vals->fn x=some r->
  Calls P f vals.toArray w λe w' =>(a8Y (rs++outs) r=0/\∃v ok' O' rs' os B,e= .returned v/\Frame' (gl=[]) w w' O/\(∀b t,ok b t->ok' b t)/\(∀b t,ok' b t->b<w'.heap.size/\(ok b t\/w.heap.size<=b\/b∈O))/\
   (O' ++B).Nodup/\(∀b∈O' ++B,(∀t,¬ok' b t)/\b<w'.heap.size/\(w.heap.size<=b\/b∈O))/\
   Wp rs.length v rs' /\vJ w'.heap ps vals os B/\oP w'.heap ok' (rs++outs) (tlT (rs++outs) r) (rs' ++os) O')\/
   (a8Y (rs++outs) r≠0/\e= .panicked (Bq P (a8Y (rs++outs) r))/\Frame' (gl=[]) w w' O)
def c3G(P:Program)(gl:List (Nat×(t:Ty)×List t.den))(f:FuncId):FSpec->Prop
 |⟨ps,rs,outs,fn⟩=>∃(rs0:List MG) (h:rs=cd::rs0),b9S P gl f ps rs0 outs (λx=>(h▸fn:bF ps->Option (bF ((cd::rs0)++outs))) x)
def b2T(P:Program)(gl:List (Nat×(t:Ty)×List t.den))(p:Nat×FSpec):Prop:=bif Nat.ble PB p.1 then c3G P gl (p.1 -PB) p.2 else iZ P gl p.1 p.2
def b3s(n:Nat):Nat:=bif Nat.ble PB n then n -PB else n
def mf:List Ty->d4E->Prop
 |[],vs=>vs=[]| .bool::ts,vs=>∃b r,vs= .bool b::r/\mf ts r| .int k::ts,vs=>∃b r,vs= .int k b::r/\mf ts r| .str::ts,vs=>∃b r,vs= .string b::r/\mf ts r|_::_,_=>False
def b4O(P:Program)(t:TypeId)(sh:List Ty):Prop:=
 ∀(w:World) (C:Cx) (cs ds:List V) (xs ys:Array Value) (e:Bool) (op:BinOp) (x y:Operand),EZ sh cs=true->EZ sh ds=true->jc C cs xs.toList->jc C ds ys.toList->EC cs ds=some e->
  (op= .eql\/op= .neq)->(do eqGuard op t x y (.agg xs) (.agg ys);binOp op t (.agg xs) (.agg ys):Sem Value).run P w= .ok (.bool (if op= .eql then e else !e)) w
def a5v(P:Program)(t:TypeId)(sh:List Ty):Prop:=
 (∃fs,P.underlying t=some (.struct fs))/\∀(w:World) (xs:Array Value),mf sh xs.toList->(∀em,(Instr.checkKey em 10000 t (.agg xs)).run P w= .ok () w)/\
  ∀ys:Array Value,mf sh ys.toList->∃r,(Op.equal t (.agg xs) (.agg ys)).run P w= .ok r w/\(r=true↔xs.toList=ys.toList)
def QS(P:Program)(t:TypeId)(sh:List Ty):Prop:=b4O P t sh/\a5v P t sh
def Jj(P:Program)(t:Nat)(n:String)(f:Nat)(d:Option Nat):Prop:=
 ∀(v:Value) (w:World),match d with
  |none=>(method (P.types.size+Made.depth) t v n).run P w= .ok (f,v) w
  |some e=>∀ad,v= .pointer (some ad)->(method (P.types.size+Made.depth) t v n).run P w=((loadVar e ad).run P w).andThen λu w' => .ok (f,u) w'
structure FxOk (X:Fx):Prop where
 nt:64*X.E.nt<=999936
 tt:∀t i,fZ X.E.tt t=some i->TiOk X.P t i
 fs:∀p∈X.E.fs,b2T X.P X.E.gl p
 eqs:∀t sh,fZ X.E.eqs t=some sh->QS X.P t sh
 ms:∀p∈X.E.ms,Jj X.P p.1.1 p.1.2 p.2.1 p.2.2
 fn:∀p∈X.E.fs,∃fn,X.P.funcs[b3s p.1]? =some fn/\fn.body.isSome=true/\(fn.name== "runtime.NumGoroutine")=false
 pl:∀p∈X.E.pl,PlP X.P p.1 p.2.1 p.2.2
 df:∀l,X.df=some l->∀p∈X.E.pl,Nat.beq p.2.2 0=false
theorem FxOk.ntB{X:Fx}(H:FxOk X):X.E.nt<=Z4:=by have:=H.nt;grind
def c2f(X:Fx)(cl ch:Nat)(o:Oper)(a:Act)(w:World)(m:Mp)(ok:Nat->Ty->Prop)(c:Int)(S' :Sm):Prop:=
 ∀(next:Act->World->Prop) (Q:Exit->Act->World->Prop),
  (∀m' ok' w',Rel X cl ch S' m' ok' a w' ->(∀k l,m k=some l->m' k=some l)->(∀b t,ok b t->ok' b t)->Q (.panic (Bq X.P c)) a w')->o.wp X.P a w next Q
def kF(X:Fx)(cl ch:Nat)(o:Oper)(a:Act)(w:World)(m:Mp)(ok:Nat->Ty->Prop)(S' :Sm):Prop:=
 ∀(next:Act->World->Prop) (Q:Exit->Act->World->Prop),
  (∀m' ok' a' w',Rel X cl ch S' m' ok' a' w' ->(∀k l,m k=some l->m' k=some l)->(∀b t,ok b t->ok' b t)->next a' w')->o.wp X.P a w next Q
theorem MV{α:Type}{ι:Sort _}{Q:ι->α->Sm->Prop} :∀{c:Cmd α} {S:Sm},(∀i,c.post S (Q i))->c.post S (λx S' =>∀i,Q i x S')
 | .ret x,S,h=>λi=>h i| .fail,S,h=>trivial| .get k c,S,h=>MV (c:=c (S k)) h| .set k v c,S,h=>MV (c:=c) h
 | .opt o c,S,h=>λx e=>MV (c:=c x) λi=>h i x e| .br b c d,S,h=>⟨λe=>MV (c:=c) λi=>(h i).1 e,λe=>MV (c:=d) λi=>(h i).2 e⟩
variable {x:Operand}{k:IntKind}{y:Operand}{α:Type}{Q:α->Sm->Prop}{C:Cx}{v:Value}{op:BinOp}{t:TypeId}{yt:TypeId}
section
variable {X:Fx} {cl ch:Nat} {S:Sm} {m:Mp} {ok:Nat->Ty->Prop} {a:Act} {w:World} {o:Oper}
theorem eP{b:Bool}{c:Cmd α}{S:Sm}(h:b=true->c.post S Q):(bif b then c else Cmd.fail).post S Q:=by
 cases b
 .trivial
 simp_all
theorem Lr{a b:Nat}(h:Nat.blt a b=true):a<b:=by simp_all
theorem xI(H:FxOk X){S:Sm}{m0 m:Mp}{ok0 ok:Nat->Ty->Prop}{w0 w:World}{a:Act}(R:Rel X cl ch S m ok a w)(hm:∀k l,m0 k=some l->m k=some l)(hok:∀b t,ok0 b t->ok b t)
  {v:V} {x:Value} (hv:nU ⟨w.heap,ok,m⟩ v x) (run:(execOp a.eval o).run X.P w0= .ok (.value x) w):
  (gW X.E o.dst v).post S (λ_ S' =>kF X cl ch o a w0 m0 ok0 S'):=by
 cases hd:o.dst with
 |none=>
  intro next Q hn
  unfold Oper.wp;rw[run,jh,hd];exact hn m ok a w R hm hok
 |some d=>
  refine eP λhb=>?_;intro next Q hn
  unfold Oper.wp;rw[run,jh,hd];exact hn m ok _ w (R.put H.ntB hb hv) hm hok
theorem a8F(C:Cx)(v:Value):nU C (a8E v) v:=by unfold a8E;split<;>first|exact rfl|trivial
theorem dC(R:Rel X cl ch S m ok a w){K:V->Cmd α}(hK:∀v,nU ⟨w.heap,ok,m⟩ v (a.eval x)->(K v).post S Q):(wK x K).post S Q:=by
 cases x with
 |tmp t=>exact eP λhb=>hK (S t) (R.slot t (Lr hb))|const v=>exact hK _ (a8F _ v)|global g=>exact hK _ rfl|func f=>exact hK _ rfl
theorem mF{α:Type}{Q:α->Sm->Prop}(R:Rel X cl ch S m ok a w):∀(xs:List Operand) {K:List V->Cmd α} (hK:∀vs,jk ⟨w.heap,ok,m⟩ vs (xs.map a.eval)->(K vs).post S Q),(OV xs K).post S Q
 |[],K,hK=>hK [] rfl
 |x::r,K,hK=>by refine dC R λv hv=>?_;exact mF R r λvs hvs=>hK _ ⟨_,_,rfl,hv,hvs⟩
theorem dH(H:FxOk X)(R:Rel X cl ch S m ok a w){v:V}{x:Value}(hv:nU ⟨w.heap,ok,m⟩ v x)(run:(execOp a.eval o).run X.P w= .ok (.value x) w):
  (gW X.E o.dst v).post S (λ_ S' =>kF X cl ch o a w m ok S'):=xI H R (λ_ _ h=>h) (λ_ _ h=>h) hv run
theorem Xe{x:Bool}(h:nU C (.b x) v):v= .bool x:=h
theorem xX{n:Int}(h:nU C (.i k n) v):v= .int k n:=h
theorem QA{l:d4C}(h:nU C (.s l) v):v= .string ⟨l.toArray⟩:=h
theorem b2e(H:FxOk X)(R:Rel X cl ch S m ok a w)(ho:o.op= .move x\/o.op= .assign x):(wK x λv=>gW X.E o.dst v).post S (λ_ S' =>kF X cl ch o a w m ok S'):=by refine dC R λv hv=>dH H R hv ?_;rcases ho with ho|ho<;>simp[execOp,ho]
theorem c0P(H:FxOk X)(R:Rel X cl ch S m ok a w){c x y:Operand}{q:Nat}(ho:o.op= .pick c x y):(fM X.E q o).post S (λ_ S' =>kF X cl ch o a w m ok S'):=by
 unfold fM;simp[ho];refine dC R λv hv=>?_;split<;>try trivial
 rename_i t;have hc:=Xe hv;cases t
 .refine dC R λv hv=>dH H R hv ?_;simp_all [execOp,asBool]
 .refine dC R λv hv=>dH H R hv ?_;simp_all [execOp,asBool]
theorem gG{α β:Type}{Q:α->Sm->Prop}{x:Option β}{c:β->Cmd α}{S:Sm}(h:∀y,x=some y->(c y).post S Q):(Cmd.opt x c).post S Q:=h
theorem b2O{yc:Operand}{a:Act}{b:Int}(h:Je yc=false)(he:a.eval yc= .int k b):b≠0:=by unfold Je at h<;>grind [Act.eval]
theorem b6q{yc:Operand}{a:Act}{b:Int}(h:MJ yc=false)(he:a.eval yc= .int k b):¬b<0:=by unfold MJ at h<;>grind [Act.eval]
theorem b3R(H:FxOk X)(R:Rel X cl ch S m ok a w)(ho:o.op= .binOp op t x y yt){k k' :IntKind}{p q:Int}
  (hx:a.eval x= .int k p) (hy:a.eval y= .int k' q):(PM X.E t op y (.i k p) (.i k' q) λv=>gW X.E o.dst v).post S (λ_ S' =>kF X cl ch o a w m ok S'):=by
 have run:∀v,(binOp op t (.int k p) (.int k' q)).run X.P w= .ok v w->(execOp a.eval o).run X.P w= .ok (.value v) w:=λv h=>by simp_all [execOp,eqGuard_at_int]
 have fin:∀(v:V) (u:Value),nU ⟨w.heap,ok,m⟩ v u->(binOp op t (.int k p) (.int k' q)).run X.P w= .ok u w->(gW X.E o.dst v).post S (λ_ S' =>kF X cl ch o a w m ok S'):=
  λv u hv h=>dH H R hv (run u h)
 unfold PM;cases op<;>simp
 case shl=>
  cases hn:MJ y
  .have h0:=b6q hn hy;exact fin _ _ rfl (by simp[binOp,Op.shift,h0,b5R])
  .refine gG λr hr=>?_;unfold zt at hr;split at hr
   .grind
   .rename_i h0;cases hr;exact fin _ _ rfl (by simp[binOp,Op.shift,h0,b5R])
 case shr=>
  cases hn:MJ y
  .have h0:=b6q hn hy;exact fin _ _ rfl (by simp[binOp,Op.shift,h0,dR])
  .refine gG λr hr=>?_;unfold Qd at hr;split at hr
   .grind
   .rename_i h0;cases hr;exact fin _ _ rfl (by simp[binOp,Op.shift,h0,dR])
 all_goals
  refine eP λhk=>?_;have hk' :=of_decide_eq_true hk;subst hk'
 case quo=>
  cases hz:Je y
  .have h0:=b2O hz hy;exact fin _ _ rfl (by simp[binOp,Op.intDiv,h0,eH])
  .refine gG λr hr=>?_;unfold tZ at hr;split at hr
   .grind
   .rename_i h0;cases hr;exact fin _ _ rfl (by simp[binOp,Op.intDiv,h0])
 case rem=>
  cases hz:Je y
  .have h0:=b2O hz hy;exact fin _ _ rfl (by simp[binOp,Op.intDiv,h0,fC])
  .refine gG λr hr=>?_;unfold BQ at hr;split at hr
   .grind
   .rename_i h0;cases hr;exact fin _ _ rfl (by simp[binOp,Op.intDiv,h0])
 case add=>exact fin _ _ rfl (by simp[binOp,Op.intArith,A8])
 case sub=>exact fin _ _ rfl (by simp[binOp,Op.intArith,I8])
 case mul=>exact fin _ _ rfl (by simp[binOp,Op.intArith,aP])
 case and=>exact fin _ _ rfl (by simp[binOp,Op.intBits,dI])
 case or=>exact fin _ _ rfl (by simp[binOp,Op.intBits,ior])
 case xor=>exact fin _ _ rfl (by simp[binOp,Op.intBits,Pm])
 case andNot=>exact fin _ _ rfl (by simp[binOp,Op.intBits,wo])
 case eql=>exact fin _ _ rfl (by simp[binOp,Op.intCmp,x8];rfl)
 case neq=>exact fin _ _ rfl (by simp[binOp,Op.intCmp,x8,G6];rfl)
 case lss=>exact fin _ _ rfl (by simp[binOp,Op.intCmp,F7])
 case leq=>exact fin _ _ rfl (by simp[binOp,Op.intCmp,S9])
 case gtr=>exact fin _ _ rfl (by simp[binOp,Op.intCmp,F7])
 case geq=>exact fin _ _ rfl (by simp[binOp,Op.intCmp,S9])
theorem b3S(H:FxOk X)(R:Rel X cl ch S m ok a w)(ho:o.op= .binOp op t x y yt){p q:d4C}
  (hx:a.eval x= .string ⟨p.toArray⟩) (hy:a.eval y= .string ⟨q.toArray⟩):(PM X.E t op y (.s p) (.s q) λv=>gW X.E o.dst v).post S (λ_ S' =>kF X cl ch o a w m ok S'):=by
 have run:∀v,(Op.stringOp op ⟨p.toArray⟩ ⟨q.toArray⟩).run X.P w= .ok v w->(execOp a.eval o).run X.P w= .ok (.value v) w:=λv h=>by simp_all [execOp,eqGuard_at_string,binOp]
 have fin:∀(v:V) (u:Value),nU ⟨w.heap,ok,m⟩ v u->(Op.stringOp op ⟨p.toArray⟩ ⟨q.toArray⟩).run X.P w= .ok u w->(gW X.E o.dst v).post S (λ_ S' =>kF X cl ch o a w m ok S'):=
  λv u hv h=>dH H R hv (run u h)
 unfold PM;cases op<;>simp<;>try trivial
 case add=>
  refine gG λr hr=>?_;unfold d2B at hr;split at hr
  .cases hr;have e:(⟨p.toArray⟩:ByteArray)++⟨q.toArray⟩=⟨(p++q).toArray⟩:=by
    apply ByteArray.ext<;>simp_all
   refine fin _ (.string ⟨(p++q).toArray⟩) rfl ?_;have hs:¬((9223372036854775807:Int)<(p.length:Int)+(q.length:Int)):=l7;simp[Op.stringOp,e,ByteArray.size,hs]
  grind
 case eql=>exact fin _ _ rfl (by grind [Op.stringOp,ByteArray.toList_mk,seq,Sem.run_pure])
 case neq=>exact fin _ _ rfl (by grind [Op.stringOp,ByteArray.toList_mk,seq,G6,Sem.run_pure])
 case lss=>exact fin _ _ rfl (by simp[Op.stringOp,slt])
theorem a9p(H:FxOk X)(R:Rel X cl ch S m ok a w)(ho:o.op= .binOp op t x y yt){p q:Bool}
  (hx:a.eval x= .bool p) (hy:a.eval y= .bool q):(PM X.E t op y (.b p) (.b q) λv=>gW X.E o.dst v).post S (λ_ S' =>kF X cl ch o a w m ok S'):=by
 unfold PM;cases hi:fZ X.E.tt t with
 |none=>trivial|some i=>
 have ht' :=(H.tt t i hi).td;simp;cases hd:i.td<;>try trivial
 rw[hd]at ht';have ht:=ht';have he' :∀d,(Op.equalIn (d+1) t (.bool p) (.bool q)).run X.P w= .ok (p==q) w:=λd=>by simp[Op.equalIn,run_underlying ht]
 have he:(Op.equal t (.bool p) (.bool q)).run X.P w= .ok (p==q) w:=he' 9999;have run:∀v,(binOp op t (.bool p) (.bool q)).run X.P w= .ok v w->(execOp a.eval o).run X.P w= .ok (.value v) w:=λv h=>by simp_all [execOp,eqGuard_at_bool]
 have fin:∀(v:V) (u:Value),nU ⟨w.heap,ok,m⟩ v u->(binOp op t (.bool p) (.bool q)).run X.P w= .ok u w->(gW X.E o.dst v).post S (λ_ S' =>kF X cl ch o a w m ok S'):=
  λv u hv h=>dH H R hv (run u h)
 cases op<;>try trivial
 case eql=>exact fin _ _ rfl (by simp[binOp,he,ji])
 case neq=>exact fin _ _ rfl (by simp[binOp,he,ji,G6])
end
end Go.GP
namespace Go.GP
variable {x:Operand}{t:TypeId}{q:Nat}
section
variable {X:Fx} {cl ch:Nat} {S:Sm} {m:Mp} {ok:Nat->Ty->Prop} {a:Act} {w:World} {o:Oper}
theorem nH{α:Type}{Q:α->Sm->Prop}(H:FxOk X){t:Nat}{K:TI->Cmd α}(hK:∀i,TiOk X.P t i->(K i).post S Q):(tiC X.E t K).post S Q:=by
 unfold tiC;cases hi:fZ X.E.tt t with
 |none=>trivial|some i=>exact hK i (H.tt t i hi)
theorem b4z{P:Program} :∀{d:TD},b9u P t d->∃e,P.underlying t=some e
 | .bool,h=>⟨_,h⟩| .int _,h=>⟨_,h⟩| .str,h=>⟨_,h⟩| .sl _,h=>⟨_,h⟩| .ptr _,h=>⟨_,h⟩| .struct _,⟨_,h,_⟩=>⟨_,h⟩| .arr _ _,h=>⟨_,h⟩| .map _ _,h=>⟨_,h⟩| .other,⟨_,h,_⟩=>⟨_,h⟩
theorem a4w(H:FxOk X)(R:Rel X cl ch S m ok a w){op:BinOp}{x y:Operand}{yt:TypeId}(ho:o.op= .binOp op t x y yt){ad:Option Addr}{n c:Nat}
  (hx:a.eval x= .slice ad n c) (hy:a.eval y= .slice none 0 0):(b6t X.E t op ad.isNone λv=>gW X.E o.dst v).post S (λ_ S' =>kF X cl ch o a w m ok S'):=by
 unfold b6t;cases hi:fZ X.E.tt t with
 |none=>trivial|some i=>
 have ht' :=(H.tt t i hi).td;simp;cases hd:i.td<;>try trivial
 rw[hd]at ht';have ht:=ht';have he' :∀d,(Op.equalIn (d+1) t (.slice ad n c) (.slice none 0 0)).run X.P w= .ok ad.isNone w:=λd=>by cases ad<;>simp[Op.equalIn,run_underlying ht]
 have he:(Op.equal t (.slice ad n c) (.slice none 0 0)).run X.P w= .ok ad.isNone w:=he' 9999;have run:∀v,(binOp op t (.slice ad n c) (.slice none 0 0)).run X.P w= .ok v w->(execOp a.eval o).run X.P w= .ok (.value v) w:=λv h=>by simp_all [execOp,eqGuard_at_slice]
 cases op<;>try trivial
 case eql=>exact dH H R rfl (run _ (by simp[binOp,he]))
 case neq=>exact dH H R (x:=.bool (!ad.isNone)) rfl (run _ (by simp[binOp,he]))
theorem b6E(H:FxOk X)(R:Rel X cl ch S m ok a w){op:BinOp}{x y:Operand}{yt:TypeId}(ho:o.op= .binOp op t x y yt):
  (fM X.E q o).post S (λ_ S' =>kF X cl ch o a w m ok S'):=by
 unfold fM;simp[ho];refine dC R λu hu=>dC R λv hv=>?_;cases u<;>try (trivial)
 case b p=>
  cases v<;>try (trivial)
  exact a9p H R ho (Xe hu) (Xe hv)
 case i k p=>
  cases v<;>try (trivial)
  exact b3R H R ho (xX hu) (xX hv)
 case s p=>
  cases v<;>try (trivial)
  exact b3S H R ho (QA hu) (QA hv)
 case nl=>
  cases v<;>try (trivial)
  exact a4w H R ho (show a.eval x= .slice none 0 0 from hu) hv
 case ne=>
  cases v<;>try (trivial)
  obtain⟨ad,c,hx,hb⟩:=hu;subst hb;exact a4w H R ho hx hv
 case sl t' xs=>
  cases v<;>try (trivial)
  unfold PM;simp;cases ht:t'.isEnt
  .obtain⟨ad,c,hx,hle,hx'⟩:=(DJ ht).1 (show oq w.heap ok (.sl t') xs [a.eval x]from hu);cases xs with
   |nil=>exact⟨λ_=>trivial,λh=>by grind [x8,o9]⟩|cons z zs=>obtain⟨blk,off,es,rfl,_⟩:=hx' 0 z rfl;exact⟨λ_=>trivial,λ_=>a4w H R ho (ad:=some _) (by simpa using hx) hv⟩
  .trivial
 case agg cs=>
  cases v<;>try (trivial)
  case agg ds=>
  obtain⟨xs,hx,hl⟩:=hu;obtain⟨ys,hy,hl'⟩:=hv;unfold PM;cases hq:fZ X.E.eqs t with
  |none=>trivial|some sh=>
  refine eP λhm=>?_;simp at hm;have hE:=(H.eqs t sh hq).1;cases he:EC cs ds with
  |none=>cases op<;>trivial|some e=>
   cases op<;>try trivial
   case eql=>refine dH H R rfl ?_;have h:=hE w _ cs ds xs ys e .eql x y hm.1 hm.2 hl hl' he (.inl rfl);simp only[execOp,ho,hx,hy];rw[H5,h];rfl
   case neq=>refine dH H R rfl ?_;have h:=hE w _ cs ds xs ys e .neq x y hm.1 hm.2 hl hl' he (.inr rfl);simp only[execOp,ho,hx,hy];rw[H5,h];rfl
theorem c0Q(H:FxOk X)(R:Rel X cl ch S m ok a w){op:UnOp}(ho:o.op= .unOp op t x):
  (fM X.E q o).post S (λ_ S' =>kF X cl ch o a w m ok S'):=by
 unfold fM;simp[ho];refine dC R λu hu=>?_;cases u<;>cases op<;>try (trivial)
 case b.not p=>exact dH H R (x:=.bool (!p)) rfl (by simp[execOp,ho,Xe hu,Op.unary])
 case i.neg k p=>exact dH H R (x:=.int k (k.wrap (0 -p))) rfl (by simp[execOp,ho,xX hu,Op.unary,Op.intArith])
 case i.xor k p=>exact dH H R rfl (by simp[execOp,ho,xX hu,Op.unary,Op.intBits,Pm];cases k.signed<;>simp)
theorem b6Q{α:Type}{Q:α->Sm->Prop}(R:Rel X cl ch S m ok a w){u:Ty}{y:V}{vy:Value}{K:List u.den->Cmd α}(hy:nU ⟨w.heap,ok,m⟩ y vy)
  (hK:∀xs,oq w.heap (λ_ _=>True) (.sl u) xs [vy]->(K xs).post S Q):(b4b u y K).post S Q:=by
 unfold b4b;split<;>try trivial
 .have hv:=hy;subst hv;cases ht:u.isEnt
  .exact hK [] (.inl ⟨ht,none,0,rfl,D5 _,λi x hi=>by simp_all⟩)
  .trivial
 .obtain⟨ad,c,rfl,_⟩:=(show ∃a c,vy=Value.slice a 0 c/\a.isNone=_ from hy);cases ht:u.isEnt
  .exact hK [] (.inl ⟨ht,ad,c,rfl,lU _,λi x hi=>by simp_all⟩)
  .trivial
 .refine iw λe=>?_;subst e;exact hK _ (gU (λ_ _ _=>trivial) (λ_ _ _=>rfl) (show oq w.heap ok (.sl _) _ [vy]from hy))
 .rename_i bx vw;obtain⟨l,hm,hv⟩:=hy;show Cmd.post (match S (Z4+bx)with| .barr t' xs=>_| .bfrz t' xs=>_|_=>_) S Q;have hb:=R.box bx;split<;>try trivial
  .rename_i t' xs hS;rw[hS]at hb;obtain⟨l',hm',ha⟩:=hb;rw[hm]at hm';cases hm';refine iw λe=>?_;subst e;exact hK _ (tN ha hv (λ_ _ _=>trivial) (λ_ _=>trivial))
  .rename_i t' xs hS;rw[hS]at hb;obtain⟨l',hm',ha,hok⟩:=hb;rw[hm]at hm';cases hm';refine iw λe=>?_;subst e;exact hK _ (tN ha hv (λ_ _ _=>trivial) (λ_ _=>trivial))
theorem a6W(H:FxOk X)(R:Rel X cl ch S m ok a w){src t:TypeId}(ho:o.op= .convert src t x)
  (hB:∀l,a.eval x= .string ⟨l.toArray⟩->X.P.underlying src=some .string->(b5x X.E (U2 q o.dst) t l λv=>gW X.E o.dst v).post S (λ_ S' =>kF X cl ch o a w m ok S')):
  (fM X.E q o).post S (λ_ S' =>kF X cl ch o a w m ok S'):=by
 unfold fM;simp[ho];refine dC R λu hu=>nH H λj hj=>nH H λi hi=>?_;obtain⟨e,he⟩:=b4z hj.td;have hd:=hi.td;split<;>try trivial
 .rename_i k' n k htd;rw[htd]at hd;exact dH H R (x:=.int k (k.wrap n)) rfl (by simp[execOp,ho,xX hu,convert,run_underlying he,run_underlying (show X.P.underlying t=some (.int k)from hd),Conv.intToInt])
 .rename_i l htd;rw[htd]at hd;refine dH H R rfl ?_;simp only[execOp,ho,QA hu,convert,H5,run_underlying he,run_underlying (show X.P.underlying t=some .string from hd),N7];simp
 .split<;>try trivial
  rename_i l _ _ _ hjd;have hjs:=hj.td;rw[hjd]at hjs;exact hB l (QA hu) hjs
 .rename_i hns htd;rw[htd]at hd;split<;>try trivial
  rename_i el hjd;have hjs:=hj.td;rw[hjd]at hjs;refine nH H λk hk=>?_;have hkd:=hk.td;split<;>try trivial
  rename_i hke;rw[hke]at hkd;refine b6Q R hu λxs hr=>?_;obtain⟨ad,cap,hv,hcap,hcells⟩:=(DJ rfl).1 hr;have hv:=(bf hv).1;refine dH H R rfl ?_;have hh:(convert src t (a.eval x)).run X.P w= .ok (.string ⟨(b5p xs).toArray⟩) w:=by
   rw[hv];cases xs with
   |nil=>
    have:=run_convert_bytes_nil w src el hjs hkd 0 cap t hd;cases ad with
    |none=>exact this|some ad=>rw[run_convert_bytes_string w src t el _ _ cap hjs hkd hd];rfl
   |cons y ys=>
    obtain⟨blk,off,es,rfl,_,_,_⟩:=hcells 0 y rfl;have:=run_convert_bytes_arg w src el hjs hkd blk off (y::ys).length cap (y::ys) rfl (λi hi=>?_) t hd
    .exact this
    .obtain⟨blk2,off2,es2,e2,_,hc,hr2⟩:=hcells i _ (dE hi);obtain⟨rfl,rfl,_⟩:=e2;obtain⟨c,T,f,hb,hn,rfl⟩:=wW hc;have hr3:((c.toList.drop (off+i*1)).take 1)=[.int .u8 (y::ys)[i]]:=hr2
     grind [List.getElem?_cons_zero,World.cell?]
  simp_all [execOp]
theorem a9r(H:FxOk X)(R:Rel X cl ch S m ok a w){n:Nat}(ho:o.op= .extract x n):
  (fM X.E q o).post S (λ_ S' =>kF X cl ch o a w m ok S'):=by
 unfold fM;simp[ho];refine dC R λu hu=>?_;cases u<;>try trivial
 case tup vs=>
 obtain⟨arr,hx,hl⟩:=hu;have key:∀(vs:List V) (us:d4E) (n:Nat) (v:V),a4M ⟨w.heap,ok,m⟩ vs us->vs[n]? =some v->∃u,us[n]? =some u/\nU ⟨w.heap,ok,m⟩ v u:=by
  intro vs;induction vs with
  |nil=>simp|cons c cs ih=>
   rintro us n v ⟨u,r,rfl,h1,h2⟩ h;cases n with
   |zero=>simp at h;subst h;refine⟨u,rfl,?_⟩;cases c<;>first|exact h1|exact h1.elim
   |succ n=>simp_all
 simp;split
 .rename_i v hv;obtain⟨u,hu,hr⟩:=key vs arr.toList n v hl hv;refine dH H R hr ?_<;>simp_all [execOp,Instr.extract]
 .trivial
theorem b6H(H:FxOk X)(R:Rel X cl ch S m ok a w){x ix:Operand}(ho:o.op= .index t x ix):
  (fM X.E q o).post S (λ_ S' =>kF X cl ch o a w m ok S'):=by
 unfold fM;simp[ho];refine dC R λu hu=>dC R λv hv=>nH H λi hi=>?_;have hd:=hi.td;split<;>try trivial
 rename_i l k n htd;rw[htd]at hd;refine gG λc hc=>?_;unfold sat at hc;split at hc
 .rename_i h0;cases hl:l[n.toNat]? with
  |none=>simp_all|some b=>
   simp[hl]at hc;subst hc;refine dH H R rfl ?_;have e:(⟨l.toArray⟩:ByteArray)[n.toNat]? =some b:=by
    obtain⟨h1,h2⟩:=U8.1 hl;have hs:n.toNat<(⟨l.toArray⟩:ByteArray).size:=by simp_all [ByteArray.size]
    show decidableGetElem? _ _=_;unfold decidableGetElem?;rw[dif_pos hs,←h2];rfl
   simp[execOp,ho,QA hu,xX hv,Instr.index,asIntOf,run_underlying (show X.P.underlying t=some .string from hd),h0,e]
 grind
theorem a6Y(H:FxOk X)(R:Rel X cl ch S m ok a w)(ho:o.op= .nilCheck x):
  (fM X.E q o).post S (λ_ S' =>kF X cl ch o a w m ok S'):=by
 unfold fM;simp[ho];refine dC R λu hu=>?_;cases u<;>try trivial
 case ptr bx f=>obtain⟨b,h1,h2⟩:=hu;exact dH H R ⟨b,h1,h2⟩ (by simp_all [execOp])
 case ep bx ix f=>obtain⟨_,_,_,_,_,h1,h2,h3⟩:=hu;exact dH H R ⟨_,_,_,_,_,h1,h2,h3⟩ (by simp_all [execOp])
 case dp u y f=>obtain⟨_,_,_,h1,h2⟩:=hu;exact dH H R ⟨_,_,_,h1,h2⟩ (by simp_all [execOp])
 case glob g=>exact dH H R hu (by have hu:a.eval x=_:=hu;simp_all [execOp])
end
end Go.GP
namespace Go.GP
variable {n:Nat}{off:Nat}{blk:Nat}{es:d4E}
theorem zl{w:World}(e:fP w.heap blk off n=some es){j:Nat}{v:Value}(h:es[j]? =some v):w.cell? ⟨blk,off+j,none⟩=some v:=by obtain⟨c,T,f,hb,hn,rfl⟩:=wW e<;>grind [cell_of_row]
variable {t:TypeId}{P:Program}
theorem MX{d:TD}(h:b9u P t d)(w:World):(isAgg t).run P w= .ok (dX d) w:=by
 unfold isAgg;cases d<;>simp[b9u]at h
 case struct fs=>obtain⟨fields,hu,_⟩:=h;rw[H5,run_underlying hu];rfl
 case other=>obtain⟨e,hu,hn⟩:=h;rw[H5,run_underlying hu];cases e<;>first|rfl|exact hn.elim
 all_goals (rw[H5,run_underlying h];rfl)
variable {i:TI}
theorem yT(h:TiOk P t i)(w:World):(sizeOf t).run P w= .ok i.size w:=by obtain⟨inf,h1,h2,_⟩:=h.info;simp_all [sizeOf,typeInfo]
def a3w(ag:Bool)(es:d4E):Value:=match ag with|true=> .agg es.toArray|false=>es.headD Go.undef
theorem wR(hi:TiOk P t i)(w:World)(e:fP w.heap blk off i.size=some es):
  (loadVar t ⟨blk,off,none⟩).run P w= .ok (a3w (dX i.td) es) w:=by
 have hl:=rE e;unfold loadVar;rw[H5,MX hi.td];cases ha:dX i.td
 .have h1:=hi.one ha;obtain⟨v,rfl⟩:∃v,es=[v]:=by
   cases es<;>simp_all
  have hc:=zl e (j:=0) rfl;simp_all [a3w]
 .have hc:=run_loadCells_list (P:=P) w ⟨blk,off,none⟩ es (λj v h=>by rw[kL];exact zl e h);rw[hl]at hc;simp[yT hi,hc,a3w]
variable {C:Cx}{cs:List V}
theorem JV{ag:Bool}(h:jc C cs es)(h1:ag=false->es.length=1):nU C (mkV ag cs) (a3w ag es):=by
 refine VF ?_ h;cases ag
 .obtain⟨v,rfl⟩:∃v,es=[v]:=by
   cases es<;>simp_all
  rfl
 .exact⟨es.toArray,rfl,x9⟩
theorem b_:∀(n:Nat) (cs r:List V),a_ n cs=some r->n<=cs.length/\r=cs.drop n
 |0,cs,r,h=>by simp_all [a_]|n+1,[],r,h=>by grind [a_]|n+1,c::cs,r,h=>by obtain⟨h1,h2⟩:=b_ n cs r (by simpa[a_]using h)<;>simp_all
theorem a1a{α:Type}{Q:α->Sm->Prop}{S:Sm} :∀(n:Nat) (cs:List V) {K:List V->Cmd α} (hK:n<=cs.length->(K (cs.take n)).post S Q),(a7V n cs K .fail).post S Q
 |0,cs,K,hK=>by simp_all [a7V]|n+1,[],K,hK=>trivial|n+1,c::cs,K,hK=>by simp_all [a7V,a1a]
variable {α:Type}{Q:α->Sm->Prop}
theorem Ei{S:Sm}{K:List V->Cmd α}(hK:off+n<=cs.length->(K ((cs.drop off).take n)).post S Q):(YA off n cs K .fail).post S Q:=by
 unfold YA;split
 .rename_i r hr;obtain⟨h1,rfl⟩:=b_ _ _ _ hr<;>grind [a1a]
 .trivial
def eU(off:Nat)(vs cs:List α):List α:=cs.take off++vs++cs.drop (off+vs.length)
theorem Gj{α:Type}{Q:α->Sm->Prop}{S:Sm} :∀(off:Nat) (vs cs:List V) {K:List V->Cmd α} (hK:off+vs.length<=cs.length->(K (eU off vs cs)).post S Q),(Vw off vs cs K .fail).post S Q
 |0,[],cs,K,hK=>by simp_all [Vw,eU]|0,v::vs,[],K,hK=>by trivial
 |0,v::vs,c::cs,K,hK=>by exact Gj 0 vs cs λh=>by simpa[eU]using hK (by simp at h ⊢;omega)|n+1,vs,[],K,hK=>by cases vs<;>simp[Vw]<;>trivial|n+1,vs,c::cs,K,hK=>by
  have e:Vw (n+1) vs (c::cs) K Cmd.fail=Vw n vs cs (λr=>K (c::r)) Cmd.fail:=by cases vs<;>rfl
  refine Gj n vs cs λh=>?_;have:=hK U3;have e2:n+1+vs.length=(n+vs.length)+1:=l7;simpa[eU,e2]using this
theorem Hm{vs cs:List V}{us xs:d4E}(hv:jc C vs us)(hc:jc C cs xs):jc C (eU off vs cs) (eU off us xs):=by
 grind [eU,oK,Bc,zJ,xW]
theorem Gn{P:Program}(g o:Nat)(t:TypeId):∀(vs:d4E) (i:Nat) (cur:Array Value) (f:Nat×Nat) (w:World),w.heap[g]? =some (.cells cur t f)->(f=(0,0)\/f=(cur.size,cur.size+1))->o+i+vs.length<=cur.size->(∀v∈vs,v.oneCell' =true)->
  (storeCells ⟨g,o,none⟩ vs i).run P w= .ok () (w.setRow g (cur.toList.take (o+i)++vs++cur.toList.drop (o+i+vs.length)).toArray)
 |[],i,cur,f,w,hg,_,_,_=>by simp only[storeCells,G9,jf,bI,gu,Array.toArray_toList];rw[setRow_self w g cur t f hg];rfl|v::rest,i,cur,f,w,hg,hf,hl,h1=>by
  have hi:o+i<cur.size:=by grind
  have hadd:(⟨g,o,none⟩:Addr).add i=⟨g,o+i,none⟩:=by simp[Addr.add]
  have hcell:w.cell? ⟨g,o+i,none⟩=some cur[o+i]:=by simp_all [World.cell?]
  have hfro:w.frozen? ⟨g,o+i,none⟩=false:=by
   grind [World.frozen?]
  have hst:(store ((⟨g,o,none⟩:Addr).add i) v).run P w= .ok () (w.setRow g (cur.setIfInBounds (o+i) v)):=by
   rw[hadd,run_store P w _ v _ (h1 v x9),hcell]
   grind [setCell_eq_setRow]
  have ih:=Gn (P:=P) g o t rest (i+1) (cur.setIfInBounds (o+i) v) f (w.setRow g (cur.setIfInBounds (o+i) v)) (setRow_heap w g cur _ t _ hg) (by simp_all) (by grind) (λx hx=>h1 x (by grind));simp only[storeCells,H5,hst,N7,ih,setRow_setRow];congr 3;have e:=list_seg_step cur.toList (o+i) v rest l7
  grind
theorem EW(hi:TiOk P t i)(w:World){c:Array Value}{T:TypeId}{f:Nat×Nat}(hb:w.heap[blk]? =some (.cells c T f))(hf:f=(0,0)\/f=(c.size,c.size+1)){v:Value}
  (hs:v.cells.size=i.size) (ho:off+i.size<=c.size) (h1:∀u∈v.cells.toList,u.oneCell' =true):
  (storeVar t ⟨blk,off,none⟩ v).run P w= .ok () (w.setRow blk (eU off v.cells.toList c.toList).toArray):=by
 have h:=Gn (P:=P) blk off T v.cells.toList 0 c f w hb hf (by simp_all) h1;unfold storeVar;simp[yT hi,hs,h,eU]
variable {v:V}{l:Loc}{obj:Obj}{q:Nat}{ks:d4F}
section
variable {X:Fx} {cl ch:Nat} {S:Sm} {m:Mp} {ok:Nat->Ty->Prop} {a:Act} {w:World} {o:Oper}
theorem Rel.own_cells(R:Rel X cl ch S m ok a w)(h:S (Z4+n)= .bcells cs):∃blk arr T,m n=some (.st blk)/\w.heap[blk]? =some (.cells arr T (0,0))/\jc ⟨w.heap,ok,m⟩ cs arr.toList:=by have:=R.box n;rw[h]at this;exact this
theorem Rel.own_arr(R:Rel X cl ch S m ok a w){t:Ty}{xs:List t.den}(h:S (Z4+n)= .barr t xs):∃l,m n=some l/\arrOk ⟨w.heap,ok,m⟩ t xs l:=by have:=R.box n;rw[h]at this;exact this
theorem Rel.own_frz(R:Rel X cl ch S m ok a w){t:Ty}{xs:List t.den}(h:S (Z4+n)= .bfrz t xs):∃l,m n=some l/\arrOk ⟨w.heap,ok,m⟩ t xs l/\(∀blk,blk∈l.blks->ok blk t):=by have:=R.box n;rw[h]at this;exact this
theorem Rel.own_barrs(R:Rel X cl ch S m ok a w){md:M}{xs:List md.den}{hole:Option (Nat×Nat×Option Nat)}(h:S (Z4+n)= .barrs md xs hole):md.el=true/\∃l Os,m n=some l/\b1n ⟨w.heap,ok,m⟩ md xs hole Os l/\m.kid n=Os.flatten:=by have:=R.box n;rw[h]at this;exact this
theorem Rel.own_barrp(R:Rel X cl ch S m ok a w){md:M}{xs:List md.den}{k:Int}{o:Nat}(h:S (Z4+n)= .barrp md xs k o):md.el=true/\0<=k/\∃l Os,m n=some l/\yB w.heap md.size (λi x es O=>qc w.heap ok md (zM o k.toNat i) x es O) xs Os l/\m.kid n=Os.flatten:=by have:=R.box n;rw[h]at this;exact this
theorem Rel.own_fc(R:Rel X cl ch S m ok a w){t:Ty}{x:t.den}(h:S (Z4+n)= .bfc t x):∃blk es,m n=some (.st blk)/\ok blk t/\fP w.heap blk 0 t.size=some es/\oq w.heap ok t x es:=by have:=R.box n;rw[h]at this;exact this
theorem EF:∀(m:M) (x:m.den) (r:List V),OO m x r=OO m x []++r
 | .dat t,x,r=>qh t x r| .pair a b,x,r=>by simp[OO];rw[EF a x.1 (OO b x.2 r),EF b x.2 r,EF a x.1 (OO b x.2 [])];simp| .unit,_,_=>rfl| .own _,_,_=>rfl| .owns _,_,_=>rfl| .box _,_,_=>rfl| .ownb _,_,_=>rfl| .rp _,_,_=>rfl| .fn _ _,_,_=>rfl| .ifc _ _,_,_=>rfl| .cell _,_,_=>rfl| .lp _,_,_=>rfl
theorem NH:∀(m:M) (x:m.den),(OO m x []).length=m.size
 | .dat t,x=>rH t x| .pair a b,x=>by simp[OO,M.size];rw[EF a,J9,NH a x.1,NH b x.2]| .unit,_=>rfl| .own _,_=>rfl| .owns _,_=>rfl| .box _,_=>rfl| .ownb _,_=>rfl| .rp _,_=>rfl| .fn _ _,_=>rfl| .ifc _ _,_=>rfl| .cell _,_=>rfl| .lp _,_=>rfl
theorem pU{cs:d4E}(h:cs.length=1)(h1:∀v∈cs,v.oneCell' =true):jc C [.undef] cs:=by
 match cs,h with
 |[v],_=>exact⟨v,[],rfl,trivial,h1 v x9,rfl⟩
theorem Uj{C:Cx} :∀{m:M} {ho:Option Nat} {x:m.den} {cs:d4E} {O:d4F},qc C.h C.ok m ho x cs O->jc C (OO m x []) cs
 | .dat t,_,_,_,_,h=>qR h.1| .pair a b,_,x,_,_,h=>by obtain⟨c,d,O1,O2,rfl,rfl,h1,h2⟩:=h;simp[OO];rw[EF a];exact Bc (Uj h1) (Uj h2)
 | .unit,_,_,_,_,h=>by obtain⟨rfl,_⟩:=h;rfl
 | .own _,_,_,_,_,h=>pU (dh h) (rZ h)| .owns _,_,_,_,_,h=>pU (dh h) (rZ h)| .box _,_,_,_,_,h=>pU (dh h) (rZ h)| .ownb _,_,_,_,_,h=>pU (dh h) (rZ h)| .rp _,_,_,_,_,h=>pU (dh h) (rZ h)| .fn _ _,_,_,_,_,h=>pU (dh h) (rZ h)| .ifc _ _,_,_,_,_,h=>pU (dh h) (rZ h)| .cell _,_,_,_,_,h=>pU (dh h) (rZ h)| .lp _,_,_,_,_,h=>pU (dh h) (rZ h)
theorem aO{S:Sm}{k:Nat}{c:V->Cmd α}(h:(c (S k)).post S Q):(Cmd.get k c).post S Q:=h
theorem iP{S:Sm}{k:Nat}{c:Cmd α}(h:c.post (upd S k v) Q):(Cmd.set k v c).post S Q:=h
theorem JF(H:FxOk X)(R:Rel X cl ch S m ok a w){t:Nat}{p:V}{x:Value}(hp:nU ⟨w.heap,ok,m⟩ p x){K:V->Cmd α}
  (hK:∀v u ad,nU ⟨w.heap,ok,m⟩ v u->x= .pointer (some ad)->(loadVar t ad).run X.P w= .ok u w->(K v).post S Q):(MN X.E t p K).post S Q:=by
 refine nH H λi hi=>?_;cases p<;>try trivial
 case ptr bx off=>
  obtain⟨blk,hm,rfl⟩:=hp;refine aO ?_;split<;>try trivial
  .rename_i cs hS;obtain⟨blk',arr,T,hm',hh,hl⟩:=R.own_cells hS;rw[hm]at hm';refine Ei λhle=>?_;have hlen:=oK hl;have e:=nX hh off i.size (by simp_all);refine hK _ _ _ (JV (zJ _ (xW _ hl)) (λha=>by have:=rE e;rw[hi.one ha]at this;rw[hi.one ha];omega)) rfl ?_
   grind [wR]
  .rename_i u y hS;obtain⟨blk',es,hm',hok,he,hr⟩:=R.own_fc hS;rw[hm]at hm';refine Ei λhle=>?_;rw[rH]at hle;have e:=uI he off i.size hle;refine hK _ _ _ (JV (zJ _ (xW _ (qR hr))) (λha=>by have:=rE e;rw[hi.one ha]at this;rw[hi.one ha];omega)) rfl ?_
   grind [wR]
 case ep bx ix off=>
  obtain⟨blk,o',len,cap,sz,hm,hlt,rfl⟩:=hp;refine aO ?_;have key:∀{u:Ty} {xs:List u.den},arrOk ⟨w.heap,ok,m⟩ u xs (.arr blk o' len cap sz)->(Cmd.opt (P7 xs ix) λx=>YA off i.size (flat u x []) (λr=>K (mkV (dX i.td) r)) Cmd.fail).post S Q:=by
   intro u xs ha;obtain⟨_,rfl,rfl,h3,c,T,f,hh,hz,hs,hx⟩:=ha;refine gG λy hy=>?_;obtain⟨es,he,hr⟩:=hx ix y hy;refine Ei λhle=>?_;rw[rH]at hle;have e:=uI he off i.size hle;refine hK _ _ _ (JV (zJ _ (xW _ (qR hr))) (λha=>by have:=rE e;rw[hi.one ha]at this;rw[hi.one ha];omega)) rfl ?_
   grind [wR]
  split<;>try trivial
  .rename_i u xs hS;obtain⟨l,hm',ha⟩:=R.own_arr hS<;>simp_all
  .rename_i u xs hS;obtain⟨l,hm',ha,_⟩:=R.own_frz hS<;>simp_all
  .rename_i md xs hole hS;obtain⟨_,l,Os,hm',⟨ha,hho⟩,_⟩:=R.own_barrs hS;rw[hm]at hm';cases hm';obtain⟨rfl,rfl,h3,h7,c,T,hh,hs,hx⟩:=ha;refine gG λy hy=>?_;obtain⟨es,O,hO,he,hr⟩:=hx ix y hy;refine Ei λhle=>?_;rw[NH]at hle;have e:=uI he off i.size hle;refine hK _ _ _ (JV (zJ _ (xW _ (Uj hr))) (λha=>by have:=rE e;rw[hi.one ha]at this;rw[hi.one ha];omega)) rfl ?_
   grind [wR]
 case dp u y off=>
  obtain⟨blk,o',es,rfl,hb,he,hr⟩:=hp;refine Ei λhle=>?_;rw[rH]at hle;have e:=uI he off i.size hle;refine hK _ _ _ (JV (zJ _ (xW _ (qR hr))) (λha=>by have:=rE e;rw[hi.one ha]at this;rw[hi.one ha];omega)) rfl ?_
  grind [wR]
theorem zD(h:Array Obj)(o:Obj){b:Nat}(hb:b<h.size):(h.push o)[b]? =h[b]?:=by grind
theorem Rel.new(R:Rel X cl ch S m ok a w)(hn:S (Z4+n)= .undef)(hcl:cl<=n)(hch:n<ch)(hv:v≠.undef)
  (hb:V5 (oV m n l ks) n v=[w.heap.size]) (hB:Gl ⟨(w.alloc obj).heap,ok,oV m n l ks⟩ n v):
  Rel X cl ch (upd S (Z4+n) v) (oV m n l ks) ok a (w.alloc obj):=by
 refine R.lay hn hcl hch hv rfl rfl rfl x9 (λb hb' _=>zD _ _ hb') (by simp_all) (λb h=>?_) hB;rw[hb]at h;simp at h;subst h;refine⟨λt h' =>qP _ (R.okLt _ t h'),x9,.inl R.frame.size,λk h' =>qP _ (R.sep k _ h').2.1⟩
theorem Rel.newK(R:Rel X cl ch S m ok a w){T:d4F}(hT:Tk X S m ok w T)(hn:S (Z4+n)= .undef)(hcl:cl<=n)(hch:n<ch)(hv:v≠.undef)
  (hb:V5 (oV m n l ks) n v=w.heap.size::ks) (hnd:ks.Nodup) (hks:∀b∈ks,b∈T) (hB:Gl ⟨(w.alloc obj).heap,ok,oV m n l ks⟩ n v):
  Rel X cl ch (upd S (Z4+n) v) (oV m n l ks) ok a (w.alloc obj):=by
 refine R.lay hn hcl hch hv rfl rfl rfl x9 (λb hb' _=>zD _ _ hb') (by rw[hb];exact az.2 ⟨λh=>qP _ (hT.free _ (hks _ h)).2.1,hnd⟩) (λb h=>?_) hB;rw[hb]at h;rcases C9.1 h with rfl|h
 .exact⟨λt h' =>qP _ (R.okLt _ t h'),x9,.inl R.frame.size,λk h' =>qP _ (R.sep k _ h').2.1⟩
 .obtain⟨h1,h2,h3,h4⟩:=hT.free b (hks b h);exact⟨h1,by simp;omega,h3,h4⟩
theorem Rel.le_new(R:Rel X cl ch S m ok a w)(hn:S (Z4+n)= .undef)(hcl:cl<=n):Cx.le ⟨w.heap,ok,m⟩ ⟨(w.alloc obj).heap,ok,oV m n l ks⟩:=
 ⟨λ_ _ h=>h,λb t hb=>zD _ _ (R.okLt b t hb),λk x h=>by
  by_cases e:k=n
  .subst e;have:=R.fresh k hcl hn;simp_all
  simp_all [jZ]⟩
theorem tu(H:FxOk X)(d:Option Tmp)(hd:∀t,d=some t->t<X.E.nt):CB*q<=U2 q d/\U2 q d+64<=CB*q+CB:=by have:=H.nt;cases d<;>grind [U2]
theorem MP(H:FxOk X)(R:Rel X (CB*q) (CB*q+CB) S m ok a w){vv:V}{x:Value}(hv:v≠.undef)
  (hb:V5 (oV m (U2 q o.dst) l []) (U2 q o.dst) v=[w.heap.size]) (hB:S (Z4+U2 q o.dst)= .undef->CB*q<=U2 q o.dst->Gl ⟨(w.alloc obj).heap,ok,oV m (U2 q o.dst) l []⟩ (U2 q o.dst) v)
  (hx:nU ⟨(w.alloc obj).heap,ok,oV m (U2 q o.dst) l []⟩ vv x) (run:(execOp a.eval o).run X.P w= .ok (.value x) (w.alloc obj)):
  (xQ (U2 q o.dst) v (gW X.E o.dst vv)).post S (λ_ S' =>kF X (CB*q) (CB*q+CB) o a w m ok S'):=by
 refine qQ λhn=>?_;cases hd:o.dst with
 |none=>have hin:=tu H (q:=q) none (λt h=>by grind);rw[hd]at hn hB hb hx;have R' :=R.new hn hin.1 l7 hv hb (hB hn hin.1);have:=xI H R' (λk l' h=>(R.le_new (obj:=obj) hn hin.1).m k l' h) (λ_ _ h=>h) hx run;simp_all
 |some t=>refine eP λhb' =>?_;have hin:=tu H (q:=q) (some t) (λt' h=>by simp_all [jX]);rw[hd]at hn hB hb hx;have R' :=R.new hn hin.1 l7 hv hb (hB hn hin.1);have:=xI H R' (λk l' h=>(R.le_new (obj:=obj) hn hin.1).m k l' h) (λ_ _ h=>h) hx run;simp_all [gW]
theorem Ui :∀{cs:List V} {vs:d4E},jc ⟨#[],λ_ _=>False,nom⟩ cs vs->jc C cs vs:=by intro cs vs h;exact KR (C:=⟨#[],λ_ _=>False,nom⟩) ⟨λ_ _ h=>h.elim,λ_ _ h=>h.elim,λ_ _ h=>by cases h⟩ h
theorem b6D(H:FxOk X)(R:Rel X (CB*q) (CB*q+CB) S m ok a w)(ho:o.op= .alloc t):(fM X.E q o).post S (λ_ S' =>kF X (CB*q) (CB*q+CB) o a w m ok S'):=by
 unfold fM;simp[ho];refine nH H λi hi=>eP λhz=>?_;obtain⟨inf,h1,h2,h3,h4,h5⟩:=hi.info;obtain⟨z,hz1,hz2⟩:=h4 (ik hz);have hex:(execOp a.eval o).run X.P w= .ok (.value (.pointer (some ⟨w.heap.size,0,none⟩))) (w.alloc (.cells z.cells t)):=by simp_all [execOp,Instr.alloc,zeroValue,typeInfo,newVar,newRow]
 unfold c7Y;refine MP (l:=.st w.heap.size) H R x9 (by simp[V5]) (λhn hc=>?_) ⟨w.heap.size,x9,rfl⟩ hex;exact⟨w.heap.size,z.cells,t,x9,heap_alloc_new w _,Ui hz2⟩
theorem c4Q(H:FxOk X)(R:Rel X (CB*q) (CB*q+CB) S m ok a w){x:Operand}(ho:o.op= .box t x):(fM X.E q o).post S (λ_ S' =>kF X (CB*q) (CB*q+CB) o a w m ok S'):=by
 unfold fM;simp[ho];refine dC R λu hu=>yw hu λcs hcs=>?_;refine MP (l:=.st w.heap.size) (obj:=.cells (a.eval x).cells t) H R x9 (by simp[V5]) (λhn hc=>?_) ⟨w.heap.size,x9,rfl⟩ ?_
 .exact⟨w.heap.size,(a.eval x).cells,t,x9,heap_alloc_new w _,KR (R.le_new hn hc) hcs⟩
 .simp[execOp,ho,Instr.box,newVar,newRow]
end
end Go.GP
namespace Go.GP
variable {α:Type}{us:List α}{L:List α}{p:Nat}
theorem xk(h:p+us.length<=L.length)(i:Nat):
  (eU p us L)[i]? =if i<p then L[i]? else if i<p+us.length then us[i -p]? else L[i]?:=by
 grind [eU]
theorem CW(h:p+us.length<=L.length):(eU p us L).length=L.length:=by
 grind [eU]
variable {b:Nat}{n:Nat}
theorem b0y(h:p+us.length<=L.length)(hd:b+n<=p\/p+us.length<=b):((eU p us L).drop b).take n=(L.drop b).take n:=by
 apply aB;intro i;rw[aT,aT];split
 .rw[O8,xk h]
  grind
 .rfl
variable {off:Nat}
theorem Xq(h:b+n<=L.length)(ho:off+us.length<=n):((eU (b+off) us L).drop b).take n=eU off us ((L.drop b).take n):=by
 have hl:((L.drop b).take n).length=n:=by grind
 apply aB;intro i;rw[aT,xk l7];by_cases hi:i<n
 .rw[O8,xk l7,aT,O8]
  grind
 grind
variable {blk:Nat}
theorem QK{w:World}{c:Array Value}{T:TypeId}{f:Nat×Nat}(hb:w.heap[blk]? =some (.cells c T f))(L:d4E)(off n:Nat)(h:off+n<=L.length):
  fP (w.setRow blk L.toArray).heap blk off n=some ((L.drop off).take n):=by
 rw[nX (setRow_heap w blk c L.toArray T f hb) off n l7]
theorem b5k{a b:Nat}(h:a<b):Nat.blt a b=true:=by simp_all
theorem b5j{a b:Nat}(h:¬a<b):Nat.blt a b=false:=by
 cases e:Nat.blt a b
 .rfl
 simp_all [Lr]
theorem um{α:Type} :∀{Os:List (List α)} {i:Nat} {O1 P O2:List α},Os[i]? =some (O1++P++O2)->Os.flatten.Perm ((Os.set i (O1++O2)).flatten++P)
 |[],i,_,_,_,h=>by grind|A::Os,0,O1,P,O2,h=>by
  grind [List.Perm.append_left,List.perm_append_comm]
 |A::Os,i+1,O1,P,O2,h=>by simp_all [List.Perm.append_left,um]
variable {Op:d4F}{idx:Nat}{Q:α->Sm->Prop}{t:TypeId}{md:M}{xs:List md.den}{K:Cmd α}{bx:Nat}{u:Value}{i:Nat}{k:Option Nat}{sz:Nat}{q:Nat}{x:Operand}
section
variable {X:Fx} {cl ch:Nat} {S:Sm} {m:Mp} {ok:Nat->Ty->Prop} {a:Act} {w:World} {o:Oper}
theorem c5b{h h' :Array Obj}{ok:Nat->Ty->Prop}{m:Mp}(k:∀b t,ok b t->h'[b]? =h[b]?){cs:List V}{vs:d4E}(hr:jc ⟨h,ok,m⟩ cs vs):jc ⟨h',ok,m⟩ cs vs:=
 KR (C:=⟨h,ok,m⟩) (D:=⟨h',ok,m⟩) ⟨λ_ _ h=>h,k,λ_ _ h=>h⟩ hr
theorem NV{α:Type}{Q:α->Sm->Prop}{S:Sm}{h:Array Obj}{ok:Nat->Ty->Prop} :∀(md:M) (off:Nat) {x:md.den} {es:d4E} {O:d4F} {K:V->Cmd α} (hr:qc h ok md none x es O)
  (hK:∀v l ks u O1 Op O2,O=O1++Op++O2->qc h ok md (some off) x es (O1++O2)->es[off]? =some u->l.view none u->
   (∀mp n,Gl ⟨h,ok,oV mp n l ks⟩ n v/\V5 (oV mp n l ks) n v=Op/\oV mp n l ks n=some l)->v≠.undef->(K v).post S Q),
  (XX md off x K .fail).post S Q
 | .own t,off,x,es,O,K,hr,hK=>by refine eP λhb=>?_;have:=ik hb;subst this;obtain⟨l,v,rfl,hv,ha,rfl⟩:=zy.1 hr;refine hK _ l [] v [] l.blks [] x9 ⟨v,rfl,pW hv,rfl⟩ rfl hv (λmp n=>⟨⟨l,x9,Jl ha⟩,?_,x9⟩) x9;cases l<;>first|(simp[V5,Loc.blks];done)|cases ha
 | .owns md,off,x,es,O,K,hr,hK=>by refine eP λhb=>?_;have:=ik hb;subst this;obtain⟨he,l,v,Os,rfl,hv,ha,rfl⟩:=BK.1 hr;refine hK _ l Os.flatten v [] (l.blks++Os.flatten) [] x9 ⟨v,rfl,pW hv,rfl⟩ rfl hv (λmp n=>⟨⟨he,l,Os,x9,⟨ha,trivial⟩,x9⟩,?_,x9⟩) x9;cases l<;>first|(simp[V5,Loc.blks];done)|cases ha
 | .pair p q,off,x,es,O,K,hr,hK=>by
  unfold XX;obtain⟨c,d,O1,O2,rfl,rfl,h1,h2⟩:=hr;have hc:=dh h1;by_cases hlt:off<p.size
  .have hb:=b5k hlt;simp[hb,cond_true];refine NV p off h1 λv l ks u A Op B e1 e2 e3 e4 e5 e6=>?_;refine hK v l ks u A Op (B++O2) (by simp_all) ⟨c,d,A++B,O2,rfl,x9,?_,?_⟩ (by grind) e4 e5 e6
   all_goals simp_all
  .have hb:=b5j hlt;simp only[hb,cond_false];refine NV q (off -p.size) h2 λv l ks u A Op B e1 e2 e3 e4 e5 e6=>?_;refine hK v l ks u (O1++A) Op B (by simp_all) ⟨c,d,O1,A++B,rfl,x9,?_,?_⟩ (by grind) e4 e5 e6
   .grind
   grind
 | .dat _,_,_,_,_,_,_,_=>trivial| .unit,_,_,_,_,_,_,_=>trivial| .box _,_,_,_,_,_,_,_=>trivial| .ownb _,_,_,_,_,_,_,_=>trivial| .cell _,_,_,_,_,_,_,_=>trivial| .lp _,_,_,_,_,_,_,_=>trivial| .rp _,_,_,_,_,_,_,_=>trivial| .fn _ _,_,_,_,_,_,_,_=>trivial| .ifc _ _,_,_,_,_,_,_,_=>trivial
def Wl(h:Array Obj)(ok:Nat->Ty->Prop)(v:V)(u:Value)(Op:d4F):Prop:=
 (v= .nl/\u= .slice none 0 0/\Op=[])\/(∃t ys l,v= .barr t ys/\l.view none u/\arrOk ⟨h,ok,nom⟩ t ys l/\Op=l.blks)\/
 (∃md ys l Os,v= .barrs md ys none/\md.el=true/\l.view none u/\yB h md.size (λ_ x es O=>qc h ok md none x es O) ys Os l/\Op=l.blks++Os.flatten)
theorem Wl.one{h:Array Obj}{v:V}(k:Wl h ok v u Op):u.oneCell' =true:=by
 rcases k with⟨_,rfl,_⟩|⟨_,_,l,_,hv,_⟩|⟨_,_,l,_,_,_,hv,_⟩
 .rfl
 all_goals grind [pW]
theorem MM{α:Type}{Q:α->Sm->Prop}{S:Sm}{h:Array Obj}{ok:Nat->Ty->Prop}{v:V}{u:Value}{Op:d4F}(hp:Wl h ok v u Op):∀(md:M) (off:Nat) {ho:Option Nat} {x:md.den} {es:d4E} {O:d4F} {K:md.den->Cmd α}
  (hr:qc h ok md ho x es O) (hh:ho=none\/ho=some off) (hel:md.el=true)
  (hK:∀y O1 Old O2,O=O1++Old++O2->qc h ok md none y (es.set off u) (O1++Op++O2)->off<es.length->(K y).post S Q),
  (K_ md off v x K .fail).post S Q
 | .own t,off,ho,x,es,O,K,hr,hh,hel,hK=>by
  refine eP λhb=>?_;have:=ik hb;subst this;obtain⟨v0,rfl,_,_⟩:=hr;rcases hp with⟨rfl,rfl,rfl⟩|⟨t',ys,l,rfl,hv,ha,rfl⟩|⟨md',ys,l,Os,rfl,_,hv,ha,rfl⟩
  .have ht:t.isEnt=false:=by simp_all [M.el]
   simp[ht,cond_false];exact hK [] [] O [] x9 ⟨_,rfl,rfl,.nil,rfl,⟨rfl,ht⟩,rfl⟩ x9
  .refine iw λe=>?_;subst e;exact hK _ [] O [] x9 ⟨u,rfl,pW hv,l,hv,ha,x9⟩ x9
  .trivial
 | .owns md,off,ho,x,es,O,K,hr,hh,hel,hK=>by
  refine eP λhb=>?_;have:=ik hb;subst this;obtain⟨v0,rfl,_,_⟩:=hr;rcases hp with⟨rfl,rfl,rfl⟩|⟨t',ys,l,rfl,hv,ha,rfl⟩|⟨md',ys,l,Os,rfl,he,hv,ha,rfl⟩
  .exact hK [] [] O [] x9 ⟨_,rfl,rfl,by simp_all [M.el],.nil,[],rfl,⟨rfl,rfl⟩,rfl⟩ x9
  .trivial
  .refine Nr λe=>?_;subst e;exact hK _ [] O [] x9 ⟨u,rfl,pW hv,he,l,Os,hv,ha,x9⟩ x9
 | .pair p q,off,ho,x,es,O,K,hr,hh,hel,hK=>by
  unfold K_;obtain⟨c,d,O1,O2,rfl,rfl,h1,h2⟩:=hr;have hc:=dh h1;have hel' :p.el=true/\q.el=true:=by simp_all [M.el]
  by_cases hlt:off<p.size
  .have hb:=b5k hlt;simp[hb,cond_true];have h2' :qc h ok q none x.2 d O2:=by
    grind
   refine MM hp p off h1 (by grind) hel'.1 λy A Old B e1 e2 e3=>?_;refine hK _ A Old (B++O2) (by subst e1;simp) ⟨c.set off u,d,A++Op++B,O2,?_,x9,e2,h2'⟩ U3<;>grind
  .have hb:=b5j hlt;simp[hb,cond_false];have h1' :qc h ok p none x.1 c O1:=by
    grind
   refine MM hp q (off -p.size) h2 (by grind) hel'.2 λy A Old B e1 e2 e3=>?_;refine hK _ (O1++A) Old B (by subst e1;simp) ⟨c,d.set (off -p.size) u,O1,A++Op++B,?_,x9,h1',e2⟩ U3<;>simp_all
 | .dat _,_,_,_,_,_,_,_,_,_,_=>trivial| .unit,_,_,_,_,_,_,_,_,_,_=>trivial| .box _,_,_,_,_,_,_,_,_,_,_=>trivial| .ownb _,_,_,_,_,_,_,_,_,_,_=>trivial| .cell _,_,_,_,_,_,_,_,_,_,_=>trivial| .lp _,_,_,_,_,_,_,_,_,_,_=>trivial| .rp _,_,_,_,_,_,_,_,_,_,_=>trivial| .fn _ _,_,_,_,_,_,_,_,_,_,_=>trivial| .ifc _ _,_,_,_,_,_,_,_,_,_,_=>trivial
theorem Le{α:Type}{Q:α->Sm->Prop}{C:Cx}{ln:Ty->Bool} :∀(t:Ty) {cs:List V} {K:t.den->List V->Cmd α} {S:Sm} {vs:d4E} (hf:t.flat=true) (hL:jc C cs vs)
  (hK:∀x r us us',vs=us++us' ->(∀h ok,oq h ok t x us)->jc C r us' ->(K x r).post S Q),(qF ln t cs K).post S Q
 | .bool,cs,K,S,vs,hf,hL,hK=>by
  unfold qF;split
  .obtain⟨v,r,rfl,h1,_,h3⟩:=hL;exact hK _ _ [v] r rfl (λ_ _=>by simp_all [yR,oq]) h3
  .trivial
 | .int k,cs,K,S,vs,hf,hL,hK=>by
  unfold qF;split
  .obtain⟨v,r,rfl,h1,_,h3⟩:=hL;refine bP λe=>?_;have e:=of_decide_eq_true e;exact hK _ _ [v] r rfl (λ_ _=>by simp_all [yR,oq]) h3
  .trivial
 | .str,cs,K,S,vs,hf,hL,hK=>by
  unfold qF;split
  .obtain⟨v,r,rfl,h1,_,h3⟩:=hL;exact hK _ _ [v] r rfl (λ_ _=>by simp_all [yR,oq]) h3
  .trivial
 | .unit,cs,K,S,vs,hf,hL,hK=>by exact hK _ _ [] vs rfl (λ_ _=>rfl) hL
 | .prod p q,cs,K,S,vs,hf,hL,hK=>by simp[Ty.flat]at hf;refine Le p hf.1 hL λx r us us' e1 h1 l1=>?_;refine Le q hf.2 l1 λy r' vs2 vs2' e2 h2 l2=>?_;subst e1;subst e2;exact hK _ _ (us++vs2) vs2' x9 (λh ok=>⟨us,vs2,rfl,h1 h ok,h2 h ok⟩) l2| .sl t,cs,K,S,vs,hf,hL,hK=>by grind [Ty.flat]
theorem a7Q{us c d:List α}(h:off+us.length<=c.length):eU off us (c++d)=eU off us c++d:=by
 apply aB;intro i;have hs:=CW h;rw[xk (by grind)];by_cases hi:i<c.length
 .grind [eU]
 grind
theorem a5d{us c d:List α}(h:(off -c.length)+us.length<=d.length)(h' :c.length<=off):eU off us (c++d)=c++eU (off -c.length) us d:=by
 apply aB;intro i;rw[xk (by grind)];by_cases hi:i<c.length
 .grind
 .rw[F6 l7,F6 l7,xk h]
  grind
theorem WB{α:Type}{Q:α->Sm->Prop}{h:Array Obj}{ok:Nat->Ty->Prop}{m:Mp} :∀(md:M) (off:Nat) {ho:Option Nat} {x:md.den} {es us:d4E} {vs:List V} {O:d4F} {K:md.den->Cmd α} {S:Sm}
  (hr:qc h ok md ho x es O) (hv:jc ⟨h,ok,m⟩ vs us)
  (hK:∀y,off+us.length<=es.length->qc h ok md ho y (eU off us es) O->(K y).post S Q),(b3h md off vs x K).post S Q
 | .dat t,off,ho,x,es,us,vs,O,K,S,hr,hv,hK=>by
  refine bP λhf=>Gj _ _ _ λhle=>?_;rw[rH]at hle;obtain⟨hr,rfl⟩:=hr;have hl:=iO hr;have hlv:=oK hv;have hnew:=Hm (off:=off) hv (qR hr);refine Le t hf hnew λy q vs1 vs2 e1 h1 l1=>?_;cases q with
  |cons _ _=>trivial|nil=>
  subst l1;simp at e1;subst e1;exact hK y l7 ⟨h1 _ _,rfl⟩
 | .pair p q,off,ho,x,es,us,vs,O,K,S,hr,hv,hK=>by
  unfold b3h;obtain⟨c,d,O1,O2,rfl,rfl,h1,h2⟩:=hr;have hc:=dh h1;by_cases hlt:off<p.size
  .have hb:=b5k hlt;simp[hb,cond_true];refine WB p off h1 hv λy hle e2=>?_;exact hK _ (by grind) ⟨_,d,O1,O2,a7Q hle,rfl,e2,h2⟩
  .have hb:=b5j hlt;simp[hb,cond_false];refine WB q (off -p.size) h2 hv λy hle e2=>?_;refine hK _ U3 ⟨c,_,O1,O2,?_,rfl,h1,e2⟩<;>simp_all [a5d]
 | .own _,_,_,_,_,_,_,_,_,_,_,_,_=>trivial| .owns _,_,_,_,_,_,_,_,_,_,_,_,_=>trivial| .unit,_,_,_,_,_,_,_,_,_,_,_,_=>trivial| .box _,_,_,_,_,_,_,_,_,_,_,_,_=>trivial| .ownb _,_,_,_,_,_,_,_,_,_,_,_,_=>trivial| .cell _,_,_,_,_,_,_,_,_,_,_,_,_=>trivial| .lp _,_,_,_,_,_,_,_,_,_,_,_,_=>trivial| .rp _,_,_,_,_,_,_,_,_,_,_,_,_=>trivial| .fn _ _,_,_,_,_,_,_,_,_,_,_,_,_=>trivial| .ifc _ _,_,_,_,_,_,_,_,_,_,_,_,_=>trivial
theorem a2y(i:Nat):a1v none i=none:=rfl
theorem NI{i o j:Nat}(h:j≠i):a1v (some (i,o,k)) j=none:=by simp[a1v,h]
theorem Ro{i o:Nat} :a1v (some (i,o,k)) i=some o:=by simp[a1v]
theorem Qy{C:Cx}{hole:Option (Nat×Nat×Option Nat)}{blk off len cap sz:Nat}{Os:List d4F}(he:md.el=true)(hm:C.m n=some (.arr blk off len cap sz))
  (ha:yB C.h md.size (λi x es O=>qc C.h C.ok md (a1v hole i) x es O) xs Os (.arr blk off len cap sz)) (hk:C.m.kid n=Os.flatten) (hh:y_ C md.size (.arr blk off len cap sz) hole):Gl C n (.barrs md xs hole):=⟨he,_,Os,hm,⟨ha,hh⟩,hk⟩
theorem KF{j o2 idx off:Nat}(h:x_ (some (j,o2,k)) idx off=true):j=idx/\o2=off:=by
 simp only[x_]at h;cases hb:Nat.beq o2 off<;>rw[hb]at h
 .grind
 .exact⟨ik h,ik hb⟩
theorem b3J(H:FxOk X){S1:Sm}{m1:Mp}{ok1:Nat->Ty->Prop}{w0:World}(R:Rel X (CB*q) (CB*q+CB) S1 m1 ok1 a w)(hT:Tk X S1 m1 ok1 w Op)
  (hm:∀k l,m k=some l->m1 k=some l) (hok:∀b t,ok b t->ok1 b t) {v:V} {l:Loc} {ks:d4F} {x:Value} (hv:v≠.undef)
  (ho:V5 (oV m1 (U2 q o.dst) l ks) (U2 q o.dst) v=Op) (hB:Gl ⟨w.heap,ok1,oV m1 (U2 q o.dst) l ks⟩ (U2 q o.dst) v)
  (hx:l.view none x) {bx idx off:Nat} {md:M} {xs:List md.den} (hS:S1 (Z4+bx)= .barrs md xs (some (idx,off,none))) {blk o' len cap sz:Nat} (hmb:m1 bx=some (.arr blk o' len cap sz))
  (hc:fP w.heap blk (o' +idx*md.size+off) 1=some [x]) (hsz:sz=md.size)
  (run:(execOp a.eval o).run X.P w0= .ok (.value x) w):
  (xQ (U2 q o.dst) v (Cmd.set (Z4+bx) (.barrs md xs (some (idx,off,some (U2 q o.dst)))) (gW X.E o.dst (.own (U2 q o.dst) none)))).post S1 (λ_ S' =>kF X (CB*q) (CB*q+CB) o a w0 m ok S'):=by
 refine qQ λhn=>?_;have key:∀n,n=U2 q o.dst->CB*q<=n->n<CB*q+CB->∃R2:Rel X (CB*q) (CB*q+CB) (upd (upd S1 (Z4+n) v) (Z4+bx) (.barrs md xs (some (idx,off,some n)))) (oV m1 n l ks) ok1 a w,∀k l',m k=some l' ->oV m1 n l ks k=some l' :=by
  rintro n rfl h1 h2;obtain⟨R',_,hm'⟩:=R.adopt (T:=[]) hn h1 hv (by simpa using hT) (λb h=>by simp_all) (by rw[ho];exact hT.nodup) hB;rw[Ha l7]at R';have hne:bx≠U2 q o.dst:=λe=>by simp_all
  have hS' :upd S1 (Z4+U2 q o.dst) v (Z4+bx)= .barrs md xs (some (idx,off,none)):=by simp_all [Z5]
  have hb:=R'.box bx;rw[hS']at hb;obtain⟨hel,l0,Os,hm0,⟨ha,_⟩,hk⟩:=hb;have hmb' :=hm' _ _ hmb;rw[hmb']at hm0;cases hm0;refine⟨R'.mod (by rw[hS'];rfl) x9 rfl rfl rfl rfl (λ_ _=>rfl) ⟨hel,_,Os,hmb',⟨?_,?_⟩,hk⟩,λk l' h=>hm' k l' (hm k l' h)⟩
  .exact yl (λ_ _=>rfl) (λi x es O _ hr=>hr) ha
  .exact⟨blk,o',len,cap,x,l,by grind,hc,bu _ _ _ _,hx⟩
 cases hd:o.dst with
 |none=>have hin:=tu H (q:=q) none (λt h=>by grind);obtain⟨R2,hm2⟩:=key (U2 q none) (by rw[hd]) hin.1 l7;have:=xI H R2 hm2 hok (v:=.own (U2 q none) none) ⟨l,bu _ _ _ _,hx⟩ run;rw[hd]at this;exact this
 |some t=>refine iP (eP λhb' =>?_);have hin:=tu H (q:=q) (some t) (λt' h=>by simp_all [jX]);obtain⟨R2,hm2⟩:=key (U2 q (some t)) (by rw[hd]) hin.1 l7;have:=xI H R2 hm2 hok (v:=.own (U2 q (some t)) none) ⟨l,bu _ _ _ _,hx⟩ run;simp_all [gW]
theorem VD{C:Cx}{c:V} :∀{n:Nat} {cs:List V} {vs:d4E},jc C cs vs->(∀u,vs[n]? =some u->yR C c u)->jc C (a4T n c cs) vs
 |0,[],_,h,_=>h|_+1,[],_,h,_=>h|0,_::_,_,⟨v,r,e,h1,h2,h3⟩,hc=>by subst e;exact⟨v,r,rfl,hc v rfl,h2,h3⟩|n+1,_::_,_,⟨v,r,e,h1,h2,h3⟩,hc=>by subst e;exact⟨v,r,rfl,h1,h2,VD h3 (λu hu=>hc u (by simp_all))⟩
theorem a7g{C:Cx}{v:V}{es:d4E}{k n:Nat}{l:Loc}{x:Value}(hv:nU C v u)(hu:u= .agg es.toArray)(hx:es[k]? =some x)(hn:C.m n=some l)(hl:l.view none x):nU C (a9w k n v) u:=by
 cases v<;>try exact hv
 case agg cs=>obtain⟨arr,e,h⟩:=hv;refine⟨arr,e,VD h λu' hu' =>?_⟩;rw[e]at hu;injection hu with hu;subst hu;rw[hx]at hu';cases hu';exact⟨l,hn,hl⟩
theorem LC{m:M} :∀{n off o:Nat},m.firstOwn off n=some o->off<=o/\o<off+n
 |0,_,_,h=>by cases h|n+1,off,o,h=>by
  unfold M.firstOwn at h;cases hb:m.ownAt off<;>rw[hb]at h
  .have:=LC (show m.firstOwn (off+1) n=some o from h);omega
  simp_all
theorem b9z{E:Env}{d:Option Nat}(h:tkD E d=true):∃t,d=some t/\OU E t=true:=by cases d<;>simp_all [tkD]
theorem c4H{Z n:Nat}{S1:Sm}{m1:Mp}{ok1:Nat->Ty->Prop}(R:Rel X Z (Z+CB) S1 m1 ok1 a w)(hT:Tk X S1 m1 ok1 w Op)
  (h1:Z<=n) (h2:n<Z+CB) {v:V} {l:Loc} {ks:d4F} {x:Value} (hv:v≠.undef)
  (ho:V5 (oV m1 n l ks) n v=Op) (hB:Gl ⟨w.heap,ok1,oV m1 n l ks⟩ n v)
  (hx:l.view none x) {bx idx off:Nat} {md:M} {xs:List md.den} (hS:S1 (Z4+bx)= .barrs md xs (some (idx,off,none))) {blk o' len cap sz:Nat} (hmb:m1 bx=some (.arr blk o' len cap sz))
  (hc:fP w.heap blk (o' +idx*md.size+off) 1=some [x]) (hsz:sz=md.size)
  (hK:∀S2 m2,Rel X Z (Z+CB) S2 m2 ok1 a w->(∀k l',m1 k=some l' ->m2 k=some l')->m2 n=some l->K.post S2 Q):
  (xQ n v (Cmd.set (Z4+bx) (.barrs md xs (some (idx,off,some n))) K)).post S1 Q:=by
 refine qQ λhn=>iP ?_;obtain⟨R',_,hm'⟩:=R.adopt (T:=[]) hn h1 hv (by simpa using hT) (λb h=>by simp_all) (by rw[ho];exact hT.nodup) hB;rw[Ha l7]at R';have hne:bx≠n:=λe=>by simp_all
 have hS' :upd S1 (Z4+n) v (Z4+bx)= .barrs md xs (some (idx,off,none)):=by simp_all [Z5]
 have hb:=R'.box bx;rw[hS']at hb;obtain⟨hel,l0,Os,hm0,⟨ha,_⟩,hk⟩:=hb;have hmb' :=hm' _ _ hmb;rw[hmb']at hm0;cases hm0;refine hK _ _ (R'.mod (by rw[hS'];rfl) x9 rfl rfl rfl rfl (λ_ _=>rfl) ⟨hel,_,Os,hmb',⟨?_,?_⟩,hk⟩) hm' (bu _ _ _ _)
 .exact yl (λ_ _=>rfl) (λi x es O _ hr=>hr) ha
 .exact⟨blk,o',len,cap,x,l,by grind,hc,bu _ _ _ _,hx⟩
theorem c0N(H:FxOk X)(R:Rel X (CB*q) (CB*q+CB) S m ok a w)(ho:o.op= .load t x):(fM X.E q o).post S (λ_ S' =>kF X (CB*q) (CB*q+CB) o a w m ok S'):=by
 unfold fM;simp only[ho];refine dC R λp hp=>?_;have plain:(MN X.E t p λv=>gW X.E o.dst v).post S (λ_ S' =>kF X (CB*q) (CB*q+CB) o a w m ok S'):=by refine JF H R hp λv u ad hv hx hr=>dH H R hv ?_;simp[execOp,ho,hx,Instr.loadAt,Instr.sureAddr,hr]
 unfold c2t;split
 .rename_i bx idx off;refine aO ?_;split
  .rename_i md xs hS;cases hown:md.ownAt off
   .simp only[cond_false];cases htk:tkD X.E o.dst
    .simpa only[cond_false]using plain
    simp only[cond_true];obtain⟨dt,hdt,hok1⟩:=b9z htk;refine nH H λi hi=>?_;split
    .exact plain
    rename_i po hfo;obtain⟨hfo1,hfo2⟩:=LC hfo;refine bP λhi1=>gG λe0 he0=>?_;simp only[A7]at hi1;obtain⟨hagg,hfit⟩:=hi1;have hfit:=X4 hfit;have hp' :=hp;obtain⟨blk,o',len,cap,sz,hm,hlt,hx⟩:=hp;obtain⟨hel,l,Os,hm',⟨ha,hho⟩,hk⟩:=R.own_barrs hS;simp only at hm;rw[hm]at hm';cases hm';obtain⟨rfl,rfl,h3,h7,c,T,hh,hs,hxs⟩:=ha;obtain⟨es,O,hO,he,hr⟩:=hxs idx e0 he0;refine NV md po hr λv l2 ks u O1 Op O2 eO hr' hu hv hB hvu=>?_;refine iP ?_;have hOs:Os.flatten.Perm ((Os.set idx (O1++O2)).flatten++Op):=um (by rw[hO,eO]);have hown0:V5 m bx (S (Z4+bx))=blk::Os.flatten:=by simp[V5,hS,hm,hk]
    have hown1:V5 (EY m bx (Os.set idx (O1++O2)).flatten) bx (.barrs md xs (some (idx,po,none)))=blk::(Os.set idx (O1++O2)).flatten:=by simp[V5,hm]
    have hnd:=R.nd bx;rw[hown0]at hnd;have hperm:(blk::Os.flatten).Perm ((blk::(Os.set idx (O1++O2)).flatten)++Op):=by simpa using hOs.cons blk
    have hnd' :=H8.1 (hperm.nodup_iff.1 hnd);have hB1:Gl ⟨w.heap,ok,EY m bx (Os.set idx (O1++O2)).flatten⟩ bx (.barrs md xs (some (idx,po,none))):=by
     refine Qy (Os:=Os.set idx (O1++O2)) hel hm ⟨rfl,rfl,h3,by grind,c,T,hh,hs,λj z hz=>?_⟩ x9 trivial;by_cases hj:j=idx
     .subst hj;rw[show xs[j]? =some e0 from he0]at hz;simp_all [Ro]
     .obtain⟨es2,O',hO2,he2,hr2⟩:=hxs j z hz;refine⟨es2,O',?_,he2,by simp only[NI hj];exact hr2⟩<;>grind
    obtain⟨R1,T1⟩:=R.modK (T:=[]) Tk.nil (n:=bx) (v:=.barrs md xs (some (idx,po,none))) (ks:=(Os.set idx (O1++O2)).flatten) (w' :=w) (T' :=Op) x9 (by simp_all)
     (λb hb=> .inl (by grind)) rfl rfl rfl rfl (λ_ _=>rfl) hB1 hnd'.2.1
     (λb hb=>⟨.inl (by grind),λh=>hnd'.2.2 b (by simp_all) b hb rfl⟩)
    obtain⟨hB2,hB3,hB4⟩:=hB (EY m bx (Os.set idx (O1++O2)).flatten) (U2 q o.dst);have hlt2:=(U8.1 hu);have hle:po+1<=md.size:=l7;have hc1:=uI he po 1 l7;have h1:(es.drop po).take 1=[u]:=by
     grind [List.drop_eq_getElem_cons]
    rw[h1]at hc1;have hin:=tu H (q:=q) (some dt) (λt h=>by simp_all [jX]);rw[hdt]at hB2 hB3;have e:=uI he off i.size hfit;have hr2:=wR hi w e;rw[hagg]at hr2;rw[hdt];refine c4H R1 T1 hin.1 l7 hvu hB3 hB2 hv x9 hm hc1 rfl λS2 m2 R2 k2 hn2=>?_;have hp2:nU ⟨w.heap,ok,m2⟩ (.ep bx idx off) (a.eval x):=KT (C:=⟨w.heap,ok,m⟩) (D:=⟨w.heap,ok,m2⟩) ⟨λ_ _ h=>h,λ_ _ _=>rfl,k2⟩ hp';rw[←hdt]at hn2 ⊢;refine JF H R2 hp2 λv3 u3 ad hv3 hx3 hr3=>?_;have had:ad=⟨blk,o' +idx*md.size+off,none⟩:=by simp_all
    subst had;have hu3:u3= .agg ((es.drop off).take i.size).toArray:=by rw[hr2]at hr3;injection hr3 with e1 e2;exact e1.symm
    refine xI (o:=o) H R2 (m0:=m) (ok0:=ok) k2 (λ_ _ h=>h) (a7g (x:=u) (l:=l2) hv3 hu3 ?_ hn2 hv) ?_
    .rw[aj l7,O8,show off+(po -off)=po by omega];omega
    .simp_all [execOp,Instr.loadAt,Instr.sureAddr]
   simp only[cond_true];refine nH H λi hi=>bP λhi1=>?_;simp only[A7,aQ]at hi1;obtain⟨hsz,hagg⟩:=hi1;have hsz:=ik hsz;have hp' :=hp;obtain⟨blk,o',len,cap,sz,hm,hlt,hx⟩:=hp;obtain⟨hel,l,Os,hm',⟨ha,hho⟩,hk⟩:=R.own_barrs hS;simp only at hm;rw[hm]at hm';cases hm';cases He (match o.dst with|some d=>d|none=>Z4) X.E.tk<;>simp only[cond_true,cond_false]
   .refine Jh (T:=[]) (.sl md.ty) R Tk.nil (cs:=[.own bx none]) (vs:=[.slice (some ⟨blk,o',none⟩) len cap]) ⟨_,_,rfl,⟨_,hm,rfl⟩,rfl,rfl⟩ λS1 ok1 _ _ us us' R1 T1 k1 s1 e1 h1 l1=>?_;refine JF H R1 (RX k1 hp') λv u ad hv hx hr=>xI H R1 (λ_ _ h=>h) k1 hv ?_<;>simp_all [execOp,Instr.loadAt,Instr.sureAddr]
   .refine gG λe0 he0=>?_;obtain⟨rfl,rfl,h3,h7,c,T,hh,hs,hxs⟩:=ha;obtain⟨es,O,hO,he,hr⟩:=hxs idx e0 he0;refine NV md off hr λv l2 ks u O1 Op O2 eO hr' hu hv hB hvu=>?_;refine iP ?_;have hOs:Os.flatten.Perm ((Os.set idx (O1++O2)).flatten++Op):=um (by grind);have hown0:V5 m bx (S (Z4+bx))=blk::Os.flatten:=by simp_all [V5]
    have hown1:V5 (EY m bx (Os.set idx (O1++O2)).flatten) bx (.barrs md xs (some (idx,off,none)))=blk::(Os.set idx (O1++O2)).flatten:=by simp[V5,hm]
    have hnd:=R.nd bx;rw[hown0]at hnd;have hperm:(blk::Os.flatten).Perm ((blk::(Os.set idx (O1++O2)).flatten)++Op):=by simp_all
    have hnd' :=H8.1 (hperm.nodup_iff.1 hnd);have hB1:Gl ⟨w.heap,ok,EY m bx (Os.set idx (O1++O2)).flatten⟩ bx (.barrs md xs (some (idx,off,none))):=by
     refine Qy (Os:=Os.set idx (O1++O2)) hel hm ⟨rfl,rfl,h3,by grind,c,T,hh,hs,λj z hz=>?_⟩ x9 trivial;by_cases hj:j=idx
     .subst hj;rw[show xs[j]? =some e0 from he0]at hz;simp_all [Ro]
     .obtain⟨es2,O',hO2,he2,hr2⟩:=hxs j z hz;refine⟨es2,O',?_,he2,by simp only[NI hj];exact hr2⟩<;>grind
    obtain⟨R1,T1⟩:=R.modK (T:=[]) Tk.nil (n:=bx) (v:=.barrs md xs (some (idx,off,none))) (ks:=(Os.set idx (O1++O2)).flatten) (w' :=w) (T' :=Op) x9 (by simp_all)
     (λb hb=> .inl (by grind)) rfl rfl rfl rfl (λ_ _=>rfl) hB1 hnd'.2.1
     (λb hb=>⟨.inl (by grind),λh=>hnd'.2.2 b (by simp_all) b hb rfl⟩)
    obtain⟨hB2,hB3,hB4⟩:=hB (EY m bx (Os.set idx (O1++O2)).flatten) (U2 q o.dst);have hlt2:=(U8.1 hu);have hle:off+1<=md.size:=by grind [dh]
    have e:=uI he off i.size l7;have hr2:=wR hi w e;have h1:(es.drop off).take i.size=[u]:=by
     grind [List.drop_eq_getElem_cons]
    refine b3J (ok:=ok) (m:=m) H R1 T1 (λ_ _ h=>h) (λ_ _ h=>h) hvu hB3 hB2 hv (by rw[iQ]) hm (by rw[←h1,←hsz];exact e) rfl ?_<;>simp_all [execOp,Instr.loadAt,Instr.sureAddr,a3w]
  .rename_i md xs i2 o2 n2 hS;cases hown:md.ownAt off
   .simp only[cond_false];cases htk:tkD X.E o.dst
    .simp_all
    simp only[cond_true];refine nH H λi hi=>?_;split
    .omega
    rename_i po hfo;obtain⟨hfo1,hfo2⟩:=LC hfo;refine bP λhi1=>⟨λhat=>?_,λ_=>trivial⟩;simp only[A7]at hi1;obtain⟨hagg,hfit⟩:=hi1;have hfit:=X4 hfit;obtain⟨e1,e2⟩:=KF hat
    subst e1;subst e2;have hp' :=hp;obtain⟨blk,o',len,cap,sz,hm,hlt,hx⟩:=hp;obtain⟨hel,l,Os,hm',⟨ha,blk',off',len',cap',u,l',hl,hc,hmn,hvw⟩,hk⟩:=R.own_barrs hS;simp only at hm;rw[hm]at hm';cases hm';cases hl;obtain⟨_,rfl,h3,h7,c,T,hh,hs,hxs⟩:=ha;refine JF H R hp' λv3 u3 ad hv3 hx3 hr3=>?_;have had:ad=⟨blk,o' +i2*md.size+off,none⟩:=by simp_all
    subst had;have hltx:i2<xs.length:=hlt;obtain⟨es,O,hO,he,hr⟩:=hxs i2 _ (dE hltx);have e:=uI he off i.size hfit;have hr2:=wR hi w e;rw[hagg]at hr2;have hu3:u3= .agg ((es.drop off).take i.size).toArray:=by rw[hr2]at hr3;injection hr3 with e1 e2;exact e1.symm
    refine dH H R (a7g (x:=u) (l:=l') hv3 hu3 ?_ hmn hvw) ?_
    .have hes:=rE he;have hc2:=uI he o2 1 l7;rw[hc]at hc2;have:=congrArg (λl=>l[0]?) (F8 hc2)
     grind
    simp_all [execOp,Instr.loadAt,Instr.sureAddr]
   simp only[cond_true];refine nH H λi hi=>bP λhi1=>⟨λhat=>?_,λ_=>trivial⟩;simp only[A7,aQ]at hi1;obtain⟨hsz,hagg⟩:=hi1;have hsz:=ik hsz;obtain⟨e1,e2⟩:=KF hat
   subst e1;subst e2;obtain⟨blk,o',len,cap,sz,hm,hlt,hx⟩:=hp;obtain⟨hel,l,Os,hm',⟨ha,blk',off',len',cap',u,l',hl,hc,hmn,hvw⟩,hk⟩:=R.own_barrs hS;simp only at hm;rw[hm]at hm';cases hm';cases hl;have e:fP w.heap blk (o' +i2*md.size+o2) i.size=some [u]:=by simp_all
   have hr2:=wR hi w e;rw[hagg]at hr2;refine dH H R (v:=.own n2 none) (x:=u) ⟨l',hmn,hvw⟩ ?_<;>simp_all [execOp,Instr.loadAt,Instr.sureAddr,a3w]
  .omega
 .omega
theorem JY{S' :Sm}{x y:Operand}{w' :World}{m' :Mp}{ok' :Nat->Ty->Prop}(ho:o.op= .store t x y)(hd:o.dst=none)(run:(Instr.storeAt t (a.eval x) (a.eval y)).run X.P w= .ok () w')
  (R:Rel X cl ch S' m' ok' a w') (hm:∀k l,m k=some l->m' k=some l) (hok:∀b t,ok b t->ok' b t):kF X cl ch o a w m ok S' :=by
 intro next Q hn
 unfold Oper.wp;have e:(execOp a.eval o).run X.P w= .ok .skip w' :=by simp_all [execOp]
 rw[e,Oper.upon_skip,hd];exact hn m' ok' a w' R hm hok
theorem a0W{u:α}(h:off<L.length):eU off [u] L=L.set off u:=by
 apply aB;intro i;rw[xk (by grind)]
 grind
theorem a2g(h:u.oneCell' =true):u.cells.toList=[u]:=by cases u<;>simp[Value.oneCell',Value.cells]at*
theorem VJ{w:World}{blk o' sz len cap off idx:Nat}{c:Array Value}{T:TypeId}{f:Nat×Nat}(hh:w.heap[blk]? =some (.cells c T f))(hs:o' +cap*sz<=c.size)(hlc:len<=cap)(hlt:idx<len){us es:d4E}
  (he:fP w.heap blk (o' +idx*sz) sz=some es) (hf:off+us.length<=sz):
  o' +idx*sz+off+us.length<=c.size/\(eU (o' +idx*sz+off) us c.toList).length=c.size/\
  fP (w.setRow blk (eU (o' +idx*sz+off) us c.toList).toArray).heap blk (o' +idx*sz) sz=some (eU off us es)/\
  (∀j,j<len->j≠idx->fP (w.setRow blk (eU (o' +idx*sz+off) us c.toList).toArray).heap blk (o' +j*sz) sz=fP w.heap blk (o' +j*sz) sz):=by
 have hcap:(idx+1)*sz<=cap*sz:=N9 _ l7;rw[U1]at hcap;have hfit:o' +idx*sz+off+us.length<=c.size:=l7;have hcl:c.toList.length=c.size:=x9;have hsp:(eU (o' +idx*sz+off) us c.toList).length=c.size:=by simp_all [CW]
 refine⟨hfit,hsp,?_,λj hj hne=>?_⟩
 .rw[QK hh _ _ _ l7,Xq l7 l7];obtain⟨c2,T2,f2,hb2,hn2,rfl⟩:=wW he<;>simp_all
 .have hcap' :(j+1)*sz<=cap*sz:=N9 _ l7;rw[U1]at hcap';rw[QK hh _ _ _ l7,nX hh _ _ l7,b0y l7];rcases Nat.lt_or_gt_of_ne hne with hlt'|hgt
  .have:(j+1)*sz<=idx*sz:=N9 _ l7
   grind
  .have:(idx+1)*sz<=j*sz:=N9 _ l7
   grind
theorem Yl{Q:Unit->Sm->Prop}(R:Rel X cl ch S m ok a w)(hT:Tk X S m ok w Op){i:TI}(hi:TiOk X.P t i)(h1:i.size=1){hole:Option (Nat×Nat×Option Nat)}
  (hS:S (Z4+bx)= .barrs md xs hole) {blk o' len cap sz:Nat} (hm:m bx=some (.arr blk o' len cap sz)) {v:V} {u:Value} (hp:Wl w.heap ok v u Op)
  (hK:∀S' m' w',Rel X cl ch S' m' ok a w' ->(∀k l,m k=some l->m' k=some l)->(storeVar t ⟨blk,o' +idx*sz+off,none⟩ u).run X.P w= .ok () w' ->Q () S'):
  (a5f bx idx off md xs hole v (.ret ())).post S Q:=by
 unfold a5f;refine⟨λhb=>?_,λ_=>trivial⟩;refine gG λe0 he0=>?_;have he0' :xs[idx]? =some e0:=he0;obtain⟨hel,l,Os,hm',⟨ha,hho⟩,hk⟩:=R.own_barrs hS;rw[hm]at hm';cases hm';obtain⟨rfl,rfl,h3,h7,c,T,hh,hs,hxs⟩:=ha;obtain⟨es,O,hO,he,hr⟩:=hxs idx e0 he0';have hho:a1v hole idx=none\/a1v hole idx=some off:=by
  rcases hole with _|⟨j,o2,o3⟩
  .exact .inl rfl
  grind [KF,Ro]
 have hho' :∀j,j≠idx->a1v hole j=none:=λj hj=>by
  rcases hole with _|⟨j',o2,o3⟩
  .rfl
  grind [KF,NI]
 refine MM hp md off hr hho hel λy O1 Old O2 eO hr' hoff=>iP ?_;have hlt:idx<xs.length:=(U8.1 he0').1;have hes:es.length=md.size:=dh hr;have hu1:=hp.one;have huc:=a2g hu1;obtain⟨hfit,hsp,hnew,hold⟩:=VJ (us:=[u]) (off:=off) hh hs h3 hlt he (by grind);have run:=EW hi w (off:=o' +idx*md.size+off) hh (.inl rfl) (v:=u) (by grind) (by simp_all) (by simp_all);rw[huc]at run;generalize hw' :w.setRow blk (eU (o' +idx*md.size+off) [u] c.toList).toArray=w' at run hnew hold;have hrow:w'.heap[blk]? =some (.cells (eU (o' +idx*md.size+off) [u] c.toList).toArray T (0,0)):=by subst hw';exact setRow_heap w blk c _ T (0,0) hh
 have hoth:∀b,b≠blk->w'.heap[b]? =w.heap[b]?:=λb hb=>by grind [setRow_other]
 have hsize:w'.heap.size=w.heap.size:=by subst hw';simp
 have hos:w'.os=w.os:=by subst hw';rfl
 have htp:w'.tape=w.tape:=by subst hw';rfl
 have hdrn:w.drawn<=w'.drawn:=by subst hw';simp
 have hout:w'.output=w.output:=by subst hw';rfl
 have hO1:Os.flatten.Perm ((Os.set idx (O1++O2)).flatten++Old):=um (by grind);have hO2:(Os.set idx (O1++Op++O2)).flatten.Perm ((Os.set idx (O1++O2)).flatten++Op):=by have:=um (Os:=Os.set idx (O1++Op++O2)) (i:=idx) (O1:=O1) (P:=Op) (O2:=O2) (by simp_all);simp_all
 have hown0:V5 m bx (S (Z4+bx))=blk::Os.flatten:=by simp_all [V5]
 have hown1:V5 (EY m bx (Os.set idx (O1++Op++O2)).flatten) bx (.barrs md (V8 xs idx y) none)=blk::(Os.set idx (O1++Op++O2)).flatten:=by simp[V5,hm]
 have hnd:=R.nd bx;rw[hown0]at hnd;have hnd0:=az.1 hnd;have hndA:=H8.1 (hO1.nodup_iff.1 hnd0.2);have hfreeOp:∀b∈Op,b∉blk::Os.flatten:=λb hb h=>(hT.free b hb).2.2.2 bx (by simp_all);have hsubA:∀b∈(Os.set idx (O1++O2)).flatten,b∈Os.flatten:=λb hb=>hO1.mem_iff.2 (Y6 _ hb);have hneO:∀b∈Os.flatten,b≠blk:=λb hb e=>hnd0.1 (e▸hb);have hneP:∀b∈Op,b≠blk:=λb hb e=>hfreeOp b hb (by grind);have hkeep:∀b t,ok b t->w'.heap[b]? =w.heap[b]?:=λb t hb=>hoth b (λe=>(R.sep bx blk (by simp_all)).1 t (e▸hb));have hB:Gl ⟨w'.heap,ok,EY m bx (Os.set idx (O1++Op++O2)).flatten⟩ bx (.barrs md (V8 xs idx y) none):=by
  refine Qy (Os:=Os.set idx (O1++Op++O2)) hel hm ⟨rfl,by simp[V8],h3,by grind [V8],_,T,hrow,by simp_all,λj z hz=>?_⟩ x9 trivial;unfold V8 at hz;rw[J8]at hz;split at hz
  .rename_i hj;subst hj;cases hz;refine⟨_,O1++Op++O2,by simp_all,hnew,?_⟩;rw[a0W l7];refine jS (λ_ _ h=>h) hkeep (λb hb=>hoth b ?_) hr';rcases D6.1 hb with hb|hb
   .rcases D6.1 hb with hb|hb
    .exact hneO b (bg.2 ⟨O,lM hO,by simp_all⟩)
    simp_all
   .exact hneO b (bg.2 ⟨O,lM hO,by simp_all⟩)
  .rename_i hj;obtain⟨es2,O',hO2',he2,hr2⟩:=hxs j z hz;refine⟨es2,O',by simp_all,by grind,?_⟩;simp only[a2y];rw[hho' j (λe=>hj e.symm)]at hr2;exact jS (λ_ _ h=>h) hkeep (λb hb=>hoth b (hneO b (bg.2 ⟨O',lM hO2',hb⟩))) hr2
 have hmod:=R.modK hT (n:=bx) (v:=.barrs md (V8 xs idx y) none) (ks:=(Os.set idx (O1++Op++O2)).flatten) (w' :=w') (T' :=[]) x9
  (by rw[hown1];refine az.2 ⟨λh=>?_,hO2.nodup_iff.2 (H8.2 ⟨hndA.1,hT.nodup,λx hx z hz e=>?_⟩)⟩<;>grind)
  (λb hb=>by
   grind)
  hos htp hout hsize (λb hb=>hoth b (λe=>hb (by simp_all))) hB bZ (λb hb=>by grind) (λ_=>hdrn)
 exact hK _ _ w' hmod.1 (λ_ _ h=>h) run
theorem a7R{Q:Unit->Sm->Prop}(R:Rel X cl ch S m ok a w)(hT:Tk X S m ok w Op){i:TI}(hi:TiOk X.P t i)(h1:i.size=1){kn:Int}{ko:Nat}
  (hS:S (Z4+bx)= .barrp md xs kn ko) (hoff:off=ko) (hidx:idx=kn.toNat) {blk o' len cap sz:Nat} (hm:m bx=some (.arr blk o' len cap sz)) {v:V} {u:Value} (hp:Wl w.heap ok v u Op)
  (hK:∀S' m' w',Rel X cl ch S' m' ok a w' ->(∀k l,m k=some l->m' k=some l)->(storeVar t ⟨blk,o' +idx*sz+off,none⟩ u).run X.P w= .ok () w' ->Q () S'):
  (Cmd.opt (P7 xs idx) λx=>K_ md off v x (λy=>Cmd.set (Z4+bx) (.barrp md (V8 xs idx y) (Yu kn) ko) (.ret ())) .fail).post S Q:=by
 refine gG λe0 he0=>?_;have he0' :xs[idx]? =some e0:=he0;obtain⟨hel,hk0,l,Os,hm',ha,hk⟩:=R.own_barrp hS;rw[hm]at hm';cases hm';obtain⟨rfl,rfl,h3,h7,c,T,hh,hs,hxs⟩:=ha;obtain⟨es,O,hO,he,hr⟩:=hxs idx e0 he0';have hho:zM ko kn.toNat idx=none\/zM ko kn.toNat idx=some off:=.inr (by simp_all [zM]);have hsuc:(Yu kn).toNat=kn.toNat+1:=by grind [Yu]
 have hho1:zM ko (Yu kn).toNat idx=none:=by grind [zM]
 have hho' :∀j,j≠idx->zM ko (Yu kn).toNat j=zM ko kn.toNat j:=λj hj=>by
  grind [zM]
 refine MM hp md off hr hho hel λy O1 Old O2 eO hr' hoff=>iP ?_;have hlt:idx<xs.length:=(U8.1 he0').1;have hes:es.length=md.size:=dh hr;have hu1:=hp.one;have huc:=a2g hu1;obtain⟨hfit,hsp,hnew,hold⟩:=VJ (us:=[u]) (off:=off) hh hs h3 hlt he (by grind);have run:=EW hi w (off:=o' +idx*md.size+off) hh (.inl rfl) (v:=u) (by grind) (by simp_all) (by simp_all);rw[huc]at run;generalize hw' :w.setRow blk (eU (o' +idx*md.size+off) [u] c.toList).toArray=w' at run hnew hold;have hrow:w'.heap[blk]? =some (.cells (eU (o' +idx*md.size+off) [u] c.toList).toArray T (0,0)):=by subst hw';exact setRow_heap w blk c _ T (0,0) hh
 have hoth:∀b,b≠blk->w'.heap[b]? =w.heap[b]?:=λb hb=>by grind [setRow_other]
 have hsize:w'.heap.size=w.heap.size:=by subst hw';simp
 have hos:w'.os=w.os:=by subst hw';rfl
 have htp:w'.tape=w.tape:=by subst hw';rfl
 have hdrn:w.drawn<=w'.drawn:=by subst hw';simp
 have hout:w'.output=w.output:=by subst hw';rfl
 have hO1:Os.flatten.Perm ((Os.set idx (O1++O2)).flatten++Old):=um (by grind);have hO2:(Os.set idx (O1++Op++O2)).flatten.Perm ((Os.set idx (O1++O2)).flatten++Op):=by have:=um (Os:=Os.set idx (O1++Op++O2)) (i:=idx) (O1:=O1) (P:=Op) (O2:=O2) (by simp_all);simp_all
 have hown0:V5 m bx (S (Z4+bx))=blk::Os.flatten:=by simp_all [V5]
 have hown1:V5 (EY m bx (Os.set idx (O1++Op++O2)).flatten) bx (.barrp md (V8 xs idx y) (Yu kn) ko)=blk::(Os.set idx (O1++Op++O2)).flatten:=by simp[V5,hm]
 have hnd:=R.nd bx;rw[hown0]at hnd;have hnd0:=az.1 hnd;have hndA:=H8.1 (hO1.nodup_iff.1 hnd0.2);have hfreeOp:∀b∈Op,b∉blk::Os.flatten:=λb hb h=>(hT.free b hb).2.2.2 bx (by simp_all);have hsubA:∀b∈(Os.set idx (O1++O2)).flatten,b∈Os.flatten:=λb hb=>hO1.mem_iff.2 (Y6 _ hb);have hneO:∀b∈Os.flatten,b≠blk:=λb hb e=>hnd0.1 (e▸hb);have hneP:∀b∈Op,b≠blk:=λb hb e=>hfreeOp b hb (by grind);have hkeep:∀b t,ok b t->w'.heap[b]? =w.heap[b]?:=λb t hb=>hoth b (λe=>(R.sep bx blk (by simp_all)).1 t (e▸hb));have hB:Gl ⟨w'.heap,ok,EY m bx (Os.set idx (O1++Op++O2)).flatten⟩ bx (.barrp md (V8 xs idx y) (Yu kn) ko):=by
  refine⟨hel,l7,_,Os.set idx (O1++Op++O2),hm,⟨rfl,by simp[V8],h3,by grind [V8],_,T,hrow,by simp_all,λj z hz=>?_⟩,x9⟩;unfold V8 at hz;rw[J8]at hz;split at hz
  .rename_i hj;subst hj;cases hz;refine⟨_,O1++Op++O2,by simp_all,hnew,?_⟩;rw[a0W l7];show qc w'.heap ok md (zM ko (Yu kn).toNat idx) y _ _;rw[hho1];refine jS (λ_ _ h=>h) hkeep (λb hb=>hoth b ?_) hr';rcases D6.1 hb with hb|hb
   .rcases D6.1 hb with hb|hb
    .exact hneO b (bg.2 ⟨O,lM hO,by simp_all⟩)
    simp_all
   .exact hneO b (bg.2 ⟨O,lM hO,by simp_all⟩)
  .rename_i hj;obtain⟨es2,O',hO2',he2,hr2⟩:=hxs j z hz;refine⟨es2,O',by simp_all,by grind,?_⟩;show qc w'.heap ok md (zM ko (Yu kn).toNat j) z es2 O';rw[hho' j (λe=>hj e.symm)];exact jS (λ_ _ h=>h) hkeep (λb hb=>hoth b (hneO b (bg.2 ⟨O',lM hO2',hb⟩))) hr2
 have hmod:=R.modK hT (n:=bx) (v:=.barrp md (V8 xs idx y) (Yu kn) ko) (ks:=(Os.set idx (O1++Op++O2)).flatten) (w' :=w') (T' :=[]) x9
  (by rw[hown1];refine az.2 ⟨λh=>?_,hO2.nodup_iff.2 (H8.2 ⟨hndA.1,hT.nodup,λx hx z hz e=>?_⟩)⟩<;>grind)
  (λb hb=>by
   grind)
  hos htp hout hsize (λb hb=>hoth b (λe=>hb (by simp_all))) hB bZ (λb hb=>by grind) (λ_=>hdrn)
 exact hK _ _ w' hmod.1 (λ_ _ h=>h) run
theorem b8n{l:List α}{u:α}(h:l[i]? =some u):l.set i u=l:=by apply aB<;>grind
theorem a8P(R:Rel X cl ch S m ok a w){T Op:d4F}(hT:Tk X S m ok w (T++Op)){k0:Option Nat}
  (hS:S (Z4+bx)= .barrs md xs (some (idx,off,k0))) {blk o' len cap sz:Nat} (hm:m bx=some (.arr blk o' len cap sz)) {v:V} {u:Value} (hp:Wl w.heap ok v u Op)
  (hu:fP w.heap blk (o' +idx*sz+off) 1=some [u])
  (hK:∀S' m',Rel X cl ch S' m' ok a w->Tk X S' m' ok w T->(∀k l,m k=some l->m' k=some l)->K.post S' Q):
  (Cmd.opt (P7 xs idx) λx=>K_ md off v x (λy=>Cmd.set (Z4+bx) (.barrs md (V8 xs idx y) none) K) .fail).post S Q:=by
 refine gG λe0 he0=>?_;have he0' :xs[idx]? =some e0:=he0;obtain⟨hel,l,Os,hm',⟨ha,hho⟩,hk⟩:=R.own_barrs hS;rw[hm]at hm';cases hm';obtain⟨rfl,rfl,h3,h7,c,T0,hh,hs,hxs⟩:=ha;obtain⟨es,O,hO,he,hr⟩:=hxs idx e0 he0';rw[Ro]at hr;refine MM hp md off hr (.inr rfl) hel λy O1 Old O2 eO hr' hoff=>iP ?_;have hlt:idx<xs.length:=(U8.1 he0').1;have hes:es.length=md.size:=dh hr;have hnd1:=H8.1 hT.nodup;have hTo:Tk X S m ok w Op:=⟨hnd1.2.1,λb hb=>hT.free b (ed _ hb)⟩;have heu:es[off]? =some u:=by obtain⟨c2,T2,f2,hb2,hn2,e2⟩:=wW he;obtain⟨c3,T3,f3,hb3,hn3,e3⟩:=wW hu<;>grind [List.getElem?_cons_zero]
 rw[b8n heu]at hr';have hO1:Os.flatten.Perm ((Os.set idx (O1++O2)).flatten++Old):=um (by grind);have hO2:(Os.set idx (O1++Op++O2)).flatten.Perm ((Os.set idx (O1++O2)).flatten++Op):=by have:=um (Os:=Os.set idx (O1++Op++O2)) (i:=idx) (O1:=O1) (P:=Op) (O2:=O2) (by simp_all);simp_all
 have hown0:V5 m bx (S (Z4+bx))=blk::Os.flatten:=by simp_all [V5]
 have hown1:V5 (EY m bx (Os.set idx (O1++Op++O2)).flatten) bx (.barrs md (V8 xs idx y) none)=blk::(Os.set idx (O1++Op++O2)).flatten:=by simp[V5,hm]
 have hnd:=R.nd bx;rw[hown0]at hnd;have hnd0:=az.1 hnd;have hndA:=H8.1 (hO1.nodup_iff.1 hnd0.2);have hfreeOp:∀b∈Op,b∉blk::Os.flatten:=λb hb h=>(hTo.free b hb).2.2.2 bx (by simp_all);have hsubA:∀b∈(Os.set idx (O1++O2)).flatten,b∈Os.flatten:=λb hb=>hO1.mem_iff.2 (Y6 _ hb);have hneP:∀b∈Op,b≠blk:=λb hb e=>hfreeOp b hb (by grind);have hB:Gl ⟨w.heap,ok,EY m bx (Os.set idx (O1++Op++O2)).flatten⟩ bx (.barrs md (V8 xs idx y) none):=by refine Qy (Os:=Os.set idx (O1++Op++O2)) hel hm ⟨rfl,by simp[V8],h3,by simp[h7,V8],c,T0,hh,hs,λj z hz=>?_⟩ x9 trivial<;>grind [V8,a2y,NI]
 have hmod:=R.modK hT (n:=bx) (v:=.barrs md (V8 xs idx y) none) (ks:=(Os.set idx (O1++Op++O2)).flatten) (w' :=w) (T' :=T) x9
  (by
   grind)
  (λb hb=>by
   grind)
  rfl rfl rfl rfl (λb hb=>rfl) hB hnd1.1 (λb hb=>⟨.inr (Y6 _ hb),λh=>by
   rw[hown1]at h;have h1:b∉blk::Os.flatten:=λh' =>(hT.free b (Y6 _ hb)).2.2.2 bx (by simp_all)
   grind⟩)
 exact hK _ _ hmod.1 hmod.2 (λ_ _ h=>h)
theorem Xz(R:Rel X cl ch S m ok a w){T:d4F}(hT:Tk X S m ok w T)
  (hK:∀S' m',Rel X cl ch S' m' ok a w->Tk X S' m' ok w T->(∀k l,m k=some l->m' k=some l)->K.post S' Q):(a3Q bx K).post S Q:=by
 refine aO ?_;split
 .rename_i md0 xs0 i0 o0 n hS;refine bP λharr=>iP (aO ?_);split<;>try trivial
  rename_i md xs i o n' hS2;have hne:n≠bx:=λe=>by simp_all
  have hS3:S (Z4+bx)= .barrs md xs (some (i,o,some n')):=by grind [Z5]
  have hn:n' =n:=by simp_all
  subst hn;obtain⟨hel,l,Os,hm',⟨ha,hho⟩,hk⟩:=R.own_barrs hS3;obtain⟨blk,off,len,cap,u,l',rfl,hu,hmn,hvu⟩:=hho;have T1:=Tk.kill R hT n' (λ_ h=>h) (R.nd n');refine a8P (R.kill n') T1 hS2 hm' ?_ hu hK;cases hb2:S (Z4+n')<;>rw[hb2]at harr<;>try cases harr
  .rename_i t2 ys;obtain⟨l2,hm2,ha'⟩:=R.own_arr hb2;have e:=F8 (hmn.symm.trans hm2);subst e;refine .inr (.inl ⟨t2,ys,l',rfl,hvu,Jl ha',?_⟩);cases l'<;>first|(simp[V5,hm2,Loc.blks];done)|cases ha'
  .rename_i md3 ys hole3;obtain⟨hel3,l2,Os3,hm2,⟨ha',hho3⟩,hk'⟩:=R.own_barrs hb2;have e:=F8 (hmn.symm.trans hm2);subst e;rcases hole3 with _|⟨p1,p2,p3⟩
   .refine .inr (.inr ⟨md3,ys,l',Os3,rfl,hel3,hvu,ha',?_⟩);cases l'<;>first|(simp[V5,hm2,Loc.blks,hk'];done)|cases ha'
   .cases harr
 grind
theorem Ku{α:Type}{Q:α->Sm->Prop}{K:Cmd α} :∀(cs:List V) {S:Sm} {m:Mp} (R:Rel X cl ch S m ok a w) {T:d4F} (hT:Tk X S m ok w T)
  (hK:∀S' m',Rel X cl ch S' m' ok a w->Tk X S' m' ok w T->(∀k l,m k=some l->m' k=some l)->K.post S' Q),(Wx cs K).post S Q
 |[],S,m,R,T,hT,hK=>hK S m R hT (λ_ _ h=>h)|v::r,S,m,R,T,hT,hK=>by
  unfold Wx;split
  .exact Xz R hT λS1 m1 R1 T1 k1=>Ku r R1 T1 λS2 m2 R2 T2 k2=>hK S2 m2 R2 T2 (λk l h=>k2 k l (k1 k l h))
  .exact Ku r R hT hK
theorem Ak{α:Type}{Q:α->Sm->Prop}{K:Cmd α} :∀(cs:List V) {S:Sm} {m:Mp} (R:Rel X cl ch S m ok a w) {T:d4F} (hT:Tk X S m ok w T)
  (hK:∀S' m',Rel X cl ch S' m' ok a w->Tk X S' m' ok w T->(∀k l,m k=some l->m' k=some l)->K.post S' Q),(Nu cs K).post S Q
 |[],S,m,R,T,hT,hK=>hK S m R hT (λ_ _ h=>h)|v::r,S,m,R,T,hT,hK=>by
  unfold Nu;split
  .exact Xz R hT λS1 m1 R1 T1 k1=>Ak r R1 T1 λS2 m2 R2 T2 k2=>hK S2 m2 R2 T2 (λk l h=>k2 k l (k1 k l h))
  .refine aO ?_;split
   .exact Ku _ R hT λS1 m1 R1 T1 k1=>Ak r R1 T1 λS2 m2 R2 T2 k2=>hK S2 m2 R2 T2 (λk l h=>k2 k l (k1 k l h))
   .exact Ak r R hT hK
  .exact Ku _ R hT λS1 m1 R1 T1 k1=>Ak r R1 T1 λS2 m2 R2 T2 k2=>hK S2 m2 R2 T2 (λk l h=>k2 k l (k1 k l h))
  .exact Ak r R hT hK
theorem b6K(H:FxOk X)(R:Rel X cl ch S m ok a w){x y:Operand}(ho:o.op= .store t x y):(fM X.E q o).post S (λ_ S' =>kF X cl ch o a w m ok S'):=by
 unfold fM;simp only[ho];cases hd:o.dst with
 |some d=>trivial|none=>
 refine dC R λp hp=>dC R λv hv=>?_;unfold b9m;refine nH H λi hi=>?_;cases p<;>try trivial
 case ptr bx off=>
  obtain⟨blk,hm,hx⟩:=hp;refine aO ?_;split<;>try trivial
  rename_i cs hS;obtain⟨blk',arr,T,hm',hh,hl⟩:=R.own_cells hS;simp only at hm hm';rw[hm]at hm';cases hm';refine yw hv λvs hvs=>bP λhlen=>Gj _ _ _ λhle=>iP ?_;have hlen' :=ik hlen;have hL:=oK hl;have hL2:=oK hvs;have hsz:(a.eval y).cells.size=i.size:=by simp_all
  have hown:V5 m bx (S (Z4+bx))=[blk]:=by simp_all [V5]
  have hfit:off+i.size<=arr.size:=by simp_all
  have run:=EW hi w hh (.inl rfl) (v:=a.eval y) hsz hfit (VC hvs);refine JY ho hd (w' :=w.setRow blk (eU off (a.eval y).cells.toList arr.toList).toArray) (by simp_all [Instr.storeAt,Instr.sureAddr]) ?_ (λ_ _ h=>h) (λ_ _ h=>h);refine R.mod (by simp_all [V5]) x9 rfl rfl rfl x9 (λb hb=>setRow_other w blk b _ (by simp_all)) ?_;refine⟨blk,_,T,hm,setRow_heap w blk arr _ T (0,0) hh,?_⟩;refine c5b (λb t hb=>setRow_other w blk b _ (λe=>(R.sep bx blk (by rw[hown];simp)).1 t (e▸hb))) ?_<;>simp_all [Hm]
 case ep bx ix off=>
  obtain⟨blk,o',len,cap,sz,hm,hlt,hx⟩:=hp;simp only at hm;refine aO ?_;split<;>try trivial
  .rename_i u xs hS;obtain⟨l,hm',ha⟩:=R.own_arr hS;rw[hm]at hm';cases hm';obtain⟨hE0,rfl,rfl,h3,c,T,f,hh,hz,hs,hxs⟩:=ha;refine gG λe0 he0=>?_;obtain⟨es,he,hr⟩:=hxs ix e0 he0;refine yw hv λvs hvs=>bP λhlen=>Gj _ _ _ λhle=>?_;rw[rH]at hle;have hlen' :=ik hlen;have hL2:=oK hvs;have hsz:(a.eval y).cells.size=i.size:=by simp_all
   have hes:=rE he;have hnew:=Hm (off:=off) hvs (qR (C:=⟨w.heap,ok,m⟩) hr);refine Jh (T:=[]) u R Tk.nil hnew λS1 ok1 y1 q1 us us' R1 T1 k1 s1 e1 h1 l1=>?_;cases q1 with
   |cons _ _=>trivial|nil=>
   simp only[jc]at l1;subst l1;simp only[G9]at e1;subst e1;refine aO ?_;split<;>try trivial
   rename_i u' xs' hS1;refine iw λe=>?_;subst e;refine iP ?_;obtain⟨l,hm',ha⟩:=R1.own_arr hS1;rw[hm]at hm';cases hm';obtain⟨_,hszu,hlen2,h3',c',T',f',hh',hz',hs',hxs'⟩:=ha;rw[hh]at hh';cases hh';have hown:V5 m bx (S1 (Z4+bx))=[blk]:=by simp_all [V5]
   have hvl:(a.eval y).cells.toList.length=i.size:=l7;obtain⟨hfit,hsp,hnew2,hold⟩:=VJ (us:=(a.eval y).cells.toList) (off:=off) hh hs h3 hlt he l7;have run:=EW hi w (off:=o' +ix*u'.size+off) hh hz.of (v:=a.eval y) hsz l7 (VC hvs);refine JY ho hd (w' :=w.setRow blk (eU (o' +ix*u'.size+off) (a.eval y).cells.toList c.toList).toArray) (by simp_all [Instr.storeAt,Instr.sureAddr]) ?_ (λ_ _ h=>h) k1;refine R1.mod (by simp_all [V5]) x9 rfl rfl rfl x9 (λb hb=>setRow_other w blk b _ (by simp_all)) ?_;have hkeep:∀b t,ok1 b t->(w.setRow blk (eU (o' +ix*u'.size+off) (a.eval y).cells.toList c.toList).toArray).heap[b]? =w.heap[b]?:=
    λb t hb=>setRow_other w blk b _ (λe=>(R1.sep bx blk (by simp_all)).1 t (e▸hb))
   refine⟨_,hm,hE0,rfl,by grind [V8],h3,_,T,f,setRow_heap w blk c _ T f hh,by simp_all,by simp_all,λj z hz=>?_⟩;unfold V8 at hz;rw[J8]at hz;split at hz
   .rename_i hj;subst hj;split at hz
    .cases hz;exact⟨_,hnew2,gU (λ_ _ h=>h) hkeep h1⟩
    grind
   .rename_i hj;obtain⟨es2,he2,hr2⟩:=hxs' j z hz;have hj2:=(U8.1 hz).1;exact⟨_,(hold j (by simp_all) (λe=>hj e.symm)).trans he2,gU (λ_ _ h=>h) hkeep hr2⟩
  .rename_i md xs hole hS;cases hcd:(md.ownAt off&&Nat.beq i.size 1&&!dX i.td)
   .simp only[cond_false];cases hole with
    |some _=>trivial|none=>
    refine yw hv λvs hvs=>bP λhlen=>gG λe0 he0=>?_;have he0' :xs[ix]? =some e0:=he0;obtain⟨hel,l,Os,hm',⟨ha,hho⟩,hk⟩:=R.own_barrs hS;rw[hm]at hm';cases hm';obtain⟨rfl,rfl,h3,h7,c,T,hh,hs,hxs⟩:=ha;obtain⟨es,O,hO,he,hr⟩:=hxs ix e0 he0';refine WB md off hr hvs λy1 hle hr' =>iP ?_;have hes:es.length=md.size:=dh hr;have hlen' :=ik hlen;have hL2:=oK hvs;have hsz:(a.eval y).cells.size=i.size:=by simp_all
    have hvl:(a.eval y).cells.toList.length=i.size:=l7;obtain⟨hfit,hsp,hnew2,hold⟩:=VJ (us:=(a.eval y).cells.toList) (off:=off) hh hs h3 hlt he l7;have run:=EW hi w (off:=o' +ix*md.size+off) hh (.inl rfl) (v:=a.eval y) hsz l7 (VC hvs);have hown:V5 m bx (S (Z4+bx))=blk::Os.flatten:=by simp_all [V5]
    have hnd:=R.nd bx;rw[hown]at hnd;have hnd0:=az.1 hnd;have hneO:∀b∈Os.flatten,b≠blk:=λb hb e=>hnd0.1 (e▸hb);refine JY ho hd (w' :=w.setRow blk (eU (o' +ix*md.size+off) (a.eval y).cells.toList c.toList).toArray) (by simp_all [Instr.storeAt,Instr.sureAddr]) ?_ (λ_ _ h=>h) (λ_ _ h=>h);have hkeep:∀b t,ok b t->(w.setRow blk (eU (o' +ix*md.size+off) (a.eval y).cells.toList c.toList).toArray).heap[b]? =w.heap[b]?:=
     λb t hb=>setRow_other w blk b _ (λe=>(R.sep bx blk (by simp_all)).1 t (e▸hb))
    refine R.mod (by simp_all [V5]) x9 rfl rfl rfl x9 (λb hb=>setRow_other w blk b _ (λe=>hb (by simp_all))) ?_;refine Qy (Os:=Os) hel hm ⟨rfl,by simp[V8],h3,by grind [V8],_,T,setRow_heap w blk c _ T (0,0) hh,by simp_all,λj z hz=>?_⟩ hk trivial;unfold V8 at hz;rw[J8]at hz;split at hz
    .rename_i hj;subst hj;cases hz;exact⟨_,O,hO,hnew2,jS (λ_ _ h=>h) hkeep (λb hb=>setRow_other w blk b _ (hneO b (bg.2 ⟨O,lM hO,hb⟩))) hr'⟩
    .rename_i hj;obtain⟨es2,O2,hO2,he2,hr2⟩:=hxs j z hz;have hj2:=(U8.1 hz).1;exact⟨_,O2,hO2,(hold j l7 (λe=>hj e.symm)).trans he2,jS (λ_ _ h=>h) hkeep (λb hb=>setRow_other w blk b _ (hneO b (bg.2 ⟨O2,lM hO2,hb⟩))) hr2⟩
   .simp only[cond_true];simp only[A7,aQ]at hcd;obtain⟨⟨_,hsz1⟩,_⟩:=hcd;have hsz1:=ik hsz1;have fin:∀{S' :Sm} {m' :Mp} {w' :World},Rel X cl ch S' m' ok a w' ->(∀k l,m k=some l->m' k=some l)->(storeVar t ⟨blk,o' +ix*sz+off,none⟩ (a.eval y)).run X.P w= .ok () w' ->kF X cl ch o a w m ok S' :=
     λR' hm' run=>JY ho hd (by simp_all [Instr.storeAt,Instr.sureAddr]) R' hm' (λ_ _ h=>h)
    split
    .have hv' :a.eval y= .slice none 0 0:=hv;exact Yl (Op:=[]) R Tk.nil hi hsz1 hS hm (.inl ⟨rfl,hv',rfl⟩) (λS' m' w' R' h' run=>fin R' h' run)
    .rename_i b2;obtain⟨l2,hm2,hv2⟩:=hv;simp only at hm2;refine aO ?_;refine bP λharr=>iP (aO ?_);split<;>try trivial
     rename_i md2 xs2 hole2 hS2;have T1:=Tk.kill R (T:=[]) Tk.nil b2 (bs:=V5 m b2 (S (Z4+b2))) (λ_ h=>h) (R.nd b2);rw[P6]at T1;refine Yl (R.kill b2) T1 hi hsz1 hS2 hm ?_ (λS' m' w' R' h' run=>fin R' h' run);cases hb2:S (Z4+b2)<;>rw[hb2]at harr<;>try cases harr
     .rename_i t2 ys;obtain⟨l',hm',ha'⟩:=R.own_arr hb2;rw[hm2]at hm';cases hm';refine .inr (.inl ⟨t2,ys,l2,rfl,hv2,Jl ha',?_⟩);cases l2<;>first|(simp[V5,hm2,Loc.blks];done)|cases ha'
     .rename_i md3 ys hole3;obtain⟨hel3,l',Os,hm',⟨ha',hho⟩,hk'⟩:=R.own_barrs hb2;rw[hm2]at hm';cases hm';rcases hole3 with _|⟨p1,p2,p3⟩
      .refine .inr (.inr ⟨md3,ys,l2,Os,rfl,hel3,hv2,ha',?_⟩);cases l2<;>first|(simp[V5,hm2,Loc.blks,hk'];done)|cases ha'
      .cases harr
    .trivial
  .rename_i md xs kn ko hS;refine bP λhcd=>?_;simp only[A7,aQ]at hcd;obtain⟨⟨hoff,hsz1⟩,_⟩:=hcd;have hsz1:=ik hsz1;have hoff:=ik hoff;have fin:∀{S' :Sm} {m' :Mp} {w' :World},Rel X cl ch S' m' ok a w' ->(∀k l,m k=some l->m' k=some l)->(storeVar t ⟨blk,o' +ix*sz+off,none⟩ (a.eval y)).run X.P w= .ok () w' ->kF X cl ch o a w m ok S' :=
    λR' hm' run=>JY ho hd (by simp_all [Instr.storeAt,Instr.sureAddr]) R' hm' (λ_ _ h=>h)
   split<;>try trivial
   rename_i b2;obtain⟨l2,hm2,hv2⟩:=hv;simp only at hm2;refine aO ?_;refine bP λharr=>iP (aO ?_);split<;>try trivial
   rename_i md2 xs2 kn2 ko2 hS2;have hb2x:b2≠bx:=λe=>by simp_all
   have hko:ko2=ko:=by
    grind [Z5]
   refine⟨λhidx=>?_,λ_=>trivial⟩;have hidx:ix=kn2.toNat:=ik hidx;have T1:=Tk.kill R (T:=[]) Tk.nil b2 (bs:=V5 m b2 (S (Z4+b2))) (λ_ h=>h) (R.nd b2);rw[P6]at T1;refine a7R (R.kill b2) T1 hi hsz1 hS2 (hoff.trans hko.symm) hidx hm ?_ (λS' m' w' R' h' run=>fin R' h' run);cases hb2:S (Z4+b2)<;>rw[hb2]at harr<;>try cases harr
   .rename_i t2 ys;obtain⟨l',hm',ha'⟩:=R.own_arr hb2;rw[hm2]at hm';cases hm';refine .inr (.inl ⟨t2,ys,l2,rfl,hv2,Jl ha',?_⟩);cases l2<;>first|(simp[V5,hm2,Loc.blks];done)|cases ha'
   .rename_i md3 ys hole3;obtain⟨hel3,l',Os,hm',⟨ha',hho⟩,hk'⟩:=R.own_barrs hb2;rw[hm2]at hm';cases hm';rcases hole3 with _|⟨p1,p2,p3⟩
    .refine .inr (.inr ⟨md3,ys,l2,Os,rfl,hel3,hv2,ha',?_⟩);cases l2<;>first|(simp[V5,hm2,Loc.blks,hk'];done)|cases ha'
    .cases harr
theorem ZE{c:Nat}{u:V}{x:Value}{K:Nat->Cmd α}(R:Rel X cl ch S m ok a w)(hu:nU ⟨w.heap,ok,m⟩ u x)
  (hK:∀b l v,m b=some l->l.view none v->atV w.heap c x v->(∀a1 a2 a3,atV w.heap c x (.slice a1 a2 a3)->v= .slice a1 a2 a3)->(K b).post S Q):(b1p c u K).post S Q:=by
 unfold b1p;split<;>try trivial
 .rename_i b;obtain⟨l,hm,hv⟩:=hu;refine hK b l x hm hv (.inl rfl) λa1 a2 a3 h=>?_;rcases h with h|⟨_,_,_,_,h,_⟩
  .omega
  .rw[h]at hv;cases l<;>simp[Loc.view]at hv
 .obtain⟨blk,hm,hx⟩:=hu;refine aO ?_;split<;>try trivial
  rename_i cs hS;obtain⟨blk',arr,T,hm',hh,hl⟩:=R.own_cells hS;rw[hm]at hm';cases hm';refine Ei λhle=>?_;split<;>try trivial
  rename_i b hcs;have hl1:=zJ 1 (xW c hl);rw[hcs]at hl1;obtain⟨v,r,e,⟨l,hmb,hv⟩,_,_⟩:=hl1;have hcv:arr.toList[c]? =some v:=by
   have:=congrArg (λl=>l[0]?) e
   grind
  refine hK b l v hmb hv (.inr ⟨blk,arr,T,_,hx,hh,hcv⟩) λa1 a2 a3 h=>?_;rcases h with h|⟨b',arr',T',f',h,h2,h3⟩<;>simp_all
theorem a3q(R:Rel X cl ch S m ok a w){l:Loc}(hm:m b=some l)
  (hK:(∀blk off len cap sz',l= .arr blk off len cap sz' ->sz' =sz)->K.post S Q):(c1T b sz K).post S Q:=by
 refine aO ?_;split<;>try trivial
 .rename_i md xs hole hS;refine bP λh=>hK λblk off len cap sz' e=>?_;subst e;obtain⟨_,l,Os,hm',⟨ha,_⟩,_⟩:=R.own_barrs hS;rw[hm]at hm';cases hm';exact ha.1.trans (ik h)
 .rename_i t xs hS;refine bP λh=>hK λblk off len cap sz' e=>?_;subst e;obtain⟨l,hm',ha⟩:=R.own_arr hS;rw[hm]at hm';cases hm';exact ha.2.1.trans (ik h)
theorem Wq{α:Type}{Q:α->Sm->Prop}(R:Rel X cl ch S m ok a w):∀(als:List (Nat×Nat×Option (Nat×Nat×Nat×Nat))) {K:Cmd α}
  (hK:(∀p∈als,alR w.heap a.tmps p)->K.post S Q),(b2X als K).post S Q
 |[],K,hK=>hK (λp hp=>by grind)|(n,k,none)::r,K,hK=>by
  refine bP λhb=>?_;simp only[A7]at hb;refine bP λhv=>Wq R r λh=>hK λp hp=>?_;rcases C9.1 hp with rfl|hp
  .have h1:=hb.1;have h2:=hb.2;rw[dA]at h1 h2;exact b8j hv (R.slot n h1) (R.slot k h2)
  simp_all
 |(n,k,some (c,j,o2,sz))::r,K,hK=>by
  refine bP λhb=>?_;simp only[A7]at hb;obtain⟨⟨h1,h2⟩,h3⟩:=hb;rw[dA]at h1 h2 h3;refine aO (aO (aO ?_));have hn:=R.slot n h1;have hj:=R.slot j h3;split<;>try trivial
  rename_i b' i o' k2 y hSn hSj;rw[hSn]at hn;rw[hSj]at hj;obtain⟨blk,off,len,cap,sz',hmb,hlt,hx⟩:=hn;refine ZE R (R.slot k h2) λb l v hm hv hat _=>bP λhbb=>?_;simp only[A7]at hbb;have e1:=ik hbb.1;have e2:=ik hbb.2;subst e1;subst e2;rw[hm]at hmb;cases hmb;refine a3q R hm λhsz=>⟨λhi=>?_,λ_=>trivial⟩;have hi:=ik hi;have hsz:=hsz _ _ _ _ _ rfl;subst hsz;subst hi;subst hv;refine Wq R r λh=>hK λp hp=>?_;rcases C9.1 hp with rfl|hp
  .exact⟨blk,off,len,cap,k2,y,hat,hj,hlt,hx⟩
  simp_all
theorem l_{sg:Sig}{Q:jY sg->Sm->Prop}(R:Rel X cl ch S m ok a w)
  (hK:∀S' m' ok' y O,Rel X cl ch S' m' ok' a w->Tk X S' m' ok' w O->(∀k l,m k=some l->m' k=some l)->(∀b t,ok b t->ok' b t)->
   TJ w.heap ok' sg y a.tmps O->Q y S'):(j_ sg).post S Q:=by
 refine Wq R _ λhals=>XG _ R.slot λvs hvs=>?_;refine Ak _ R Tk.nil λS1 m1 R1 T1 k1=>?_;refine a6m _ R1 T1 (a4O k1 hvs) λS' ok' y O R' T' k s h=>?_;exact hK S' m1 ok' y O R' T' k1 k ⟨h,hals⟩
theorem QJ{Q:Unit->Sm->Prop} :∀(als:List (Nat×Nat×Option (Nat×Nat×Nat×Nat))) {S:Sm} (R:Rel X cl ch S m ok a w) (h:∀p∈als,alR w.heap a.tmps p)
  (hK:∀S',Rel X cl ch S' m ok a w->Q () S'),(Xm als).post S Q
 |[],S,R,h,hK=>hK S R
 |(n,k,none)::r,S,R,h,hK=>by refine bP λhb=>?_;simp only[A7]at hb;have h1:=hb.1;have h2:=hb.2;rw[dA]at h1 h2;refine QJ r (R.slotV h1 ?_) (λp hp=>h p (X9 _ hp)) hK;have e:=h (n,k,none) kT;rw[e];exact R.slot k h2|(n,k,some (c,j,o2,sz))::r,S,R,h,hK=>by
  refine bP λhb=>?_;simp only[A7]at hb;obtain⟨⟨h1,h2⟩,h3⟩:=hb;rw[dA]at h1 h2 h3;refine aO (aO ?_);have hj:=R.slot j h3;split<;>try trivial
  rename_i k2 y hSj;rw[hSj]at hj;obtain⟨blk,off,len,cap,q2,y2,hat,hj2,hlt,hn⟩:=h (n,k,some (c,j,o2,sz)) kT;have ey:y2=y:=by have hj:a.tmps.getD j Go.undef= .int k2 y:=hj;simp_all
  subst ey;refine ZE R (R.slot k h2) λb l v hm hv _ huniq=>a3q R hm λhsz=>iP ?_;have ev:=huniq _ _ _ hat
  subst ev;refine QJ r (R.slotV h1 ?_) (λp hp=>h p (X9 _ hp)) hK;cases l with
  |nil=>grind [Loc.view]|st b=>cases hv|mp b=>grind [Loc.view]
  |arr blk' off' len' cap' sz' =>have e:=hsz _ _ _ _ _ rfl;subst e;injection hv with e1 e2 e3;injection e1 with e1;injection e1 with e1 e4;subst e1;subst e2;subst e3;subst e4;exact⟨blk,off,len,cap,sz',hm,hlt,hn⟩
theorem a8L{sg:Sig}{x:jY sg}{nb lim:Nat}{Q:Unit->Sm->Prop}{O:d4F}(R:Rel X cl ch S m ok a w)(hcl:cl<=nb)(hT:Tk X S m ok w O)
  (h:TJ w.heap ok sg x a.tmps O)
  (hK:∀S' m',Rel X cl (max ch lim) S' m' ok a w->(∀k l,m k=some l->m' k=some l)->Q () S'):(b5F sg x nb lim).post S Q:=by
 refine NE (T:=[]) _ R hcl (by simp_all) h.1 λS1 m1 vs n1 ch1 R1 c1 T1 k1 s1 l1 e1=>?_;cases hb:Nat.ble n1 lim
 .trivial
 .have:=X4 hb;exact Oo _ (R1.chmono l7) l1 λS' R' =>QJ _ R' h.2 λS'' R'' =>hK S'' m1 R'' k1
end
end Go.GP
namespace Go.GP
variable {t:TypeId}{q:Nat}{f:Nat}{P:Program}{α:Type}{j:TI}{x:Operand}{sz:Nat}
section
variable {X:Fx} {cl ch:Nat} {S:Sm} {m:Mp} {ok:Nat->Ty->Prop} {a:Act} {w:World} {o:Oper}
theorem SY(H:FxOk X){t f off n:Nat}{ag:Bool}(h:UL X.E t f=some (off,n,ag)):
  ∃fields fld j,X.P.underlying t=some (.struct fields)/\fields[f]? =some fld/\fld.offset=off/\TiOk X.P fld.type j/\j.size=n/\n≠0/\ag=dX j.td:=by
 unfold UL at h;cases hi:fZ X.E.tt t with
 |none=>simp_all|some i=>
  have Hi:=H.tt t i hi;have htd:=Hi.td;simp[hi]at h;cases hd:i.td<;>simp[hd]at h<;>try (simp at h)
  rename_i fs;rw[hd]at htd;obtain⟨fields,hu,hf⟩:=htd;cases hfs:fs[f]? with
  |none=>simp_all|some x=>
   obtain⟨ft,off'⟩:=x;simp[hfs]at h;cases hj:fZ X.E.tt ft with
   |none=>simp_all|some j=>
    simp[hj]at h;cases hb:Nat.beq j.size 0
    .simp[hb,cond_false,E9,aH]at h;obtain⟨rfl,rfl,rfl⟩:=h;rw[←hf]at hfs;simp at hfs;obtain⟨fld,hfl,he⟩:=hfs;obtain⟨rfl,rfl⟩:=he;refine⟨fields,fld,j,hu,by simpa using hfl,rfl,H.tt _ _ hj,rfl,λe=>?_,rfl⟩<;>simp_all
    simp_all
theorem QH{t f off:Nat}{fields:Array Field}{fld:Field}(w:World)(hu:P.underlying t=some (.struct fields))(hf:fields[f]? =some fld)(ho:fld.offset=off)
  (hj:TiOk P fld.type j) (hn:j.size≠0) (b p:Nat):(Instr.fieldAt t (.pointer (some ⟨b,p,none⟩)) f).run P w= .ok (.pointer (some ⟨b,p+off,none⟩)) w:=by
 simp[Instr.fieldAt,run_underlying hu,hf,Instr.sureAddr,fieldPlace,yT hj,hn,kL,ho]
theorem a4t(H:FxOk X)(R:Rel X cl ch S m ok a w)(ho:o.op= .fieldAddr t x f):(fM X.E q o).post S (λ_ S' =>kF X cl ch o a w m ok S'):=by
 unfold fM;simp[ho];refine dC R λp hp=>?_;split<;>try trivial
 rename_i off n ag hfo;obtain⟨fields,fld,j,hu,hf,hoff,hj,hn,hn0,_⟩:=SY H hfo;have hj0:j.size≠0:=l7;cases p<;>try trivial
 case ptr bx o' =>obtain⟨blk,h1,h2⟩:=hp;exact dH H R ⟨blk,h1,rfl⟩ (by simp[execOp,ho,h2,QH w hu hf hoff hj hj0])
 case ep bx ix o' =>obtain⟨blk,o2,len,cap,sz,h1,h2,h3⟩:=hp;exact dH H R ⟨blk,o2,len,cap,sz,h1,h2,rfl⟩ (by simp[execOp,ho,h3,QH w hu hf hoff hj hj0,jm])
 case dp u y o' =>obtain⟨blk,o2,es,h1,h2⟩:=hp;exact dH H R ⟨blk,o2,es,rfl,h2⟩ (by simp[execOp,ho,h1,QH w hu hf hoff hj hj0,jm])
theorem d4A(H:FxOk X)(R:Rel X cl ch S m ok a w)(ho:o.op= .field t x f):(fM X.E q o).post S (λ_ S' =>kF X cl ch o a w m ok S'):=by
 unfold fM;simp[ho];refine dC R λp hp=>?_;split<;>try trivial
 rename_i off n ag hfo;obtain⟨fields,fld,j,hu,hf,hoff,hj,hn,hn0,rfl⟩:=SY H hfo;refine Kt hp λps us hg hl=>Ei λhle=>?_;obtain⟨arr,hx,rfl⟩:=hg;have hL:=oK hl;have hlen:((arr.toList.drop off).take n).length=n:=by grind
 refine dH H R (JV (zJ n (xW off hl)) (λha=>by rw[hlen,←hn];exact hj.one ha)) ?_;have hpart:(part fld.type arr off).run X.P w= .ok (a3w (dX j.td) ((arr.toList.drop off).take n)) w:=by
  unfold part;rw[H5,MX hj.td];cases ha:dX j.td
  .have h1:=hj.one ha;simp[Bool.false_eq_true,if_false,a3w];have:n=1:=l7;simp_all [List.take_one]
  .simp[if_true,a3w,H5,yT hj,N7,hn,bJ];congr 2
   grind
 simp_all [execOp,Instr.field,run_underlying,asAgg]
theorem NC(H:FxOk X){t n sz:Nat}(h:Nz X.E t=some (false,n,sz)):∃e j,X.P.underlying t=some (.slice e)/\TiOk X.P e j/\j.size=sz:=by
 unfold Nz at h;cases hi:fZ X.E.tt t with
 |none=>simp_all|some i=>
  have htd:=(H.tt t i hi).td;simp[hi]at h;cases hd:i.td<;>simp[hd]at h<;>try (simp at h)
  .rename_i e;rw[hd]at htd;cases hj:fZ X.E.tt e with
   |none=>simp_all|some j=>simp[hj]at h;exact⟨e,j,htd,H.tt _ _ hj,h.2⟩
  grind
theorem a8K(H:FxOk X){t n sz:Nat}(h:Nz X.E t=some (true,n,sz)):∃e j,X.P.underlying t=some (.array n e)/\TiOk X.P e j/\j.size=sz:=by
 unfold Nz at h;cases hi:fZ X.E.tt t with
 |none=>simp_all|some i=>
  have htd:=(H.tt t i hi).td;simp[hi]at h;cases hd:i.td<;>simp[hd]at h<;>try (simp at h)
  .grind
  .rename_i l e;rw[hd]at htd;cases hj:fZ X.E.tt e with
   |none=>simp_all|some j=>simp[hj]at h;obtain⟨rfl,h⟩:=h;exact⟨e,j,htd,H.tt _ _ hj,h⟩
theorem CE{l:List α}{n:Int}{y:α}(h:H9 l n=some y):0<=n/\l[n.toNat]? =some y/\n.toNat<l.length/\n<l.length:=by
 grind [H9]
theorem xY{t e:TypeId}(w:World)(hu:P.underlying t=some (.slice e))(hj:TiOk P e j){k:IntKind}{n:Int}{b p len cap:Nat}(h0:0<=n)(hlt:n<len):
  (Instr.indexAt t (.slice (some ⟨b,p,none⟩) len cap) (.int k n)).run P w= .ok (.pointer (some ⟨b,p+n.toNat*j.size,none⟩)) w:=by
 simp[Instr.indexAt,asIntOf,run_underlying hu,h0,hlt,yT hj,kL]
theorem VL{t e:TypeId}(w:World){len:Nat}(hu:P.underlying t=some (.array len e))(hj:TiOk P e j){k:IntKind}{n:Int}{b p:Nat}(h0:0<=n)(hlt:n<len):
  (Instr.indexAt t (.pointer (some ⟨b,p,none⟩)) (.int k n)).run P w= .ok (.pointer (some ⟨b,p+n.toNat*j.size,none⟩)) w:=by
 simp[Instr.indexAt,asIntOf,run_underlying hu,h0,hlt,yT hj,kL,Instr.sureAddr]
theorem DC{w:World}{r:Nat}{es:Array MapEntry}{ck:Nat}(hb:w.heap[r]? =some (.map es ck)):(getObj r).run P w= .ok (.map es ck) w:=by
 grind [getObj,Sem.run]
theorem Hy{u:Ty}(h:szB sz u=true):u.isEnt=false/\sz=u.size:=by simp_all [szB]
theorem b4J{C:Cx}{t:Ty}{xs:List t.den}{l:Loc}{vw:Option (Nat×Nat)}{v:Value}(h0:t.isEnt=false)(ha:arrOk C t xs l)(hv:l.view vw v){i:Nat}{y:t.den}(hy:(lF vw xs)[i]? =some y):
  ∃blk off len cap,l= .arr blk off len cap t.size/\xs[a6F vw+i]? =some y/\∃p c,v= .slice (some ⟨blk,p,none⟩) (lF vw xs).length c/\p+i*t.size=off+(a6F vw+i)*t.size:=by
 cases l with
 |nil=>obtain⟨ha,_⟩:=ha;subst ha;rcases vw with _|⟨lo,hi⟩<;>simp[lF,lJ]at hy
 |st b=>cases ha|mp b=>exact absurd ha.1 (by grind)
 |arr blk off len cap sz=>obtain⟨_,rfl,rfl,hc,_⟩:=ha;rcases vw with _|⟨lo,hi⟩<;>grind [Loc.view,a6F,lF,lJ]
theorem a4u(H:FxOk X)(R:Rel X cl ch S m ok a w){x ix:Operand}(ho:o.op= .indexAddr t x ix):(fM X.E q o).post S (λ_ S' =>kF X cl ch o a w m ok S'):=by
 unfold fM;simp[ho];refine dC R λu hu=>dC R λv hv=>?_;unfold B_;split<;>try trivial
 ·
  rename_i k n l sz hsz;obtain⟨e,j,hut,hj,hjs⟩:=NC H hsz;have hix:=xX hv;cases u<;>try trivial
  case sl u xs=>refine eP λhb=>gG λy hy=>?_;obtain⟨hE0,hb'⟩:=Hy hb;obtain⟨h0,hget,hlt,hlt'⟩:=CE hy;obtain⟨ad,cap,hx,hc,hel⟩:=(DJ hE0).1 hu;simp at hx;obtain⟨blk,off,es,rfl,hok,he,hr⟩:=hel _ y hget;refine dH H R ⟨blk,off+n.toNat*u.size,es,rfl,hok,he,hr⟩ ?_;simp[execOp,ho,hx,hix,xY w hut hj h0 hlt',hjs,hb']
  case own bx vw=>
   obtain⟨loc,hm,hview⟩:=hu;refine aO ?_;split
   .rename_i ln sz' hSl;split<;>try trivial
    refine bP λhb=>⟨λhin=>?_,λ_=>trivial⟩;have hb' :=ik hb;have hin' :=of_decide_eq_true (show decide (0<=n/\n<ln)=true from hin);have hbx:=R.box (TG+bx);rw[hSl]at hbx;obtain⟨k',l',e,hm',hl⟩:=hbx;have e' :k' =bx:=l7;subst e';rw[hm]at hm';cases hm';cases loc with
    |nil=>omega|st b=>grind|mp b=>grind|arr blk off len cap sz2=>obtain⟨rfl,rfl⟩:=hl;simp[Loc.view]at hview;refine dH H R (x:=.pointer (some ⟨blk,off+n.toNat*sz',none⟩)) ⟨blk,off,len,cap,sz',hm,by simp_all [O9],rfl⟩ ?_;simp[execOp,ho,hview,hix,xY w hut hj hin'.1 hin'.2,hjs,hb']
   refine aO ?_;split<;>try trivial
   .rename_i u xs hS;refine eP λhb=>gG λy hy=>?_;obtain⟨hE0,hb'⟩:=Hy hb;obtain⟨h0,hget,hlt,hlt'⟩:=CE hy;obtain⟨loc',hm',ha⟩:=R.own_arr hS;rw[hm]at hm';cases hm';obtain⟨blk,off,len,cap,rfl,hx2,p,c,hvv,hp⟩:=b4J hE0 ha hview hget;have hlen:=ha.2.2.1;have hlt2:=(U8.1 hx2).1;rw[c0y];refine dH H R (x:=.pointer (some ⟨blk,p+n.toNat*u.size,none⟩)) ⟨blk,off,len,cap,u.size,hm,by rw[hlen];exact hlt2,by rw[hp];rfl⟩ ?_;simp[execOp,ho,hvv,hix,xY w hut hj h0 hlt',hjs,hb']
   .rename_i u xs hS;refine eP λhb=>gG λy hy=>?_;obtain⟨hE0,hb'⟩:=Hy hb;obtain⟨h0,hget,hlt,hlt'⟩:=CE hy;obtain⟨loc',hm',ha,hok⟩:=R.own_frz hS;rw[hm]at hm';cases hm';obtain⟨ad,cap,hx,hc,hel⟩:=(DJ hE0).1 (tN ha hview (λ_ _ h=>h) hok);simp at hx;obtain⟨blk,off,es,rfl,hok',he,hr⟩:=hel _ y hget;refine dH H R ⟨blk,off+n.toNat*u.size,es,rfl,hok',he,hr⟩ ?_;simp[execOp,ho,hx,hix,xY w hut hj h0 hlt',hjs,hb']
   .rename_i md xs hole hS;split<;>try trivial
    refine bP λhb=>gG λy hy=>?_;have hb' :=ik hb;obtain⟨h0,hget,hlt,hlt'⟩:=CE hy;obtain⟨hel,loc',Os,hm',⟨ha,hho⟩,hk⟩:=R.own_barrs hS;rw[hm]at hm';cases hm';cases loc with
    |st b=>cases ha|mp b=>cases ha|nil=>obtain⟨e1,_⟩:=ha<;>simp_all
    |arr blk off len cap sz' =>obtain⟨rfl,rfl,h3,_⟩:=ha;simp[Loc.view]at hview;refine dH H R (x:=.pointer (some ⟨blk,off+n.toNat*md.size,none⟩)) ⟨blk,off,xs.length,cap,md.size,hm,hlt,rfl⟩ ?_;simp[execOp,ho,hview,hix,xY w hut hj h0 hlt',hjs,hb']
   .rename_i md xs kn ko hS;split<;>try trivial
    refine bP λhb=>gG λy hy=>?_;have hb' :=ik hb;obtain⟨h0,hget,hlt,hlt'⟩:=CE hy;obtain⟨hel,_,loc',Os,hm',ha,hk⟩:=R.own_barrp hS;rw[hm]at hm';cases hm';cases loc with
    |st b=>cases ha|mp b=>cases ha|nil=>obtain⟨e1,_⟩:=ha<;>simp_all
    |arr blk off len cap sz' =>obtain⟨rfl,rfl,h3,_⟩:=ha;simp[Loc.view]at hview;refine dH H R (x:=.pointer (some ⟨blk,off+n.toNat*md.size,none⟩)) ⟨blk,off,xs.length,cap,md.size,hm,hlt,rfl⟩ ?_;simp[execOp,ho,hview,hix,xY w hut hj h0 hlt',hjs,hb']
 ·
  rename_i k n l sz hsz;obtain⟨e,j,hut,hj,hjs⟩:=a8K H hsz;have hix:=xX hv;cases u<;>try trivial
  case glob g=>
   cases hg:fZ X.E.gl g with
   |none=>simp[hg];trivial|some p=>
   obtain⟨u,xs⟩:=p;simp[hg];refine eP λhb=>gG λy hy=>?_;simp only[A7]at hb;have hb2:=ik hb.2;obtain⟨h0,hget,hlt,hlt'⟩:=CE hy;obtain⟨hok,_,hel⟩:=R.gl g _ hg;obtain⟨es,he,hr⟩:=hel _ y hget;have hx:a.eval x= .pointer (some ⟨g,0,none⟩):=hu;refine dH H R (x:=.pointer (some ⟨g,0+n.toNat*u.size,none⟩)) ⟨g,n.toNat*u.size,es,x9,hok,he,hr⟩ ?_;have:=VL w hut hj (k:=k) (b:=g) (p:=0) h0 l7;simp_all [execOp]
  case ptr bx off=>refine⟨λhin=>?_,λ_=>trivial⟩;have hin' :=of_decide_eq_true (show decide (0<=n/\n<(l:Int))=true from hin);obtain⟨blk,hm,hx⟩:=hu;refine dH H R (x:=.pointer (some ⟨blk,off+n.toNat*sz,none⟩)) ⟨blk,hm,rfl⟩ ?_;have:=VL w hut hj (k:=k) (b:=blk) (p:=off) hin'.1 hin'.2;simp_all [execOp]
theorem d_{Q:α->Sm->Prop}(R:Rel X cl ch S m ok a w){all:List V}{xall:d4E}(hall:jk ⟨w.heap,ok,m⟩ all xall):∀(ms:List MG) {vs:List V} {xs:d4E} {K:Cmd α}
  (hv:jk ⟨w.heap,ok,m⟩ vs xs) (hK:Zh w.heap xall ms xs->K.post S Q),(dvC all ms vs K).post S Q:=by
 intro ms;induction ms with
 |nil=>
  intro vs xs K hv hK;cases vs with
  |nil=>exact hK trivial|cons v vs=>trivial
 |cons md ms ih=>
  intro vs xs K hv hK;obtain⟨g,md⟩:=md;cases vs with
  |nil=>cases md<;>trivial|cons v vs=>
   obtain⟨x,r,rfl,h1,h2⟩:=hv;cases md
   all_goals
    exact ih h2 λhd=>hK hd
theorem b6e{α β:Type}{f:α->β}{args:Array α}{u:β}(h:args.toList.map f=[u]):∃y,args=#[y]/\f y=u:=by
 grind [List.map_eq_cons_iff,List.map_eq_nil_iff]
theorem a6C{α β:Type}{f:α->β}{args:Array α}{u v:β}(h:args.toList.map f=[u,v]):∃y z,args=#[y,z]/\f y=u/\f z=v:=by
 grind [List.map_eq_cons_iff,List.map_eq_nil_iff]
theorem c4S(H:FxOk X)(R:Rel X cl ch S m ok a w){c:Call}(ho:o.op= .call c)(hc:c.callee= .builtin .len):(fM X.E q o).post S (λ_ S' =>kF X cl ch o a w m ok S'):=by
 obtain⟨cal,args,ats⟩:=c;simp only at hc;subst hc;unfold fM;simp only[ho];refine mF R _ λvs hvs=>?_;split<;>try trivial
 rename_i t rt x hat
 obtain⟨u,r,he,hx,hr⟩:=hvs;simp only[jk]at hr;subst hr;refine nH H λi hi=>?_;have htd:=hi.td;obtain⟨y,rfl,rfl⟩:=b6e he;have h0:ats[0]? =some t:=by obtain⟨l⟩:=ats<;>simp_all
 have fin:∀(v:V) (n:Nat),nU ⟨w.heap,ok,m⟩ v (.int .i64 n)->(Builtin.len_ ats o.type #[a.eval y]).run X.P w= .ok (.int .i64 n) w->(gW X.E o.dst v).post S (λ_ S' =>kF X cl ch o a w m ok S'):=λv n hv h=>
  dH H R hv (by simp[execOp,ho,resolve,invoke,builtin,h])
 have mapLen:∀{ke e n:Nat},X.P.underlying t=some (.map ke e)->(∃mv,a.eval y= .map mv/\(mv=none->n=0)/\∀blk,mv=some blk->∃es ck,w.heap[blk]? =some (.map es ck)/\xF es ck n)->
   (gW X.E o.dst (.i .i64 n)).post S (λ_ S' =>kF X cl ch o a w m ok S'):=λ{ke e n} hu ⟨mv,hv,h1,h2⟩=>by
  refine fin _ n rfl ?_;cases mv with
  |none=>simp_all [Builtin.len_,run_underlying,goInt]|some blk=>obtain⟨es,ck,h3,h4⟩:=h2 blk rfl;simp[Builtin.len_,h0,run_underlying hu,hv,goInt,DC h3,h4.1]
 unfold c8j;split<;>try trivial
 .rename_i l htd';rw[htd']at htd;refine fin _ l.length rfl ?_;simp[Builtin.len_,h0,run_underlying (show X.P.underlying t=some .string from htd),QA hx,goInt];rfl
 .rename_i e u xs htd';rw[htd']at htd;cases hE0:u.isEnt
  .simp only[cond_false];obtain⟨ad,cap,hv,_⟩:=(DJ hE0).1 hx;refine fin _ xs.length rfl ?_;simp[Builtin.len_,h0,run_underlying (show X.P.underlying t=some (.slice e)from htd),hv,goInt]
  .trivial
 .rename_i ke e u xs htd';rw[htd']at htd;cases hE0:u.isEnt
  .trivial
  .simp only[cond_true];refine mapLen htd ?_;obtain⟨mv,hv,h1,h2⟩:=(a4Q hE0).1 hx;exact⟨mv,by simp_all,(λe=>by simp_all),λblk hb=>by grind⟩
 .rename_i ke e bx htd';rw[htd']at htd;obtain⟨loc,hm,hview⟩:=hx;simp only at hm;refine aO ?_;have key:∀{u:Ty} {xs:List u.den},u.isEnt=true->arrOk ⟨w.heap,ok,m⟩ u xs loc->(gW X.E o.dst (.i .i64 (o9 xs))).post S (λ_ S' =>kF X cl ch o a w m ok S'):=λ{u xs} hE0 ha=>by
   refine mapLen htd ?_;cases loc with
   |nil=>exact absurd ha.2 (by grind)|st b=>cases ha|arr blk off len cap sz=>exact absurd ha.1 (by grind)|mp b=>simp only[Loc.view]at hview;obtain⟨_,es,ck,h3,h4,_⟩:=ha<;>grind
  split<;>try trivial
  .rename_i u xs hS;obtain⟨loc',hm',ha⟩:=R.own_arr hS;rw[hm]at hm';cases hm';cases hE0:u.isEnt
   .trivial
   simp_all
  .rename_i u xs hS;obtain⟨loc',hm',ha,_⟩:=R.own_frz hS;rw[hm]at hm';cases hm';cases hE0:u.isEnt
   .trivial
   simp_all
 .rename_i e htd';rw[htd']at htd;have hv:a.eval y= .slice none 0 0:=hx;refine fin _ 0 rfl ?_;simp[Builtin.len_,h0,run_underlying (show X.P.underlying t=some (.slice e)from htd),hv,goInt]
 .rename_i e bx vw htd';rw[htd']at htd;obtain⟨loc,hm,hview⟩:=hx;refine aO ?_;split
  .rename_i ln sz' hSl;split<;>try trivial
   have hbx:=R.box (TG+bx);rw[hSl]at hbx;obtain⟨k',l',e',hm',hl⟩:=hbx;have e2:k' =bx:=l7;subst e2;simp only at hm hm';rw[hm]at hm';cases hm';cases loc with
   |nil=>simp only at hl;subst hl;simp only[Loc.view]at hview;refine fin _ 0 rfl ?_;simp[Builtin.len_,h0,run_underlying (show X.P.underlying t=some (.slice e)from htd),hview,goInt]|st b=>grind|mp b=>grind|arr blk off len cap sz2=>obtain⟨rfl,rfl⟩:=hl;simp only[Loc.view]at hview;refine fin _ len rfl ?_;simp[Builtin.len_,h0,run_underlying (show X.P.underlying t=some (.slice e)from htd),hview,goInt]
  refine aO ?_;have key:∀{u:Ty} {xs:List u.den},u.isEnt=false->arrOk ⟨w.heap,ok,m⟩ u xs loc->(gW X.E o.dst (.i .i64 (o9 (lF vw xs)))).post S (λ_ S' =>kF X cl ch o a w m ok S'):=λ{u xs} hE0 ha=>by obtain⟨ad,cap,hv,_⟩:=(DJ hE0).1 (tN (C:=⟨w.heap,ok,m⟩) (ok' :=λ_ _=>True) ha hview (λ_ _ _=>trivial) (λ_ _=>trivial));refine fin _ (lF vw xs).length rfl ?_;simp[Builtin.len_,h0,run_underlying (show X.P.underlying t=some (.slice e)from htd),hv,goInt]
  split<;>try trivial
  .rename_i u xs hS;obtain⟨loc',hm',ha⟩:=R.own_arr hS;simp only at hm;rw[hm]at hm';cases hm';cases hE0:u.isEnt
   .simp_all
   .trivial
  .rename_i u xs hS;obtain⟨loc',hm',ha,_⟩:=R.own_frz hS;simp only at hm;rw[hm]at hm';cases hm';cases hE0:u.isEnt
   .simp_all
   .trivial
  .rename_i md xs hole hS;split<;>try trivial
   obtain⟨hel,loc',Os,hm',⟨ha,hho⟩,hk⟩:=R.own_barrs hS;simp only at hm;rw[hm]at hm';cases hm';cases loc with
   |st b=>cases ha|mp b=>cases ha|nil=>obtain⟨e1,_⟩:=ha;subst e1;simp only[Loc.view]at hview;refine fin _ 0 rfl ?_;simp[Builtin.len_,h0,run_underlying (show X.P.underlying t=some (.slice e)from htd),hview,goInt]
   |arr blk off len cap sz' =>obtain⟨rfl,rfl,h3,_⟩:=ha;simp only[Loc.view]at hview;refine fin _ xs.length rfl ?_;simp[Builtin.len_,h0,run_underlying (show X.P.underlying t=some (.slice e)from htd),hview,goInt]
  .rename_i md xs kn ko hS;split<;>try trivial
   obtain⟨hel,_,loc',Os,hm',ha,hk⟩:=R.own_barrp hS;simp only at hm;rw[hm]at hm';cases hm';cases loc with
   |st b=>cases ha|mp b=>cases ha|nil=>obtain⟨e1,_⟩:=ha;subst e1;simp only[Loc.view]at hview;refine fin _ 0 rfl ?_;simp[Builtin.len_,h0,run_underlying (show X.P.underlying t=some (.slice e)from htd),hview,goInt]
   |arr blk off len cap sz' =>obtain⟨rfl,rfl,h3,_⟩:=ha;simp only[Loc.view]at hview;refine fin _ xs.length rfl ?_;simp[Builtin.len_,h0,run_underlying (show X.P.underlying t=some (.slice e)from htd),hview,goInt]
theorem a2R(H:FxOk X)(R:Rel X cl ch S m ok a w){c:Call}(ho:o.op= .call c)(hc:c.callee= .builtin .min\/c.callee= .builtin .max):(fM X.E q o).post S (λ_ S' =>kF X cl ch o a w m ok S'):=by
 obtain⟨cal,args,ats⟩:=c;rcases hc with rfl|rfl
 all_goals
  unfold fM;simp[ho];refine mF R _ λvs hvs=>?_;split<;>try trivial
  rename_i k p k' r;obtain⟨u,r',he,hx,v,r'',he',hy,hr⟩:=hvs;subst hr;rw[he']at he;refine eP λhk=>?_;have hk' :=of_decide_eq_true hk;obtain⟨y,z,rfl,rfl,rfl⟩:=a6C he
 .refine dH H R rfl ?_;simp[execOp,ho,resolve,invoke,builtin,Builtin.min_,Builtin.min2,xX hx,xX hy,ww]
 .refine dH H R rfl ?_;simp[execOp,ho,resolve,invoke,builtin,Builtin.max_,Builtin.max2,xX hx,xX hy,qX]
end
end Go.GP
namespace Go.GP
def Bnd(d:Int)(o:Option Value)(n:Int):Prop:=(o=none/\n=d)\/∃k,o=some (.int k n)
theorem JW{P:Program}{w:World}{isS:Bool}{len cap:Nat}{lo hi:Option Value}{x y:Int}(hlo:Bnd 0 lo x)(hhi:Bnd len hi y)(h0:0<=x)(h1:x<=y)(h2:y<=len)(hc:len<=cap):
  (Instr.sliceBounds isS len cap lo hi none).run P w= .ok (x.toNat,y.toNat,cap) w:=by
 have hyc:y<=cap:=l7;have hy0:0<=y:=l7;have e:((y.toNat:Nat):Int)=y:=l7;rcases hlo with⟨rfl,rfl⟩|⟨k,rfl⟩<;>rcases hhi with⟨rfl,rfl⟩|⟨k',rfl⟩
 all_goals simp_all [Instr.sliceBounds,Instr.sliceBound,asIntOf]
theorem a2F{α:Type}{l r:List α}{x y:Int}(h:LK l x y=some r):0<=x/\x<=y/\y<=l.length/\r=(l.take y.toNat).drop x.toNat:=by simp_all [LK]
theorem a1q(l:d4C)(x y:Nat):(⟨l.toArray⟩:ByteArray).extract x y=⟨((l.take y).drop x).toArray⟩:=by apply ByteArray.ext<;>simp_all [mi]
theorem c1e{h:Array Obj}{ok:Nat->Ty->Prop}{t:Ty}(ht:t.isEnt=false){xs:List t.den}{ad:Option Addr}{cap:Nat}{x y:Nat}(hr:oq h ok (.sl t) xs [.slice ad xs.length cap])(h1:x<=y)(h2:y<=xs.length):
  oq h ok (.sl t) ((xs.take y).drop x) [.slice (if cap=x then ad else ad.map (·.add (x*t.size))) (y -x) (cap -x)]:=by
 obtain⟨ad',cap',e,hc,hel⟩:=(DJ ht).1 hr;obtain⟨rfl,rfl⟩:=e;have hl:((xs.take y).drop x).length=y -x:=by simp_all
 refine(DJ ht).2 ⟨_,cap -x,by rw[hl],l7,λi z hz=>?_⟩<;>grind [Addr.add_lit]
section
variable {X:Fx} {cl ch:Nat} {S:Sm} {m:Mp} {ok:Nat->Ty->Prop} {a:Act} {w:World} {o:Oper}
theorem Ah{C:Cx}{d n:Int}{v:Option V}{u:Option Value}(h:FH d v=some n)(hr:(v=none/\u=none)\/∃c x,v=some c/\u=some x/\nU C c x):Bnd d u n:=by
 rcases hr with⟨rfl,rfl⟩|⟨c,x,rfl,rfl,hr⟩
 .simp[FH]at h;subst h;exact .inl ⟨rfl,rfl⟩
 .cases c<;>simp[FH]at h;subst h;exact .inr ⟨_,by rw[xX hr]⟩
theorem Ld(H:FxOk X)(R:Rel X cl ch S m ok a w){t:TypeId}{x:V}{u:Value}{lo hi:Option V}{lv hv:Option Value}(hx:nU ⟨w.heap,ok,m⟩ x u)
  (hlo:(lo=none/\lv=none)\/∃c y,lo=some c/\lv=some y/\nU ⟨w.heap,ok,m⟩ c y) (hhi:(hi=none/\hv=none)\/∃c y,hi=some c/\hv=some y/\nU ⟨w.heap,ok,m⟩ c y)
  {K:V->Cmd Unit} {Q:Unit->Sm->Prop} (hK:∀v z,nU ⟨w.heap,ok,m⟩ v z->(Instr.sliceAt t u lv hv none).run X.P w= .ok z w->(K v).post S Q):(Xo X.E t x lo hi K).post S Q:=by
 unfold Xo;cases x<;>try trivial
 case s l=>
  refine nH H λi hi' =>?_;have htd:=hi'.td;split<;>try trivial
  rename_i p q htd' hp hq;rw[htd']at htd;refine gG λr hr=>?_;obtain⟨h0,h1,h2,rfl⟩:=a2F hr;have hb:=JW (P:=X.P) (w:=w) (isS:=false) (Ah hp hlo) (Ah hq hhi) h0 h1 h2 (D5 _);refine hK (.s _) (.string ⟨((l.take q.toNat).drop p.toNat).toArray⟩) rfl ?_;have hus:=htd;have hs:(⟨l.toArray⟩:ByteArray).size=l.length:=rfl;simp[Instr.sliceAt,run_underlying hus,Instr.slice,QA hx,hs,hb,a1q]
 case sl v l=>
  dsimp only;split<;>try trivial
  rename_i n sz p q hsz hp hq;obtain⟨e,j,hut,hj,hjs⟩:=NC H hsz;refine eP λhbq=>gG λr hr=>?_;obtain⟨hE0,hbq'⟩:=Hy hbq;obtain⟨h0,h1,h2,rfl⟩:=a2F hr;have hx' :=hx;obtain⟨ad,cap,hu,hc,_⟩:=(DJ hE0).1 hx';simp at hu;subst hu;have hb:=JW (P:=X.P) (w:=w) (isS:=true) (Ah hp hlo) (Ah hq hhi) h0 h1 h2 hc;refine hK (.sl v _) _ (c1e hE0 hx' l7 l7) ?_;simp[Instr.sliceAt,run_underlying hut,Instr.slice,hb,yT hj,hjs,hbq']
 case own bx vw=>
  cases vw with
  |some _=>trivial|none=>
  obtain⟨loc,hm,hview⟩:=hx;refine aO ?_;have key:∀{v:Ty} {xs:List v.den} {n sz:Nat} {p q:Int},arrOk ⟨w.heap,ok,m⟩ v xs loc->Nz X.E t=some (false,n,sz)->FH 0 lo=some p->FH (o9 xs) hi=some q->
    (bif szB sz v then Cmd.br (nG p q (o9 xs)) (K (.own bx (some (O9 p,O9 q)))) .fail else .fail).post S Q:=λ{v xs n sz p q} ha hsz hp hq=>by
   obtain⟨e,j,hut,hj,hjs⟩:=NC H hsz;refine eP λhbq=>⟨λhr=>?_,λ_=>trivial⟩;obtain⟨hE0,hbq'⟩:=Hy hbq;have hr' :=of_decide_eq_true (show decide (0<=p/\p<=q/\q<=o9 xs)=true from hr);obtain⟨h0,h1,h2⟩:=hr';have h2' :q<=(xs.length:Int):=h2;cases loc with
   |st b=>cases ha|mp b=>exact absurd ha.1 (by grind)|nil=>obtain⟨ha,_⟩:=ha;subst ha;subst hview;have h2'' :q<=((0:Nat):Int):=l7;have hb:=JW (P:=X.P) (w:=w) (isS:=true) (Ah hp hlo) (by have:=Ah hq hhi;simpa[o9]using this) h0 h1 h2'' (D5 _);have ep:p=0:=l7;have eq:q=0:=l7;subst ep;subst eq;refine hK (.own bx (some (O9 0,O9 0))) (.slice none 0 0) ⟨.nil,hm,rfl,rfl,rfl⟩ ?_;simp[Instr.sliceAt,run_underlying hut,Instr.slice,hb,yT hj]
   |arr blk off len cap sz' =>
    obtain⟨_,rfl,rfl,hc,_⟩:=ha;subst hview;have hb:=JW (P:=X.P) (w:=w) (isS:=true) (Ah hp hlo) (Ah hq hhi) h0 h1 h2' hc;refine hK (.own bx (some (O9 p,O9 q))) _ ⟨_,hm,by grind [O9],by simp_all [O9],rfl⟩ ?_;have e1:(if cap=p.toNat then some (⟨blk,off,none⟩:Addr)else some ⟨blk,off+p.toNat*v.size,none⟩)=some (if cap=p.toNat then⟨blk,off,none⟩else⟨blk,off+p.toNat*v.size,none⟩):=by grind
    simp[Instr.sliceAt,run_underlying hut,Instr.slice,hb,yT hj,hjs,hbq',kL,O9,e1]
    grind
  split<;>try trivial
  .rename_i v xs hS;obtain⟨loc',hm',ha⟩:=R.own_arr hS;rw[hm]at hm';split<;>try trivial
   simp_all
  .rename_i v xs hS;obtain⟨loc',hm',ha,_⟩:=R.own_frz hS;rw[hm]at hm';split<;>try trivial
   simp_all
theorem b3V(H:FxOk X)(R:Rel X cl ch S m ok a w){t:TypeId}{x:Operand}{lo hi:Option Operand}{q:Nat}(ho:o.op= .slice t x lo hi none)
  (hA:∀bx,lo=none->hi=none->nU ⟨w.heap,ok,m⟩ (.ptr bx 0) (a.eval x)->(a0U X.E (U2 q o.dst) t bx λr=>gW X.E o.dst r).post S (λ_ S' =>kF X cl ch o a w m ok S')):(fM X.E q o).post S (λ_ S' =>kF X cl ch o a w m ok S'):=by
 unfold fM;simp[ho];refine dC R λv hv=>mF R _ λbs hbs=>?_;split<;>try trivial
 .split
  .simp_all
  refine Ld H R hv (.inl ⟨rfl,rfl⟩) (.inl ⟨rfl,rfl⟩) λr z hr hz=>dH H R hr ?_;simp_all [execOp]
 .obtain⟨y,r,he,h1,h2⟩:=hbs;simp at he;refine Ld H R hv (.inr ⟨_,_,rfl,rfl,h1⟩) (.inl ⟨rfl,rfl⟩) λr z hr hz=>dH H R hr ?_;simp_all [execOp]
 .obtain⟨y,r,he,h1,h2⟩:=hbs;simp at he;refine Ld H R hv (.inl ⟨rfl,rfl⟩) (.inr ⟨_,_,rfl,rfl,h1⟩) λr z hr hz=>dH H R hr ?_;simp_all [execOp]
 .rename_i l h c d;obtain⟨y,r,he,h1,y',r',he',h2,h3⟩:=hbs;obtain⟨rfl,rfl⟩:=he;refine Ld H R hv (.inr ⟨_,_,rfl,rfl,h1⟩) (.inr ⟨_,_,rfl,rfl,h2⟩) λr z hr hz=>dH H R hr ?_;simp_all [execOp]
end
end Go.GP
