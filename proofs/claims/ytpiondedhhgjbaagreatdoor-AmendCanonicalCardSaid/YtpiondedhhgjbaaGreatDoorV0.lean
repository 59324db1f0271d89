import Derived.ProofKit
import Derived.Below
import Derived.Defers
import Derived.Laws.CopyRow
import Derived.Laws.BytesArg
import Derived.Laws.Cells
import Derived.Laws.Append
import Derived.Laws.Strings
import Derived.Lib.SmallJoins
set_option linter.all false
namespace Go.GP
abbrev c6F:Type:=List UInt8
abbrev c6G:Type:=List Int
abbrev c6H:Type:=List Value
abbrev c6I:Type:=List Nat
abbrev c6J:Type:=Option Bool
abbrev c6K:Type:=Option Int
variable {p:Prop}
theorem o5(h:p:=by omega):p:=h
theorem D5(h:p:=by simp):p:=h
theorem J8(h:p:=by decide):p:=h
theorem E5(h:p:=by simp;omega):p:=h
theorem I9:True:=trivial
def Y8:=@List.take_succ_eq_append_getElem
def kX:=@List.drop_append_of_le_length
def aC:=@List.take_append_of_le_length
def lL:=@Array.getElem?_setIfInBounds
def rM:=@List.dropLast_concat_getLast
def O5:=@Array.getD_eq_getD_getElem?
def G9:=@Array.getElem?_eq_some_iff
def mZ:=@Array.toList_setIfInBounds
def H9:=@List.getElem?_append_right
def gW:=@Array.getElem?_append_left
def ul:=@List.findSome?_eq_none_iff
def ng:=@List.takeWhile_cons_of_pos
def eF:=@List.isPrefixOf_iff_prefix
def V7:=@List.getElem?_append_left
def bC:=@List.drop_eq_getElem_cons
def nR:=@List.extract_eq_take_drop
def O0:=@Array.getElem?_eq_getElem
def jR:=@Classical.byContradiction
def aU:=@List.getElem?_take_of_lt
def oJ:=@List.getElem_append_left
def iW:=@List.getElem?_cons_zero
def qf:=@List.getElem?_cons_succ
def bf:=@List.length_eq_zero_iff
def gQ:=@Option.map_eq_some_iff
def bG:=@List.drop_eq_nil_of_le
def W9:=@List.take_of_length_le
def jk:=@List.range_succ_eq_map
def jl:=@List.takeWhile_sublist
def bW:=@List.mem_append_right
def qY:=@List.Perm.append_left
def jE:=@List.perm_append_comm
def X4:=@Array.getElem?_toList
def Z4:=@List.take_append_drop
def qZ:=@Nat.ble_eq_true_of_le
def lW:=@List.set_append_right
def S9:=@Nat.le_of_ble_eq_true
def qX:=@Array.getElem?_modify
def jD:=@List.getElem?_reverse
def aA:=@List.getElem?_eq_none
def iy:=@List.length_filter_le
def xE:=@List.findSome?_append
def fC:=@List.length_singleton
def Y4:=@List.mem_append_left
def U5:=@List.mem_cons_of_mem
def J3:=@Nat.mul_le_mul_right
def rU:=@List.replicate_succ'
def yJ:=@List.mem_of_mem_take
def rQ:=@List.range_eq_range'
def oq:=@Value.pointer.injEq
def oh:=@List.replicate_succ
def kQ:=@List.flatten_append
def nZ:=@Array.toList_append
def gJ:=@List.getElem_of_mem
def X8:=@Array.length_toList
def kR:=@List.length_reverse
def je:=@List.map_congr_left
def jd:=@List.getElem?_range
def og:=@Int.toNat_of_nonneg
def GV:=@List.flatMap_append
def I8:=@List.length_append
def O9:=@List.getElem?_drop
def Y7:=@List.getElem?_take
def iC:=@List.mem_cons_self
def lH:=@List.mem_singleton
def iw:=@Bool.false_eq_true
def jr:=@Nat.eq_zero_or_pos
def iE:=@List.zip_cons_cons
def pq:=@List.getElem_range
def dC:=@Nat.lt_of_lt_of_le
def X5:=@List.pairwise_cons
def P8:=@List.nodup_append
def bT:=@Bool.not_eq_true'
def E8:=@List.append_assoc
def G8:=@Option.some.injEq
def qC:=@Value.slice.injEq
def L6:=@Result.andThen_ok
def bU:=@List.ext_getElem?
def O6:=@List.getElem?_set
def aK:=@List.size_toArray
def bV:=@List.getElem?_map
def Jb:=@List.flatMap_cons
def qB:=@List.zip_nil_left
def qy:=@Function.comp_def
def qx:=@Array.size_append
def jT:=@List.reverse_cons
def ak:=@List.length_range
def F7:=@Int.toNat_natCast
def jS:=@List.any_eq_false
def Az:=@Bool.not_eq_false
def Jc:=@List.take_add_one
def qA:=@List.count_append
def ah:=@List.mem_flatten
def D6:=@Bool.and_eq_true
def U3:=@List.cons_append
def F5:=@List.length_cons
def nz:=@Array.toList_map
def jg:=@List.ext_getElem
def jh:=@List.range'_succ
def aX:=@List.length_take
def bJ:=@List.take_length
def aG:=@List.length_drop
def dU:=@Nat.le_add_right
def kN:=@List.all_eq_true
def Y2:=@List.getElem_mem
def nC:=@Option.bind_some
def Y3:=@Option.getD_some
def rH:=@List.getElem_map
def rJ:=@List.not_mem_nil
def kP:=@List.filter_cons
def BI:=@List.drop_length
def wO:=@Bool.not_eq_true
def wQ:=@List.any_eq_true
def J6:=@List.mem_append
def G7:=@List.append_nil
def dL:=@Nat.le_max_left
def J4:=@List.nil_append
def I7:=@List.cons.injEq
def oL:=@Oper.upon_value
def tq:=@Bool.eq_iff_iff
def aB:=@List.length_nil
def X0:=@List.nodup_cons
def Dl:=@Nat.max_eq_left
def Y1:=@Option.some.inj
def iJ:=@Nat.min_eq_left
def gu:=@List.map_append
def dK:=@List.foldl_cons
def L8:=@List.length_map
def eX:=@Option.map_some
def tu:=@Oper.upon_enter
def jF:=@List.range_succ
def lG:=@Bool.or_eq_true
def oK:=@List.mem_filter
def Dk:=@List.any_append
def jf:=@List.drop_take
def ig:=@List.take_take
def af:=@List.drop_drop
def bu:=@List.nodup_nil
def kw:=@List.drop_zero
def fG:=@List.drop_left
def fH:=@List.mem_range
def ed:=@List.take_left
def D8:=@List.mem_cons
def iO:=@Nat.add_assoc
def dG:=@List.map_cons
def iM:=@Addr.mk.injEq
def U8:=@List.cons.inj
def rf:=@Nat.lt_irrefl
def gK:=@Prod.mk.injEq
def nP:=@Bool.true_and
def nO:=@Bool.not_true
def Ob:=@Bool.false_or
def dR:=@Nat.sub_self
def lV:=@List.map_nil
def Y9:=@Sem.run_pure
def J5:=@Sem.run_bind
def aH:=@Nat.add_zero
def iI:=@Addr.add_lit
def bY:=@Nat.zero_add
def pz:=@List.map_map
def ji:=@List.mem_map
def pF:=@Nat.lt_or_ge
def V5:=@Nat.le_trans
def D7:=@Nat.le_refl
def N7:=@Nat.add_mul
def cO:=@Nat.zero_le
def uF:=@Int.le_refl
def bD:=@Nat.mul_one
def aY:=@Nat.one_mul
def Z5:=@Nat.blt_eq
def jM:=@Array.ext'
def vZ:=@Int.not_lt
def vY:=@Int.not_le
variable {i:Nat}
theorem bg{α:Type _}{l:List α}{a:α} :l[i]? =some a↔∃h:i<l.length,l[i]=a:=List.getElem?_eq_some_iff
theorem lF{α:Type _}{l:List α}(h:i<l.length):l[i]? =some l[i]:=List.getElem?_eq_getElem h
theorem eU{n m:Nat}(h:Nat.beq n m=true):n=m:=Nat.eq_of_beq_eq_true h
theorem yu{α:Type _}{l:List α}{a:α}(h:l[i]? =some a):a∈l:=List.mem_of_getElem? h
theorem KF{α:Type _}{l:List α}{a:α} :l.getD i a=l[i]?.getD a:=List.getD_eq_getElem?_getD
universe u
set_option linter.unusedVariables false
inductive Ty where
 |bool|int (k:IntKind)|str|sl (t:Ty)|prod (a b:Ty)|unit|ent (ka va:Bool) (k v:Ty)|any (o:Option IntKind)
def tbb(a b:Bool):Bool:=bif a then b else !b
theorem a3B:∀{a b:Bool},tbb a b=true->a=b:=by decide
theorem a1q:∀(a:Bool),tbb a a=true:=by decide
def Ty.beq:Ty->Ty->Bool
 | .bool,b=>match b with| .bool=>true|_=>false
 | .int k,b=>match b with| .int k' =>decide (k=k')|_=>false
 | .str,b=>match b with| .str=>true|_=>false
 | .sl t,b=>match b with| .sl u=>Ty.beq t u|_=>false
 | .prod p q,b=>match b with| .prod p' q' =>bif Ty.beq p p' then Ty.beq q q' else false|_=>false
 | .unit,b=>match b with| .unit=>true|_=>false
 | .any o,b=>match b with| .any o' =>decide (o=o')|_=>false
 | .ent x y p q,b=>match b with| .ent x' y' p' q' =>bif tbb x x' &&tbb y y' then(bif Ty.beq p p' then Ty.beq q q' else false)else false|_=>false
theorem Ty.beq_eq:∀{a b:Ty},Ty.beq a b=true->a=b
 | .bool,b,h=>by cases b<;>first|rfl|cases h
 | .int k,b,h=>by cases b<;>first|(cases h;done)|(rename_i k';have:=of_decide_eq_true (show decide (k=k')=true from h);subst this;rfl)
 | .str,b,h=>by cases b<;>first|rfl|cases h
 | .sl t,b,h=>by cases b<;>first|(cases h;done)|(rename_i u;have:=Ty.beq_eq (show Ty.beq t u=true from h);subst this;rfl)
 | .prod p q,b,h=>by
  cases b<;>try (cases h;done)
  rename_i p' q';cases hp:Ty.beq p p'
  .have h' :(bif Ty.beq p p' then Ty.beq q q' else false)=true:=h;rw[hp]at h';cases h'
  .have h' :(bif Ty.beq p p' then Ty.beq q q' else false)=true:=h;rw[hp]at h';rw[Ty.beq_eq hp,Ty.beq_eq (show Ty.beq q q' =true from h')]
 | .unit,b,h=>by cases b<;>first|rfl|cases h
 | .any o,b,h=>by cases b<;>first|(cases h;done)|(rename_i o';have:=of_decide_eq_true (show decide (o=o')=true from h);subst this;rfl)
 | .ent x y p q,b,h=>by
  cases b<;>try (cases h;done)
  rename_i x' y' p' q';have h0:(bif tbb x x' &&tbb y y' then(bif Ty.beq p p' then Ty.beq q q' else false)else false)=true:=h;cases hx:tbb x x'<;>cases hy:tbb y y'<;>rw[hx,hy]at h0<;>try (cases h0;done)
  cases hp:Ty.beq p p'<;>rw[hp]at h0
  .cases h0
  .rw[a3B hx,a3B hy,Ty.beq_eq hp,Ty.beq_eq (show Ty.beq q q' =true from h0)]
theorem Ty.beq_refl:∀(a:Ty),Ty.beq a a=true
 | .bool=>rfl| .int k=>by show decide (k=k)=true;simp| .str=>rfl| .sl t=>Ty.beq_refl t| .prod p q=>by show(bif Ty.beq p p then Ty.beq q q else false)=true;rw[Ty.beq_refl p,Ty.beq_refl q];rfl| .unit=>rfl| .any o=>by show decide (o=o)=true;simp| .ent x y p q=>by show(bif tbb x x&&tbb y y then(bif Ty.beq p p then Ty.beq q q else false)else false)=true;rw[a1q,a1q,Ty.beq_refl p,Ty.beq_refl q];rfl
instance:DecidableEq Ty:=λa b=>match h:Ty.beq a b with
 |true=> .isTrue (Ty.beq_eq h)|false=> .isFalse (λe=>by subst e;rw[Ty.beq_refl]at h;cases h)
@[reducible] def Ty.den:Ty->Type
 | .bool=>Bool| .int _=>Int| .str=>c6F| .sl t=>List t.den| .prod a b=>a.den×b.den| .unit=>Unit| .any _=>Unit| .ent _ _ a b=>a.den×b.den
def Ty.isEnt:Ty->Bool| .ent ..=>true|_=>false
def Ty.size:Ty->Nat
 | .bool| .int _| .str| .sl _=>1| .prod a b=>a.size+b.size| .unit=>0| .any _=>1| .ent _ _ a b=>a.size+b.size
def Ty.flat:Ty->Bool
 | .bool| .int _| .str| .unit=>true| .sl _=>false| .prod a b=>a.flat&&b.flat
 | .ent ..=>false| .any _=>false
def Ty.zero:(t:Ty)->t.den
 | .bool=>false| .int _=>(0:Int)| .str=>[]| .sl _=>[]| .prod a b=>(a.zero,b.zero)| .unit=>()| .any _=>()| .ent _ _ a b=>(a.zero,b.zero)
inductive M where
 |dat (t:Ty)|own (t:Ty)|pair (a b:M)|unit|box (m:M)
 |owns (el:M)|ownb (t:Ty)|rp (t:Ty)|fn (f:Nat) (ts:List Ty)|ifc (t:Nat) (m:M)|cell (n:Option c6J)|fr (t:Ty)|sbx (tb te:Nat)|sit|lp (t:Ty)|dv (k off sz fo:Nat)|ownr (m:M) (o:Nat)
def M.beq:M->M->Bool
 | .dat t,b=>match b with| .dat u=>Ty.beq t u|_=>false
 | .own t,b=>match b with| .own u=>Ty.beq t u|_=>false
 | .pair p q,b=>match b with| .pair p' q' =>bif M.beq p p' then M.beq q q' else false|_=>false
 | .unit,b=>match b with| .unit=>true|_=>false
 | .owns m,b=>match b with| .owns m' =>M.beq m m'|_=>false
 |_,_=>false
theorem M.beq_eq:∀{a b:M},M.beq a b=true->a=b
 | .dat t,b,h=>by cases b<;>first|(cases h;done)|(rename_i u;have:=Ty.beq_eq (show Ty.beq t u=true from h);subst this;rfl)
 | .own t,b,h=>by cases b<;>first|(cases h;done)|(rename_i u;have:=Ty.beq_eq (show Ty.beq t u=true from h);subst this;rfl)
 | .pair p q,b,h=>by
  cases b<;>try (cases h;done)
  rename_i p' q';cases hp:M.beq p p'
  .have h' :(bif M.beq p p' then M.beq q q' else false)=true:=h;rw[hp]at h';cases h'
  .have h' :(bif M.beq p p' then M.beq q q' else false)=true:=h;rw[hp]at h';rw[M.beq_eq hp,M.beq_eq (show M.beq q q' =true from h')]
 | .unit,b,h=>by cases b<;>first|rfl|cases h
 | .owns m,b,h=>by cases b<;>first|(cases h;done)|(rename_i u;have:=M.beq_eq (show M.beq m u=true from h);subst this;rfl)
 | .box _,b,h=>by cases h| .ownb _,b,h=>by cases h| .rp _,b,h=>by cases h| .fn _ _,b,h=>by cases h| .ifc _ _,b,h=>by cases h| .cell _,b,h=>by cases h| .fr _,b,h=>by cases h| .sbx _ _,b,h=>by cases h| .lp _,b,h=>by cases h| .dv ..,b,h=>by cases h| .sit,b,h=>by cases h| .ownr ..,b,h=>by cases h
@[reducible] def OE:List Ty->Type
 |[]=>Unit|[t]=>t.den|t::t' ::r=>t.den×OE (t' ::r)
@[reducible] def M.den:M->Type
 | .dat t=>t.den| .own t=>List t.den| .pair a b=>a.den×b.den| .unit=>Unit| .box m=>m.den| .owns el=>List el.den| .ownb t=>List t.den| .rp t=>t.den| .fn _ ts=>OE ts| .ifc _ m=>m.den| .cell _=>Unit| .fr t=>List t.den| .sbx _ _=>c6F| .sit=>c6F×Int| .lp t=>t.den| .dv ..=>Unit| .ownr m _=>List m.den×Int
def M.size:M->Nat
 | .dat t=>t.size| .own _=>1| .pair a b=>a.size+b.size| .unit=>0| .box _=>1| .owns _| .ownb _| .rp _| .fn _ _| .ifc _ _| .cell _| .fr _| .sbx _ _| .sit| .lp _| .dv ..| .ownr ..=>1
def M.el:M->Bool
 | .unit=>true| .dat t| .own t=> !t.isEnt| .owns m=>m.el| .pair a b=>a.el&&b.el|_=>false
def M.ty:M->Ty
 | .dat t=>t| .own t=> .sl t| .owns m=> .sl m.ty| .pair a b=> .prod a.ty b.ty|_=> .unit
theorem M.denEq:∀(m:M),m.el=true->m.den=m.ty.den
 | .dat _,_=>rfl| .own _,_=>rfl| .unit,_=>rfl| .owns m,h=>congrArg List (M.denEq m h)| .pair a b,h=>by
  have h' :a.el=true/\b.el=true:=by simpa[M.el]using h
  show(a.den×b.den)=(a.ty.den×b.ty.den);rw[M.denEq a h'.1,M.denEq b h'.2]
 | .box _,h=>by simp[M.el]at h| .ownb _,h=>by simp[M.el]at h| .rp _,h=>by simp[M.el]at h| .fn _ _,h=>by simp[M.el]at h| .ifc _ _,h=>by simp[M.el]at h| .cell _,h=>by simp[M.el]at h| .fr _,h=>by simp[M.el]at h| .sbx _ _,h=>by simp[M.el]at h| .lp _,h=>by simp[M.el]at h| .dv ..,h=>by simp[M.el]at h| .sit,h=>by simp[M.el]at h| .ownr ..,h=>by simp[M.el]at h
def M.zero:(m:M)->m.el=true->m.den
 |m,h=>cast (M.denEq m h).symm m.ty.zero
abbrev MG:=Bool×M
@[reducible] def U0:List MG->Type
 |[]=>Unit|[m]=>m.2.den|m::m' ::r=>m.2.den×U0 (m' ::r)
inductive V where
 |undef
 |un
 |b (x:Bool)|i (k:IntKind) (n:Int)|s (l:c6F)
 |nl
 |sl (t:Ty) (xs:List t.den)
 |own (bx:Nat) (vw:Option (Nat×Nat))
 |ptr (bx off:Nat)
 |ep (bx idx off:Nat)
 |dp (t:Ty) (x:t.den) (off:Nat)
 |agg (cs:List V)|tup (cs:List V)
 |glob (g:Nat)|fnv (f:Nat)|idl (f n:Nat)|clos (f:Nat) (caps:List ((t:Ty)×t.den))|ifc (t:Nat) (v:V)
 |bcells (cs:List V)|barr (t:Ty) (xs:List t.den)|bfrz (t:Ty) (xs:List t.den)|biter (l:c6F) (pos:Int)
 |barrs (el:M) (xs:List el.den) (hole:Option (Nat×Nat×Option Nat))|bfc (t:Ty) (x:t.den)
 |barrp (el:M) (xs:List el.den) (n:Int) (o:Nat)
 |dead|gone (t:Ty)|blen (n:Int) (sz:Nat)
 |ne (b:Bool)
 |npt|bsb (tb:Nat) (c:V)|brow (te:Nat) (xs:c6F)
def l9{α β:Type}(o:Option α)(f:α->Option β):Option β:=match o with|some x=>f x|none=>none
variable {α:Type}
def l7(b:Bool)(x y:α):α:=match b with|true=>x|false=>y
def I5(a b:Int):Bool:=decide (a<b)
def U7(a b:Int):Bool:=decide (a<=b)
def C9(a b:Int):Bool:=decide (a=b)
def Gz(a b:Bool):Bool:=a==b
def H5(a:Bool):Bool:=!a
def iV(a b:Bool):Bool:=a&&b
def seq(a b:c6F):Bool:=decide (a=b)
def slt(a b:c6F):Bool:=Op.bytesLess a b
def wrap(k:IntKind)(n:Int):Int:=k.wrap n
def G5(k:IntKind)(a b:Int):Int:=k.wrap (a+b)
def N9(k:IntKind)(a b:Int):Int:=k.wrap (a -b)
def mY(k:IntKind)(a b:Int):Int:=k.wrap (a*b)
def aO(k:IntKind)(a b:Int):Int:=k.wrap (a.tdiv b)
def fE(a b:Int):Int:=a.tmod b
def XK(k:IntKind)(a b:Int):c6K:=if b=0 then none else some (k.wrap (a.tdiv b))
def a4u(a b:Int):c6K:=if b=0 then none else some (a.tmod b)
def a5Q(k:IntKind)(a b:Int):Int:=k.wrap (BitVec.ofInt k.bits a&&& BitVec.ofInt k.bits b).toNat
def ior(k:IntKind)(a b:Int):Int:=k.wrap (BitVec.ofInt k.bits a ||| BitVec.ofInt k.bits b).toNat
def a7y(k:IntKind)(a b:Int):Int:=k.wrap (BitVec.ofInt k.bits a^^^BitVec.ofInt k.bits b).toNat
def a4q(k:IntKind)(a b:Int):Int:=k.wrap (BitVec.ofInt k.bits a&&& ~~~(BitVec.ofInt k.bits b)).toNat
def b1I(k:IntKind)(a b:Int):Int:=k.wrap (a*2^(min b.toNat k.bits))
def wM(k:IntKind)(a b:Int):Int:=a.fdiv (2^(min b.toNat k.bits))
def X_(k:IntKind)(a b:Int):c6K:=if b<0 then none else some (b1I k a b)
def a4v(k:IntKind)(a b:Int):c6K:=if b<0 then none else some (wM k a b)
def Dj(a b:Int):Int:=if b<a then b else a
def wL(a b:Int):Int:=if a<b then b else a
def A7(l:List α):Int:=l.length
def N8(a b:c6F):Option c6F:=if a.length+b.length<=4611686018427387904 then some (a++b)else none
def JO(a b:Nat):Bool:=Nat.beq a b
def inb(i n:Int):Bool:=decide (0<=i/\i<n)
def P5(l:List α)(i:Int):Option α:=if 0<=i then l[i.toNat]? else none
def nG(l:c6F)(p:Int):Int:=((Utf8.decode ⟨l.toArray⟩ p.toNat).1:Int)
def xU(l:c6F)(p:Int):Int:=p+((Utf8.decode ⟨l.toArray⟩ p.toNat).2:Int)
def sat(l:c6F)(i:Int):c6K:=if 0<=i then(l[i.toNat]?).map (λc=>(c.toNat:Int))else none
def aN(l:List α)(i:Nat):Option α:=l[i]?
def fD(l:List α)(i:Nat)(x:α):List α:=l.set i x
def gy(l:List α)(lo hi:Int):Option (List α):=if 0<=lo/\lo<=hi/\hi<=l.length then some ((l.take hi.toNat).drop lo.toNat)else none
def kH(l:List α)(lo hi:Nat):List α:=(l.take hi).drop lo
def mi(lo hi n:Int):Bool:=decide (0<=lo/\lo<=hi/\hi<=n)
def eG(xs ys:List α):Option (List α):=if xs.length+ys.length<=1073741824 then some (xs++ys)else none
def BD(n:Int)(x:α):Option (List α):=if 0<=n/\n<=1073741824 then some (List.replicate n.toNat x)else none
def Z7(i:Int):Nat:=i.toNat
def TF(i:Int):Int:=i+1
def b2Z(n:Int):UInt8:=UInt8.ofNat n.toNat
def C_(l:c6G):c6F:=l.map b2Z
def Xa(l:c6F):c6G:=l.map λc=>(c.toNat:Int)
def b1z{α:Type}(eq:α->α->Bool):List α->List α->Bool
 |[],[]=>true|a::r,b::q=>eq a b&&b1z eq r q|_,_=>false
def UM:(t:Ty)->t.den->t.den->Bool
 | .bool=>λa b=>tbb a b
 | .int _=>λa b=>decide (a=b)
 | .str=>λa b=>decide (a=b)
 | .sl t=>λa b=>b1z (UM t) a b
 | .prod p q=>λa b=>UM p a.1 b.1&&UM q a.2 b.2
 | .unit=>λ_ _=>true
 | .any _=>λ_ _=>true
 | .ent _ _ p q=>λa b=>UM p a.1 b.1&&UM q a.2 b.2
def deq(t:Ty)(a b:t.den):Bool:=UM t a b
inductive Out (σ ε ρ:Type) where
 |nx (s:σ)|ex (e:ε)|rt (r:ρ)
variable {σ:Type}{ε:Type}
def Z8(o:σ⊕ε)(f:σ->α)(g:ε->α):α:=match o with| .inl s=>f s| .inr e=>g e
def iZ{σ ε ρ:Type}(f:σ->Option (Out σ ε ρ)):Nat->σ->Option (ε⊕ρ)
 |0,_=>none
 |n+1,s=>match f s with
  |some (.nx s')=>iZ f n s'|some (.ex e)=>some (.inl e)|some (.rt r)=>some (.inr r)|none=>none
def zJ{σ ε:Type}(f:σ->Option (σ⊕ε)):Nat->σ->Option ε
 |0,_=>none
 |n+1,s=>match f s with
  |some (.inl s')=>zJ f n s'|some (.inr e)=>some e|none=>none
def dZ:Nat:=18446744073709551616
variable {ρ:Type}
def V4(f:σ->Option (Out σ ε ρ))(s:σ):Option (ε⊕ρ):=iZ f dZ s
def fA(f:σ->Option (σ⊕ε))(s:σ):Option ε:=zJ f dZ s
inductive Cmd (α:Type):Type 1 where
 |ret (x:α)
 |fail
 |get (k:Nat) (c:V->Cmd α)
 |set (k:Nat) (v:V) (c:Cmd α)
 |opt {β:Type} (o:Option β) (c:β->Cmd α)
 |br (b:Bool) (c d:Cmd α)
inductive Ent where
 |kv (k:Nat) (v:V)|mask (lo hi:Nat)
abbrev St:=List Ent
def aV:St->Nat->V
 |[],_=> .undef| .kv k v::r,n=>bif Nat.beq k n then v else aV r n| .mask lo hi::r,n=>bif Nat.ble lo n&&Nat.blt n hi then .undef else aV r n
abbrev Tr:=c6I×c6I
variable {R:Type}
def V.force(v:V)(K:V->R):R:=
 match v with
 | .undef=>K .undef| .un=>K .un| .b x=>K (.b x)
 | .i k n=>match k with
  | .i8=>K (.i .i8 n)| .i16=>K (.i .i16 n)| .i32=>K (.i .i32 n)| .i64=>K (.i .i64 n)| .u8=>K (.i .u8 n)| .u16=>K (.i .u16 n)| .u32=>K (.i .u32 n)| .u64=>K (.i .u64 n)
 | .s l=>K (.s l)| .nl=>K .nl| .ne z=>K (.ne z)| .sl t xs=>K (.sl t xs)
 | .own bx vw=>match vw with|none=>K (.own bx none)|some p=>K (.own bx (some p))
 | .ptr bx off=>K (.ptr bx off)| .ep bx idx off=>K (.ep bx idx off)| .dp t x off=>K (.dp t x off)| .agg cs=>K (.agg cs)| .tup cs=>K (.tup cs)| .glob g=>K (.glob g)| .fnv f=>K (.fnv f)| .idl f n=>K (.idl f n)| .clos f bs=>K (.clos f bs)
 | .ifc t v=>v.force λv=>K (.ifc t v)
 | .barrs t xs h=>match h with|none=>K (.barrs t xs none)|some (p1,p2,p3)=>match p3 with|none=>K (.barrs t xs (some (p1,p2,none)))|some p3=>K (.barrs t xs (some (p1,p2,some p3)))
 | .bfc t x=>K (.bfc t x)| .barrp m xs n o=>K (.barrp m xs n o)| .bcells cs=>K (.bcells cs)| .barr t xs=>K (.barr t xs)| .bfrz t xs=>K (.bfrz t xs)| .biter l p=>K (.biter l p)| .dead=>K .dead| .gone t=>K (.gone t)| .blen n sz=>K (.blen n sz)| .npt=>K .npt
 | .bsb tb c=>c.force λc=>K (.bsb tb c)| .brow te xs=>K (.brow te xs)
def QH{R:Type} :List V->(List V->R)->R
 |[],K=>K []
 |v::r,K=>v.force λv' =>QH r λr' =>K (v' ::r')
def V.force2(v:V)(K:V->R):R:=
 v.force λv=>match v with
  | .agg cs=>QH cs λcs=>K (.agg cs)
  | .bcells cs=>QH cs λcs=>K (.bcells cs)
  | .tup cs=>QH cs λcs=>K (.tup cs)|v=>K v
def Cmd.runK :Cmd α->St->Tr->(α->St->Tr->Option R)->Option R
 | .ret x,s,t,K=>K x s t| .fail,_,_,_=>none
 | .get k c,s,t,K=>(aV s k).force λv=>(c v).runK s (k::t.1,t.2) K
 | .set k v c,s,t,K=>v.force2 λv=>c.runK (.kv k v::s) (t.1,k::t.2) K
 | .opt o c,s,t,K=>l9 o λx=>(c x).runK s t K| .br b c d,s,t,K=>l7 b (c.runK s t K) (d.runK s t K)
def Cmd.bind{α β:Type} :Cmd α->(α->Cmd β)->Cmd β
 | .ret x,f=>f x| .fail,_=> .fail
 | .get k c,f=> .get k λv=>(c v).bind f| .set k v c,f=> .set k v (c.bind f)
 | .opt o c,f=> .opt o λx=>(c x).bind f| .br b c d,f=> .br b (c.bind f) (d.bind f)
inductive TD where
 |bool|int (k:IntKind)|str
 |sl (elem:Nat)|ptr (elem:Nat)
 |struct (fs:List (Nat×Nat))
 |arr (n elem:Nat)
 |map (key elem:Nat)
 |other
structure TI where
 size:Nat
 bytes:Nat
 td:TD
 ty:Option Ty
 zero:List V
def dX{α:Type} :List (Nat×α)->Nat->Option α
 |[],_=>none|(k,v)::r,n=>bif Nat.beq k n then some v else dX r n
structure FSpec where
 ps:List MG
 rs:List MG
 outs:List MG
 fn:U0 ps->Option (U0 (rs++outs))
structure Env where
 nt:Nat
 eqs:List (Nat×List Ty)
 tt:List (Nat×TI)
 gl:List (Nat×(t:Ty)×List t.den)
 fs:List (Nat×FSpec)
 om:List (Nat×M):=[]
 tk:c6I:=[]
 ms:List ((Nat×String)×Nat×Option Nat):=[]
 kp:c6I:=[]
 rc:c6I:=[]
 pl:List (Nat×Nat×Nat):=[]
abbrev X9:Nat:=1000000
abbrev CB:Nat:=1000000
abbrev NL:Nat:=1000000000000
def Ty.castL{R:Type u}(a b:Ty)(xs:List a.den)(k:List b.den->R)(f:R):R:=if h:a=b then k (h▸xs)else f
def UD{R:Type u}(a b:Ty)(x:a.den)(k:b.den->R)(f:R):R:=if h:a=b then k (h▸x)else f
def flat:(t:Ty)->t.den->List V->List V
 | .bool,x,r=> .b x::r| .int k,n,r=> .i k n::r| .str,l,r=> .s l::r| .sl t,xs,r=> .sl t xs::r| .prod a b,x,r=>flat a x.1 (flat b x.2 r)| .unit,_,r=>r| .any _,_,r=> .undef::r| .ent _ _ a b,x,r=>flat a x.1 (flat b x.2 r)
def jL(vw:Option (Nat×Nat))(xs:List α):List α:=match vw with|none=>xs|some (lo,hi)=>kH xs lo hi
def JB:(m:M)->m.den->List V->List V
 | .dat t,x,r=>flat t x r| .pair a b,x,r=>JB a x.1 (JB b x.2 r)| .unit,_,r=>r|_,_,r=> .undef::r
def Xw{R:Type u}(a b:M)(xs:List a.den)(k:List b.den->R)(f:R):R:=match h:M.beq a b with
 |true=>k (M.beq_eq h▸xs)|false=>f
def a2c{R:Type u}(m:M)(t:Ty)(xs:List m.den)(k:List t.den->R)(f:R):R:=
 if h:m.el=true/\m.ty=t then k (cast (congrArg List ((M.denEq m h.1).trans (congrArg Ty.den h.2))) xs)else f
def WJ{R:Type u}(m:M)(t:Ty)(xs:List t.den)(k:List m.den->R)(f:R):R:=
 if h:m.el=true/\m.ty=t then k (cast (congrArg List ((M.denEq m h.1).trans (congrArg Ty.den h.2))).symm xs)else f
def M.own0:M->Bool
 | .dat _=>true| .unit=>true| .pair a b=>a.own0&&b.own0|_=>false
def M.own1:M->Nat->Bool
 | .own _,off=>Nat.beq off 0| .pair a b,off=>bif Nat.blt off a.size then a.own1 off&&b.own0 else a.own0&&b.own1 (off -a.size)|_,_=>false
def M.owned:M->List Ty
 | .own t=>[t]| .owns m=>m.ty::m.owned| .pair a b=>a.owned++b.owned|_=>[]
def t_(ln:Ty->Bool):List Ty->Bool|[]=>true|t::r=>bif ln t then t_ ln r else false
def nU{α:Type}(ln:Ty->Bool):(t:Ty)->List V->(t.den->List V->Cmd α)->Cmd α
 | .bool,cs,K=>match cs with| .b x::r=>K x r|_=> .fail
 | .int k,cs,K=>match cs with| .i k' n::r=>(bif decide (k=k')then K n r else Cmd.fail)|_=> .fail
 | .str,cs,K=>match cs with| .s l::r=>K l r|_=> .fail
 | .prod a b,cs,K=>nU ln a cs λx r=>nU ln b r λy r' =>K (x,y) r'| .unit,cs,K=>K () cs
 | .any none,cs,K=>match cs with|_::r=>K () r|_=> .fail
 | .any (some k),cs,K=>match cs with| .i k' _::r=>bif decide (k=k')then K () r else Cmd.fail|_=> .fail
 | .ent ..,_,_=> .fail
 | .sl t,cs,K=>match cs with
  | .nl::r=>bif t.isEnt then .fail else K [] r| .sl t' xs::r=>Ty.castL t' t xs (λys=>K ys r) Cmd.fail
  | .own bx vw::r=> .get (X9+bx) λ
   | .barr t' xs=>Ty.castL t' t xs (λys=>bif ln t then K (jL vw ys) r else Cmd.set (X9+bx) (.bfrz t ys) (K (jL vw ys) r)) Cmd.fail| .bfrz t' xs=>Ty.castL t' t xs (λys=>K (jL vw ys) r) Cmd.fail| .barrs el xs none=>a2c el t xs (λys=>bif ln t&&t_ ln el.owned then K (jL vw ys) r else Cmd.set (X9+bx) (.bfrz t ys) (K (jL vw ys) r)) Cmd.fail|_=> .fail
  |_=> .fail
def BF:Ty->Bool:=λ_=>false
def a6k(t:Ty)(v:V)(K:List t.den->Cmd α):Cmd α:=match v with
 | .nl=>bif t.isEnt then .fail else K []| .ne _=>bif t.isEnt then .fail else K []| .sl t' xs=>Ty.castL t' t xs K Cmd.fail
 | .own bx vw=> .get (X9+bx) λ
  | .barr t' xs=>Ty.castL t' t xs (λys=>K (jL vw ys)) Cmd.fail| .bfrz t' xs=>Ty.castL t' t xs (λys=>K (jL vw ys)) Cmd.fail|_=> .fail
 |_=> .fail
def rpC(t:Ty)(v:V)(K:t.den->Cmd α):Cmd α:=match v with
 | .dp t' x 0=>UD t' t x K .fail
 | .ptr bx 0=> .get (X9+bx) λ
  | .bfc t' x=>UD t' t x K .fail
  | .bcells bs=>nU BF t bs λx q=>(match q with
   |[]=> .get (X9+bx) λ
    | .bcells _=>Cmd.set (X9+bx) (.bfc t x) (K x)|_=> .fail
   |_=> .fail)
  |_=> .fail
 |_=> .fail
def lpC(ln:Ty->Bool)(t:Ty)(v:V)(K:t.den->Cmd α):Cmd α:=match v with
 | .dp t' x 0=>UD t' t x K .fail
 | .ptr bx 0=> .get (X9+bx) λ
  | .bcells bs=>bif ln t then nU ln t bs λx q=>(match q with
   |[]=> .get (X9+bx) λ
    | .bcells _=>K x|_=> .fail
   |_=> .fail)else .fail
  |_=> .fail
 |_=> .fail
def NQ{α:Type} :(ts:List Ty)->List ((t:Ty)×t.den)->(OE ts->Cmd α)->Cmd α
 |[],cs,K=>match cs with|[]=>K ()|_=> .fail
 |[t],cs,K=>match cs with|[⟨t',x⟩]=>UD t' t x K .fail|_=> .fail
 |t::t' ::r,cs,K=>match cs with
  |⟨u,x⟩::cs=>UD u t x (λx=>NQ (t' ::r) cs λy=>K (x,y)) .fail|[]=> .fail
def RD:(ts:List Ty)->OE ts->List ((t:Ty)×t.den)
 |[],_=>[]|[t],x=>[⟨t,x⟩]|t::t' ::r,x=>⟨t,x.1⟩::RD (t' ::r) x.2
def sbC(te:Nat)(c:V)(K:c6F->Cmd α):Cmd α:=match c with
 | .nl=>K []
 | .own b none=> .get (X9+b) λ
  | .brow te' xs=>bif Nat.beq te' te then Cmd.set (X9+b) .dead (K xs)else .fail|_=> .fail
 |_=> .fail
def exM{α:Type}(ln:Ty->Bool):(m:M)->List V->(m.den->List V->Cmd α)->Cmd α
 | .dat t,cs,K=>nU ln t cs K
 | .own t,cs,K=>match cs with
  | .nl::r=>bif t.isEnt then .fail else K [] r
  | .own bx vw::r=> .get (X9+bx) λ
   | .barr t' xs=>Ty.castL t' t xs (λys=>Cmd.set (X9+bx) .dead (K (jL vw ys) r)) Cmd.fail|_=> .fail
  |_=> .fail
 | .pair a b,cs,K=>exM BF a cs λx r=>exM BF b r λy r' =>K (x,y) r'| .unit,cs,K=>K () cs
 | .box m,cs,K=>match cs with
  | .ptr bx 0::r=> .get (X9+bx) λ
   | .bcells bs=>Cmd.set (X9+bx) .dead (exM BF m bs λx q=>match q with|[]=>K x r|_=> .fail)|_=> .fail
  |_=> .fail
 | .owns m,cs,K=>match cs with
  | .nl::r=>bif m.el then K [] r else .fail
  | .own bx none::r=> .get (X9+bx) λ
   | .barrs m' xs none=>Xw m' m xs (λys=>Cmd.set (X9+bx) .dead (K ys r)) Cmd.fail| .barrp m' xs n _=>Xw m' m xs (λys=> .br (U7 (A7 xs) n) (Cmd.set (X9+bx) .dead (K ys r)) .fail) Cmd.fail|_=> .fail
  |_=> .fail
 | .ownr m o,cs,K=>match cs with
  | .own bx none::r=> .get (X9+bx) λ
   | .barrp m' xs n o' =>bif Nat.beq o' o then Xw m' m xs (λys=>Cmd.set (X9+bx) .dead (K (ys,n) r)) Cmd.fail else .fail| .barr t xs=>bif m.own1 o then WJ m t xs (λys=>Cmd.set (X9+bx) .dead (K (ys,0) r)) .fail else .fail|_=> .fail
  |_=> .fail
 | .ownb t,cs,K=>match cs with
  | .nl::r=>bif t.isEnt then .fail else K [] r
  | .own bx none::r=> .get (X9+bx) λ
   | .barr t' xs=>Ty.castL t' t xs (λys=>Cmd.set (X9+bx) (.gone t) (K ys r)) Cmd.fail|_=> .fail
  |_=> .fail
 | .rp t,cs,K=>match cs with
  |v::r=>rpC t v λx=>K x r|_=> .fail
 | .fn f ts,cs,K=>match cs with
  | .clos g caps::r=>bif Nat.beq g f then NQ ts caps λx=>K x r else .fail
  | .fnv g::r=>bif Nat.beq g f then NQ ts [] λx=>K x r else .fail|_=> .fail
 | .ifc t m,cs,K=>match cs with
  | .ifc t' v::r=>bif Nat.beq t' t then exM BF m [v] λx q=>(match q with|[]=>K x r|_=> .fail)else .fail|_=> .fail
 | .cell (some none),cs,K=>match cs with
  | .nl::r=>K () r|_=> .fail
 | .cell (some (some b)),cs,K=>match cs with
  | .ne true::r=>bif b then K () r else .fail| .ne false::r=>bif b then .fail else K () r|_=> .fail
 | .cell none,cs,K=>match cs with
  |_::r=>K () r|_=> .fail
 | .fr t,cs,K=>match cs with
  | .nl::r=>bif t.isEnt then .fail else K [] r
  | .own bx none::r=> .get (X9+bx) λ
   | .barr t' xs=>Ty.castL t' t xs (λys=>Cmd.set (X9+bx) (.bfrz t ys) (K ys r)) Cmd.fail| .bfrz t' xs=>Ty.castL t' t xs (λys=>K ys r) Cmd.fail|_=> .fail
  |_=> .fail
 | .sit,cs,K=>match cs with
  | .ptr bx 0::r=> .get (X9+bx) λ
   | .biter l p=>Cmd.set (X9+bx) .dead (K (l,p) r)|_=> .fail
  |_=> .fail
 | .lp t,cs,K=>match cs with
  |v::r=>lpC ln t v λx=>K x r|_=> .fail
 | .dv ..,cs,K=>match cs with
  |_::r=>K () r|_=> .fail
 | .sbx tb te,cs,K=>match cs with
  | .ptr bx 0::r=> .get (X9+bx) λ
   | .bsb tb' c=>bif Nat.beq tb' tb then(sbC te c λys=>Cmd.set (X9+bx) .dead (K ys r))else .fail|_=> .fail
  |_=> .fail
def cellsOf(v:V):List V:=match v with| .agg cs=>cs|v=>[v]
def vI(n:Nat)(v:V)(K:Cmd α):Cmd α:=.get (X9+n) λ
 | .undef=> .set (X9+n) v K|_=> .fail
def emM{α:Type} :(m:M)->m.den->Nat->List V->(List V->Nat->Cmd α)->Cmd α
 | .dat t,x,n,r,K=>K (flat t x r) n| .own t,xs,n,r,K=>vI n (.barr t xs) (K (.own n none::r) (n+1))
 | .pair a b,x,n,r,K=>emM b x.2 n r λr' n' =>emM a x.1 n' r' K| .unit,_,n,r,K=>K r n
 | .box m,x,n,r,K=>emM m x (n+1) [] λcs n' =>vI n (.bcells cs) (K (.ptr n 0::r) n')| .owns m,xs,n,r,K=>vI n (.barrs m xs none) (.set (X9+(NL+n)) (.blen (A7 xs) m.size) (K (.own n none::r) (n+1)))| .ownb t,xs,n,r,K=>vI n (.barr t xs) (K (.own n none::r) (n+1))| .rp t,x,n,r,K=>K (.dp t x 0::r) n| .fn f ts,x,n,r,K=>K (.clos f (RD ts x)::r) n
 | .ifc t m,x,n,r,K=>emM m x n [] λcs n' =>match cs with|[c]=>K (.ifc t c::r) n'|_=> .fail
 | .cell (some none),_,n,r,K=>K (.nl::r) n| .cell (some (some b)),_,n,r,K=>K (.ne b::r) n| .cell none,_,n,r,K=>K (.undef::r) n| .fr t,xs,n,r,K=>vI n (.bfrz t xs) (K (.own n none::r) (n+1))| .sit,x,n,r,K=>vI n (.biter x.1 x.2) (K (.ptr n 0::r) (n+1))| .lp t,x,n,r,K=>K (.dp t x 0::r) n| .dv ..,_,n,r,K=>K (.undef::r) n| .ownr m o,x,n,r,K=>vI n (.barrp m x.1 x.2 o) (K (.own n none::r) (n+1))| .sbx tb te,xs,n,r,K=>vI (n+1) (.brow te xs) (vI n (.bsb tb (.own (n+1) none)) (K (.ptr n 0::r) (n+2)))
structure Sig where
 ms:List (Nat×MG)
 als:List (Nat×Nat×Option (Nat×Nat×Nat×Nat))
@[reducible] def rE (s:Sig):Type:=U0 (s.ms.map (·.2))
def YD(ag:Bool)(v:V)(K:List V->Cmd α):Cmd α:=match ag,v with
 |true,.agg cs=>K cs|true,_=> .fail|false,.agg _=> .fail|false,.tup _=> .fail|false,.undef=> .fail|false,.un=> .fail|false,v=>K [v]
def GH(v:V)(K:List V->Cmd α):Cmd α:=match v with
 | .agg cs=>K cs| .tup _=> .fail| .undef=> .fail| .un=> .fail|v=>K [v]
def M.isDat:M->Bool| .dat _=>true| .lp _=>true|_=>false
def UX(ln:Ty->Bool)(m:MG)(v:V)(K:m.2.den->Cmd α):Cmd α:=
 YD m.1 v λcs=>exM ln m.2 cs λx q=>match q with|[]=>K x|_=> .fail
def Ky{α:Type}(ln:Ty->Bool):(ms:List MG)->List V->(U0 ms->Cmd α)->Cmd α
 |[],vs,K=>match vs with|[]=>K ()|_=> .fail
 |[m],vs,K=>match vs with
  |[v]=>UX ln m v K|_=> .fail
 |m::m' ::r,vs,K=>match vs with
  |v::vs=>bif m.2.isDat then Ky ln (m' ::r) vs λy=>UX ln m v λx=>K (x,y)
   else UX ln m v λx=>Ky ln (m' ::r) vs λy=>K (x,y)
  |[]=> .fail
def YS{α:Type} :c6I->(List V->Cmd α)->Cmd α
 |[],K=>K []
 |s::r,K=>bif Nat.blt s X9 then .get s λv=>YS r λvs=>K (v::vs)else .fail
def b3B:V->V->Bool
 | .own a none,.own b none=>Nat.beq a b|_,_=>false
def mkV(ag:Bool)(cs:List V):V:=match ag,cs with|true,cs=> .agg cs|false,[v]=>v|false,_=> .undef
def EH{α:Type} :(ms:List MG)->U0 ms->Nat->(List V->Nat->Cmd α)->Cmd α
 |[],_,n,K=>K [] n
 |[m],x,n,K=>emM m.2 x n [] λcs n' =>K [mkV m.1 cs] n'
 |m::m' ::r,x,n,K=>emM m.2 x.1 n [] λcs n' =>EH (m' ::r) x.2 n' λvs n'' =>K (mkV m.1 cs::vs) n''
def CY:c6I->List V->Cmd Unit->Cmd Unit
 |[],[],K=>K|n::ns,v::vs,K=>bif Nat.blt n X9 then .set n v (CY ns vs K)else .fail|_,_,_=> .fail
def a1S:Value->V
 | .bool b=> .b b| .int k n=> .i k n| .string s=> .s s.data.toList| .slice none 0 0=> .nl|_=> .undef
def vK(x:Operand)(K:V->Cmd α):Cmd α:=
 match x with
 | .tmp t=>bif Nat.blt t X9 then .get t K else .fail| .const v=>K (a1S v)| .global g=>K (.glob g)| .func f=>K (.fnv f)
def Nw{α:Type} :List Operand->(List V->Cmd α)->Cmd α
 |[],K=>K []
 |x::r,K=>vK x λv=>Nw r λvs=>K (v::vs)
def UO(n:Nat)(cs:List V):Option (List V):=match n,cs with
 |0,cs=>some cs|n+1,_::cs=>UO n cs|_+1,[]=>none
def a1o{R:Type u}(n:Nat)(cs:List V)(K:List V->R)(f:R):R:=match n,cs with
 |0,_=>K []|n+1,c::cs=>a1o n cs (λr=>K (c::r)) f|_+1,[]=>f
def Rz{R:Type u}(off n:Nat)(cs:List V)(K:List V->R)(f:R):R:=match UO off cs with|some r=>a1o n r K f|none=>f
def PU{R:Type u}(off:Nat)(vs cs:List V)(K:List V->R)(f:R):R:=match off,vs,cs with
 |0,[],cs=>K cs|0,v::vs,_::cs=>PU 0 vs cs (λr=>K (v::r)) f|n+1,vs,c::cs=>PU n vs cs (λr=>K (c::r)) f|_,_,[]=>f
def Ei:Operand->Bool
 | .const (.int _ n)=>decide (n=0)|_=>true
def Ik:Operand->Bool
 | .const (.int _ n)=>decide (n<0)|_=>true
def eq1:V->V->c6J
 | .b x,.b y=>some (Gz x y)| .i j x,.i k y=>bif decide (j=k)then some (C9 x y)else none| .s x,.s y=>some (seq x y)|_,_=>none
def Ap:List V->List V->c6J
 |[],[]=>some true
 |a::r,b::q=>match eq1 a b with
  |none=>none
  |some e=>match r,q with
   |[],[]=>some e|_,_=>(match Ap r q with|some e' =>some (iV e e')|none=>none)
 |_,_=>none
def Bi:List Ty->List V->Bool
 |[],[]=>true| .bool::ts,.b _::cs=>Bi ts cs| .int k::ts,.i k' _::cs=>decide (k=k')&&Bi ts cs| .str::ts,.s _::cs=>Bi ts cs|_,_=>false
def DV(n:Nat):c6I->Bool|[]=>false|k::r=>bif Nat.beq k n then true else DV n r
def a7I(E:Env)(t:Nat)(op:BinOp)(b:Bool)(K:V->Cmd α):Cmd α:=
 match dX E.tt t with
 |some i=>match i.td,op with
  | .sl _,.eql=>K (.b b)| .sl _,.neq=>K (.b (H5 b))|_,_=> .fail
 |none=> .fail
def JX(E:Env)(t:Nat)(op:BinOp)(yc:Operand)(x y:V)(K:V->Cmd α):Cmd α:=
 match x,y with
 | .i k a,.i k' b=>
  match op with
  | .shl=>bif Ik yc then Cmd.opt (X_ k a b) λr=>K (.i k r)else K (.i k (b1I k a b))
  | .shr=>bif Ik yc then Cmd.opt (a4v k a b) λr=>K (.i k r)else K (.i k (wM k a b))|_=>
  bif decide (k=k')then
   match op with
   | .add=>K (.i k (G5 k a b))| .sub=>K (.i k (N9 k a b))| .mul=>K (.i k (mY k a b))
   | .quo=>bif Ei yc then Cmd.opt (XK k a b) λr=>K (.i k r)else K (.i k (aO k a b))
   | .rem=>bif Ei yc then Cmd.opt (a4u a b) λr=>K (.i k r)else K (.i k (fE a b))| .and=>K (.i k (a5Q k a b))| .or=>K (.i k (ior k a b))| .xor=>K (.i k (a7y k a b))| .andNot=>K (.i k (a4q k a b))| .eql=>K (.b (C9 a b))| .neq=>K (.b (H5 (C9 a b)))| .lss=>K (.b (I5 a b))| .leq=>K (.b (U7 a b))| .gtr=>K (.b (I5 b a))| .geq=>K (.b (U7 b a))|_=> .fail
  else .fail
 | .s a,.s b=>
  match op with
  | .add=>Cmd.opt (N8 a b) λr=>K (.s r)| .eql=>K (.b (seq a b))| .neq=>K (.b (H5 (seq a b)))| .lss=>K (.b (slt a b))|_=> .fail
 | .b a,.b b=>
  match dX E.tt t with
  |some i=>match i.td,op with
   | .bool,.eql=>K (.b (Gz a b))| .bool,.neq=>K (.b (H5 (Gz a b)))|_,_=> .fail
  |none=> .fail
 | .agg xs,.agg ys=>
  match dX E.eqs t with
  |some sh=>bif Bi sh xs&&Bi sh ys then(match op,Ap xs ys with
   | .eql,some e=>K (.b e)| .neq,some e=>K (.b (H5 e))
   |_,_=> .fail)else .fail
  |none=> .fail
 | .nl,.nl=>a7I E t op true K| .ne b,.nl=>a7I E t op b K| .sl u xs,.nl=>bif u.isEnt then .fail else .br (C9 (A7 xs) 0) .fail (a7I E t op false K)|_,_=> .fail
def unC(op:UnOp)(x:V)(K:V->Cmd α):Cmd α:=
 match op,x with
 | .neg,.i k a=>K (.i k (N9 k 0 a))| .xor,.i k a=>K (.i k (a7y k (bif k.signed then -1 else k.max) a))| .not,.b a=>K (.b (H5 a))|_,_=> .fail
def PN(E:Env)(t:Nat):Bool:=bif Nat.blt t E.nt then !(DV t E.kp)else false
def dY(E:Env)(d:Option Tmp)(v:V):Cmd Unit:=match d with|some t=>bif PN E t then .set t v (.ret ())else .fail|none=> .ret ()
def O8(q:Nat)(d:Option Tmp):Nat:=match d with|some t=>CB*q+64*t|none=>CB*q+999936
def tiC(E:Env)(t:Nat)(K:TI->Cmd α):Cmd α:=match dX E.tt t with|some i=>K i|none=> .fail
def jb:TD->Bool| .struct _| .arr _ _=>true|_=>false
def FZ(E:Env)(t:Nat)(p:V)(K:V->Cmd α):Cmd α:=
 tiC E t λi=>match p with
 | .ptr bx off=> .get (X9+bx) λ
  | .bcells cs=>Rz off i.size cs (λr=>K (mkV (jb i.td) r)) Cmd.fail| .bfc u x=>Rz off i.size (flat u x []) (λr=>K (mkV (jb i.td) r)) Cmd.fail|_=> .fail
 | .ep bx idx off=> .get (X9+bx) λ
  | .barr u xs=>Cmd.opt (aN xs idx) λx=>Rz off i.size (flat u x []) (λr=>K (mkV (jb i.td) r)) Cmd.fail
  | .bfrz u xs=>Cmd.opt (aN xs idx) λx=>Rz off i.size (flat u x []) (λr=>K (mkV (jb i.td) r)) Cmd.fail
  | .barrs m xs _=>Cmd.opt (aN xs idx) λx=>Rz off i.size (JB m x []) (λr=>K (mkV (jb i.td) r)) Cmd.fail|_=> .fail
 | .dp u x off=>Rz off i.size (flat u x []) (λr=>K (mkV (jb i.td) r)) Cmd.fail|_=> .fail
def SG{R:Type u} :(m:M)->Nat->m.den->(V->R)->R->R
 | .own t,off,xs,K,f=>bif Nat.beq off 0 then K (.barr t xs)else f| .owns m,off,xs,K,f=>bif Nat.beq off 0 then K (.barrs m xs none)else f| .pair a b,off,x,K,f=>bif Nat.blt off a.size then SG a off x.1 K f else SG b (off -a.size) x.2 K f|_,_,_,_,f=>f
def Vs{R:Type u} :(m:M)->Nat->V->m.den->(m.den->R)->R->R
 | .own t,off,v,_,K,f=>bif Nat.beq off 0 then(match v with| .barr t' ys=>Ty.castL t' t ys K f| .nl=>bif t.isEnt then f else K []|_=>f)else f| .owns m,off,v,_,K,f=>bif Nat.beq off 0 then(match v with| .barrs m' ys none=>Xw m' m ys K f| .nl=>K []|_=>f)else f| .pair a b,off,v,x,K,f=>bif Nat.blt off a.size then Vs a off v x.1 (λy=>K (y,x.2)) f else Vs b (off -a.size) v x.2 (λy=>K (x.1,y)) f|_,_,_,_,_,f=>f
def a5F{α:Type} :(m:M)->Nat->List V->m.den->(m.den->Cmd α)->Cmd α
 | .dat t,off,vs,x,K=>bif t.flat then PU off vs (flat t x []) (λr=>nU BF t r λy q=>match q with|[]=>K y|_=> .fail) .fail else .fail| .pair a b,off,vs,x,K=>bif Nat.blt off a.size then a5F a off vs x.1 (λy=>K (y,x.2))else a5F b (off -a.size) vs x.2 (λy=>K (x.1,y))|_,_,_,_,_=> .fail
def M.ownAt:M->Nat->Bool
 | .own _,off=>Nat.beq off 0| .owns _,off=>Nat.beq off 0| .pair a b,off=>bif Nat.blt off a.size then a.ownAt off else b.ownAt (off -a.size)|_,_=>false
def M.firstOwn(m:M):Nat->Nat->Option Nat
 |_,0=>none|off,n+1=>bif m.ownAt off then some off else m.firstOwn (off+1) n
def setCell:Nat->V->List V->List V
 |_,_,[]=>[]|0,v,_::cs=>v::cs|n+1,v,c::cs=>c::setCell n v cs
def a2C(o n:Nat)(v:V):V:=match v with
 | .agg cs=> .agg (setCell o (.own n none) cs)|v=>v
def tkD(E:Env)(d:Option Nat):Bool:=match d with|some t=>PN E t&&DV t E.tk|none=>false
def Vh(h:Option (Nat×Nat×Option Nat))(idx off:Nat):Bool:=match h with|none=>true|some (i,o,_)=>bif Nat.beq o off then JO i idx else false
def b3o(E:Env)(d:Option Tmp)(nm t:Nat)(p:V)(K:V->Cmd α):Cmd α:=
 match p with
 | .ep bx idx off=> .get (X9+bx) λ
  | .barrs m xs none=>bif m.ownAt off then tiC E t λi=>(bif Nat.beq i.size 1&&!jb i.td then
     (bif DV (match d with|some d=>d|none=>X9) E.tk then
      Cmd.opt (aN xs idx) λx=>SG m off x (λv=>Cmd.set (X9+bx) (.barrs m xs (some (idx,off,none))) (vI nm v (Cmd.set (X9+bx) (.barrs m xs (some (idx,off,some nm))) (K (.own nm none))))) .fail
     else nU BF (.sl m.ty) [.own bx none] λ_ _=>FZ E t p K)else .fail)
    else bif tkD E d then tiC E t λi=>(match m.firstOwn off i.size with
     |none=>FZ E t p K
     |some o=>bif jb i.td&&Nat.ble (off+i.size) m.size then Cmd.opt (aN xs idx) λx=>SG m o x (λv=>Cmd.set (X9+bx) (.barrs m xs (some (idx,o,none))) (vI nm v (Cmd.set (X9+bx) (.barrs m xs (some (idx,o,some nm))) (FZ E t p λu=>K (a2C (o -off) nm u))))) .fail else .fail)
    else FZ E t p K
  | .barrs m xs (some (i,o,some n))=>bif m.ownAt off then tiC E t λj=>(bif Nat.beq j.size 1&&!jb j.td then
     .br (Vh (some (i,o,some n)) idx off) (K (.own n none)) .fail else .fail)
    else bif tkD E d then tiC E t λj=>(match m.firstOwn off j.size with
     |none=>FZ E t p K
     |some o' =>bif jb j.td&&Nat.ble (off+j.size) m.size then .br (Vh (some (i,o,some n)) idx o') (FZ E t p λu=>K (a2C (o' -off) n u)) .fail else .fail)
    else FZ E t p K
  |_=>FZ E t p K
 |_=>FZ E t p K
def a7w:V->Bool| .barr ..=>true| .barrs _ _ none=>true|_=>false
def YG(bx:Nat)(K:Cmd α):Cmd α:=.get (X9+bx) λ
 | .barrs _ _ (some (_,_,some n))=> .get (X9+n) λw=>bif a7w w then Cmd.set (X9+n) .dead (.get (X9+bx) λ
  | .barrs m xs (some (i,o,some _))=>Cmd.opt (aN xs i) λx=>Vs m o w x (λy=>Cmd.set (X9+bx) (.barrs m (fD xs i y) none) K) .fail
  |_=> .fail)else .fail
 |_=>K
def Qu{α:Type} :List V->Cmd α->Cmd α
 |[],K=>K
 |v::r,K=>match v with
  | .own bx none=>YG bx (Qu r K)|_=>Qu r K
def IL{α:Type} :List V->Cmd α->Cmd α
 |[],K=>K
 |v::r,K=>match v with
  | .own bx none=>YG bx (IL r K)
  | .ptr bx 0=> .get (X9+bx) λ
   | .bcells cs=>Qu cs (IL r K)|_=>IL r K
  | .agg cs=>Qu cs (IL r K)|_=>IL r K
def a3Y(c:Nat)(u:V)(K:Nat->Cmd α):Cmd α:=match u with
 | .own b none=>K b
 | .ptr pb 0=> .get (X9+pb) λ
  | .bcells cs=>Rz c 1 cs (λr=>match r with|[.own b none]=>K b|_=> .fail) .fail|_=> .fail
 |_=> .fail
def b2Y(b sz:Nat)(K:Cmd α):Cmd α:=.get (X9+b) λ
 | .barrs m _ _=>bif Nat.beq m.size sz then K else .fail| .barr t _=>bif Nat.beq t.size sz then K else .fail|_=> .fail
def a5z{α:Type} :List (Nat×Nat×Option (Nat×Nat×Nat×Nat))->Cmd α->Cmd α
 |[],K=>K
 |(n,k,none)::r,K=>bif Nat.blt n X9&&Nat.blt k X9 then .get n λv=> .get k λu=>bif b3B v u then a5z r K else .fail else .fail
 |(n,k,some (c,j,o,sz))::r,K=>bif Nat.blt n X9&&Nat.blt k X9&&Nat.blt j X9 then .get n λv=> .get k λu=> .get j λx=>(match v,x with
  | .ep b' i o',.i _ y=>a3Y c u λb=>bif Nat.beq o' o&&Nat.beq b' b then b2Y b sz (.br (JO i (Z7 y)) (a5z r K) .fail)else .fail
  |_,_=> .fail)else .fail
def a7h(s:Sig):Cmd (rE s):=a5z s.als (YS (s.ms.map (·.1)) λvs=>IL vs (Ky BF (s.ms.map (·.2)) vs .ret))
def Rk:List (Nat×Nat×Option (Nat×Nat×Nat×Nat))->Cmd Unit
 |[]=> .ret ()
 |(n,k,none)::r=>bif Nat.blt n X9&&Nat.blt k X9 then .get k λv=> .set n v (Rk r)else .fail
 |(n,k,some (c,j,o,sz))::r=>bif Nat.blt n X9&&Nat.blt k X9&&Nat.blt j X9 then .get k λu=> .get j λx=>(match x with
  | .i _ y=>a3Y c u λb=>b2Y b sz (.set n (.ep b (Z7 y) o) (Rk r))
  |_=> .fail)else .fail
def a7d(s:Sig)(x:rE s)(nb lim:Nat):Cmd Unit:=
 EH (s.ms.map (·.2)) x nb λvs n=>bif Nat.ble n lim then CY (s.ms.map (·.1)) vs (Rk s.als)else .fail
def ZV(bx idx off:Nat)(m:M)(xs:List m.den)(hole:Option (Nat×Nat×Option Nat))(v:V)(K:Cmd Unit):Cmd Unit:=
 .br (Vh hole idx off) (Cmd.opt (aN xs idx) λx=>Vs m off v x (λy=>Cmd.set (X9+bx) (.barrs m (fD xs idx y) none) K) .fail) .fail
def b0Q(E:Env)(t:Nat)(p v:V):Cmd Unit:=
 tiC E t λi=>match p with
 | .ptr bx off=> .get (X9+bx) λ
  | .bcells cs=>GH v λvs=>bif Nat.beq vs.length i.size then PU off vs cs (λr=>Cmd.set (X9+bx) (.bcells r) (.ret ())) Cmd.fail else .fail|_=> .fail
 | .ep bx idx off=> .get (X9+bx) λ
  | .barr u xs=>Cmd.opt (aN xs idx) λx=>GH v λvs=>bif Nat.beq vs.length i.size then PU off vs (flat u x []) (λr=>
    nU BF u r λy q=>match q with
     |[]=> .get (X9+bx) λ
      | .barr u' xs' =>Ty.castL u' u xs' (λxs' =>Cmd.set (X9+bx) (.barr u (fD xs' idx y)) (.ret ())) Cmd.fail|_=> .fail
     |_=> .fail) Cmd.fail else .fail
  | .barrs m xs hole=>bif m.ownAt off&&Nat.beq i.size 1&&!jb i.td then(match v with
    | .nl=>ZV bx idx off m xs hole .nl (.ret ())
    | .own b2 none=> .get (X9+b2) λw=>bif a7w w then Cmd.set (X9+b2) .dead (.get (X9+bx) λ
     | .barrs m xs hole=>ZV bx idx off m xs hole w (.ret ())
     |_=> .fail)else .fail
    |_=> .fail)
   else match hole with
    |none=>GH v λvs=>bif Nat.beq vs.length i.size then Cmd.opt (aN xs idx) λx=>a5F m off vs x λy=>Cmd.set (X9+bx) (.barrs m (fD xs idx y) none) (.ret ())else .fail|some _=> .fail
  | .barrp _ _ _ o=>bif Nat.beq off o&&Nat.beq i.size 1&&!jb i.td then(match v with
    | .own b2 none=> .get (X9+b2) λw=>bif a7w w then Cmd.set (X9+b2) .dead (.get (X9+bx) λ
     | .barrp m xs n o=> .br (JO idx (Z7 n)) (Cmd.opt (aN xs idx) λx=>Vs m off w x (λy=>Cmd.set (X9+bx) (.barrp m (fD xs idx y) (TF n) o) (.ret ())) .fail) .fail
     |_=> .fail)else .fail
    |_=> .fail)else .fail
  |_=> .fail
 |_=> .fail
def szB(sz:Nat)(u:Ty):Bool:=bif u.isEnt then false else Nat.beq sz u.size
def Kz(E:Env)(t f:Nat):Option (Nat×Nat×Bool):=
 match dX E.tt t with
 |some i=>match i.td with
  | .struct fs=>match fs[f]? with
   |some (ft,off)=>match dX E.tt ft with|some j=>bif Nat.beq j.size 0 then none else some (off,j.size,jb j.td)|none=>none
   |none=>none
  |_=>none
 |none=>none
def a0c(vw:Option (Nat×Nat)):Nat:=match vw with|none=>0|some (lo,_)=>lo
def b4q(vw:Option (Nat×Nat))(n:Nat):Nat:=match vw with|none=>n|some (lo,_)=>lo+n
theorem b1L(vw:Option (Nat×Nat))(n:Nat):b4q vw n=a0c vw+n:=by cases vw<;>simp[b4q,a0c]
def IP(E:Env)(t:Nat):Option (Bool×Nat×Nat):=
 match dX E.tt t with
 |some i=>match i.td with
  | .sl e=>match dX E.tt e with|some j=>some (false,0,j.size)|none=>none
  | .arr n e=>match dX E.tt e with|some j=>some (true,n,j.size)|none=>none
  |_=>none
 |none=>none
def Vo(E:Env)(t:Nat)(x ix:V)(K:V->Cmd α):Cmd α:=
 match ix,IP E t with
 | .i _ n,some (false,_,sz)=>match x with
  | .sl u xs=>bif szB sz u then Cmd.opt (P5 xs n) λy=>K (.dp u y 0)else .fail
  | .own bx vw=> .get (X9+(NL+bx)) λ
   | .blen ln sz' =>(match vw with|none=>bif Nat.beq sz sz' then .br (inb n ln) (K (.ep bx (Z7 n) 0)) .fail else .fail|_=> .fail)
   |_=> .get (X9+bx) λ
   | .barr u xs=>bif szB sz u then Cmd.opt (P5 (jL vw xs) n) λ_=>K (.ep bx (b4q vw (Z7 n)) 0)else .fail
   | .bfrz u xs=>bif szB sz u then Cmd.opt (P5 (jL vw xs) n) λy=>K (.dp u y 0)else .fail| .barrs m xs _=>(match vw with|none=>bif Nat.beq sz m.size then Cmd.opt (P5 xs n) λ_=>K (.ep bx (Z7 n) 0)else .fail|_=> .fail)| .barrp m xs _ _=>(match vw with|none=>bif Nat.beq sz m.size then Cmd.opt (P5 xs n) λ_=>K (.ep bx (Z7 n) 0)else .fail|_=> .fail)|_=> .fail
  |_=> .fail
 | .i _ n,some (true,l,sz)=>match x with
  | .glob g=>match dX E.gl g with
   |some ⟨u,xs⟩=>bif Nat.beq sz u.size&&Nat.beq l xs.length then Cmd.opt (P5 xs n) λy=>K (.dp u y 0)else .fail|none=> .fail
  | .ptr bx off=> .br (inb n l) (K (.ptr bx (off+Z7 n*sz))) .fail|_=> .fail
 |_,_=> .fail
def b7Y(td:TD)(x:V)(K:V->Cmd α):Cmd α:=
 match td,x with
 | .str,.s l=>K (.i .i64 (A7 l))| .sl _,.sl t xs=>bif t.isEnt then .fail else K (.i .i64 (A7 xs))| .map ..,.sl t xs=>bif t.isEnt then K (.i .i64 (A7 xs))else .fail
 | .map ..,.own bx none=> .get (X9+bx) λ
  | .barr t xs=>bif t.isEnt then K (.i .i64 (A7 xs))else .fail| .bfrz t xs=>bif t.isEnt then K (.i .i64 (A7 xs))else .fail|_=> .fail
 | .sl _,.nl=>K (.i .i64 0)
 | .sl _,.own bx vw=> .get (X9+(NL+bx)) λ
  | .blen ln _=>(match vw with|none=>K (.i .i64 ln)|_=> .fail)
  |_=> .get (X9+bx) λ
  | .barr t xs=>bif t.isEnt then .fail else K (.i .i64 (A7 (jL vw xs)))| .bfrz t xs=>bif t.isEnt then .fail else K (.i .i64 (A7 (jL vw xs)))| .barrs _ xs _=>(match vw with|none=>K (.i .i64 (A7 xs))|_=> .fail)| .barrp _ xs _ _=>(match vw with|none=>K (.i .i64 (A7 xs))|_=> .fail)|_=> .fail
 |_,_=> .fail
def BN(d:Int):Option V->c6K
 |none=>some d|some (.i _ n)=>some n|some _=>none
def Ro(E:Env)(t:Nat)(x:V)(lo hi:Option V)(K:V->Cmd α):Cmd α:=
 match x with
 | .s l=>tiC E t λi=>match i.td,BN 0 lo,BN (A7 l) hi with
  | .str,some a,some b=>Cmd.opt (gy l a b) λr=>K (.s r)|_,_,_=> .fail
 | .sl u l=>match IP E t,BN 0 lo,BN (A7 l) hi with
  |some (false,_,sz),some a,some b=>bif szB sz u then Cmd.opt (gy l a b) λr=>K (.sl u r)else .fail|_,_,_=> .fail
 | .own bx none=> .get (X9+bx) λ
  | .barr u xs=>match IP E t,BN 0 lo,BN (A7 xs) hi with
   |some (false,_,sz),some a,some b=>bif szB sz u then .br (mi a b (A7 xs)) (K (.own bx (some (Z7 a,Z7 b)))) .fail else .fail|_,_,_=> .fail
  | .bfrz u xs=>match IP E t,BN 0 lo,BN (A7 xs) hi with
   |some (false,_,sz),some a,some b=>bif szB sz u then .br (mi a b (A7 xs)) (K (.own bx (some (Z7 a,Z7 b)))) .fail else .fail|_,_,_=> .fail
  |_=> .fail
 |_=> .fail
def a1r{α:Type}(u:Ty):Nat->List V->(List u.den->Cmd α)->Cmd α
 |0,cs,K=>match cs with|[]=>K []|_=> .fail
 |n+1,cs,K=>nU BF u cs λx r=>a1r u n r λxs=>K (x::xs)
def Wq(E:Env)(nm t bx:Nat)(K:V->Cmd Unit):Cmd Unit:=tiC E t λi=>match i.td with
 | .arr n e=>tiC E e λj=>(match j.ty with
  |some u=>bif u.flat then .get (X9+bx) λ
   | .bcells cs=>a1r u n cs λxs=>Cmd.set (X9+bx) .dead (vI nm (.barr u xs) (K (.own nm none)))|_=> .fail
   else .fail
  |none=> .fail)
 |_=> .fail
def EG(E:Env)(t:Nat):Option (Nat×Ty):=
 match dX E.tt t with
 |some i=>match i.td with
  | .sl e=>match dX E.tt e with
   |some j=>match j.ty with|some u=>bif (Nat.beq u.size j.size&&Nat.ble j.bytes 65536&&!u.isEnt)then some (e,u)else none|none=>none
   |none=>none
  |_=>none
 |none=>none
def TQ(nm:Nat)(u:Ty)(x:V)(ys:List u.den)(K:V->Cmd Unit):Cmd Unit:=
 match x with
 | .nl=>Cmd.opt (eG [] ys) λzs=>vI nm (.barr u zs) (K (.own nm none))
 | .own bx vw=> .get (X9+bx) λ
  | .barr u' xs=>Ty.castL u' u xs (λxs=>Cmd.opt (eG (jL vw xs) ys) λzs=>Cmd.set (X9+bx) .dead (vI nm (.barr u zs) (K (.own nm none)))) Cmd.fail|_=> .fail
 |_=> .fail
def a3U(E:Env)(nm:Nat)(t:Nat)(x:V)(l:c6F)(K:V->Cmd Unit):Cmd Unit:=
 match EG E t with
 |some (_,.int .u8)=>(match dX E.om t with|none=>TQ nm (.int .u8) x (Xa l) K|some _=> .fail)|_=> .fail
def a6W(E:Env)(nm:Nat)(t:Nat)(l:c6F)(K:V->Cmd Unit):Cmd Unit:=
 match EG E t with
 |some (e,.int .u8)=>tiC E e λk=>(match k.td with
  | .int .u8=>vI nm (.barr (.int .u8) (Xa l)) (K (.own nm none))
  |_=> .fail)
 |_=> .fail
def a3T(E:Env)(nm:Nat)(t:Nat)(x y:V)(K:V->Cmd Unit):Cmd Unit:=
 match EG E t with
 |none=> .fail
 |some (_,u)=>match dX E.om t with
  |none=>a6k u y λys=>TQ nm u x ys K
  |some m=>bif Nat.beq m.size u.size then exM BF (.owns m) [y] λys _=>exM BF (.owns m) [x] λxs _=>Cmd.opt (eG xs ys) λzs=>vI nm (.barrs m zs none) (K (.own nm none))else .fail
def zF{α:Type}(u:Ty):List (Nat×V)->Nat->Nat->(List u.den->Cmd α)->Cmd α
 |[],_,0,K=>K []
 |(i,v)::r,n,m+1,K=>bif Nat.beq i n then GH v λcs=>nU BF u cs λx q=>match q with|[]=>zF u r (n+1) m λxs=>K (x::xs)|_=> .fail else .fail
 |_,_,_,_=> .fail
def xh{α:Type}(m:M):List (Nat×V)->Nat->Nat->(List m.den->Cmd α)->Cmd α
 |[],_,0,K=>K []
 |(i,v)::r,n,k+1,K=>bif Nat.beq i n then GH v λcs=>exM BF m cs λx q=>match q with|[]=>xh m r (n+1) k λxs=>K (x::xs)|_=> .fail else .fail
 |_,_,_,_=> .fail
def a3R(E:Env):List (Nat×Nat)->Bool
 |[]=>true
 |(t,_)::r=>match dX E.tt t with|some _=>a3R E r|none=>false
def Dt{α:Type}(E:Env)(t:Nat):List (Nat×V)->List V->(List V->Cmd α)->Cmd α
 |[],cs,K=>K cs
 |(f,v)::r,cs,K=>match Kz E t f with
  |some (off,n,_)=>GH v λvs=>bif Nat.beq vs.length n then PU off vs cs (λcs' =>Dt E t r cs' K) .fail else .fail|none=> .fail
def JW{α:Type}(sz:Nat):List (Nat×V)->List V->(List V->Cmd α)->Cmd α
 |[],cs,K=>K cs
 |(i,v)::r,cs,K=>GH v λvs=>bif Nat.beq vs.length sz then PU (i*sz) vs cs (λcs' =>JW sz r cs' K) .fail else .fail
def aj{α:Type} :List MG->List V->List V->Cmd α->Cmd α
 |(_,.box _)::ms,.ptr bx _::vs,.agg cs::os,K=> .get (X9+bx) λ
  | .dead=>Cmd.set (X9+bx) (.bcells cs) (aj ms vs os K)|_=> .fail
 |(_,.box _)::_,_,_,_=> .fail
 |(_,.ifc _ (.box _))::ms,.ifc _ (.ptr bx _)::vs,.agg cs::os,K=> .get (X9+bx) λ
  | .dead=>Cmd.set (X9+bx) (.bcells cs) (aj ms vs os K)|_=> .fail
 |(_,.ifc _ (.box _))::_,_,_,_=> .fail
 |(_,.ownb _)::ms,.own bx none::vs,.own nm none::os,K=> .get (X9+nm) λ
  | .barr u xs=>Cmd.set (X9+nm) .dead (.get (X9+bx) λ
   | .gone t=>Ty.castL u t xs (λxs=>Cmd.set (X9+bx) (.barr t xs) (aj ms vs os K)) .fail
   |_=> .fail)
  |_=> .fail
 |(_,.ownb _)::ms,.nl::vs,.own nm none::os,K=>Cmd.set (X9+nm) .dead (aj ms vs os K)|(_,.ownb _)::_,_,_,_=> .fail
 |(_,.sbx _ _)::ms,.ptr bx _::vs,.ptr nm _::os,K=> .get (X9+nm) λ
  | .bsb tb c=>Cmd.set (X9+nm) .dead (.get (X9+bx) λ
   | .dead=>Cmd.set (X9+bx) (.bsb tb c) (aj ms vs os K)
   |_=> .fail)
  |_=> .fail
 |(_,.sbx _ _)::_,_,_,_=> .fail|(_,.sit)::_,_,_,_=> .fail|_::ms,_::vs,os,K=>aj ms vs os K|[],[],[],K=>K|_,_,_,_=> .fail
def Ty.occ(t:Ty):Ty->Bool
 | .sl u=>decide (t=u) || Ty.occ t u| .prod a b=>Ty.occ t a || Ty.occ t b| .ent _ _ a b=>Ty.occ t a || Ty.occ t b|_=>false
def SB(t:Ty):List Ty->Bool|[]=>false|u::r=>decide (t=u) || Ty.occ t u || SB t r
def M.occ(t:Ty):M->Bool
 | .dat u=>Ty.occ t u| .own u=>Ty.occ t u| .pair a b=>a.occ t || b.occ t| .unit=>false| .box m=>m.occ t| .owns m=>m.occ t| .ownb u=>Ty.occ t u| .rp u=>decide (t=u) || Ty.occ t u| .fn _ ts=>SB t ts| .ifc _ m=>m.occ t| .cell _=>false| .fr u=>decide (t=u) || Ty.occ t u| .sbx _ _=>false| .sit=>false| .lp u=>decide (t=u) || Ty.occ t u| .dv ..=>false| .ownr m _=>m.occ t
def KP(t:Ty):List MG->Bool|[]=>false|m::r=>m.2.occ t || KP t r
def KH(s:FSpec):Ty->Bool:=λt=> !(KP t s.rs || KP t s.outs)
def Fp:Nat->List V->Option (List V×List V)
 |0,vs=>some ([],vs)
 |n+1,v::vs=>match Fp n vs with|some (a,b)=>some (v::a,b)|none=>none
 |_+1,[]=>none
def Dx:List V->Bool|[]=>false| .tup _::_=>true|_::r=>Dx r
def a6r:List V->V|[v]=>v|vs=> .tup vs
def NU:List MG->List V->Bool
 |(_,.fn g _)::ms,.clos f _::vs=>Nat.beq f g&&NU ms vs|(_,.fn g _)::ms,.fnv f::vs=>Nat.beq f g&&NU ms vs|(_,.ifc t _)::ms,.ifc t' _::vs=>Nat.beq t t' &&NU ms vs|(_,.dv _ _ _ fo)::ms,v::vs=>(match v with| .ep _ _ o=>Nat.beq o fo|_=>false)&&NU ms vs|_::ms,_::vs=>NU ms vs|_,_=>true
def XZ:List (Nat×FSpec)->Nat->List V->Option FSpec
 |[],_,_=>none|(g,s)::r,f,vs=>bif Nat.beq g f&&NU s.ps vs then some s else XZ r f vs
def a4B(sz fo:Nat)(c:V)(K:V->Cmd α):Cmd α:=match c with
 | .sl u xs=>bif szB sz u then Cmd.opt (P5 xs (N9 .i64 (A7 xs) 1)) λy=>K (.dp u y fo)else .fail
 | .own bx none=> .get (X9+(NL+bx)) λ
  | .blen ln sz' =>bif Nat.beq sz sz' then .br (inb (N9 .i64 ln 1) ln) (K (.ep bx (Z7 (N9 .i64 ln 1)) fo)) .fail else .fail
  |_=> .get (X9+bx) λ
   | .barr u xs=>bif szB sz u then Cmd.opt (P5 xs (N9 .i64 (A7 xs) 1)) λ_=>K (.ep bx (Z7 (N9 .i64 (A7 xs) 1)) fo)else .fail
   | .bfrz u xs=>bif szB sz u then Cmd.opt (P5 xs (N9 .i64 (A7 xs) 1)) λy=>K (.dp u y fo)else .fail
   | .barrs m xs _=>bif Nat.beq sz m.size then Cmd.opt (P5 xs (N9 .i64 (A7 xs) 1)) λ_=>K (.ep bx (Z7 (N9 .i64 (A7 xs) 1)) fo)else .fail|_=> .fail
 |_=> .fail
def a0z(off sz fo:Nat)(v:V)(K:V->Cmd α):Cmd α:=match v with
 | .ptr bx o=> .get (X9+bx) λ
  | .bcells cs=>Rz (o+off) 1 cs (λr=>match r with|[c]=>a4B sz fo c K|_=> .fail) .fail|_=> .fail
 | .dp u x o=>Rz (o+off) 1 (flat u x []) (λr=>match r with|[c]=>a4B sz fo c K|_=> .fail) .fail|_=> .fail
def b7U(a b:V)(K:Cmd α):Cmd α:=match a,b with
 | .ep n i o,.ep n' i' o' =>bif Nat.beq n n' &&Nat.beq o o' then .br (JO i i') K .fail else .fail|_,_=> .fail
def b1Y:List V->Nat->V
 |[],_=> .un|v::_,0=>v|_::r,n+1=>b1Y r n
def dvC{α:Type}(all:List V):List MG->List V->Cmd α->Cmd α
 |(_,.dv k off sz fo)::ms,v::vs,K=>a0z off sz fo (b1Y all k) λr=>b7U r v (dvC all ms vs K)|_::ms,_::vs,K=>dvC all ms vs K|[],[],K=>K|_,_,_=> .fail
def Xu(E:Env)(q:Nat)(d:Option Tmp)(f:Nat)(vs:List V):Cmd Unit:=
 bif Nat.ble 1000000000 f then .fail else
 match XZ E.fs f vs with
 |none=> .fail|some s=>dvC vs s.ps vs<|
  Ky (KH s) s.ps vs λx=>Cmd.opt (s.fn x) λr=>
   EH (s.rs++s.outs) r (O8 q d) λws n' =>bif Nat.ble n' (O8 q d+64)then(match Fp s.rs.length ws with
    |some (a,o)=>bif Dx a then .fail else aj s.ps vs o (dY E d (a6r a))
    |none=> .fail)else .fail
abbrev PB:Nat:=1000000000
abbrev cd:MG:=(false,.dat (.int .i64))
def T_:(l:List MG)->U0 (cd::l)->Int
 |[],x=>x|_::_,x=>x.1
def tlT:(l:List MG)->U0 (cd::l)->U0 l
 |[],_=>()|_::_,x=>x.2
def c5v:(ts:List Ty)->OE ts
 |[]=>()|[t]=>t.zero|t::t' ::r=>(t.zero,c5v (t' ::r))
def M.dum:(m:M)->m.den
 | .dat t=>t.zero| .own _=>[]| .pair a b=>(a.dum,b.dum)| .unit=>()| .box m=>m.dum| .owns _=>[]| .ownb _=>[]| .rp t=>t.zero| .fn _ ts=>c5v ts| .ifc _ m=>m.dum| .cell _=>()| .fr _=>[]| .sbx _ _=>[]| .sit=>([],0)| .lp t=>t.zero| .dv ..=>()| .ownr _ _=>([],0)
def a3E:(l:List MG)->U0 l
 |[]=>()|[m]=>m.2.dum|m::m' ::r=>(m.2.dum,a3E (m' ::r))
def UH:(l:List MG)->Int->U0 l->U0 (cd::l)
 |[],c,_=>c|_::_,c,x=>(c,x)
def b4n:List (Nat×FSpec)->Nat->Bool
 |[],_=>false|(g,_)::r,f=>bif Nat.beq g (PB+f)then true else b4n r f
def a1M(E:Env)(q:Nat)(d:Option Tmp)(vs:List V)(ps:List MG):(rs outs:List MG)->(U0 ps->Option (U0 (rs++outs)))->Cmd c6K
 |(false,.dat (.int .i64))::rs,outs,fn=>dvC vs ps vs<|
   Ky (KH ⟨ps,rs,outs,λ_=>none⟩) ps vs λx=>Cmd.opt (fn x) λr=>
    .br (C9 (T_ (rs++outs) r) 0)
     ((EH (rs++outs) (tlT (rs++outs) r) (O8 q d) λws n' =>bif Nat.ble n' (O8 q d+64)then(match Fp rs.length ws with
      |some (a,o)=>bif Dx a then .fail else aj ps vs o (dY E d (a6r a))
      |none=> .fail)else .fail).bind λ_=> .ret none)
     (.ret (some (T_ (rs++outs) r)))
 |_,_,_=> .fail
def a6Q(E:Env)(q:Nat)(d:Option Tmp)(f:Nat)(vs:List V):Cmd c6K:=
 match XZ E.fs (PB+f) vs with
 |none=> .fail|some s=>a1M E q d vs s.ps s.rs s.outs s.fn
def wV{α:Type} :List MG->List V->(List ((t:Ty)×t.den)->Cmd α)->Cmd α
 |(_,.rp t)::ms,v::vs,K=>rpC t v λx=>wV ms vs λcs=>K (⟨t,x⟩::cs)|[],[],K=>K []|_,_,_=> .fail
def b7N(c:(t:Ty)×t.den):V:=.dp c.1 c.2 0
def VA:List ((Nat×String)×Nat×Option Nat)->Nat->String->Option (Nat×Option Nat)
 |[],_,_=>none|((t,n),r)::l,u,m=>bif Nat.beq t u&&(n==m)then some r else VA l u m
structure MT where
 ke:Nat
 el:Nat
 ka:Bool
 va:Bool
 k:Ty
 v:Ty
abbrev MT.ent(m:MT):Ty:=.ent m.ka m.va m.k m.v
def SA:M->List V->Bool
 | .dat _,_=>true| .unit,_=>true
 | .own t,cs=>match cs with| .nl::_=> !t.isEnt|_=>false
 | .owns _,cs=>match cs with| .nl::_=>true|_=>false
 | .pair a b,cs=>match UO a.size cs with|some r=>bif SA a cs then SA b r else false|none=>false
 |_,_=>false
def a5t(E:Env)(t:Nat)(m:M):Bool:=
 match EG E t with
 |some (e,_)=>match dX E.tt e with|some j=>bif Nat.beq j.zero.length j.size then SA m j.zero else false|none=>false
 |none=>false
def Wi:Operand->Operand->Bool
 | .tmp a,.tmp b=>Nat.beq a b|_,_=>false
def b7L(t:Nat)(zs:List V):V:=match zs with
 |[.npt,.nl]=> .bsb t .nl|zs=> .bcells zs
def dJ(E:Env)(q:Nat)(o:Oper):Cmd Unit:=
 match o.op with
 | .move x| .assign x=>vK x λv=>dY E o.dst v
 | .pick c a b=>vK c λ
  | .b t=>bif t then vK a λva=>dY E o.dst va else vK b λvb=>dY E o.dst vb|_=> .fail
 | .alloc t=>tiC E t λi=>bif Nat.beq i.zero.length i.size then vI (O8 q o.dst) (b7L t i.zero) (dY E o.dst (.ptr (O8 q o.dst) 0))else .fail
 | .box _ x=>vK x λv=>GH v λcs=>vI (O8 q o.dst) (.bcells cs) (dY E o.dst (.ptr (O8 q o.dst) 0))
 | .build t ps=>tiC E t λi=>match i.td with
  | .struct fs=>bif a3R E fs&&Nat.beq i.zero.length i.size then(Nw (ps.toList.map (·.2)) λvs=>
    Dt E t ((ps.toList.map (·.1)).zip vs) i.zero (λcs=>dY E o.dst (.agg cs)))else .fail
  | .arr _ e=>tiC E e λj=>bif Nat.beq i.zero.length i.size then(Nw (ps.toList.map (·.2)) λvs=>
    JW j.size ((ps.toList.map (·.1)).zip vs) i.zero (λcs=>dY E o.dst (.agg cs)))else .fail
  |_=> .fail
 | .buildSlice t n ps=>match EG E t with
  |some (_,u)=>bif Nat.ble (n*u.size) 16777216 then(Nw (ps.toList.map (·.2)) λvs=>match dX E.om t with
    |none=>zF u ((ps.toList.map (·.1)).zip vs) 0 n λxs=>vI (O8 q o.dst) (.barr u xs) (dY E o.dst (.own (O8 q o.dst) none))
    |some m=>bif Nat.beq m.size u.size&&m.el then xh m ((ps.toList.map (·.1)).zip vs) 0 n λxs=>vI (O8 q o.dst) (.barrs m xs none) (dY E o.dst (.own (O8 q o.dst) none))else .fail)else .fail
  |none=> .fail
 | .load t x=>vK x λp=>b3o E o.dst (O8 q o.dst) t p λv=>dY E o.dst v
 | .store t x y=>match o.dst with|none=>vK x λp=>vK y λv=>b0Q E t p v|some _=> .fail
 | .binOp op t x y _=>vK x λa=>vK y λb=>JX E t op y a b λv=>dY E o.dst v
 | .unOp op _ x=>vK x λa=>unC op a λv=>dY E o.dst v
 | .convert src t x=>vK x λa=>tiC E src λj=>tiC E t λi=>match a,i.td with
  | .i _ n,.int k=>dY E o.dst (.i k (wrap k n))| .s l,.str=>dY E o.dst (.s l)| .s l,.sl _=>(match j.td with| .str=>a6W E (O8 q o.dst) t l λv=>dY E o.dst v|_=> .fail)
  |_,.str=>(match j.td with
   | .sl e=>tiC E e λk=>(match k.td with
    | .int .u8=>a6k (.int .u8) a λxs=>dY E o.dst (.s (C_ xs))
    |_=> .fail)
   |_=> .fail)
  |_,_=> .fail
 | .makeSlice t l c=>match dX E.om t with
  |some m=>(match EG E t with
   |some (_,u)=>vK l λ
    | .i _ n=>bif Wi l c&&Nat.beq m.size u.size&&a5t E t m then(if h:m.el=true/\m.ty=u then Cmd.opt (BD n (m.zero h.1)) λxs=>vI (O8 q o.dst) (.barrs m xs none) (.set (X9+(NL+O8 q o.dst)) (.blen (A7 xs) m.size) (dY E o.dst (.own (O8 q o.dst) none)))else .fail)else .fail|_=> .fail
   |none=> .fail)
  |none=>match EG E t with
  |some (_,u)=>vK l λ
   | .i _ n=>bif Wi l c then
     Cmd.opt (BD n u.zero) λxs=>vI (O8 q o.dst) (.barr u xs) (dY E o.dst (.own (O8 q o.dst) none))
    else vK c λ
     | .i _ k=>Cmd.br (mi n k 1073741824) (Cmd.opt (BD n u.zero) λxs=>vI (O8 q o.dst) (.barr u xs) (dY E o.dst (.own (O8 q o.dst) none))) .fail|_=> .fail
   |_=> .fail
  |none=> .fail
 | .slice t x lo hi none=>vK x λv=>Nw (lo.toList++hi.toList) λbs=>
   match lo,hi,bs with
   |none,none,[]=>(match v with
    | .ptr bx 0=>Wq E (O8 q o.dst) t bx λr=>dY E o.dst r
    |_=>Ro E t v none none λr=>dY E o.dst r)
   |some _,none,[a]=>Ro E t v (some a) none λr=>dY E o.dst r
   |none,some _,[b]=>Ro E t v none (some b) λr=>dY E o.dst r
   |some _,some _,[a,b]=>Ro E t v (some a) (some b) λr=>dY E o.dst r|_,_,_=> .fail
 | .fieldAddr t x f=>vK x λp=>match Kz E t f with
  |some (off,_,_)=>match p with
   | .ptr bx o' =>dY E o.dst (.ptr bx (o' +off))| .ep bx ix o' =>dY E o.dst (.ep bx ix (o' +off))| .dp u y o' =>dY E o.dst (.dp u y (o' +off))|_=> .fail
  |none=> .fail
 | .field t x f=>vK x λp=>match Kz E t f with
  |some (off,n,ag)=>YD true p λps=>Rz off n ps (λcs=>dY E o.dst (mkV ag cs)) Cmd.fail|none=> .fail
 | .indexAddr t x ix=>vK x λv=>vK ix λn=>Vo E t v n λr=>dY E o.dst r
 | .index t x ix=>vK x λv=>vK ix λn=>tiC E t λi=>match i.td,v,n with
  | .str,.s l,.i _ k=>Cmd.opt (sat l k) λc=>dY E o.dst (.i .u8 c)|_,_,_=> .fail
 | .extract x n=>vK x λ
  | .tup vs=>match vs[n]? with|some v=>dY E o.dst v|none=> .fail
  |_=> .fail
 | .nilCheck x=>vK x λv=>match v with
  | .ptr ..| .ep ..| .dp ..| .glob _=>dY E o.dst v|_=> .fail
 | .call c=>Nw c.args.toList λvs=>match c.callee with
  | .builtin .len=>(match c.argTypes.toList,vs with
   |t::_,[x]=>tiC E t λi=>b7Y i.td x λv=>dY E o.dst v
   |_,_=> .fail)
  | .builtin .append=>(match c.argTypes.toList,vs with
   |[t,t'],[x,y]=>bif Nat.beq t t' then a3T E (O8 q o.dst) t x y λv=>dY E o.dst v else(match y with
    | .s l=>tiC E t' λi=>(match i.td with| .str=>a3U E (O8 q o.dst) t x l λv=>dY E o.dst v|_=> .fail)
    |_=> .fail)
   |_,_=> .fail)
  | .builtin .min=>(match vs with|[.i k a,.i k' b]=>bif decide (k=k')then dY E o.dst (.i k (Dj a b))else .fail|_=> .fail)| .builtin .max=>(match vs with|[.i k a,.i k' b]=>bif decide (k=k')then dY E o.dst (.i k (wL a b))else .fail|_=> .fail)
  | .value (.func f)=>(match dX E.pl f with
   |some (off,sz)=>bif Nat.beq sz 0 then .fail else(match vs with|[v]=>a0z off sz 0 v λr=>dY E o.dst r|_=> .fail)
   |none=>Xu E q o.dst f vs)
  | .value x=>vK x λ
   | .clos f caps=>Xu E q o.dst f (vs++caps.map b7N)|_=> .fail
  | .invoke x n=>vK x λ
   | .ifc t v=>(match VA E.ms t n with
    |some (f,none)=>Xu E q o.dst f (v::vs)
    |some (f,some e)=>FZ E e v λr=>Xu E q o.dst f (r::vs)
    |none=> .fail)
   |_=> .fail
  |_=> .fail
 | .makeFunc (.func f) first caps=>bif Nat.beq first.size 0 then(match dX E.pl f with
  |some (n,z)=>bif Nat.beq z 0&&Nat.beq caps.size n then dY E o.dst (.idl f n)else .fail
  |none=>(match dX E.fs f with
   |some s=>Nw caps.toList λvs=>wV (s.ps.drop (s.ps.length -vs.length)) vs λcs=>dY E o.dst (.clos f cs)
   |none=> .fail))else .fail
 | .defer c=>bif Nat.beq c.args.size 0 then(match o.dst,c.callee with
  |none,.value x=>vK x λ
   | .idl f n=>(match dX E.pl f with
    |some (k,z)=>bif Nat.beq z 0&&Nat.beq n k then dY E none .undef else .fail
    |none=> .fail)
   |_=> .fail
  |_,_=> .fail)else .fail
 | .makeInterface t x=>tiC E t λi=>(match i.td with
  | .bool| .int _| .str| .ptr _=>vK x λv=>(match v with
   | .b ..| .i ..| .s ..| .ptr ..=>dY E o.dst (.ifc t v)
   |_=> .fail)
  |_=> .fail)
 | .typeAssert x _ t ok=>tiC E t λi=>(match i.td with
  | .other=> .fail
  |_=>vK x λ
   | .ifc t' v=>bif Nat.beq t' t then dY E o.dst (bif ok then .tup [v,.b true]else v)else .fail
   |_=> .fail)
 | .range t x=>vK x λv=>tiC E t λi=>match i.td,v with
  | .str,.s l=>vI (O8 q o.dst) (.biter l 0) (dY E o.dst (.ptr (O8 q o.dst) 0))|_,_=> .fail
 | .next x isS=>bif isS then(vK x λ
   | .ptr bx 0=> .get (X9+bx) λ
    | .biter l p=> .br (I5 p (A7 l)) (Cmd.set (X9+bx) (.biter l (xU l p)) (dY E o.dst (.tup [.b true,.i .i64 p,.i .i32 (nG l p)]))) (dY E o.dst (.tup [.b false]))|_=> .fail
   |_=> .fail)else .fail
 |_=> .fail
def Js(E:Env)(q:Nat)(ops:List Oper)(o:Oper):Cmd Unit:=
 match o.guard with
 |none=>dJ E q o
 |some (j,want)=>match ops[j]? with
  |some p=>match p.dst with
   |some t=>bif Nat.blt t X9 then(.get t λ
    | .b y=>bif (bif want then y else !y)then dJ E q o else dY E o.dst .un| .un=>dY E o.dst .un
    |_=> .fail)else .fail
   |none=> .fail
  |none=> .fail
def DK(E:Env)(o:Oper):Option Nat:=match o.op with
 | .call c=>(match c.callee with
  | .value (.func f)=>bif b4n E.fs f then some f else none
  |_=>none)
 |_=>none
def opP(E:Env)(q:Nat)(o:Oper)(f:Nat):Cmd c6K:=match o.op with
 | .call c=>Nw c.args.toList λvs=>a6Q E q o.dst f vs|_=> .fail
def IA(E:Env)(q:Nat)(ops:List Oper)(o:Oper)(f:Nat):Cmd c6K:=
 match o.guard with
 |none=>opP E q o f
 |some (j,want)=>match ops[j]? with
  |some p=>match p.dst with
   |some t=>bif Nat.blt t X9 then(.get t λ
    | .b y=>bif (bif want then y else !y)then opP E q o f else(dY E o.dst .un).bind λ_=> .ret none
    | .un=>(dY E o.dst .un).bind λ_=> .ret none
    |_=> .fail)else .fail
   |none=> .fail
  |none=> .fail
def b8h(x:c6K):Cmd Unit:=match x with|none=> .ret ()|some _=> .fail
def pR(E:Env)(q:Nat)(ops:List Oper)(o:Oper):Cmd Unit:=match DK E o with
 |none=>Js E q ops o|some f=>(IA E q ops o f).bind b8h
def PW(t:Nat)(s:St)(K:St->Option R):Option R:=
 (aV s t).force λ
  | .b y=>l7 y (K (.kv t (.b true)::s)) (K (.kv t (.b false)::s))| .un=>K s|_=>none
def a6N(ops:List Oper)(o:Oper):Option Nat:=
 match o.guard with
 |some (j,_)=>match ops[j]? with|some p=>p.dst|none=>none
 |none=>match o.op with| .pick (.tmp t) _ _=>some t|_=>none
abbrev Trs:=List Tr
def Hg{R:Type}(E:Env)(q:Nat)(all:List Oper)(P:Int->St->Tr->Trs->Option R):List Oper->St->Trs->(St->Trs->Option R)->Option R
 |[],s,t,K=>K s t
 |o::r,s,t,K=>match DK E o with
  |none=>(match a6N all o with
   |none=>(Js E q all o).runK s ([],[]) λ_ s' tr=>Hg E q all P r s' (tr::t) K
   |some p=>PW p s λs=>(Js E q all o).runK s ([],[]) λ_ s' tr=>Hg E q all P r s' (tr::t) K)
  |some f=>(match a6N all o with
   |none=>(IA E q all o f).runK s ([],[]) λx s' tr=>(match x with|none=>Hg E q all P r s' (tr::t) K|some c=>P c s' tr t)
   |some p=>PW p s λs=>(IA E q all o f).runK s ([],[]) λx s' tr=>(match x with|none=>Hg E q all P r s' (tr::t) K|some c=>P c s' tr t))
def Bg:c6I->c6I->Bool
 |[],[]=>true|a::r,b::q=>bif Nat.beq a b then Bg r q else false|_,_=>false
def qo(o:Oper):Bool:=match o.op with| .call ..=>true|_=>false
def YO(E:Env)(o:Oper):Bool:=!qo o&&(match o.dst with|some d=>DV d E.rc|none=>false)
def a7f(E:Env)(all:List Oper)(i:Nat):Bool:=match all[i]? with|some o=>YO E o|none=>false
def YC(all:List Oper)(i:Nat):Bool:=match all[i]? with|some o=>qo o|none=>false
def b1f(a b:V)(K:Option R):Option R:=
 a.force λa=>b.force λb=>match a with
  | .i k n=>(match b with| .i k' n' =>bif decide (k=k')then l7 (C9 n n') K none else none|_=>none)| .sl t xs=>(match b with| .sl u ys=>Ty.castL u t ys (λys=>l7 (deq (.sl t) xs ys) K none) none|_=>none)| .b x=>(match b with| .b y=>l7 (Gz x y) K none|_=>none)| .s x=>(match b with| .s y=>l7 (seq x y) K none|_=>none)|_=>none
abbrev a5w:=List (Oper×Tr×V)
def Yf{R:Type}(E:Env)(q:Nat)(all:List Oper)(s:St):a5w->Option R->Option R
 |[],K=>K
 |(o,tr,v)::p,K=>(pR E q all o).runK s ([],[]) λ_ s2 tr2=>match o.dst with
  |some d=>bif Bg tr.1 tr2.1&&Bg tr.2 tr2.2&&Bg tr2.2 [d]then b1f v (aV s2 d) (Yf E q all s p K)else none|none=>none
def VK(E:Env)(o:Oper)(s:St)(tr:Tr)(p:a5w):a5w:=
 bif YO E o then(match o.dst with|some d=>(o,tr,aV s d)::p|none=>p)else p
def Be{R:Type}(E:Env)(q:Nat)(all:List Oper):List Oper->St->Trs->a5w->(St->Trs->Option R)->Option R
 |[],s,t,_,K=>K s t
 |o::r,s,t,p,K=>match a6N all o with
  |none=>(pR E q all o).runK s ([],[]) λ_ s' tr=>bif qo o then Yf E q all s' p (Be E q all r s' (tr::t) p K)else Be E q all r s' (tr::t) (VK E o s' tr p) K
  |some g=>PW g s λs=>(pR E q all o).runK s ([],[]) λ_ s' tr=>bif qo o then Yf E q all s' p (Be E q all r s' (tr::t) p K)else Be E q all r s' (tr::t) (VK E o s' tr p) K
def OX(a b:c6I):Bool:=match a with|[]=>true|k::r=>bif DV k b then false else OX r b
def VG(ordered:Bool)(x y:Tr):Bool:=bif ordered then true else(OX x.2 y.1&&OX x.2 y.2&&OX x.1 y.2)
def MC(mask:Nat)(y:Tr):Trs->Nat->Bool
 |[],_=>true|x::r,i=>VG (Nat.testBit mask (i -1)) x y&&MC mask y r (i -1)
def Oi:c6I->Trs->Bool
 |m::ms,y::r=>MC m y r r.length&&Oi ms r|[],[]=>true|_,_=>false
def a4G(mask:Nat)(x:Tr):List (Nat×Tr)->Bool
 |[]=>true|(m,z)::r=>(Nat.testBit mask m || OX x.1 z.2)&&a4G mask x r
def a4K(ordered ex:Bool)(mask:Nat)(x y:Tr)(mids:List (Nat×Tr)):Bool:=
 bif ordered then true else(OX x.2 y.1&&OX x.2 y.2&&(bif OX x.1 y.2 then true else(ex&&OX x.2 x.1&&a4G mask x mids)))
def PI(E:Env)(all:List Oper)(mask:Nat)(y:Tr)(cy:Bool):Trs->Nat->List (Nat×Tr)->Bool
 |[],_,_=>true|x::r,i,mids=>a4K (Nat.testBit mask (i -1)) (cy&&a7f E all (i -1)) mask x y mids&&PI E all mask y cy r (i -1) ((i -1,x)::mids)
def PK(E:Env)(all:List Oper):c6I->Trs->Bool
 |m::ms,y::r=>PI E all m y (YC all r.length) r r.length []&&PK E all ms r|[],[]=>true|_,_=>false
inductive Flow (ρ:Type) where
 |nm|ex (id:Nat)|rt (r:ρ)
def Nh(acc:c6I)(n:Nat):List Edge->Nat->Option Nat
 |[],m=>some m
 |e::r,m=>match e.ground with
  | .textOnly _=>Nh acc n r m| .gcOnly _=>Nh acc n r m|_=>bif Nat.blt e.on n then Nh acc n r (m ||| 2^e.on ||| acc.getD (n -1 -e.on) 0)else none
def TK:List Oper->Nat->c6I->Option c6I
 |[],_,acc=>some acc
 |o::r,n,acc=>match Nh acc n o.after.toList 0 with
  |some m=>TK r (n+1) (m::acc)|none=>none
def Om(md:Region.Mode)(done:c6I):List Edge->Bool
 |[]=>true|e::r=>bif (!Region.binds md e || DV e.on done)then Om md done r else false
def xA(md:Region.Mode)(done:c6I):List Oper->Nat->Option Nat
 |[],_=>none|o::r,n=>bif DV n done then xA md done r (n+1)else bif Om md done o.after.toList then some n else xA md done r (n+1)
def a3Q:Nat->c6I->Bool
 |0,_=>true|n+1,d=>DV n d&&a3Q n d
def WG(md:Region.Mode)(ops:List Oper):Nat->c6I->Bool
 |0,d=>a3Q ops.length d
 |k+1,done=>match xA md done ops 0 with|some n=>WG md ops k (n::done)|none=>false
def QS:List Edge->Bool
 |[]=>true
 |e::r=>match e.ground with| .textOnly _=>false| .gcOnly _=>false|_=>QS r
def AU:List Oper->Bool|[]=>true|o::r=>bif QS o.after.toList then AU r else false
def a7c(ops:List Oper)(t:Trs):Bool:=
 match TK ops 0 []with
 |some ms=>bif Oi ms t then(bif AU ops then true else WG .text ops ops.length []&&WG .gc ops ops.length [])else false|none=>false
def Gu{R:Type}(E:Env)(q:Nat)(all:List Oper)(k:Nat):List Oper->c6I->St->Trs->(St->Trs->Option R)->Option R
 |[],[],s,t,K=>K s t
 |o::l,m::ms,s,t,K=>bif Nat.testBit m k then Gu E q all k l ms s (([],[])::t) K else(pR E q all o).runK s ([],[]) λ_ s' tr=>Gu E q all k l ms s' (tr::t) K|_,_,_,_,_=>none
def u_(x:Tr):Trs->Bool
 |[]=>true|y::r=>bif VG false x y then u_ x r else false
def Ub(ops:List Oper)(ms:c6I)(tr:Tr)(t tl:Trs):Bool:=
 bif Oi ms (tl++([],[])::t)&&u_ tr tl then(match ms.drop (ops.length -1 -t.length)with
  |m::_=>bif MC m tr t t.length then(bif AU ops then true else WG .text ops ops.length []&&WG .gc ops ops.length [])else false
  |[]=>false)else false
def wrs:Trs->c6I
 |[]=>[]|x::r=>x.2++wrs r
def a4d(E:Env)(ops:List Oper)(t:Trs):Bool:=
 match TK ops 0 []with
 |some ms=>bif PK E ops ms t then(bif AU ops then true else WG .text ops ops.length []&&WG .gc ops ops.length [])else false|none=>false
abbrev Rgs:=List (Nat×Nat)
inductive Ann where
 |leaf
 |seq (a b:Ann)|cond (a b:Ann)|blk (a:Ann)
 |loop (rs:Rgs) (hd:Sig) (xid:Nat) (xs:Sig) (body:Ann)
 |loopR (rs:Rgs) (hd:Sig) (xid:Nat) (xs:Sig) (body:Ann)
 |join (rs:Rgs) (nm:Sig) (inner:Ann)
 |joinR (rs:Rgs) (nm:Sig) (inner:Ann)
structure Ret where
 rs:List (ResultVar×MG)
 outs:List (Nat×MG)
@[reducible] def Ret.den (r:Ret):Type:=U0 (r.rs.map (·.2)++r.outs.map (·.2))
def QX{α:Type}(E:Env):List ResultVar->(List V->Cmd α)->Cmd α
 |[],K=>K []| .tmp t::r,K=>bif Nat.blt t X9 then(.get t λv=>QX E r λvs=>K (v::vs))else .fail| .cell a t::r,K=>bif Nat.blt a X9 then(.get a λp=>FZ E t p λv=>QX E r λvs=>K (v::vs))else .fail
def QP{α:Type} :c6I->(List V->Cmd α)->Cmd α
 |[],K=>K []
 |n::r,K=>bif Nat.blt n X9 then .get n λv=>(match v with
  | .ptr bx 0=> .get (X9+bx) λ
   | .bcells cs=>Cmd.set (X9+bx) .dead (QP r λvs=>K (.agg cs::vs))|_=> .fail
  | .ifc _ u=>(match u with
   | .ptr bx 0=> .get (X9+bx) λ
    | .bcells cs=>Cmd.set (X9+bx) .dead (QP r λvs=>K (.agg cs::vs))|_=> .fail
   |_=> .fail)
  | .own bx none=>QP r λvs=>K (.own bx none::vs)
  |_=> .fail)else .fail
def a9b(E:Env)(r:Ret):Cmd r.den:=
 QX E (r.rs.map (·.1)) λvs=>QP (r.outs.map (·.1)) λws=>IL (vs++ws) (Ky BF (r.rs.map (·.2)++r.outs.map (·.2)) (vs++ws) .ret)
def Ann.l:Ann->Ann| .seq a _=>a| .cond a _=>a| .blk a=>a|_=> .leaf
def Ann.r:Ann->Ann| .seq _ b=>b| .cond _ b=>b|_=> .leaf
def xK:Code->Nat
 | .region ..=>2| .seq x y=>1+xK x+xK y| .cond _ x y=>1+xK x+xK y| .block _ x=>1+xK x| .loop x=>3+xK x|_=>1
abbrev Den(ρ:Type):=Nat->Ann->St->Rgs->(R:Type)->(Flow ρ->St->Rgs->Option R)->Option R
def a5R(lo hi:Nat):Rgs->Bool|[]=>false|(a,b)::r=>bif Nat.ble a lo&&Nat.ble hi b then true else a5R lo hi r
def UI(lim:Nat)(rs:Rgs):Rgs->Bool|[]=>true|(a,b)::w=>bif Nat.ble lim a || a5R a b rs then UI lim rs w else false
def Pq(ks:c6I)(w:Rgs):Rgs:=match ks with|[]=>w|k::r=>(k,k+1)::Pq r w
def EW(rs:Rgs)(s:St):St:=match rs with|[]=>s|(a,b)::r=> .mask a b::EW r s
def Nl(q:Nat)(sg:Sig)(rs:Rgs)(s:St)(w:Rgs)(K:rE sg->Option R):Option R:=
 (a7h sg).runK s ([],[]) λx _ tr=>bif UI (X9+CB*q) rs (Pq tr.2 w)then K x else none
def enter(q:Nat)(sg:Sig)(rs:Rgs)(s:St)(x:rE sg)(K:St->Rgs->Option R):Option R:=
 (a7d sg x (CB*q) (CB*q+CB)).runK (EW rs s) ([],[]) λ_ s' tr=>K s' (Pq tr.2 rs)
def Uw(a b:Rgs):Rgs:=match a with|[]=>b|x::r=>x::Uw r b
def JM(core:Den ρ):Den ρ:=λq a s w R K=>
 match a with
 | .join rs nm a=>l9 (core (q+1) a s [] (rE nm) λfl s' w' =>match fl with
   | .nm=>Nl q nm rs s' w' some
   |_=>none) λx=>enter q nm rs s x λs' w' =>K .nm s' (Uw w' w)
 | .joinR rs nm a=>l9 (core (q+1) a s [] (rE nm⊕ρ) λfl s' w' =>match fl with
   | .nm=>Nl q nm rs s' w' λx=>some (Sum.inl x)| .rt r=>some (Sum.inr r)
   |_=>none) λo=>Z8 o (λx=>enter q nm rs s x λs' w' =>K .nm s' (Uw w' w)) (λr=>K (.rt r) [] [])
 |a=>core (q+1) a s w R K
def a9e(core:Den ρ)(q:Nat)(rs:Rgs)(hd:Sig)(xid:Nat)(xs:Sig)(a:Ann)(s:St)(x:rE hd):Option (rE hd⊕rE xs):=
 enter q hd rs s x λs w=>core (q+2) a s w (rE hd⊕rE xs) λfl s' w' =>match fl with
  | .nm=>Nl q hd rs s' w' λx=>some (Sum.inl x)
  | .ex id=>bif Nat.beq id xid then Nl q xs rs s' w' λy=>some (Sum.inr y)else none| .rt _=>none
def a9f(core:Den ρ)(q:Nat)(rs:Rgs)(hd:Sig)(xid:Nat)(xs:Sig)(a:Ann)(s:St)(x:rE hd):Option (Out (rE hd) (rE xs) ρ):=
 enter q hd rs s x λs w=>core (q+2) a s w (Out (rE hd) (rE xs) ρ) λfl s' w' =>match fl with
  | .nm=>Nl q hd rs s' w' λx=>some (.nx x)
  | .ex id=>bif Nat.beq id xid then Nl q xs rs s' w' λy=>some (.ex y)else none| .rt r=>some (.rt r)
def a0d(core:Den ρ):Den ρ:=λq a s w R K=>
 match a with
 | .loop rs hd xid xs a=>Nl q hd rs s [] λx0=>
  l9 (fA (λx=>a9e core q rs hd xid xs a s x) x0) λy=>enter (q+1) xs rs s y λs' w' =>K (.ex xid) s' (Uw w' w)
 | .loopR rs hd xid xs a=>Nl q hd rs s [] λx0=>
  l9 (V4 (λx=>a9f core q rs hd xid xs a s x) x0) λo=>Z8 o (λy=>enter (q+1) xs rs s y λs' w' =>K (.ex xid) s' (Uw w' w)) (λr=>K (.rt r) [] [])
 |_=>none
def DD(t:Trs)(w:Rgs):Rgs:=match t with|[]=>w|x::r=>Pq x.2 (DD r w)
def Zr(E:Env)(q:Nat)(ops:Array Oper)(draw:Bool)(s:St)(w:Rgs)(K:St->Rgs->Option R)(P:Int->St->c6I->Option R):Option R:=
 match E.rc with
 |[]=>Hg E q ops.toList (λc s' tr t=>bif draw then(match TK ops.toList 0 []with
   |some ms=>Gu E q ops.toList t.length (ops.toList.drop (t.length+1)) ((ms.take (ops.toList.length -1 -t.length)).reverse) s' [] λs2 tl=>bif Ub ops.toList ms tr t tl then P c s2 (wrs tl++wrs t)else none
   |none=>none)else P c s' []) ops.toList s [] λs' t=>
  bif draw then(bif a7c ops.toList t then K s' (DD t w)else none)else K s' (DD t w)
 |_::_=>Be E q ops.toList ops.toList s [] [] λs' t=>
  bif draw then(bif a4d E ops.toList t then K s' (DD t w)else none)else K s' (DD t w)
def b8i(pan:Int->Cmd ρ)(K:Flow ρ->St->Rgs->Option R)(c:Int)(s:St)(ws:c6I):Option R:=
 (pan c).runK s ([],[]) λx _ tr=>bif OX tr.1 ws then K (.rt x) [] []else none
def Dy{ρ:Type}(E:Env)(rt:Ret)(ret:rt.den->ρ)(pan:Int->Cmd ρ):Code->Den ρ
 | .skip=>JM λ_ _ s w _ K=>K .nm s w
 | .label _=>JM λ_ _ s w _ K=>K .nm s w
 | .region _ ops draw=>JM λq _ s w _ K=>Zr E q ops draw s w (λs' w' =>K .nm s' w') (b8i pan K)
 | .seq x y=>JM λq a s w R K=>Dy E rt ret pan x q a.l s w R λfl s' w' =>match fl with
   | .nm=>Dy E rt ret pan y (q+xK x) a.r s' w' R K| .ex id=>K (.ex id) s' w'| .rt r=>K (.rt r) s' w'
 | .cond c x y=>JM λq a s w R K=>(vK c λv=>Cmd.ret v:Cmd V).runK s ([],[]) λv s' _=>match v with
   | .b t=>l7 t (Dy E rt ret pan x q a.l s' w R K) (Dy E rt ret pan y (q+xK x) a.r s' w R K)|_=>none
 | .block id x=>JM λq a s w R K=>Dy E rt ret pan x q a.l s w R λfl s' w' =>match fl with
   | .nm=>K .nm s' w'| .ex j=>bif Nat.beq j id then K .nm s' w' else K (.ex j) s' w'| .rt r=>K (.rt r) s' w'
 | .loop x=>JM (a0d λq a s w R K=>Dy E rt ret pan x q a s w R K)
 | .exit id=>JM λ_ _ s w _ K=>K (.ex id) s w
 | .ret=>JM λ_ _ s _ _ K=>(a9b E rt).runK s ([],[]) λr _ _=>K (.rt (ret r)) [] []
 |_=>λ_ _ _ _ _ _=>none
def a7k(E:Env)(rt:Ret)(ret:rt.den->ρ)(fl:Flow ρ)(s:St):Option ρ:=match fl with
 | .rt r=>some r
 | .nm=>(a9b E rt).runK s ([],[]) λr _ _=>some (ret r)| .ex _=>none
def den(E:Env)(rt:Ret):Code->Den rt.den:=Dy E rt (λr=>r) (λ_=> .fail)
def iF:List MG->Nat->c6I
 |[],_=>[]|(_,.box _)::ms,n=>n::iF ms (n+1)|(_,.ifc _ (.box _))::ms,n=>n::iF ms (n+1)|(_,.ownb _)::ms,n=>n::iF ms (n+1)|_::ms,n=>iF ms (n+1)
def a1l:c6I->c6I->Bool
 |[],_=>true|a::r,b=>bif DV a b then a1l r b else false
def Xc:List MG->Bool
 |[]=>true|(_,.sbx _ _)::_=>false|(_,.sit)::_=>false|_::r=>Xc r
def UN:List MG->Nat->Cmd Unit->Cmd Unit
 |[],_,K=>K
 |(_,.dv k off sz fo)::ms,n,K=>bif Nat.blt k X9&&Nat.blt n X9 then .get k λv=>a0z off sz fo v λr=> .set n r (UN ms (n+1) K)else .fail|_::ms,n,K=>UN ms (n+1) K
def a5G(E:Env)(ps:List MG)(rt:Ret)(body:Code)(a:Ann)(x:U0 ps):Option rt.den:=
 bif Nat.ble ps.length E.nt&&Bg (rt.outs.map (·.1)) (iF ps 0)&&a1l (rt.outs.map (·.1)) E.kp&&Xc ps then
 (EH ps x 0 λvs n=>bif Nat.ble n CB then CY (List.range vs.length) vs (UN ps 0 (.ret ()))else .fail).runK [] ([],[]) λ_ s _=>
  Dy E rt (λr=>r) (λ_=> .fail) body 1 a s [] rt.den λfl s' _=>a7k E rt (λr=>r) fl s'
 else none
def b4g(E:Env)(ps:List MG)(rt:Ret)(body:Code)(a:Ann)(x:U0 ps):Option (U0 (cd::(rt.rs.map (·.2)++rt.outs.map (·.2)))):=
 bif Nat.ble ps.length E.nt&&Bg (rt.outs.map (·.1)) (iF ps 0)&&a1l (rt.outs.map (·.1)) E.kp&&Xc ps then
 (EH ps x 0 λvs n=>bif Nat.ble n CB then CY (List.range vs.length) vs (UN ps 0 (.ret ()))else .fail).runK [] ([],[]) λ_ s _=>
  Dy E rt (UH (rt.rs.map (·.2)++rt.outs.map (·.2)) 0) (λc=> .ret (UH (rt.rs.map (·.2)++rt.outs.map (·.2)) c (a3E (rt.rs.map (·.2)++rt.outs.map (·.2))))) body 1 a s [] _ λfl s' _=>a7k E rt (UH (rt.rs.map (·.2)++rt.outs.map (·.2)) 0) fl s'
 else none
end Go.GP
namespace Go.GP
open RowKit
def bQ(h:Array Obj)(blk off n:Nat):Option c6H:=
 match h[blk]? with
 |some (.cells c _ _)=>if off+n<=c.size then some ((c.toList.drop off).take n)else none|_=>none
variable {h:Array Obj}{h':Array Obj}{blk:Nat}
theorem tY(e:h'[blk]? =h[blk]?)(off n:Nat):bQ h' blk off n=bQ h blk off n:=by simp[bQ,e]
variable {n:Nat}{off:Nat}{es:c6H}
theorem lU(e:bQ h blk off n=some es):es.length=n:=by
 unfold bQ at e;split at e
 .split at e
  .cases e;simp;omega
  .cases e
 .cases e
theorem jA{c:Array Value}{T:TypeId}{f:Nat×Nat}(hb:h[blk]? =some (.cells c T f))(off n:Nat)(hn:off+n<=c.size):
  bQ h blk off n=some ((c.toList.drop off).take n):=by simp[bQ,hb,hn]
theorem qO(e:bQ h blk off n=some es):
  ∃c T f,h[blk]? =some (.cells c T f)/\off+n<=c.size/\es=(c.toList.drop off).take n:=by
 unfold bQ at e;split at e
 .rename_i c T f hb;split at e
  .cases e;exact⟨c,T,f,hb,by assumption,rfl⟩
  .cases e
 .cases e
theorem qI(e:bQ h blk off n=some es)(a k:Nat)(hk:a+k<=n):
  bQ h blk (off+a) k=some ((es.drop a).take k):=by
 obtain⟨c,T,f,hb,hn,rfl⟩:=qO e;rw[jA hb _ _ o5];congr 1;rw[jf,ig,af];congr 1;omega
def NV(ag:Bool)(v:Value):c6H:=match ag with
 |true=>v.cells.toList|false=>[v]
def gok(ag:Bool)(v:Value):Prop:=match ag with
 |true=>∃arr,v= .agg arr|false=>v.oneCell' =true
def UR(t:Ty)(e:MapEntry):c6H:=match t with
 | .ent ka va _ _=>NV ka e.key++NV va e.val|_=>[]
def a7e(t:Ty)(e:MapEntry):Prop:=match t with
 | .ent ka va k v=>gok ka e.key/\gok va e.val/\(NV ka e.key).length=k.size|_=>False
def b7H:Option IntKind->Value->Prop
 |none,_=>True|some k,v=>∃n,v= .int k n
def rep(h:Array Obj)(ok:Nat->Ty->Prop):(t:Ty)->t.den->c6H->Prop
 | .ent _ _ a b,x,cs=>∃c d,cs=c++d/\rep h ok a x.1 c/\rep h ok b x.2 d| .bool,x,cs=>cs=[.bool x]| .int k,n,cs=>cs=[.int k n]| .str,l,cs=>cs=[.string ⟨l.toArray⟩]| .prod a b,x,cs=>∃c d,cs=c++d/\rep h ok a x.1 c/\rep h ok b x.2 d| .unit,_,cs=>cs=[]| .any o,_,cs=>∃v,cs=[v]/\v.oneCell' =true/\b7H o v
 | .sl t,xs,cs=>(t.isEnt=false/\∃a cap,cs=[.slice a xs.length cap]/\xs.length<=cap/\
   ∀i x,xs[i]? =some x->∃blk off es,a=some ⟨blk,off,none⟩/\ok blk t/\bQ h blk (off+i*t.size) t.size=some es/\rep h ok t x es)\/
   (t.isEnt=true/\∃mv,cs=[.map mv]/\(mv=none->xs=[])/\∀blk,mv=some blk->ok blk t/\∃(es:Array MapEntry) (ck:Nat),h[blk]? =some (.map es ck)/\es.size=(xs:List t.den).length/\
    ∀(i:Nat) (x:t.den),(xs:List t.den)[i]? =some x->∃e:MapEntry,es[i]? =some e/\a7e t e/\rep h ok t x (UR t e))
variable {t:Ty}{xs:List t.den}{ok:Nat->Ty->Prop}
theorem zM{cs:c6H}(ht:t.isEnt=false):rep h ok (.sl t) xs cs↔∃a cap,cs=[.slice a xs.length cap]/\xs.length<=cap/\
   ∀i x,xs[i]? =some x->∃blk off es,a=some ⟨blk,off,none⟩/\ok blk t/\bQ h blk (off+i*t.size) t.size=some es/\rep h ok t x es:=by
 constructor
 .rintro(h|h)
  .exact h.2
  .rw[ht]at h;cases h.1
 .exact λh=> .inl ⟨ht,h⟩
theorem a8Z{cs:c6H}(ht:t.isEnt=true):rep h ok (.sl t) xs cs↔∃mv,cs=[.map mv]/\(mv=none->xs=[])/\∀blk,mv=some blk->ok blk t/\∃(es:Array MapEntry) (ck:Nat),h[blk]? =some (.map es ck)/\es.size=(xs:List t.den).length/\
    ∀(i:Nat) (x:t.den),(xs:List t.den)[i]? =some x->∃e:MapEntry,es[i]? =some e/\a7e t e/\rep h ok t x (UR t e):=by
 constructor
 .rintro(h|h)
  .rw[ht]at h;cases h.1
  .exact h.2
 .exact λh=> .inr ⟨ht,h⟩
theorem iQ{h:Array Obj}{ok:Nat->Ty->Prop} :∀{t:Ty} {x:t.den} {cs:c6H},rep h ok t x cs->cs.length=t.size
 | .bool,_,_,e=>by simp[rep]at e;simp[e,Ty.size]| .int _,_,_,e=>by simp[rep]at e;simp[e,Ty.size]| .str,_,_,e=>by simp[rep]at e;simp[e,Ty.size]| .unit,_,_,e=>by simp[rep]at e;simp[e,Ty.size]| .any _,_,_,e=>by obtain⟨v,rfl,_⟩:=e;rfl
 | .prod a b,_,_,e=>by obtain⟨c,d,rfl,h1,h2⟩:=e;simp[iQ h1,iQ h2,Ty.size]
 | .ent _ _ a b,_,_,e=>by obtain⟨c,d,rfl,h1,h2⟩:=e;simp[iQ h1,iQ h2,Ty.size]
 | .sl t,_,_,e=>by rcases e with⟨_,a,cap,rfl,_⟩|⟨_,mv,rfl,_⟩<;>simp[Ty.size]
theorem gX{h h' :Array Obj}{ok ok' :Nat->Ty->Prop}(hok:∀b t,ok b t->ok' b t)(hh:∀b t,ok b t->h'[b]? =h[b]?):
  ∀{t:Ty} {x:t.den} {cs:c6H},rep h ok t x cs->rep h' ok' t x cs
 | .bool,_,_,e=>e| .int _,_,_,e=>e| .str,_,_,e=>e| .unit,_,_,e=>e| .any _,_,_,e=>e| .prod a b,_,_,e=>by obtain⟨c,d,rfl,h1,h2⟩:=e;exact⟨c,d,rfl,gX hok hh h1,gX hok hh h2⟩
 | .ent _ _ a b,_,_,e=>by obtain⟨c,d,rfl,h1,h2⟩:=e;exact⟨c,d,rfl,gX hok hh h1,gX hok hh h2⟩
 | .sl t,xs,_,e=>by
  rcases e with⟨ht,a,cap,rfl,hc,hx⟩|⟨ht,mv,rfl,hn,hx⟩
  .refine .inl ⟨ht,a,cap,rfl,hc,λi x hi=>?_⟩;obtain⟨blk,off,es,ha,hb,he,hr⟩:=hx i x hi;exact⟨blk,off,es,ha,hok _ _ hb,by rw[tY (hh _ _ hb)];exact he,gX hok hh hr⟩
  .refine .inr ⟨ht,mv,rfl,hn,λblk hb=>?_⟩;obtain⟨ho,es,ck,he,hs,hi⟩:=hx blk hb;refine⟨hok _ _ ho,es,ck,by rw[hh _ _ ho];exact he,hs,λi x hx=>?_⟩;obtain⟨e,h1,h2,h3⟩:=hi i x hx;exact⟨e,h1,h2,gX hok hh h3⟩
theorem Af{h:Array Obj}{ok:Nat->Ty->Prop} :∀{t:Ty} {x:t.den} {cs:c6H},rep h ok t x cs->∀v∈cs,v.oneCell' =true
 | .bool,_,_,e=>by simp[rep]at e;subst e;simp[Value.oneCell']| .int _,_,_,e=>by simp[rep]at e;subst e;simp[Value.oneCell']| .str,_,_,e=>by simp[rep]at e;subst e;simp[Value.oneCell']| .unit,_,_,e=>by simp[rep]at e;subst e;simp| .any _,_,_,e=>by obtain⟨v,rfl,h,_⟩:=e;simp[h]
 | .prod a b,_,_,e=>by
  obtain⟨c,d,rfl,h1,h2⟩:=e;intro v hv;rcases J6.1 hv with hv|hv
  .exact Af h1 v hv
  .exact Af h2 v hv
 | .ent _ _ a b,_,_,e=>by
  obtain⟨c,d,rfl,h1,h2⟩:=e;intro v hv;rcases J6.1 hv with hv|hv
  .exact Af h1 v hv
  .exact Af h2 v hv
 | .sl t,xs,_,e=>by rcases e with⟨_,a,cap,rfl,_⟩|⟨_,mv,rfl,_⟩<;>simp[Value.oneCell']
theorem yG{h:Array Obj}{ok ok' :Nat->Ty->Prop} :∀{t:Ty} {x:t.den} {cs:c6H},(∀b u,ok b u->Ty.occ u t=true->ok' b u)->rep h ok t x cs->rep h ok' t x cs
 | .bool,_,_,_,e=>e| .int _,_,_,_,e=>e| .str,_,_,_,e=>e| .unit,_,_,_,e=>e| .any _,_,_,_,e=>e| .prod a b,_,_,f,e=>by obtain⟨c,d,rfl,h1,h2⟩:=e;exact⟨c,d,rfl,yG (λb u h k=>f b u h (by simp[Ty.occ,k])) h1,yG (λb u h k=>f b u h (by simp[Ty.occ,k])) h2⟩
 | .ent _ _ a b,_,_,f,e=>by obtain⟨c,d,rfl,h1,h2⟩:=e;exact⟨c,d,rfl,yG (λb u h k=>f b u h (by simp[Ty.occ,k])) h1,yG (λb u h k=>f b u h (by simp[Ty.occ,k])) h2⟩
 | .sl t,xs,_,f,e=>by
  rcases e with⟨ht,a,cap,rfl,hc,hx⟩|⟨ht,mv,rfl,hn,hx⟩
  .refine .inl ⟨ht,a,cap,rfl,hc,λi x hi=>?_⟩;obtain⟨blk,off,es,ha,hb,he,hr⟩:=hx i x hi;exact⟨blk,off,es,ha,f _ _ hb (by simp[Ty.occ]),he,yG (λb u h k=>f b u h (by simp[Ty.occ,k])) hr⟩
  .refine .inr ⟨ht,mv,rfl,hn,λblk hb=>?_⟩;obtain⟨ho,es,ck,he,hs,hi⟩:=hx blk hb;refine⟨f _ _ ho (by simp[Ty.occ]),es,ck,he,hs,λi x hx=>?_⟩;obtain⟨e,h1,h2,h3⟩:=hi i x hx;exact⟨e,h1,h2,yG (λb u h k=>f b u h (by simp[Ty.occ,k])) h3⟩
inductive Loc where
 |nil|arr (blk off len cap sz:Nat)|st (blk:Nat)|mp (blk:Nat)
structure Mp where
 loc:Nat->Option Loc
 kid:Nat->c6I
instance:CoeFun Mp (λ_=>Nat->Option Loc):=⟨Mp.loc⟩
def nom:Mp:=⟨λ_=>none,λ_=>[]⟩
structure Cx where
 h:Array Obj
 ok:Nat->Ty->Prop
 m:Mp
def Loc.view:Loc->Option (Nat×Nat)->Value->Prop
 | .nil,none,v=>v= .slice none 0 0| .nil,some (lo,hi),v=>lo=0/\hi=0/\v= .slice none 0 0| .arr blk off len cap _,none,v=>v= .slice (some ⟨blk,off,none⟩) len cap| .arr blk off len cap sz,some (lo,hi),v=>lo<=hi/\hi<=len/\v= .slice (some (if cap=lo then⟨blk,off,none⟩else⟨blk,off+lo*sz,none⟩)) (hi -lo) (cap -lo)| .st _,_,_=>False| .mp b,none,v=>v= .map (some b)| .mp _,some _,_=>False
def Loc.blks:Loc->c6I
 | .nil=>[]| .arr b _ _ _ _=>[b]| .st b=>[b]| .mp b=>[b]
def YM(h:Array Obj)(ok:Nat->Ty->Prop)(t:Ty)(x:t.den)(o:Nat)(v:Value):Prop:=
 ∃blk off es,v= .pointer (some ⟨blk,off+o,none⟩)/\ok blk t/\bQ h blk off t.size=some es/\rep h ok t x es
def Eu(h:Array Obj)(ok:Nat->Ty->Prop):List ((t:Ty)×t.den)->c6H->Prop
 |[],vs=>vs=[]|c::cs,vs=>∃v r,vs=v::r/\YM h ok c.1 c.2 0 v/\Eu h ok cs r
def wU(C:Cx):V->Value->Prop
 | .undef,_=>True| .un,v=>v=Go.undef| .b x,v=>v= .bool x| .i k n,v=>v= .int k n| .s l,v=>v= .string ⟨l.toArray⟩| .nl,v=>v= .slice none 0 0| .npt,v=>v= .pointer none| .ne b,v=>∃a c,v= .slice a 0 c/\a.isNone=b| .sl t xs,v=>rep C.h C.ok (.sl t) xs [v]| .own bx vw,v=>∃loc,C.m bx=some loc/\loc.view vw v| .ptr bx o,v=>∃blk,C.m bx=some (.st blk)/\v= .pointer (some ⟨blk,o,none⟩)| .ep bx ix o,v=>∃blk off len cap sz,C.m bx=some (.arr blk off len cap sz)/\ix<len/\v= .pointer (some ⟨blk,off+ix*sz+o,none⟩)| .dp t x o,v=>YM C.h C.ok t x o v| .glob g,v=>v= .pointer (some ⟨g,0,none⟩)| .fnv f,v=>v= .func (.func f) #[] #[]| .idl f n,v=>∃cap:Array Value,v= .func (.func f) #[] cap/\cap.size=n| .clos f caps,v=>∃vs,v= .func (.func f) #[] vs/\Eu C.h C.ok caps vs.toList| .ifc t c,v=>∃u,v= .iface t u/\u.oneCell' =true/\wU C c u|_,_=>False
def gB(C:Cx):List V->c6H->Prop
 |[],vs=>vs=[]|c::cs,vs=>∃v r,vs=v::r/\wU C c v/\v.oneCell' =true/\gB C cs r
def Zu(C:Cx):V->Value->Prop
 | .agg cs,v=>∃arr,v= .agg arr/\gB C cs arr.toList|c,v=>wU C c v
def Zx(C:Cx):List V->c6H->Prop
 |[],vs=>vs=[]|c::cs,vs=>∃v r,vs=v::r/\Zu C c v/\Zx C cs r
def lQ(C:Cx):V->Value->Prop
 | .tup cs,v=>∃arr,v= .tuple arr/\Zx C cs arr.toList|c,v=>Zu C c v
def fzo(t:Ty)(n:Nat)(f:Nat×Nat):Prop:=f=(0,0)\/(t= .int .u8/\f=(n,n+1))
theorem fzo.of{f:Nat×Nat}(h:fzo t n f):f=(0,0)\/f=(n,n+1):=h.elim .inl λh=> .inr h.2
def arrOk(C:Cx)(t:Ty)(xs:List t.den):Loc->Prop
 | .nil=>xs=[]/\t.isEnt=false| .arr blk off len cap sz=>t.isEnt=false/\sz=t.size/\len=xs.length/\len<=cap/\∃c T f,C.h[blk]? =some (.cells c T f)/\fzo t c.size f/\off+cap*sz<=c.size/\
   ∀i x,xs[i]? =some x->∃es,bQ C.h blk (off+i*sz) sz=some es/\rep C.h C.ok t x es
 | .st _=>False| .mp blk=>t.isEnt=true/\∃(es:Array MapEntry) (ck:Nat),C.h[blk]? =some (.map es ck)/\es.size=xs.length/\
   ∀(i:Nat) (x:t.den),(xs:List t.den)[i]? =some x->∃e:MapEntry,es[i]? =some e/\a7e t e/\rep C.h C.ok t x (UR t e)
def vg{α:Type}(h:Array Obj)(sz:Nat)(R:Nat->α->c6H->c6I->Prop)(xs:List α)(Os:List c6I):Loc->Prop
 | .nil=>xs=[]/\Os=[]| .arr blk off len cap sz' =>sz' =sz/\len=xs.length/\len<=cap/\Os.length=xs.length/\∃c T,h[blk]? =some (.cells c T (0,0))/\off+cap*sz<=c.size/\
   ∀i x,xs[i]? =some x->∃es O,Os[i]? =some O/\bQ h blk (off+i*sz) sz=some es/\R i x es O
 | .st _=>False| .mp _=>False
def uN(h:Array Obj)(te:Nat)(xs:c6F):Loc->Prop
 | .nil=>xs=[]
 | .arr g off len cap sz=>off=0/\sz=1/\len=xs.length/\len<=cap/\cap<=maxLen/\∃cur fz,h[g]? =some (.cells cur te fz)/\fz.2<=len/\cur.size=cap/\cur.toList.take len=xs.map λc=>Value.int .u8 (c.toNat:Int)| .st _=>False| .mp _=>False
variable {l:Loc}
theorem xQ{te:Nat}{xs:c6F}(hh:∀b∈l.blks,h'[b]? =h[b]?)(hr:uN h te xs l):uN h' te xs l:=by
 cases l with
 |nil=>exact hr|st b=>exact hr|mp b=>exact hr|arr g off len cap sz=>obtain⟨h1,h2,h3,h4,h5,cur,fz,h6,h7⟩:=hr;exact⟨h1,h2,h3,h4,h5,cur,fz,by rw[hh g (by simp[Loc.blks])];exact h6,h7⟩
def wK(o n i:Nat):Option Nat:=if n<=i then some o else none
def mM(h:Array Obj)(ok:Nat->Ty->Prop):(m:M)->Option Nat->m.den->c6H->c6I->Prop
 | .dat t,_,x,cs,O=>rep h ok t x cs/\O=[]| .own t,ho,xs,cs,O=>∃v,cs=[v]/\v.oneCell' =true/\(match ho with|some 0=>O=[]|_=>∃l,l.view none v/\arrOk ⟨h,ok,nom⟩ t xs l/\O=l.blks)| .pair a b,ho,x,cs,O=>∃c d O1 O2,cs=c++d/\O=O1++O2/\mM h ok a (match ho with|some o=>if o<a.size then some o else none|none=>none) x.1 c O1/\
   mM h ok b (match ho with|some o=>if o<a.size then none else some (o -a.size)|none=>none) x.2 d O2
 | .unit,_,_,cs,O=>cs=[]/\O=[]| .box m,_,x,cs,O=>∃blk arr T O',cs=[.pointer (some ⟨blk,0,none⟩)]/\h[blk]? =some (.cells arr T (0,0))/\mM h ok m none x arr.toList O' /\O=blk::O'| .owns m,ho,xs,cs,O=>∃v,cs=[v]/\v.oneCell' =true/\(match ho with|some 0=>O=[]|_=>m.el=true/\∃l Os,l.view none v/\vg h m.size (λ_ x es O=>mM h ok m none x es O) xs Os l/\O=l.blks++Os.flatten)| .ownb t,_,xs,cs,O=>∃l v,cs=[v]/\l.view none v/\arrOk ⟨h,ok,nom⟩ t xs l/\O=l.blks| .rp t,_,x,cs,O=>∃v,cs=[v]/\YM h ok t x 0 v/\O=[]| .fn f ts,_,x,cs,O=>∃vs,cs=[.func (.func f) #[] vs]/\Eu h ok (RD ts x) vs.toList/\O=[]| .ifc t m,_,x,cs,O=>∃u,cs=[.iface t u]/\mM h ok m none x [u] O| .lp t,_,x,cs,O=>∃v,cs=[v]/\YM h ok t x 0 v/\O=[]| .dv ..,_,x,cs,O=>∃v,cs=[v]/\v.oneCell' =true/\O=[]| .ownr m o,_,x,cs,O=>∃v,cs=[v]/\v.oneCell' =true/\m.el=true/\0<=x.2/\∃l Os,l.view none v/\vg h m.size (λi y es O=>mM h ok m (wK o x.2.toNat i) y es O) x.1 Os l/\O=l.blks++Os.flatten| .cell b,_,x,cs,O=>∃v,cs=[v]/\v.oneCell' =true/\(b=some none->v= .slice none 0 0)/\(∀b',b=some (some b')->∃a c,v= .slice a 0 c/\a.isNone=b')/\O=[]| .fr t,_,xs,cs,O=>∃l v,cs=[v]/\l.view none v/\arrOk ⟨h,ok,nom⟩ t xs l/\(∀b∈l.blks,ok b t)/\O=[]| .sit,_,x,cs,O=>∃blk s q,cs=[.pointer (some ⟨blk,0,none⟩)]/\h[blk]? =some (.stringIter s q)/\s.data.toList=x.1/\x.2=((q:Nat):Int)/\O=[blk]| .sbx tb te,_,xs,cs,O=>∃blk a v l,cs=[.pointer (some ⟨blk,0,none⟩)]/\h[blk]? =some (.cells #[a,v] tb (0,0))/\(a= .pointer none\/a= .pointer (some ⟨blk,0,none⟩))/\l.view none v/\uN h te xs l/\O=blk::l.blks
def WZ(hole:Option (Nat×Nat×Option Nat))(i:Nat):Option Nat:=match hole with|some (j,o,_)=>if i=j then some o else none|none=>none
def Vj(C:Cx)(sz:Nat)(l:Loc):Option (Nat×Nat×Option Nat)->Prop
 |none=>True|some (_,_,none)=>True|some (i,o,some n)=>∃blk off len cap u l',l= .arr blk off len cap sz/\bQ C.h blk (off+i*sz+o) 1=some [u]/\C.m n=some l' /\l'.view none u
def a3X(C:Cx)(m:M)(xs:List m.den)(hole:Option (Nat×Nat×Option Nat))(Os:List c6I)(l:Loc):Prop:=
 vg C.h m.size (λi x es O=>mM C.h C.ok m (WZ hole i) x es O) xs Os l/\Vj C m.size l hole
def Cm(C:Cx)(n:Nat):V->Prop
 | .bcells cs=>∃blk arr T,C.m n=some (.st blk)/\C.h[blk]? =some (.cells arr T (0,0))/\gB C cs arr.toList| .biter l p=>∃blk s q,C.m n=some (.st blk)/\C.h[blk]? =some (.stringIter s q)/\s.data.toList=l/\p=((q:Nat):Int)| .bsb tb c=>∃blk a v,C.m n=some (.st blk)/\C.h[blk]? =some (.cells #[a,v] tb (0,0))/\(a= .pointer none\/a= .pointer (some ⟨blk,0,none⟩))/\wU C c v| .brow te xs=>∃loc,C.m n=some loc/\uN C.h te xs loc| .barr t xs=>∃loc,C.m n=some loc/\arrOk C t xs loc| .bfrz t xs=>∃loc,C.m n=some loc/\arrOk C t xs loc/\(∀blk,blk∈loc.blks->C.ok blk t)| .barrs m xs hole=>m.el=true/\∃loc Os,C.m n=some loc/\a3X C m xs hole Os loc/\C.m.kid n=Os.flatten| .barrp m xs k o=>m.el=true/\0<=k/\∃loc Os,C.m n=some loc/\vg C.h m.size (λi x es O=>mM C.h C.ok m (wK o k.toNat i) x es O) xs Os loc/\C.m.kid n=Os.flatten| .bfc t x=>∃blk es,C.m n=some (.st blk)/\C.ok blk t/\bQ C.h blk 0 t.size=some es/\rep C.h C.ok t x es| .gone t=>∃l,C.m n=some l/\∀blk off len cap sz,l= .arr blk off len cap sz->sz=t.size| .blen ln sz=>∃k l,n=NL+k/\C.m k=some l/\(match l with| .arr _ _ len _ sz' =>ln=(len:Int)/\sz=sz'| .nil=>ln=0| .st _=>False| .mp _=>False)|_=>True
def U2(m:Mp)(n:Nat):V->c6I
 | .bcells _=>match m n with|some (.st blk)=>[blk]|_=>[]
 | .biter _ _=>match m n with|some (.st blk)=>[blk]|_=>[]
 | .bsb _ _=>match m n with|some (.st blk)=>[blk]|_=>[]
 | .brow _ _=>match m n with|some (.arr blk _ _ _ _)=>[blk]|_=>[]
 | .barr _ _=>match m n with|some (.arr blk _ _ _ _)=>[blk]|some (.mp blk)=>[blk]|_=>[]
 | .barrs _ _ _=>(match m n with|some (.arr blk _ _ _ _)=>[blk]|_=>[])++m.kid n| .barrp _ _ _ _=>(match m n with|some (.arr blk _ _ _ _)=>[blk]|_=>[])++m.kid n|_=>[]
def b2j:V->List Ty
 | .barr t _=>[t]| .barrs m _ _=>m.ty::m.owned|_=>[]
def a8c(v:V)(t:Ty):Prop:=match v with
 | .bcells _=>True|v=>t∈b2j v
structure Cx.le (C D:Cx):Prop where
 ok:∀b t,C.ok b t->D.ok b t
 h:∀b t,C.ok b t->D.h[b]? =C.h[b]?
 m:∀n l,C.m n=some l->D.m n=some l
theorem Cx.le.refl(C:Cx):C.le C:=⟨λ_ _ h=>h,λ_ _ _=>rfl,λ_ _ h=>h⟩
theorem Cx.le.trans{A B C:Cx}(h:A.le B)(k:B.le C):A.le C:=
 ⟨λb t x=>k.ok _ _ (h.ok _ _ x),λb t x=>(k.h _ _ (h.ok _ _ x)).trans (h.h _ _ x),λn l x=>k.m _ _ (h.m _ _ x)⟩
variable {v:Value}{ok':Nat->Ty->Prop}
theorem Ef(hok:∀b t,ok b t->ok' b t)(hh:∀b t,ok b t->h'[b]? =h[b]?){x:t.den}{o:Nat}(hr:YM h ok t x o v):YM h' ok' t x o v:=by obtain⟨b,o',es,hv,hb,hc,hp⟩:=hr;exact⟨b,o',es,hv,hok _ _ hb,by rw[tY (hh _ _ hb)];exact hc,gX hok hh hp⟩
theorem JY{h h' :Array Obj}{ok ok' :Nat->Ty->Prop}(hok:∀b t,ok b t->ok' b t)(hh:∀b t,ok b t->h'[b]? =h[b]?):∀{cs:List ((t:Ty)×t.den)} {vs:c6H},Eu h ok cs vs->Eu h' ok' cs vs
 |[],_,hr=>hr|_::_,_,⟨v,r,e,h1,h2⟩=>⟨v,r,e,Ef hok hh h1,JY hok hh h2⟩
variable {C:Cx}{D:Cx}
theorem Zv(h:C.le D):∀{c:V} {v:Value},wU C c v->wU D c v:=by
 intro c;induction c using V.rec (motive_2:=λ_=>True)<;>try trivial
 all_goals
  intro v hr;simp only[wU]at hr ⊢
  try exact hr
 case sl t xs=>exact gX h.ok h.h hr
 case own bx vw=>obtain⟨l,hm,hv⟩:=hr;exact⟨l,h.m _ _ hm,hv⟩
 case ptr bx o=>obtain⟨b,hm,hv⟩:=hr;exact⟨b,h.m _ _ hm,hv⟩
 case ep bx ix o=>obtain⟨b,o',l,c,s,hm,hv⟩:=hr;exact⟨b,o',l,c,s,h.m _ _ hm,hv⟩
 case dp t x o=>exact Ef h.ok h.h hr
 case clos f caps=>obtain⟨vs,e,hc⟩:=hr;exact⟨vs,e,JY h.ok h.h hc⟩
 case ifc t c ih=>obtain⟨u,e,h1,hc⟩:=hr;exact⟨u,e,h1,ih hc⟩
theorem Gj{C D:Cx}(h:C.le D):∀{cs:List V} {vs:c6H},gB C cs vs->gB D cs vs
 |[],_,hr=>hr|_::_,_,⟨v,r,e,h1,h2,h3⟩=>⟨v,r,e,Zv h h1,h2,Gj h h3⟩
theorem a4P(h:C.le D){c:V}(hr:Zu C c v):Zu D c v:=by
 cases c<;>simp only[Zu]at hr ⊢<;>try exact Zv h hr
 case agg cs=>obtain⟨arr,e,hl⟩:=hr;exact⟨arr,e,Gj h hl⟩
theorem a4Q{C D:Cx}(h:C.le D):∀{cs:List V} {vs:c6H},Zx C cs vs->Zx D cs vs
 |[],_,hr=>hr|_::_,_,⟨v,r,e,h1,h3⟩=>⟨v,r,e,a4P h h1,a4Q h h3⟩
theorem Jo(h:C.le D){c:V}(hr:lQ C c v):lQ D c v:=by
 cases c<;>simp only[lQ]at hr ⊢<;>try exact a4P h hr
 case tup cs=>obtain⟨arr,e,hl⟩:=hr;exact⟨arr,e,a4Q h hl⟩
theorem pX{m m' :Mp}(hok:∀b t,ok b t->ok' b t)(hh:∀b t,ok b t->h'[b]? =h[b]?)
  (hb:∀b∈l.blks,h'[b]? =h[b]?) (hr:arrOk ⟨h,ok,m⟩ t xs l):arrOk ⟨h',ok',m'⟩ t xs l:=by
 cases l with
 |nil=>exact hr|st b=>exact hr|mp blk=>have e:=hb blk (by simp[Loc.blks]);obtain⟨h1,es,ck,h2,h3,h4⟩:=hr;refine⟨h1,es,ck,by show h'[blk]? =_;rw[e];exact h2,h3,λi x hi=>?_⟩;obtain⟨en,a1,a2,a3⟩:=h4 i x hi;exact⟨en,a1,a2,gX hok hh a3⟩
 |arr blk off len cap sz=>have e:=hb blk (by simp[Loc.blks]);obtain⟨h0,h1,h2,h3,c,T,f,h4,hz,h5,h6⟩:=hr;refine⟨h0,h1,h2,h3,c,T,f,by show h'[blk]? =_;rw[e];exact h4,hz,h5,λi x hi=>?_⟩;obtain⟨es,he,hp⟩:=h6 i x hi;exact⟨es,by show bQ h' _ _ _=_;rw[tY e];exact he,gX hok hh hp⟩
theorem v_(h:C.le D)(hb:∀b∈l.blks,D.h[b]? =C.h[b]?)(hr:arrOk C t xs l):arrOk D t xs l:=
 pX h.ok h.h hb hr
theorem uS{α:Type}{sz:Nat}{R R' :Nat->α->c6H->c6I->Prop}{xs:List α}{Os:List c6I}(hb:∀b∈l.blks,h'[b]? =h[b]?)
  (hR:∀i x es O,O∈Os->R i x es O->R' i x es O) (hr:vg h sz R xs Os l):vg h' sz R' xs Os l:=by
 cases l with
 |nil=>exact hr|st b=>exact hr|mp b=>exact hr|arr blk off len cap sz=>have e:=hb blk (by simp[Loc.blks]);obtain⟨h1,h2,h3,h7,c,T,h4,h5,h6⟩:=hr;refine⟨h1,h2,h3,h7,c,T,by rw[e];exact h4,h5,λi x hi=>?_⟩;obtain⟨es,O,hO,he,hp⟩:=h6 i x hi;exact⟨es,O,hO,by rw[tY e];exact he,hR _ _ _ _ (yu hO) hp⟩
theorem iK{h h' :Array Obj}{ok ok' :Nat->Ty->Prop}(hok:∀b t,ok b t->ok' b t)(hh:∀b t,ok b t->h'[b]? =h[b]?):
  ∀{m:M} {ho:Option Nat} {x:m.den} {cs:c6H} {O:c6I},(∀b∈O,h'[b]? =h[b]?)->mM h ok m ho x cs O->mM h' ok' m ho x cs O
 | .dat t,_,_,_,_,_,e=>⟨gX hok hh e.1,e.2⟩| .own t,ho,_,_,O,hb,⟨v,e,h1,ha⟩=>by
  refine⟨v,e,h1,?_⟩;split at ha
  .exact ha
  .obtain⟨l,hv,ha,ho⟩:=ha;exact⟨l,hv,pX hok hh (by subst ho;exact hb) ha,ho⟩
 | .pair a b,_,_,_,_,hb,⟨c,d,O1,O2,e,eo,h1,h2⟩=>by subst eo;exact⟨c,d,O1,O2,e,rfl,iK hok hh (λb h=>hb b (by simp[h])) h1,iK hok hh (λb h=>hb b (by simp[h])) h2⟩| .unit,_,_,_,_,_,e=>e| .box m,_,_,_,_,hb,⟨blk,arr,T,O',e,hh',hr,eo⟩=>by subst eo;exact⟨blk,arr,T,O',e,by rw[hb blk D5];exact hh',iK hok hh (λb h=>hb b (by simp[h])) hr,rfl⟩| .owns m,ho,_,_,O,hb,⟨v,e,h1,ha⟩=>by
  refine⟨v,e,h1,?_⟩;split at ha
  .exact ha
  .obtain⟨he,l,Os,hv,ha,ho⟩:=ha;subst ho;exact⟨he,l,Os,hv,uS (λb h=>hb b (by simp[h])) (λi x es O hO hr=>iK hok hh (λb h=>hb b (by simp only[J6,ah];exact .inr ⟨O,hO,h⟩)) hr) ha,rfl⟩
 | .ownb t,_,_,_,_,hb,⟨l,v,e,hv,ha,ho⟩=>⟨l,v,e,hv,pX hok hh (by subst ho;exact hb) ha,ho⟩| .rp t,_,_,_,_,_,⟨v,e,h1,h2⟩=>⟨v,e,Ef hok hh h1,h2⟩| .fn f ts,_,_,_,_,_,⟨vs,e,h1,h2⟩=>⟨vs,e,JY hok hh h1,h2⟩| .lp t,_,_,_,_,_,⟨v,e,h1,h2⟩=>⟨v,e,Ef hok hh h1,h2⟩| .dv ..,_,_,_,_,_,h=>h| .ownr md o,_,x,_,O,hb,⟨v,e,h1,he,h0,l,Os,hv,ha,ho⟩=>by
  subst ho;exact⟨v,e,h1,he,h0,l,Os,hv,uS (λb h=>hb b (by simp[h])) (λi x es O hO hr=>iK hok hh (λb h=>hb b (by simp only[J6,ah];exact .inr ⟨O,hO,h⟩)) hr) ha,rfl⟩
 | .ifc t m,_,_,_,_,hb,⟨u,e,h1⟩=>⟨u,e,iK hok hh hb h1⟩| .cell b,_,_,_,_,_,h=>h| .fr t,_,_,_,_,_,⟨l,v,e,hv,ha,hk,ho⟩=>⟨l,v,e,hv,pX hok hh (λb h=>hh _ _ (hk b h)) ha,λb h=>hok _ _ (hk b h),ho⟩| .sit,_,_,_,_,hb,⟨blk,s,q,e,hh',h2,h3,eo⟩=>by subst eo;exact⟨blk,s,q,e,by rw[hb blk D5];exact hh',h2,h3,rfl⟩| .sbx tb te,_,_,_,_,hb,⟨blk,a,v,l,e,hh',h2,h3,h4,eo⟩=>by subst eo;exact⟨blk,a,v,l,e,by rw[hb blk D5];exact hh',h2,h3,xQ (λb h=>hb b (by simp[h])) h4,rfl⟩
theorem Ud(h:C.le D){v:V}(hk:D.m.kid n=C.m.kid n)(hb:∀b∈U2 C.m n v,D.h[b]? =C.h[b]?)(hr:Cm C n v):Cm D n v:=by
 cases v<;>simp only[Cm]at hr ⊢
 case bcells cs=>obtain⟨blk,arr,T,hm,hh,hl⟩:=hr;exact⟨blk,arr,T,h.m _ _ hm,by rw[hb blk (by simp[U2,hm])];exact hh,Gj h hl⟩
 case biter l p=>obtain⟨blk,s,q,hm,hh,h2,h3⟩:=hr;exact⟨blk,s,q,h.m _ _ hm,by rw[hb blk (by simp[U2,hm])];exact hh,h2,h3⟩
 case bsb tb c=>obtain⟨blk,a,v,hm,hh,h2,h3⟩:=hr;exact⟨blk,a,v,h.m _ _ hm,by rw[hb blk (by simp[U2,hm])];exact hh,h2,Zv h h3⟩
 case brow te xs=>
  obtain⟨l,hm,ha⟩:=hr;refine⟨l,h.m _ _ hm,xQ (λb hbl=>hb b ?_) ha⟩;cases l<;>simp[Loc.blks]at hbl
  .subst hbl;simp[U2,hm]
  .cases ha
  .cases ha
 case barr t xs=>
  obtain⟨l,hm,ha⟩:=hr;refine⟨l,h.m _ _ hm,v_ h ?_ ha⟩;intro b hbl;refine hb b ?_;cases l<;>simp[Loc.blks]at hbl
  .subst hbl;simp[U2,hm]
  .cases ha
  .subst hbl;simp[U2,hm]
 case bfrz t xs=>obtain⟨l,hm,ha,hok⟩:=hr;refine⟨l,h.m _ _ hm,v_ h ?_ ha,λblk e=>h.ok _ _ (hok _ e)⟩;intro b hbl;exact h.h _ _ (hok _ hbl)
 case barrp m xs k o=>
  obtain⟨he,h0,l,Os,hm,ha,ho⟩:=hr;refine⟨he,h0,l,Os,h.m _ _ hm,uS ?_ ?_ ha,hk.trans ho⟩
  .intro b hbl;refine hb b ?_;cases l<;>simp[Loc.blks]at hbl
   .subst hbl;simp[U2,hm]
   .cases ha
   .cases ha
  .intro i x es O hO hr;refine iK h.ok h.h (λb hbO=>hb b ?_) hr;simp only[U2,J6];right;rw[ho];exact ah.2 ⟨O,hO,hbO⟩
 case barrs m xs hole=>
  obtain⟨he,l,Os,hm,ha,ho⟩:=hr;obtain⟨ha,hh⟩:=ha;refine⟨he,l,Os,h.m _ _ hm,⟨uS ?_ ?_ ha,?_⟩,hk.trans ho⟩
  .intro b hbl;refine hb b ?_;cases l<;>simp[Loc.blks]at hbl
   .subst hbl;simp[U2,hm]
   .cases ha
   .cases ha
  .intro i x es O hO hr;refine iK h.ok h.h (λb hbO=>hb b ?_) hr;simp only[U2,J6];right;rw[ho];exact ah.2 ⟨O,hO,hbO⟩
  .rcases hole with _|⟨i,o,_|k⟩
   .trivial
   .trivial
   .obtain⟨blk,off,len,cap,u,l',rfl,h1,h2,h3⟩:=hh;exact⟨blk,off,len,cap,u,l',rfl,by rw[tY (hb blk (by simp[U2,hm]))];exact h1,h.m _ _ h2,h3⟩
 case bfc t x=>obtain⟨blk,es,hm,hok,he,hr⟩:=hr;exact⟨blk,es,h.m _ _ hm,h.ok _ _ hok,by rw[tY (h.h _ _ hok)];exact he,gX h.ok h.h hr⟩
 case gone t=>obtain⟨l,hm,hs⟩:=hr;exact⟨l,h.m _ _ hm,hs⟩
 case blen ln sz=>obtain⟨k,l,e,hm,hs⟩:=hr;exact⟨k,l,e,h.m _ _ hm,hs⟩
theorem kJ{C:Cx} :∀{cs:List V} {vs:c6H},gB C cs vs->cs.length=vs.length
 |[],_,h=>by simp[gB]at h;simp[h]|_::_,_,⟨v,r,e,_,_,h3⟩=>by subst e;simp[kJ h3]
theorem xO{C:Cx} :∀{a:List V} {va:c6H} {b:List V} {vb:c6H},gB C a va->gB C b vb->gB C (a++b) (va++vb)
 |[],_,_,_,h,k=>by simp[gB]at h;subst h;exact k|_::_,_,_,_,⟨v,r,e,h1,h2,h3⟩,k=>by subst e;exact⟨v,r++_,rfl,h1,h2,xO h3 k⟩
theorem PX{C:Cx} :∀{cs:List V} {vs:c6H},gB C cs vs->∀v∈vs,v.oneCell' =true
 |[],_,h=>by simp[gB]at h;simp[h]|_::_,_,⟨v,r,e,_,h2,h3⟩=>by
  subst e;intro u hu;rcases D8.1 hu with rfl|hu
  .exact h2
  .exact PX h3 u hu
theorem sJ{C:Cx} :∀(n:Nat) {cs:List V} {vs:c6H},gB C cs vs->gB C (cs.drop n) (vs.drop n)
 |0,_,_,h=>by simpa using h|n+1,[],_,h=>by simp[gB]at h;subst h;simp[gB]|n+1,_::_,_,⟨v,r,e,_,_,h3⟩=>by subst e;simpa using sJ n h3
theorem uK{C:Cx} :∀(n:Nat) {cs:List V} {vs:c6H},gB C cs vs->gB C (cs.take n) (vs.take n)
 |0,_,_,h=>by simp[gB]|n+1,[],_,h=>by simp[gB]at h;subst h;simp[gB]|n+1,_::_,_,⟨v,r,e,h1,h2,h3⟩=>by subst e;exact⟨v,r.take n,D5,h1,h2,uK n h3⟩
theorem mQ:∀(t:Ty) (x:t.den) (r:List V),flat t x r=flat t x []++r
 | .bool,_,_=>rfl| .int _,_,_=>rfl| .str,_,_=>rfl| .sl _,_,_=>rfl| .unit,_,_=>rfl| .any _,_,_=>rfl| .prod a b,x,r=>by simp only[flat];rw[mQ a x.1 (flat b x.2 r),mQ b x.2 r,mQ a x.1 (flat b x.2 [])];simp| .ent _ _ a b,x,r=>by simp only[flat];rw[mQ a x.1 (flat b x.2 r),mQ b x.2 r,mQ a x.1 (flat b x.2 [])];simp
theorem sK{C:Cx} :∀{t:Ty} {x:t.den} {cs:c6H},rep C.h C.ok t x cs->gB C (flat t x []) cs
 | .bool,x,_,h=>by simp[rep]at h;subst h;exact⟨_,_,rfl,rfl,rfl,rfl⟩| .int _,x,_,h=>by simp[rep]at h;subst h;exact⟨_,_,rfl,rfl,rfl,rfl⟩| .str,x,_,h=>by simp[rep]at h;subst h;exact⟨_,_,rfl,rfl,rfl,rfl⟩| .unit,_,_,h=>by simp[rep]at h;subst h;rfl| .any _,_,_,h=>by obtain⟨v,rfl,h1,_⟩:=h;exact⟨v,[],rfl,trivial,h1,rfl⟩
 | .sl t,xs,_,h=>by have h' :=h;rcases h with⟨_,a,cap,rfl,_⟩|⟨_,mv,rfl,_⟩<;>exact⟨_,_,rfl,h',rfl,rfl⟩
 | .ent _ _ a b,x,_,h=>by obtain⟨c,d,rfl,h1,h2⟩:=h;simp only[flat];rw[mQ a];exact xO (sK h1) (sK h2)
 | .prod a b,x,_,h=>by obtain⟨c,d,rfl,h1,h2⟩:=h;simp only[flat];rw[mQ a];exact xO (sK h1) (sK h2)
theorem oH:∀(t:Ty) (x:t.den),(flat t x []).length=t.size
 | .bool,_=>rfl| .int _,_=>rfl| .str,_=>rfl| .sl _,_=>rfl| .unit,_=>rfl| .any _,_=>rfl| .prod a b,x=>by simp only[flat,Ty.size];rw[mQ a,I8,oH a x.1,oH b x.2]| .ent _ _ a b,x=>by simp only[flat,Ty.size];rw[mQ a,I8,oH a x.1,oH b x.2]
theorem qj{vw:Option (Nat×Nat)}(ha:arrOk C t xs l)(hv:l.view vw v)
  (hok:∀b t,C.ok b t->ok' b t) (hb:∀blk,blk∈l.blks->ok' blk t):rep C.h ok' (.sl t) (jL vw xs) [v]:=by
 cases l with
 |st b=>cases ha|mp b=>
  obtain⟨h0,es,ck,h1,h2,h3⟩:=ha;cases vw with
  |some p=>cases hv|none=>simp only[Loc.view]at hv;subst hv;refine .inr ⟨h0,some b,rfl,(λh=>nomatch h),λblk e=>?_⟩;cases e;refine⟨hb b (by simp[Loc.blks]),es,ck,h1,h2,λi x hi=>?_⟩;obtain⟨en,a1,a2,a3⟩:=h3 i x hi;exact⟨en,a1,a2,gX hok (λ_ _ _=>rfl) a3⟩
 |nil=>
  obtain⟨ha,h0⟩:=ha;subst ha;cases vw with
  |none=>simp only[Loc.view]at hv;subst hv;exact .inl ⟨h0,none,0,rfl,D7 _,λi x hi=>by simp[jL]at hi⟩|some p=>obtain⟨lo,hi⟩:=p;obtain⟨rfl,rfl,rfl⟩:=hv;exact .inl ⟨h0,none,0,by simp[jL,kH],by simp[jL,kH],λi x hi=>by simp[jL,kH]at hi⟩
 |arr blk off len cap sz=>
  obtain⟨h0,rfl,rfl,hc,c,T,f,hh,hz,hs,hx⟩:=ha;have hbk:=hb blk (by simp[Loc.blks]);cases vw with
  |none=>simp only[Loc.view]at hv;subst hv;refine .inl ⟨h0,_,cap,rfl,hc,λi x hi=>?_⟩;obtain⟨es,he,hr⟩:=hx i x hi;exact⟨blk,off,es,rfl,hbk,he,gX hok (λ_ _ _=>rfl) hr⟩
  |some p=>
   obtain⟨lo,hi⟩:=p;obtain⟨h1,h2,rfl⟩:=hv;have hl:(jL (some (lo,hi)) xs).length=hi -lo:=by simp[jL,kH];omega
   refine .inl ⟨h0,_,cap -lo,by rw[hl],by rw[hl];omega,λi x hix=>?_⟩;have hi' :i<hi -lo:=by rw[←hl];exact(bg.1 hix).1
   have hx' :xs[lo+i]? =some x:=by
    simp only[jL,kH,O9,Y7]at hix;split at hix
    .exact hix
    .cases hix
   obtain⟨es,he,hr⟩:=hx _ x hx';have hne:cap≠lo:=o5;refine⟨blk,off+lo*t.size,es,by simp[hne],hbk,?_,gX hok (λ_ _ _=>rfl) hr⟩;rw[←he];congr 1;rw[N7];omega
end Go.GP
namespace Go.GP
abbrev Sm:=Nat->V
def upd(S:Sm)(k:Nat)(v:V):Sm:=λn=>if n=k then v else S n
@[simp] theorem jZ (S:Sm) (k:Nat) (v:V):upd S k v k=v:=by simp[upd]
theorem bF(S:Sm){k n:Nat}(v:V)(h:n≠k):upd S k v n=S n:=by simp[upd,h]
variable {α:Type}
def Cmd.eval :Cmd α->Sm->Tr->Option (α×Sm×Tr)
 | .ret x,S,t=>some (x,S,t)| .fail,_,_=>none| .get k c,S,t=>(c (S k)).eval S (k::t.1,t.2)| .set k v c,S,t=>c.eval (upd S k v) (t.1,k::t.2)
 | .opt o c,S,t=>match o with|some x=>(c x).eval S t|none=>none
 | .br b c d,S,t=>if b=true then c.eval S t else d.eval S t
def Cmd.post :Cmd α->Sm->(α->Sm->Prop)->Prop
 | .ret x,S,Q=>Q x S| .fail,_,_=>True| .get k c,S,Q=>(c (S k)).post S Q| .set k v c,S,Q=>c.post (upd S k v) Q| .opt o c,S,Q=>∀x,o=some x->(c x).post S Q| .br b c d,S,Q=>(b=true->c.post S Q)/\(b=false->d.post S Q)
theorem pJ{α:Type}{Q:α->Sm->Prop} :∀{c:Cmd α} {S S' :Sm} {t t' :Tr} {x:α},c.post S Q->c.eval S t=some (x,S',t')->Q x S'
 | .ret x,_,_,_,_,_,h,e=>by simp[Cmd.eval]at e;obtain⟨rfl,rfl,rfl⟩:=e;exact h
 | .fail,_,_,_,_,_,h,e=>by simp[Cmd.eval]at e| .get k c,_,_,_,_,_,h,e=>pJ (c:=c _) h e| .set k v c,_,_,_,_,_,h,e=>pJ (c:=c) h e| .opt o c,_,_,_,_,_,h,e=>by
  cases o with
  |none=>simp[Cmd.eval]at e|some x=>exact pJ (c:=c x) (h x rfl) e
 | .br b c d,_,_,_,_,_,h,e=>by
  cases b
  .exact pJ (c:=d) (h.2 rfl) (by simpa[Cmd.eval]using e)
  .exact pJ (c:=c) (h.1 rfl) (by simpa[Cmd.eval]using e)
theorem uJ{α:Type}{Q Q' :α->Sm->Prop}(hq:∀x S,Q x S->Q' x S):∀{c:Cmd α} {S:Sm},c.post S Q->c.post S Q'
 | .ret x,_,h=>hq _ _ h| .fail,_,_=>trivial| .get k c,_,h=>uJ hq (c:=c _) h| .set k v c,_,h=>uJ hq (c:=c) h
 | .opt o c,_,h=>λx e=>uJ hq (c:=c x) (h x e)| .br b c d,_,h=>⟨λe=>uJ hq (c:=c) (h.1 e),λe=>uJ hq (c:=d) (h.2 e)⟩
theorem Eg{α β:Type}{f:α->Cmd β} :∀(c:Cmd α) (S:Sm) (t:Tr),(c.bind f).eval S t=(match c.eval S t with|some (x,S',t')=>(f x).eval S' t'|none=>none)
 | .ret x,S,t=>rfl| .fail,_,_=>rfl| .get k c,S,t=>Eg (c (S k)) S _| .set k v c,S,t=>Eg c _ _| .opt o c,S,t=>by
  cases o with
  |none=>rfl|some x=>exact Eg (c x) S t
 | .br b c d,S,t=>by
  cases b
  .simpa[Cmd.bind,Cmd.eval]using Eg d S t
  .simpa[Cmd.bind,Cmd.eval]using Eg c S t
theorem Aa{α β:Type}{Q:β->Sm->Prop}{f:α->Cmd β} :∀{c:Cmd α} {S:Sm},c.post S (λx S' =>(f x).post S' Q)->(c.bind f).post S Q
 | .ret x,_,h=>h| .fail,_,_=>trivial| .get k c,_,h=>Aa (c:=c _) h| .set k v c,_,h=>Aa (c:=c) h
 | .opt o c,_,h=>λx e=>Aa (c:=c x) (h x e)| .br b c d,_,h=>⟨λe=>Aa (c:=c) (h.1 e),λe=>Aa (c:=d) (h.2 e)⟩
theorem Ii{R:Type} :∀(v:V) (K:V->R),v.force K=K v:=by
 intro v;induction v using V.rec (motive_2:=λ_=>True)<;>try trivial
 all_goals intro K
 all_goals try rfl
 case i k n=>cases k<;>rfl
 case own bx vw=>cases vw<;>rfl
 case barrs m xs h=>rcases h with _|⟨p,q,_|r⟩<;>rfl
 case ifc t v ih=>simp only[V.force];rw[ih]
 case bsb tb c ih=>simp only[V.force];rw[ih]
theorem XF{R:Type} :∀(l:List V) (K:List V->R),QH l K=K l
 |[],_=>rfl|v::r,K=>by simp[QH,Ii,XF r]
theorem a5N{R:Type}(v:V)(K:V->R):v.force2 K=K v:=by unfold V.force2;rw[Ii];cases v<;>simp[XF]
theorem a4D(k:Nat)(v:V)(s:St):aV (.kv k v::s)=upd (aV s) k v:=by
 funext n;simp only[aV,upd];by_cases h:n=k
 .subst h;simp
 .have:Nat.beq k n=false:=by
   cases hb:Nat.beq k n with
   |false=>rfl|true=>exact absurd (eU hb).symm h
  simp[h,this]
theorem Ce{α β:Type}{o:Option α}{f:α->Option β}{r:β}(h:l9 o f=some r):∃x,o=some x/\f x=some r:=by
 cases o with
 |none=>simp[l9]at h|some x=>exact⟨x,rfl,h⟩
theorem jV{α R:Type} :∀{c:Cmd α} {s:St} {t:Tr} {K:α->St->Tr->Option R} {r:R},c.runK s t K=some r->
  ∃x s' t',c.eval (aV s) t=some (x,aV s',t')/\K x s' t' =some r
 | .ret x,s,t,K,r,h=>⟨x,s,t,rfl,h⟩| .fail,_,_,_,_,h=>by simp[Cmd.runK]at h| .get k c,s,t,K,r,h=>by simp only[Cmd.runK,Ii]at h;exact jV (c:=c _) h| .set k v c,s,t,K,r,h=>by simp only[Cmd.runK,a5N]at h;obtain⟨x,s',t',e,hk⟩:=jV (c:=c) h;exact⟨x,s',t',by simpa[Cmd.eval,a4D]using e,hk⟩
 | .opt o c,s,t,K,r,h=>by simp only[Cmd.runK]at h;obtain⟨y,rfl,h⟩:=Ce h;exact jV (c:=c y) h
 | .br b c d,s,t,K,r,h=>by
  simp only[Cmd.runK]at h;cases b
  .obtain⟨x,s',t',e,hk⟩:=jV (c:=d) (show d.runK s t K=some r from h);exact⟨x,s',t',by simpa[Cmd.eval]using e,hk⟩
  .obtain⟨x,s',t',e,hk⟩:=jV (c:=c) (show c.runK s t K=some r from h);exact⟨x,s',t',by simpa[Cmd.eval]using e,hk⟩
theorem BP{α:Type} :∀{c:Cmd α} {S S' :Sm} {t t' :Tr} {x:α},c.eval S t=some (x,S',t')->(∀k∈t.1,k∈t'.1)/\(∀k∈t.2,k∈t'.2)
 | .ret x,_,_,_,_,_,e=>by simp[Cmd.eval]at e;obtain⟨rfl,rfl,rfl⟩:=e;exact⟨λ_ h=>h,λ_ h=>h⟩
 | .fail,_,_,_,_,_,e=>by simp[Cmd.eval]at e| .get k c,_,_,_,_,_,e=>by have h:=BP (c:=c _) e;exact⟨λn hn=>h.1 n (by simp[hn]),h.2⟩| .set k v c,_,_,_,_,_,e=>by have h:=BP (c:=c) e;exact⟨h.1,λn hn=>h.2 n (by simp[hn])⟩| .opt o c,_,_,_,_,_,e=>by
  cases o with
  |none=>simp[Cmd.eval]at e|some x=>exact BP (c:=c x) e
 | .br b c d,_,_,_,_,_,e=>by
  cases b
  .exact BP (c:=d) (by simpa[Cmd.eval]using e)
  .exact BP (c:=c) (by simpa[Cmd.eval]using e)
theorem tZ{α:Type} :∀{c:Cmd α} {S S' :Sm} {t t' :Tr} {x:α},c.eval S t=some (x,S',t')->∀T:Sm,(∀k∈t'.1,T k=S k)->
  ∃T',c.eval T t=some (x,T',t')/\(∀k,T k=S k->T' k=S' k)/\(∀k,k∉t'.2->T' k=T k)/\(∀k,k∈t'.2->k∉t.2->T' k=S' k)
 | .ret x,_,_,_,_,_,e,T,hT=>by simp[Cmd.eval]at e;obtain⟨rfl,rfl,rfl⟩:=e;exact⟨T,rfl,λk h=>h,λ_ _=>rfl,λk h1 h2=>absurd h1 h2⟩
 | .fail,_,_,_,_,_,e,_,_=>by simp[Cmd.eval]at e| .get k c,S,_,t,t',_,e,T,hT=>by have hk:T k=S k:=hT k ((BP (c:=c _) e).1 k D5);obtain⟨T',h1,h2,h3,h4⟩:=tZ (c:=c _) e T hT;exact⟨T',by simpa[Cmd.eval,hk]using h1,h2,h3,h4⟩
 | .set k v c,S,_,t,t',_,e,T,hT=>by
  obtain⟨T',h1,h2,h3,h4⟩:=tZ (c:=c) e (upd T k v) (λn hn=>by
   by_cases h:n=k
   .subst h;simp
   .rw[bF _ _ h,bF _ _ h];exact hT n hn)
  have hkin:k∈t'.2:=(BP (c:=c) e).2 k D5;refine⟨T',h1,λn hn=>h2 n ?_,λn hn=>?_,λn hn hn' =>?_⟩
  .by_cases h:n=k
   .subst h;simp
   .rw[bF _ _ h,bF _ _ h];exact hn
  .have:n≠k:=λh=>hn (h▸hkin);rw[h3 n hn,bF _ _ this]
  .by_cases h:n=k
   .subst h;exact h2 n D5
   .exact h4 n hn (by simp[h,hn'])
 | .opt o c,_,_,_,_,_,e,T,hT=>by
  cases o with
  |none=>simp[Cmd.eval]at e|some x=>exact tZ (c:=c x) e T hT
 | .br b c d,_,_,_,_,_,e,T,hT=>by
  cases b
  .obtain⟨T',h1,h2⟩:=tZ (c:=d) (by simpa[Cmd.eval]using e) T hT;exact⟨T',by simpa[Cmd.eval]using h1,h2⟩
  .obtain⟨T',h1,h2⟩:=tZ (c:=c) (by simpa[Cmd.eval]using e) T hT;exact⟨T',by simpa[Cmd.eval]using h1,h2⟩
theorem zH{c:Cmd α}{S S' :Sm}{t t' :Tr}{x:α}(e:c.eval S t=some (x,S',t'))(k:Nat)(h:k∉t'.2):S' k=S k:=by obtain⟨T',h1,_,h3,_⟩:=tZ e S (λ_ _=>rfl);rw[e]at h1;simp at h1;rw[h1];exact h3 k h
section draws
variable {n:Nat} {c:Nat->Cmd Unit} {S:Nat->Sm} {T:Nat->Tr}
def SD(S:Nat->Sm)(T:Nat->Tr)(D:c6I):Nat->Sm
 |0=>S 0
 |m+1=>λk=>if m∈D/\k∈(T m).2 then S (m+1) k else SD S T D m k
theorem Ee(hs:∀i,i<n->(c i).eval (S i) ([],[])=some ((),S (i+1),T i))(D:c6I)(k:Nat):
  ∀m,m<=n->(∀j,j<m->k∈(T j).2->j∈D)->SD S T D m k=S m k
 |0,_,_=>rfl|m+1,hm,h=>by
  have ih:=Ee hs D k m o5 (λj hj=>h j o5);simp only[SD];by_cases hk:k∈(T m).2
  .rw[if_pos ⟨h m o5 hk,hk⟩]
  .rw[if_neg (λx=>hk x.2),ih,zH (hs m o5) k hk]
theorem OI(D:c6I)(k i:Nat):∀m,i<=m->(∀j,i<=j->j<m->k∈(T j).2->j∉D)->SD S T D m k=SD S T D i k
 |m,hm,h=>by
  induction m with
  |zero=>have:i=0:=o5;subst this;rfl|succ m ih=>
   by_cases e:i=m+1
   .subst e;rfl
   .simp only[SD];rw[if_neg (λx=>h m o5 o5 x.2 x.1)];exact ih o5 (λj h1 h2=>h j h1 o5)
theorem a3O(D:c6I)(i k:Nat)(hk:k∉(T i).2):∀m,SD S T (i::D) m k=SD S T D m k
 |0=>rfl|m+1=>by
  simp only[SD,a3O D i k hk m];by_cases e:m=i
  .subst e;simp[hk]
  .simp[D8,e]
theorem a6H(hs:∀i,i<n->(c i).eval (S i) ([],[])=some ((),S (i+1),T i)){D:c6I}(hD:∀i,i<n->i∈D):SD S T D n=S n:=by funext k;exact Ee hs D k n o5 (λj hj _=>hD j hj)
theorem a6I(n:Nat):SD S T [] n=S 0:=by
 induction n with
 |zero=>rfl|succ m ih=>funext k;simp[SD,ih]
end draws
end Go.GP
namespace Go.GP
def Un(P:Program)(d:Deferred):Prop:=∃fv cap f args,d.target= .fn fv cap/\(∀w:World,(invoke d.target d.args).run P w= .ok (.enter f args) w)/\
 ∀w,CallsD P f args .returning w λe u' w' =>(∃v,e= .returned v)/\u' = .returning/\w' =w
def b7u(P:Program)(f n:Nat):Prop:=∀cap:Array Value,cap.size=n->Un P { target:=.fn (.func f) cap,args:=#[] }
theorem Sj{P:Program}{fn:Func}{tmps:Array Value}{R:Ending->World->Prop}{w:World}(h:∃v,(results fn tmps).run P w= .ok v w/\R (.returned v) w):∀(ds:List Deferred),(∀d∈ds,Un P d)->Leaves P fn tmps R ds .returning w
 |[],_=>h
 |d::ds,hd=>by obtain⟨fv,cap,f,args,ht,hi,hc⟩:=hd d D5;refine⟨D5,fv,cap,f,args,ht,hi w,(hc w).mono ?_⟩;rintro e u' w' ⟨⟨v,rfl⟩,rfl,rfl⟩;exact Sj h ds λx hx=>hd x (by simp[hx])
structure Fx where
 P:Program
 E:Env
 w0:World
 O:c6I
 ok0:Nat->Ty->Prop
 tm0:Array Value
 df:Option (List Deferred)
structure Frame' (w0 w:World) (O:c6I):Prop where
 os:w.os=w0.os
 tape:w.tape=w0.tape
 output:w.output=w0.output
 size:w0.heap.size<=w.heap.size
 block:∀b,b<w0.heap.size->b∉O->w.heap[b]? =w0.heap[b]?
theorem Frame'.refl(w:World)(O:c6I):Frame' w w O:=⟨rfl,rfl,rfl,D7 _,λ_ _ _=>rfl⟩
def b3g(h:Array Obj)(g n:Nat):Prop:=∃c T f,h[g]? =some (.cells c T f)/\c.size=n
def IE(C:Cx)(g:Nat)(t:Ty)(xs:List t.den):Prop:=
 C.ok g t/\b3g C.h g (xs.length*t.size)/\∀i x,xs[i]? =some x->∃es,bQ C.h g (i*t.size) t.size=some es/\rep C.h C.ok t x es
theorem IE.le{C D:Cx}(h:C.le D){g:Nat}{t:Ty}{xs:List t.den}(k:IE C g t xs):IE D g t xs:=by obtain⟨h1,h3,h2⟩:=k;refine⟨h.ok _ _ h1,by unfold b3g at h3 ⊢;rw[h.h _ _ h1];exact h3,λi x hi=>?_⟩;obtain⟨es,he,hr⟩:=h2 i x hi;exact⟨es,by rw[tY (h.h _ _ h1)];exact he,gX h.ok h.h hr⟩
structure Rel (X:Fx) (cl ch:Nat) (S:Sm) (m:Mp) (ok:Nat->Ty->Prop) (a:Act) (w:World):Prop where
 size:a.tmps.size=X.E.nt
 nodef:∀d∈a.defers,Un X.P d
 dfs:∀l,X.df=some l->a.defers=l
 slot:∀n,n<X9->lQ ⟨w.heap,ok,m⟩ (S n) (a.tmps.getD n Go.undef)
 box:∀n,Cm ⟨w.heap,ok,m⟩ n (S (X9+n))
 inj:∀n n' b,b∈U2 m n (S (X9+n))->b∈U2 m n' (S (X9+n'))->n=n'
 nd:∀n,(U2 m n (S (X9+n))).Nodup
 sep:∀n b,b∈U2 m n (S (X9+n))->(∀t,¬ok b t)/\b<w.heap.size/\(X.w0.heap.size<=b\/b∈X.O)
 okLt:∀b t,ok b t->b<w.heap.size
 okIn:∀b t,X.ok0 b t->ok b t
 okOut:∀b t,ok b t->X.ok0 b t\/X.w0.heap.size<=b\/b∈X.O
 frame:Frame' X.w0 w X.O
 fresh:∀n,cl<=n->S (X9+n)= .undef->m n=none
 strict:∀n,ch<=n->m n=none
 gl:∀g u,dX X.E.gl g=some u->IE ⟨w.heap,ok,m⟩ g u.1 u.2
 kept:∀n∈X.E.kp,a.tmps.getD n Go.undef=X.tm0.getD n Go.undef
def mO(m:Mp)(n:Nat)(l:Loc)(ks:c6I):Mp:=⟨λk=>if k=n then some l else m k,λk=>if k=n then ks else m.kid k⟩
@[simp] theorem ax (m:Mp) (n:Nat) (l:Loc) (ks:c6I):mO m n l ks n=some l:=by simp[mO]
variable {n:Nat}{k:Nat}
theorem jK(m:Mp)(l:Loc)(ks:c6I)(h:k≠n):mO m n l ks k=m k:=by simp[mO,h]
@[simp] theorem c5x (m:Mp) (n:Nat) (l:Loc) (ks:c6I):(mO m n l ks).kid n=ks:=by simp[mO]
theorem RG(m:Mp)(l:Loc)(ks:c6I)(h:k≠n):(mO m n l ks).kid k=m.kid k:=by simp[mO,h]
def Bh(m:Mp)(n:Nat)(ks:c6I):Mp:=⟨m.loc,λk=>if k=n then ks else m.kid k⟩
@[simp] theorem c4m (m:Mp) (n k:Nat) (ks:c6I):Bh m n ks k=m k:=rfl
@[simp] theorem c4l (m:Mp) (n:Nat) (ks:c6I):(Bh m n ks).kid n=ks:=by simp[Bh]
theorem Yn(m:Mp)(ks:c6I)(h:k≠n):(Bh m n ks).kid k=m.kid k:=by simp[Bh,h]
theorem yH(m:Mp)(n:Nat):Bh m n (m.kid n)=m:=by
 cases m with|mk l k=>
 simp only[Bh,Mp.mk.injEq,true_and];funext j;split
 .rename_i e;rw[e]
 .rfl
variable {v:V}
theorem Jf{m m' :Mp}(h:m' n=m n)(k:m'.kid n=m.kid n):U2 m' n v=U2 m n v:=by cases v<;>simp only[U2,h,k]
variable {d:Nat}
theorem WY{tmps:Array Value}(h:d<tmps.size)(x e:Value):(tmps.setIfInBounds d x).getD d e=x:=by simp[Array.getD,h]
theorem Ar{tmps:Array Value}(h:n≠d)(x e:Value):(tmps.setIfInBounds d x).getD n e=tmps.getD n e:=by simp only[O5];rw[lL];simp[Ne.symm h]
structure Tk (X:Fx) (S:Sm) (m:Mp) (ok:Nat->Ty->Prop) (w:World) (T:c6I):Prop where
 nodup:T.Nodup
 free:∀b∈T,(∀t,¬ok b t)/\b<w.heap.size/\(X.w0.heap.size<=b\/b∈X.O)/\∀n,b∉U2 m n (S (X9+n))
theorem Tk.nil{X:Fx}{S:Sm}{m:Mp}{ok:Nat->Ty->Prop}{w:World} :Tk X S m ok w []:=⟨bu,λb h=>by cases h⟩
def okW(ok:Nat->Ty->Prop)(bs:c6I)(Ts:List Ty):Nat->Ty->Prop:=λb t=>ok b t\/(b∈bs/\t∈Ts)
variable {w':World}{bs:c6I}
section
variable {X:Fx} {cl ch:Nat} {S:Sm} {m:Mp} {ok:Nat->Ty->Prop} {a:Act} {w:World} {T:c6I}
theorem Tk.perm{T T' :c6I}(h:Tk X S m ok w T)(p:T.Perm T'):Tk X S m ok w T' :=
 ⟨p.nodup_iff.1 h.nodup,λb hb=>h.free b (p.mem_iff.2 hb)⟩
theorem Vx{n:Nat} :∀{l:c6I},DV n l=false->n∉l
 |[],_,h=>by cases h|k::r,hb,h=>by
  unfold DV at hb;cases hk:Nat.beq k n<;>rw[hk]at hb
  .rcases D8.1 h with e|h
   .subst e;rw[show Nat.beq n n=true from Nat.beq_refl n]at hk;cases hk
   .exact Vx hb h
  .cases hb
theorem XU{n:Nat} :∀{l:c6I},DV n l=true->n∈l
 |[],h=>by cases h|k::r,hb=>by
  unfold DV at hb;cases hk:Nat.beq k n<;>rw[hk]at hb
  .exact U5 _ (XU hb)
  .have:=eU hk;subst this;exact iC
theorem zK{E:Env}{t:Nat}(h:PN E t=true):t<E.nt/\t∉E.kp:=by
 unfold PN at h;cases hb:Nat.blt t E.nt<;>rw[hb]at h
 .cases h
 .simp only[cond_true,bT]at h;exact⟨by rw[Z5]at hb;exact hb,Vx h⟩
theorem Rel.put(R:Rel X cl ch S m ok a w)(hnt:X.E.nt<=X9){x:Value}(hd:PN X.E d=true)(hv:lQ ⟨w.heap,ok,m⟩ v x):
  Rel X cl ch (upd S d v) m ok (a.put (some d) x) w:=by
 obtain⟨hd,hkp⟩:=zK hd;have hb:∀n,upd S d v (X9+n)=S (X9+n):=λn=>bF _ _ o5;have hkept:∀n∈X.E.kp,(a.put (some d) x).tmps.getD n Go.undef=X.tm0.getD n Go.undef:=λn hn=>by have e:n≠d:=λe=>hkp (e▸hn);simp only[Act.put];rw[Ar e];exact R.kept n hn
 refine { R with size:=(by simp[Act.put,R.size]),nodef:=(by simpa[Act.put]using R.nodef),dfs:=(by simpa[Act.put]using R.dfs),slot:=λn hn=>?_,box:=λn=>(by rw[hb];exact R.box n),inj:=λn n' b=>(by rw[hb,hb];exact R.inj n n' b),nd:=λn=>(by rw[hb];exact R.nd n),sep:=λn b=>(by rw[hb];exact R.sep n b),fresh:=λn h1 h2=>R.fresh n h1 (by rwa[hb]at h2),kept:=hkept };by_cases e:n=d
 .subst e;simp only[jZ,Act.put];rw[WY (by rw[R.size];exact hd)];exact hv
 .rw[bF _ _ e];simp only[Act.put];rw[Ar e];exact R.slot n hn
theorem Rel.slotV(R:Rel X cl ch S m ok a w)(hd:d<X9)(hv:lQ ⟨w.heap,ok,m⟩ v (a.tmps.getD d Go.undef)):
  Rel X cl ch (upd S d v) m ok a w:=by
 have hb:∀n,upd S d v (X9+n)=S (X9+n):=λn=>bF _ _ o5;refine { R with slot:=λn hn=>?_,box:=λn=>(by rw[hb];exact R.box n),inj:=λn n' b=>(by rw[hb,hb];exact R.inj n n' b),nd:=λn=>(by rw[hb];exact R.nd n),sep:=λn b=>(by rw[hb];exact R.sep n b),fresh:=λn h1 h2=>R.fresh n h1 (by rwa[hb]at h2) };by_cases e:n=d
 .subst e;simp only[jZ];exact hv
 .rw[bF _ _ e];exact R.slot n hn
theorem Rel.world(R:Rel X cl ch S m ok a w){ok' :Nat->Ty->Prop}(hos:w'.os=w.os)(htp:w'.tape=w.tape)(hout:w'.output=w.output)(hsz:w.heap.size<=w'.heap.size)
  (hkeep:∀b,b<w.heap.size->((∃t,ok b t)\/(∃n,b∈U2 m n (S (X9+n)))\/¬(X.w0.heap.size<=b\/b∈X.O))->w'.heap[b]? =w.heap[b]?)
  (hok:∀b t,ok b t->ok' b t) (hok' :∀b t,ok' b t->b<w'.heap.size/\(ok b t\/((X.w0.heap.size<=b\/b∈X.O)/\∀n,b∉U2 m n (S (X9+n))))):
  Rel X cl ch S m ok' a w' :=by
 have hle:Cx.le ⟨w.heap,ok,m⟩ ⟨w'.heap,ok',m⟩:=⟨hok,λb t hb=>hkeep b (R.okLt b t hb) (.inl ⟨t,hb⟩),λ_ _ h=>h⟩;refine { kept:=R.kept,size:=R.size,nodef:=R.nodef,dfs:=R.dfs,inj:=R.inj,nd:=R.nd,fresh:=R.fresh,strict:=R.strict,slot:=λn hn=>Jo hle (R.slot n hn),box:=λn=>Ud hle rfl (λb hb=>hkeep b (R.sep n b hb).2.1 (.inr (.inl ⟨n,hb⟩))) (R.box n),sep:=λn b hb=>?_,okLt:=λb t hb=>(hok' b t hb).1,okIn:=λb t hb=>hok b t (R.okIn b t hb),okOut:=λb t hb=>?_,frame:=?_,gl:=λg u hg=>IE.le hle (R.gl g u hg) }
 .obtain⟨h1,h2,h3⟩:=R.sep n b hb;refine⟨λt h=>?_,o5,h3⟩;rcases(hok' b t h).2 with h|⟨_,h⟩
  .exact h1 t h
  .exact h n hb
 .rcases(hok' b t hb).2 with h|⟨h,_⟩
  .exact R.okOut b t h
  .exact .inr h
 .obtain⟨f1,f2,f3,f4,f5⟩:=R.frame;refine⟨hos.trans f1,htp.trans f2,hout.trans f3,o5,λb hb hO=>?_⟩;rw[hkeep b o5 (.inr (.inr (by simp[hO];omega)))];exact f5 b hb hO
theorem Rel.same(R:Rel X cl ch S m ok a w)(hos:w'.os=w.os)(htp:w'.tape=w.tape)(hout:w'.output=w.output)(hh:w'.heap=w.heap):Rel X cl ch S m ok a w' :=by refine R.world hos htp hout (by rw[hh];exact D7 _) (λb _ _=>by rw[hh]) (λ_ _ h=>h) (λb t h=>⟨by rw[hh];exact R.okLt b t h,.inl h⟩)
theorem zZ{n k b:Nat}(hv:U2 m n v=[])(h:b∈U2 m k (upd S (X9+n) v (X9+k))):k≠n/\b∈U2 m k (S (X9+k)):=by
 by_cases e:k=n
 .subst e;rw[jZ,hv]at h;cases h
 .rw[bF _ _ o5]at h;exact⟨e,h⟩
theorem Rel.killV(R:Rel X cl ch S m ok a w)(n:Nat)(hv:v≠.undef)(hw:U2 m n v=[])(hB:Cm ⟨w.heap,ok,m⟩ n v):Rel X cl ch (upd S (X9+n) v) m ok a w:=by
 have ho:∀k b,b∈U2 m k (upd S (X9+n) v (X9+k))->k≠n/\b∈U2 m k (S (X9+k)):=λk b h=>zZ hw h;refine { R with slot:=λk hk=>(by rw[bF _ _ o5];exact R.slot k hk),box:=λk=>?_,inj:=λk k' b h h' =>R.inj k k' b (ho _ _ h).2 (ho _ _ h').2,nd:=λk=>?_,sep:=λk b h=>R.sep k b (ho _ _ h).2,fresh:=λk h1 h2=>?_ }
 .by_cases e:k=n
  .subst e;rw[jZ];exact hB
  .rw[bF _ _ o5];exact R.box k
 .by_cases e:k=n
  .subst e;rw[jZ,hw];exact bu
  .rw[bF _ _ o5];exact R.nd k
 .by_cases e:k=n
  .subst e;rw[jZ]at h2;exact absurd h2 hv
  .rw[bF _ _ o5]at h2;exact R.fresh k h1 h2
theorem Rel.kill(R:Rel X cl ch S m ok a w)(n:Nat):Rel X cl ch (upd S (X9+n) .dead) m ok a w:=R.killV n D5 rfl trivial
theorem Tk.killV(R:Rel X cl ch S m ok a w)(h:Tk X S m ok w T)(n:Nat)(hw:U2 m n v=[])(hbs:∀b,b∈bs->b∈U2 m n (S (X9+n)))(hnd:bs.Nodup):
  Tk X (upd S (X9+n) v) m ok w (T++bs):=by
 refine⟨P8.2 ⟨h.nodup,hnd,λx hx y hy e=>?_⟩,λb hb=>?_⟩
 .subst e;exact(h.free x hx).2.2.2 n (hbs x hy)
 .rcases J6.1 hb with hb|hb
  .obtain⟨h1,h2,h3,h4⟩:=h.free b hb;exact⟨h1,h2,h3,λk e=>h4 k (zZ hw e).2⟩
  .obtain⟨h1,h2,h3⟩:=R.sep n b (hbs b hb);exact⟨h1,h2,h3,λk e=>(zZ hw e).1 (R.inj k n b (zZ hw e).2 (hbs b hb))⟩
theorem Rel.mark(R:Rel X cl ch S m ok a w){md:M}{xs:List md.den}(hS:S (X9+n)= .barrs md xs none):Rel X cl ch (upd S (X9+(NL+n)) (.blen (A7 xs) md.size)) m ok a w:=by
 refine R.killV (NL+n) D5 rfl ?_;have hb:=R.box n;rw[hS]at hb;obtain⟨_,l,Os,hm,⟨ha,hho⟩,_⟩:=hb;refine⟨n,l,rfl,hm,?_⟩;cases l with
 |nil=>obtain⟨rfl,_⟩:=ha;rfl
 |st b=>cases ha|mp b=>cases ha|arr blk off len cap sz=>exact⟨by rw[ha.2.1];rfl,ha.1.symm⟩
theorem Tk.kill(R:Rel X cl ch S m ok a w)(h:Tk X S m ok w T)(n:Nat)(hbs:∀b,b∈bs->b∈U2 m n (S (X9+n)))(hnd:bs.Nodup):
  Tk X (upd S (X9+n) .dead) m ok w (T++bs):=h.killV R n rfl hbs hnd
theorem Rel.lay(R:Rel X cl ch S m ok a w){l:Loc}{ks:c6I}(hn:S (X9+n)= .undef)(hcl:cl<=n)(hch:n<ch)(hv:v≠.undef)
  (hos:w'.os=w.os) (htp:w'.tape=w.tape) (hout:w'.output=w.output) (hsz:w.heap.size<=w'.heap.size)
  (hkeep:∀b,b<w.heap.size->b∉U2 (mO m n l ks) n v->w'.heap[b]? =w.heap[b]?)
  (hnd:(U2 (mO m n l ks) n v).Nodup)
  (hfree:∀b∈U2 (mO m n l ks) n v,(∀t,¬ok b t)/\b<w'.heap.size/\(X.w0.heap.size<=b\/b∈X.O)/\∀k,b∉U2 m k (S (X9+k)))
  (hB:Cm ⟨w'.heap,ok,mO m n l ks⟩ n v):Rel X cl ch (upd S (X9+n) v) (mO m n l ks) ok a w' :=by
 have hm:m n=none:=R.fresh n hcl hn;have hR:Rel X cl ch S m ok a w' :=by
  refine R.world hos htp hout hsz (λb hb h=>?_) (λ_ _ h=>h) (λb t h=>⟨by have:=R.okLt b t h;omega,.inl h⟩);refine hkeep b hb (λe=>?_);obtain⟨h1,h2,h3,h4⟩:=hfree b e;rcases h with⟨t,h⟩|⟨k,h⟩|h
  .exact h1 t h
  .exact h4 k h
  .exact h h3
 have hle:Cx.le ⟨w'.heap,ok,m⟩ ⟨w'.heap,ok,mO m n l ks⟩:=⟨λ_ _ h=>h,λ_ _ _=>rfl,λk x h=>by
  by_cases e:k=n
  .subst e;simp[hm]at h
  .show mO m n l ks k=some x;rw[jK _ _ _ e];exact h⟩
 have hob:∀k,k≠n->U2 (mO m n l ks) k (upd S (X9+n) v (X9+k))=U2 m k (S (X9+k)):=λk e=>by rw[bF _ _ o5];exact Jf (jK _ _ _ e) (RG _ _ _ e)
 have hobn:U2 (mO m n l ks) n (upd S (X9+n) v (X9+n))=U2 (mO m n l ks) n v:=by rw[jZ]
 refine { kept:=hR.kept,size:=hR.size,nodef:=hR.nodef,dfs:=hR.dfs,okLt:=hR.okLt,okIn:=hR.okIn,okOut:=hR.okOut,frame:=hR.frame,slot:=λk hk=>(by rw[bF _ _ o5];exact Jo hle (hR.slot k hk)),box:=λk=>?_,inj:=λk k' b h h' =>?_,nd:=λk=>?_,sep:=λk b h=>?_,fresh:=λk h1 h2=>?_,strict:=λk h=>?_,gl:=λg u hg=>IE.le hle (hR.gl g u hg) }
 .by_cases e:k=n
  .subst e;rw[jZ];exact hB
  .rw[bF _ _ o5];refine Ud hle (RG _ _ _ e) (λb hb=>rfl) (hR.box k)
 .by_cases e:k=n
  .by_cases e' :k' =n
   .rw[e,e']
   .subst e;rw[hobn]at h;rw[hob k' e']at h';exact absurd h' ((hfree b h).2.2.2 k')
  .by_cases e' :k' =n
   .subst e';rw[hobn]at h';rw[hob k e]at h;exact absurd h ((hfree b h').2.2.2 k)
   .rw[hob k e]at h;rw[hob k' e']at h';exact R.inj k k' b h h'
 .by_cases e:k=n
  .subst e;rw[hobn];exact hnd
  .rw[hob k e];exact R.nd k
 .by_cases e:k=n
  .subst e;rw[hobn]at h;obtain⟨h1,h2,h3,_⟩:=hfree b h;exact⟨h1,h2,h3⟩
  .rw[hob k e]at h;exact hR.sep k b h
 .by_cases e:k=n
  .subst e;rw[jZ]at h2;exact absurd h2 hv
  .rw[bF _ _ o5]at h2;rw[jK _ _ _ e];exact R.fresh k h1 h2
 .have e:k≠n:=o5;rw[jK _ _ _ e];exact R.strict k h
theorem Rel.modK(R:Rel X cl ch S m ok a w)(hT:Tk X S m ok w T){ks:c6I}(hv:v≠.undef)
  (hnd:(U2 (Bh m n ks) n v).Nodup) (hsub:∀b∈U2 (Bh m n ks) n v,b∈U2 m n (S (X9+n))\/b∈T)
  (hos:w'.os=w.os) (htp:w'.tape=w.tape) (hout:w'.output=w.output) (hsz:w'.heap.size=w.heap.size)
  (hkeep:∀b,b∉U2 m n (S (X9+n))->w'.heap[b]? =w.heap[b]?) (hB:Cm ⟨w'.heap,ok,Bh m n ks⟩ n v)
  {T' :c6I} (hnd' :T'.Nodup) (hT' :∀b∈T',(b∈U2 m n (S (X9+n))\/b∈T)/\b∉U2 (Bh m n ks) n v):
  Rel X cl ch (upd S (X9+n) v) (Bh m n ks) ok a w' /\Tk X (upd S (X9+n) v) (Bh m n ks) ok w' T' :=by
 have hsep:∀b,b∈U2 m n (S (X9+n))\/b∈T->(∀t,¬ok b t)/\b<w.heap.size/\(X.w0.heap.size<=b\/b∈X.O)/\∀k,k≠n->b∉U2 m k (S (X9+k)):=λb h=>by
  rcases h with h|h
  .obtain⟨h1,h2,h3⟩:=R.sep n b h;exact⟨h1,h2,h3,λk e h' =>e (R.inj k n b h' h)⟩
  .obtain⟨h1,h2,h3,h4⟩:=hT.free b h;exact⟨h1,h2,h3,λk _=>h4 k⟩
 have hle:Cx.le ⟨w.heap,ok,m⟩ ⟨w'.heap,ok,Bh m n ks⟩:=⟨λ_ _ h=>h,λb t hb=>hkeep b (λe=>(R.sep n b e).1 t hb),λ_ _ h=>h⟩;have hob:∀k,k≠n->U2 (Bh m n ks) k (upd S (X9+n) v (X9+k))=U2 m k (S (X9+k)):=λk e=>by rw[bF _ _ o5];exact Jf rfl (Yn _ _ e)
 have hobn:U2 (Bh m n ks) n (upd S (X9+n) v (X9+n))=U2 (Bh m n ks) n v:=by rw[jZ]
 refine⟨?_,hnd',λb hb=>?_⟩
 .refine { kept:=R.kept,size:=R.size,nodef:=R.nodef,dfs:=R.dfs,okLt:=λb t hb=>(by rw[hsz];exact R.okLt b t hb),okIn:=R.okIn,okOut:=R.okOut,strict:=R.strict,slot:=λk hk=>(by rw[bF _ _ o5];exact Jo hle (R.slot k hk)),box:=λk=>?_,inj:=λk k' b h h' =>?_,nd:=λk=>?_,sep:=λk b h=>?_,fresh:=λk h1 h2=>?_,frame:=?_,gl:=λg u hg=>IE.le hle (R.gl g u hg) }
  .by_cases e:k=n
   .subst e;rw[jZ];exact hB
   .rw[bF _ _ o5];refine Ud hle (Yn _ _ e) (λb hb=>hkeep b (λe' =>e (R.inj k n b hb e'))) (R.box k)
  .by_cases e:k=n
   .by_cases e' :k' =n
    .rw[e,e']
    .subst e;rw[hobn]at h;rw[hob k' e']at h';exact absurd h' ((hsep b (hsub b h)).2.2.2 k' e')
   .by_cases e' :k' =n
    .subst e';rw[hobn]at h';rw[hob k e]at h;exact absurd h ((hsep b (hsub b h')).2.2.2 k e)
    .rw[hob k e]at h;rw[hob k' e']at h';exact R.inj k k' b h h'
  .by_cases e:k=n
   .subst e;rw[hobn];exact hnd
   .rw[hob k e];exact R.nd k
  .by_cases e:k=n
   .subst e;rw[hobn]at h;obtain⟨h1,h2,h3,_⟩:=hsep b (hsub b h);exact⟨h1,by rw[hsz];exact h2,h3⟩
   .rw[hob k e]at h;obtain⟨h1,h2,h3⟩:=R.sep k b h;exact⟨h1,by rw[hsz];exact h2,h3⟩
  .obtain⟨f1,f2,f3,f4,f5⟩:=R.frame;refine⟨hos.trans f1,htp.trans f2,hout.trans f3,by rw[hsz];exact f4,λb hb hO=>?_⟩;rw[hkeep b (λe=>?_)]
   .exact f5 b hb hO
   .rcases(R.sep n b e).2.2 with h|h
    .omega
    .exact hO h
  .by_cases e:k=n
   .subst e;rw[jZ]at h2;exact absurd h2 hv
   .rw[bF _ _ o5]at h2;exact R.fresh k h1 h2
 .obtain⟨h0,h0'⟩:=hT' b hb;obtain⟨h1,h2,h3,h4⟩:=hsep b h0;refine⟨h1,by rw[hsz];exact h2,h3,λk h=>?_⟩;by_cases e:k=n
  .subst e;rw[hobn]at h;exact h0' h
  .rw[hob k e]at h;exact h4 k e h
theorem Rel.mod(R:Rel X cl ch S m ok a w)(ho:U2 m n v=U2 m n (S (X9+n)))(hv:v≠.undef)
  (hos:w'.os=w.os) (htp:w'.tape=w.tape) (hout:w'.output=w.output) (hsz:w'.heap.size=w.heap.size)
  (hkeep:∀b,b∉U2 m n (S (X9+n))->w'.heap[b]? =w.heap[b]?) (hB:Cm ⟨w'.heap,ok,m⟩ n v):Rel X cl ch (upd S (X9+n) v) m ok a w' :=by
 have h:=R.modK (T:=[]) Tk.nil (n:=n) (v:=v) (ks:=m.kid n) (w' :=w') (T' :=[]) hv (by rw[yH,ho];exact R.nd n) (by rw[yH,ho];exact λb h=> .inl h) hos htp hout hsz hkeep (by rw[yH];exact hB) bu (λb h=>by cases h);rw[yH]at h;exact h.1
theorem Rel.widen(R:Rel X cl ch S m ok a w)(hv:v≠.undef)(ho:U2 m n v=[]){Ts:List Ty}(hbs:∀b∈bs,b∈U2 m n (S (X9+n)))
  (hB:Cm ⟨w.heap,okW ok bs Ts,m⟩ n v):Rel X cl ch (upd S (X9+n) v) m (okW ok bs Ts) a w:=by
 have hmono:∀b t,ok b t->okW ok bs Ts b t:=λb t h=> .inl h;have hob:∀k b,b∈U2 m k (upd S (X9+n) v (X9+k))->k≠n/\b∈U2 m k (S (X9+k)):=λk b h=>zZ ho h;have hle:Cx.le ⟨w.heap,ok,m⟩ ⟨w.heap,okW ok bs Ts,m⟩:=⟨hmono,λ_ _ _=>rfl,λ_ _ h=>h⟩;refine { kept:=R.kept,size:=R.size,nodef:=R.nodef,dfs:=R.dfs,strict:=R.strict,frame:=R.frame,okIn:=λb t h=>hmono b t (R.okIn b t h),slot:=λk hk=>(by rw[bF _ _ o5];exact Jo hle (R.slot k hk)),box:=λk=>?_,inj:=λk k' b h h' =>R.inj k k' b (hob _ _ h).2 (hob _ _ h').2,nd:=λk=>?_,sep:=λk b h=>?_,okLt:=λb t h=>?_,okOut:=λb t h=>?_,fresh:=λk h1 h2=>?_,gl:=λg u hg=>IE.le hle (R.gl g u hg) }
 .by_cases e:k=n
  .subst e;rw[jZ];exact hB
  .rw[bF _ _ o5];exact Ud hle rfl (λb hb=>rfl) (R.box k)
 .by_cases e:k=n
  .subst e;rw[jZ,ho];exact bu
  .rw[bF _ _ o5];exact R.nd k
 .obtain⟨e,h⟩:=hob k b h;obtain⟨h1,h2,h3⟩:=R.sep k b h;refine⟨λt h' =>?_,h2,h3⟩;rcases h' with h'|⟨h',_⟩
  .exact h1 t h'
  .exact e (R.inj k n b h (hbs b h'))
 .rcases h with h|⟨h,_⟩
  .exact R.okLt b t h
  .exact(R.sep n b (hbs b h)).2.1
 .rcases h with h|⟨h,_⟩
  .exact R.okOut b t h
  .exact .inr (R.sep n b (hbs b h)).2.2
 .by_cases e:k=n
  .subst e;rw[jZ]at h2;exact absurd h2 hv
  .rw[bF _ _ o5]at h2;exact R.fresh k h1 h2
theorem Tk.widen(h:Tk X S m ok w T)(ho:U2 m n v=[]){Ts:List Ty}(hbs:∀b∈bs,b∈U2 m n (S (X9+n))):
  Tk X (upd S (X9+n) v) m (okW ok bs Ts) w T:=by
 refine⟨h.nodup,λb hb=>?_⟩;obtain⟨h1,h2,h3,h4⟩:=h.free b hb;refine⟨λt e=>?_,h2,h3,λk e=>h4 k (zZ ho e).2⟩;rcases e with e|⟨e,_⟩
 .exact h1 t e
 .exact h4 n (hbs b e)
theorem Rel.backV(R:Rel X cl ch S m ok a w){O1 B:c6I}(hv:v≠.undef)(hT:Tk X S m ok w (O1++B))(ho:U2 m n v=O1)(hB:Cm ⟨w.heap,ok,m⟩ n v):
  Rel X cl ch (upd S (X9+n) v) m ok a w/\Tk X (upd S (X9+n) v) m ok w B:=by
 have hnd:=P8.1 hT.nodup;have h:=R.modK hT (n:=n) (v:=v) (ks:=m.kid n) (w' :=w) (T' :=B) hv (by rw[yH,ho];exact hnd.1) (by rw[yH,ho];exact λb h=> .inr (by simp[h])) rfl rfl rfl rfl (λ_ _=>rfl) (by rw[yH];exact hB) hnd.2.1
  (λb hb=>⟨.inr (by simp[hb]),by rw[yH,ho];exact λh=>hnd.2.2 b h b hb rfl⟩)
 rw[yH]at h;exact h
end
end Go.GP
namespace Go.GP
def Jt:Loc->Option (Nat×Nat)->Loc
 | .arr blk off len cap sz,some (lo,hi)=>if cap=lo then .arr blk off 0 0 sz else .arr blk (off+lo*sz) (hi -lo) (cap -lo) sz|l,_=>l
variable {t:Ty}{v:Value}{l:Loc}{xs:List t.den}
theorem II{C:Cx}{vw:Option (Nat×Nat)}(ha:arrOk C t xs l)(hv:l.view vw v):
  arrOk C t (jL vw xs) (Jt l vw)/\(Jt l vw).view none v/\(Jt l vw).blks=l.blks:=by
 cases l with
 |st b=>cases ha|mp b=>
  cases vw with
  |none=>exact⟨ha,hv,rfl⟩|some p=>cases hv
 |nil=>
  obtain⟨ha,h0⟩:=ha;subst ha;cases vw with
  |none=>exact⟨⟨rfl,h0⟩,hv,rfl⟩|some p=>obtain⟨lo,hi⟩:=p;obtain⟨rfl,rfl,rfl⟩:=hv;exact⟨⟨rfl,h0⟩,rfl,rfl⟩
 |arr blk off len cap sz=>
  cases vw with
  |none=>exact⟨ha,hv,rfl⟩|some p=>
   obtain⟨lo,hi⟩:=p;obtain⟨h0,rfl,rfl,hc,c,T,f,hh,hz,hs,hx⟩:=ha;obtain⟨h1,h2,rfl⟩:=hv;have hl:(jL (some (lo,hi)) xs).length=hi -lo:=by simp[jL,kH];omega
   by_cases e:cap=lo
   .subst e;have e2:hi=cap:=o5;subst e2;simp only[Jt,if_true,Loc.view,dR];refine⟨⟨h0,rfl,by rw[hl];omega,D7 _,c,T,f,hh,hz,?_,λi x hi=>?_⟩,trivial,rfl⟩
    .have:=cO (hi*t.size);omega
    .have:i<0:=by
      have:=(bg.1 hi).1;rw[hl]at this;omega
     omega
   .simp only[Jt,e,if_false,Loc.view];refine⟨⟨h0,rfl,by rw[hl],o5,c,T,f,hh,hz,?_,λi x hix=>?_⟩,trivial,rfl⟩
    .have:off+lo*t.size+(cap -lo)*t.size=off+cap*t.size:=by
      rw[iO,←N7];congr 2;omega
     rw[this];exact hs
    .have hi' :i<hi -lo:=by rw[←hl];exact(bg.1 hix).1
     have hx' :xs[lo+i]? =some x:=by
      simp only[jL,kH,O9,Y7]at hix;split at hix
      .exact hix
      .cases hix
     obtain⟨es,he,hr⟩:=hx _ x hx';refine⟨es,?_,hr⟩;rw[←he];congr 1;rw[N7];omega
def Zw(ag:Bool)(v:Value)(cs:c6H):Prop:=match ag with
 |true=>∃arr,v= .agg arr/\arr.toList=cs|false=>cs=[v]
def mg(h:Array Obj)(ok:Nat->Ty->Prop):(ms:List MG)->U0 ms->c6H->c6I->Prop
 |[],_,vs,O=>vs=[]/\O=[]|[m],x,vs,O=>∃v cs,vs=[v]/\Zw m.1 v cs/\mM h ok m.2 none x cs O|m::m' ::r,x,vs,O=>∃v cs vs' O1 O2,vs=v::vs' /\O=O1++O2/\Zw m.1 v cs/\mM h ok m.2 none x.1 cs O1/\mg h ok (m' ::r) x.2 vs' O2
theorem kU{vw:Option (Nat×Nat)}(h:l.view vw v):v.oneCell' =true:=by
 cases l<;>rcases vw with _|⟨lo,hi⟩<;>simp only[Loc.view]at h
 .subst h;rfl
 .obtain⟨_,_,rfl⟩:=h;rfl
 .subst h;rfl
 .obtain⟨_,_,rfl⟩:=h;rfl
 .subst h;rfl
variable {h:Array Obj}{o:Nat}
theorem Ku{ok:Nat->Ty->Prop}{x:t.den}(k:YM h ok t x o v):v.oneCell' =true:=by obtain⟨_,_,_,rfl,_⟩:=k;rfl
variable {α:Type}{ok':Nat->Ty->Prop}{cs:c6H}{O:c6I}{m:M}{sz:Nat}{mp:Mp}{R:Nat->α->c6H->c6I->Prop}{Os:List c6I}
section
variable {h:Array Obj} {ok:Nat->Ty->Prop}
theorem xP :mM h ok (.own t) none xs cs O↔∃l v,cs=[v]/\l.view none v/\arrOk ⟨h,ok,nom⟩ t xs l/\O=l.blks:=by
 constructor
 .rintro⟨v,e,_,l,hv,ha,ho⟩;exact⟨l,v,e,hv,ha,ho⟩
 .rintro⟨l,v,e,hv,ha,ho⟩;exact⟨v,e,kU hv,l,hv,ha,ho⟩
theorem yE{xs:List m.den} :mM h ok (.owns m) none xs cs O↔m.el=true/\∃l v Os,cs=[v]/\l.view none v/\
  vg h m.size (λ_ x es O=>mM h ok m none x es O) xs Os l/\O=l.blks++Os.flatten:=by
 constructor
 .rintro⟨v,e,_,he,l,Os,hv,ha,ho⟩;exact⟨he,l,v,Os,e,hv,ha,ho⟩
 .rintro⟨he,l,v,Os,e,hv,ha,ho⟩;exact⟨v,e,kU hv,he,l,Os,hv,ha,ho⟩
theorem a6q{a b:M}{x:a.den×b.den} :mM h ok (.pair a b) none x cs O↔∃c d O1 O2,cs=c++d/\O=O1++O2/\mM h ok a none x.1 c O1/\mM h ok b none x.2 d O2:=Iff.rfl
theorem oN:∀{m:M} {ho:Option Nat} {x:m.den} {cs:c6H} {O:c6I},mM h ok m ho x cs O->∀v∈cs,v.oneCell' =true
 | .dat t,_,_,_,_,e=>Af e.1| .own t,_,_,_,_,⟨v,e,hv,_⟩=>by subst e;simp[hv]| .owns t,_,_,_,_,⟨v,e,hv,_⟩=>by subst e;simp[hv]| .ownb t,_,_,_,_,⟨l,v,e,hv,_⟩=>by subst e;simp[kU hv]| .pair a b,_,_,_,_,⟨c,d,_,_,e,_,h1,h2⟩=>by
  subst e;intro v hv;rcases J6.1 hv with hv|hv
  .exact oN h1 v hv
  .exact oN h2 v hv
 | .unit,_,_,_,_,⟨e,_⟩=>by subst e;simp| .box m,_,_,_,_,⟨_,_,_,_,e,_⟩=>by subst e;simp[Value.oneCell']| .rp t,_,_,_,_,⟨v,e,hv,_⟩=>by subst e;simp[Ku hv]| .fn f ts,_,_,_,_,⟨vs,e,_⟩=>by subst e;simp[Value.oneCell']| .ifc t m,_,_,_,_,⟨u,e,_⟩=>by subst e;simp[Value.oneCell']| .cell _,_,_,_,_,⟨v,e,h,_⟩=>by subst e;simp[h]| .fr t,_,_,_,_,⟨l,v,e,hv,_⟩=>by subst e;simp[kU hv]| .lp t,_,_,_,_,⟨v,e,hv,_⟩=>by subst e;simp[Ku hv]| .dv ..,_,_,_,_,⟨v,e,h,_⟩=>by subst e;simp[h]| .ownr ..,_,_,_,_,⟨v,e,h,_⟩=>by subst e;simp[h]| .sit,_,_,_,_,⟨blk,a,v,e,_⟩=>by subst e;simp[Value.oneCell']| .sbx tb te,_,_,_,_,⟨blk,a,v,l,e,_⟩=>by subst e;simp[Value.oneCell']
theorem Hz{α β α' β' :Type}(ea:α=α')(eb:β=β')(e:(α×β)=(α' ×β'))(x:α×β):cast e x=(cast ea x.1,cast eb x.2):=by subst ea;subst eb;rfl
theorem M.ty_size:∀{m:M},m.el=true->m.ty.size=m.size
 | .dat _,_=>rfl| .own _,_=>rfl| .owns _,_=>rfl| .unit,_=>rfl| .pair a b,h=>by
  have h' :a.el=true/\b.el=true:=by simpa[M.el]using h
  simp[M.ty,Ty.size,M.size,M.ty_size h'.1,M.ty_size h'.2]
 | .box _,h=>by simp[M.el]at h| .ownb _,h=>by simp[M.el]at h| .rp _,h=>by simp[M.el]at h| .fn _ _,h=>by simp[M.el]at h| .ifc _ _,h=>by simp[M.el]at h| .cell _,h=>by simp[M.el]at h| .fr _,h=>by simp[M.el]at h| .sbx _ _,h=>by simp[M.el]at h| .lp _,h=>by simp[M.el]at h| .dv ..,h=>by simp[M.el]at h| .ownr ..,h=>by simp[M.el]at h| .sit,h=>by simp[M.el]at h
theorem aZ:∀{m:M} {ho:Option Nat} {x:m.den} {cs:c6H} {O:c6I},mM h ok m ho x cs O->cs.length=m.size
 | .dat t,_,_,_,_,e=>iQ e.1| .own t,_,_,_,_,⟨v,e,hv,_⟩=>by subst e;rfl| .owns t,_,_,_,_,⟨v,e,hv,_⟩=>by subst e;rfl| .ownb t,_,_,_,_,⟨l,v,e,hv,_⟩=>by subst e;rfl| .pair a b,_,_,_,_,⟨c,d,_,_,e,_,h1,h2⟩=>by subst e;simp[aZ h1,aZ h2,M.size]| .unit,_,_,_,_,⟨e,_⟩=>by subst e;rfl| .box m,_,_,_,_,⟨_,_,_,_,e,_⟩=>by subst e;rfl| .rp t,_,_,_,_,⟨v,e,hv,_⟩=>by subst e;rfl| .fn f ts,_,_,_,_,⟨vs,e,_⟩=>by subst e;rfl| .ifc t m,_,_,_,_,⟨u,e,_⟩=>by subst e;rfl| .cell _,_,_,_,_,⟨v,e,_⟩=>by subst e;rfl| .fr t,_,_,_,_,⟨l,v,e,hv,_⟩=>by subst e;rfl| .lp t,_,_,_,_,⟨v,e,_⟩=>by subst e;rfl| .dv ..,_,_,_,_,⟨v,e,_⟩=>by subst e;rfl| .ownr ..,_,_,_,_,⟨v,e,_⟩=>by subst e;rfl| .sit,_,_,_,_,⟨blk,a,v,e,_⟩=>by subst e;rfl| .sbx tb te,_,_,_,_,⟨blk,a,v,l,e,_⟩=>by subst e;rfl
theorem w_(h0:t.isEnt=false)(e:α=t.den)(e' :List α=List t.den)(hs:t.size=sz){xs:List α}
  (hR:∀i x es O,O∈Os->R i x es O->rep h ok' t (cast e x) es) (ha:vg h sz R xs Os l):arrOk ⟨h,ok',mp⟩ t (cast e' xs) l:=by
 subst e;simp only[cast_eq]at hR ⊢;cases l with
 |nil=>exact⟨ha.1,h0⟩|st b=>exact ha|mp b=>exact ha.elim|arr blk off len cap sz' =>obtain⟨h1,h2,h3,h7,c,T,h4,h5,h6⟩:=ha;refine⟨h0,by rw[hs];exact h1,h2,h3,c,T,_,h4,.inl rfl,by rw[h1];exact h5,λi x hi=>?_⟩;obtain⟨es,O,hO,hc,hr⟩:=h6 i x hi;exact⟨es,by rw[h1];exact hc,hR i x es O (yu hO) hr⟩
theorem M.ty_ent:∀{m:M},m.el=true->m.ty.isEnt=false
 | .dat t,h=>by simpa[M.el,M.ty]using h| .own _,_=>rfl| .owns _,_=>rfl| .unit,_=>rfl| .pair _ _,_=>rfl| .box _,h=>by simp[M.el]at h| .ownb _,h=>by simp[M.el]at h| .rp _,h=>by simp[M.el]at h| .fn _ _,h=>by simp[M.el]at h| .ifc _ _,h=>by simp[M.el]at h| .cell _,h=>by simp[M.el]at h| .fr _,h=>by simp[M.el]at h| .sbx _ _,h=>by simp[M.el]at h| .lp _,h=>by simp[M.el]at h| .dv ..,h=>by simp[M.el]at h| .ownr ..,h=>by simp[M.el]at h| .sit,h=>by simp[M.el]at h
theorem PZ{ok' :Nat->Ty->Prop}(hok:∀b t,ok b t->ok' b t):∀{m:M} (he:m.el=true) {x:m.den} {cs:c6H} {O:c6I},(∀b∈O,∀t∈m.owned,ok' b t)->mM h ok m none x cs O->rep h ok' m.ty (cast (M.denEq m he) x) cs
 | .dat t,_,_,_,_,_,e=>gX hok (λ_ _ _=>rfl) e.1| .unit,_,_,_,_,_,e=>e.1| .own t,he,xs,_,_,hO,e=>by obtain⟨l,v,rfl,hv,ha,rfl⟩:=xP.1 e;exact qj (C:=⟨h,ok,nom⟩) (vw:=none) ha hv hok (λblk hb=>hO blk hb t (by simp[M.owned]))
 | .pair a b,he,x,_,_,hO,e=>by
  obtain⟨c,d,O1,O2,rfl,rfl,h1,h2⟩:=e;have h' :a.el=true/\b.el=true:=by simpa[M.el]using he
  have e:cast (M.denEq (.pair a b) he) x=(cast (M.denEq a h'.1) x.1,cast (M.denEq b h'.2) x.2):=Hz _ _ _ _;refine⟨c,d,rfl,?_,?_⟩
  .rw[e];exact PZ hok h'.1 (λb hb t ht=>hO b (by simp[hb]) t (by simp[M.owned,ht])) h1
  .rw[e];exact PZ hok h'.2 (λb hb t ht=>hO b (by simp[hb]) t (by simp[M.owned,ht])) h2
 | .owns m,he,xs,_,_,hO,e=>by
  obtain⟨_,l,v,Os,rfl,hv,ha,rfl⟩:=yE.1 e;have he' :m.el=true:=he;have hA:arrOk ⟨h,ok',nom⟩ m.ty (cast (congrArg List (M.denEq m he')) xs) l:=w_ (M.ty_ent he') (M.denEq m he') _ (M.ty_size he') (λi x es O hOi hr=>PZ hok he' (λb hb t ht=>hO b (by simp only[J6,ah];exact .inr ⟨O,hOi,hb⟩) t (by simp[M.owned,ht])) hr) ha
  exact qj (C:=⟨h,ok',nom⟩) (t:=m.ty) (vw:=none) hA hv (λ_ _ h=>h) (λblk hb=>hO blk (by simp[hb]) m.ty (by simp[M.owned]))
 | .box _,h,_,_,_,_,_=>by simp[M.el]at h| .ownb _,h,_,_,_,_,_=>by simp[M.el]at h| .rp _,h,_,_,_,_,_=>by simp[M.el]at h| .fn _ _,h,_,_,_,_,_=>by simp[M.el]at h| .ifc _ _,h,_,_,_,_,_=>by simp[M.el]at h| .cell _,h,_,_,_,_,_=>by simp[M.el]at h| .fr _,h,_,_,_,_,_=>by simp[M.el]at h| .sbx _ _,h,_,_,_,_,_=>by simp[M.el]at h| .lp _,h,_,_,_,_,_=>by simp[M.el]at h| .dv ..,h,_,_,_,_,_=>by simp[M.el]at h| .ownr ..,h,_,_,_,_,_=>by simp[M.el]at h| .sit,h,_,_,_,_,_=>by simp[M.el]at h
theorem MK:∀{m:M} (he:m.el=true) (h0:m.own0=true) {x:m.ty.den} {cs:c6H},rep h ok m.ty x cs->mM h ok m none (cast (M.denEq m he).symm x) cs []
 | .dat t,_,_,_,_,e=>⟨e,rfl⟩| .unit,_,_,_,_,e=>⟨e,rfl⟩| .pair a b,he,h0,x,_,e=>by
  obtain⟨c,d,rfl,h1,h2⟩:=e;have h' :a.el=true/\b.el=true:=by simpa[M.el]using he
  have h0' :a.own0=true/\b.own0=true:=by simpa[M.own0]using h0
  have e:cast (M.denEq (.pair a b) he).symm x=(cast (M.denEq a h'.1).symm x.1,cast (M.denEq b h'.2).symm x.2):=Hz _ _ _ _;refine⟨c,d,[],[],rfl,rfl,?_,?_⟩
  .rw[e];exact MK h'.1 h0'.1 h1
  .rw[e];exact MK h'.2 h0'.2 h2
 | .own _,_,h0,_,_,_=>by simp[M.own0]at h0| .owns _,_,h0,_,_,_=>by simp[M.own0]at h0| .box _,h,_,_,_,_=>by simp[M.el]at h| .ownb _,h,_,_,_,_=>by simp[M.el]at h| .rp _,h,_,_,_,_=>by simp[M.el]at h| .fn _ _,h,_,_,_,_=>by simp[M.el]at h| .ifc _ _,h,_,_,_,_=>by simp[M.el]at h| .cell _,h,_,_,_,_=>by simp[M.el]at h| .fr _,h,_,_,_,_=>by simp[M.el]at h| .sbx _ _,h,_,_,_,_=>by simp[M.el]at h| .lp _,h,_,_,_,_=>by simp[M.el]at h| .dv ..,h,_,_,_,_=>by simp[M.el]at h| .ownr ..,h,_,_,_,_=>by simp[M.el]at h| .sit,h,_,_,_,_=>by simp[M.el]at h
theorem VV:∀{m:M} (he:m.el=true) {o:Nat} (h1:m.own1 o=true) {x:m.ty.den} {cs:c6H},rep h ok m.ty x cs->mM h ok m (some o) (cast (M.denEq m he).symm x) cs []
 | .own t,_,o,h1,x,_,e=>by have h1:o=0:=eU h1;subst h1;rcases e with⟨_,a,cap,rfl,_⟩|⟨_,mv,rfl,_⟩<;>exact⟨_,rfl,rfl,rfl⟩
 | .pair a b,he,o,h1,x,_,e=>by
  obtain⟨c,d,rfl,r1,r2⟩:=e;have h' :a.el=true/\b.el=true:=by simpa[M.el]using he
  have e:cast (M.denEq (.pair a b) he).symm x=(cast (M.denEq a h'.1).symm x.1,cast (M.denEq b h'.2).symm x.2):=Hz _ _ _ _;refine⟨c,d,[],[],rfl,rfl,?_,?_⟩<;>rw[e]<;>by_cases hlt:o<a.size
  .have hb:Nat.blt o a.size=true:=by rw[Z5];exact hlt
   simp only[M.own1,hb,cond_true,D6]at h1;simp only[hlt,if_true];exact VV h'.1 h1.1 r1
  .have hb:Nat.blt o a.size=false:=by cases hc:Nat.blt o a.size<;>first|rfl|(rw[Z5]at hc;exact absurd hc hlt)
   simp only[M.own1,hb,cond_false,D6]at h1;simp only[hlt,if_false];exact MK h'.1 h1.1 r1
  .have hb:Nat.blt o a.size=true:=by rw[Z5];exact hlt
   simp only[M.own1,hb,cond_true,D6]at h1;simp only[hlt,if_true];exact MK h'.2 h1.2 r2
  .have hb:Nat.blt o a.size=false:=by cases hc:Nat.blt o a.size<;>first|rfl|(rw[Z5]at hc;exact absurd hc hlt)
   simp only[M.own1,hb,cond_false,D6]at h1;simp only[hlt,if_false];exact VV h'.2 h1.2 r2
 | .dat _,_,_,h1,_,_,_=>by simp[M.own1]at h1| .unit,_,_,h1,_,_,_=>by simp[M.own1]at h1| .owns _,_,_,h1,_,_,_=>by simp[M.own1]at h1| .box _,h,_,_,_,_,_=>by simp[M.el]at h| .ownb _,h,_,_,_,_,_=>by simp[M.el]at h| .rp _,h,_,_,_,_,_=>by simp[M.el]at h| .fn _ _,h,_,_,_,_,_=>by simp[M.el]at h| .ifc _ _,h,_,_,_,_,_=>by simp[M.el]at h| .cell _,h,_,_,_,_,_=>by simp[M.el]at h| .fr _,h,_,_,_,_,_=>by simp[M.el]at h| .sbx _ _,h,_,_,_,_,_=>by simp[M.el]at h| .lp _,h,_,_,_,_,_=>by simp[M.el]at h| .dv ..,h,_,_,_,_,_=>by simp[M.el]at h| .ownr ..,h,_,_,_,_,_=>by simp[M.el]at h| .sit,h,_,_,_,_,_=>by simp[M.el]at h
theorem b2i(h:m.own1 o=true):m.ty≠.int .u8:=by cases m<;>first|(simp[M.own1]at h;done)|(simp[M.ty];done)
theorem x_(e:t.den=α)(e' :List t.den=List α)(hs:t.size=sz)(hu:t≠.int .u8)(hE:t.isEnt=false)
  (hR:∀i x es,rep h ok t x es->R i (cast e x) es []) (ha:arrOk ⟨h,ok,mp⟩ t xs l):vg h sz R (cast e' xs) (List.replicate xs.length []) l:=by
 subst e;simp only[cast_eq]at hR ⊢;cases l with
 |nil=>obtain⟨rfl,_⟩:=ha;exact⟨rfl,rfl⟩
 |st b=>exact ha|mp b=>rw[ha.1]at hE;cases hE|arr blk off len cap sz' =>obtain⟨h0,h1,h2,h3,c,T,f,h4,hz,h5,h6⟩:=ha;have hf:f=(0,0):=hz.elim id (λh=>absurd h.1 hu);subst hf;refine⟨h1.trans hs,h2,h3,D5,c,T,h4,by rw[←hs,←h1];exact h5,λi x hi=>?_⟩;obtain⟨es,hc,hr⟩:=h6 i x hi;refine⟨es,[],?_,by rw[←hs,←h1];exact hc,hR i x es hr⟩;rw[List.getElem?_replicate,if_pos (bg.1 hi).1]
theorem a1D{R R' :Nat->α->c6H->c6I->Prop}{xs:List α}
  (hR:∀i x es O,i<xs.length->R i x es O->R' i x es O) (hr:vg h sz R xs Os l):vg h sz R' xs Os l:=by
 cases l with
 |nil=>exact hr|st b=>exact hr|mp b=>exact hr|arr blk off len cap sz=>obtain⟨h1,h2,h3,h7,c,T,h4,h5,h6⟩:=hr;refine⟨h1,h2,h3,h7,c,T,h4,h5,λi x hi=>?_⟩;obtain⟨es,O,hO,he,hp⟩:=h6 i x hi;exact⟨es,O,hO,he,hR _ _ _ _ (bg.1 hi).1 hp⟩
theorem U_{o n i k:Nat}(h:i<k)(hn:k<=n):wK o n i=none:=by unfold wK;rw[if_neg o5]
theorem MZ(he:m.el=true)(hok:∀b t,ok b t->ok' b t){xs:List m.den}(hO:∀b∈Os.flatten,∀t∈m.owned,ok' b t)
  (ha:vg h m.size (λ_ x es O=>mM h ok m none x es O) xs Os l):arrOk ⟨h,ok',mp⟩ m.ty (cast (congrArg List (M.denEq m he)) xs) l:=
 w_ (M.ty_ent he) (M.denEq m he) _ (M.ty_size he) (λi x es O hOi hr=>PZ hok he (λb hb t ht=>hO b (ah.2 ⟨O,hOi,hb⟩) t ht) hr) ha
end
theorem SY{h h' :Array Obj}{ok ok' :Nat->Ty->Prop}(hok:∀b t,ok b t->ok' b t)(hh:∀b t,ok b t->h'[b]? =h[b]?):
  ∀{ms:List MG} {x:U0 ms} {vs:c6H} {O:c6I},(∀b∈O,h'[b]? =h[b]?)->mg h ok ms x vs O->mg h' ok' ms x vs O
 |[],_,_,_,_,e=>e|[m],_,_,_,hb,⟨v,cs,e,hg,hr⟩=>⟨v,cs,e,hg,iK hok hh hb hr⟩|m::m' ::r,_,_,_,hb,⟨v,cs,vs',O1,O2,e,eo,hg,h1,h2⟩=>by subst eo;exact⟨v,cs,vs',O1,O2,e,rfl,hg,iK hok hh (λb h=>hb b (by simp[h])) h1,SY hok hh (λb h=>hb b (by simp[h])) h2⟩
variable {Q:α->Sm->Prop}{c:V}{p:M}
section
variable {X:Fx} {cl ch:Nat} {S:Sm} {m:Mp} {ok:Nat->Ty->Prop} {a:Act} {w:World} {T:c6I}
theorem jy{p q:Ty}{xs:List p.den}{k:List q.den->Cmd α}{S:Sm}
  (h:∀e:p=q,(k (e▸xs)).post S Q):(Ty.castL p q xs k .fail).post S Q:=by
 unfold Ty.castL;split
 .rename_i e;exact h e
 .trivial
theorem Y6{b:Bool}{c:Cmd α}{S:Sm}(h:b=true->c.post S Q):(bif b then c else Cmd.fail).post S Q:=by
 cases b
 .trivial
 .exact h rfl
theorem Ew{p q:Ty}{x:p.den}{k:q.den->Cmd α}{S:Sm}
  (h:∀e:p=q,(k (e▸x)).post S Q):(UD p q x k .fail).post S Q:=by
 unfold UD;split
 .rename_i e;exact h e
 .trivial
theorem IJ{p q:M}{xs:List p.den}{k:List q.den->Cmd α}{S:Sm}
  (h:∀e:p=q,(k (e▸xs)).post S Q):(Xw p q xs k .fail).post S Q:=by
 unfold Xw;split
 .rename_i e;exact h (M.beq_eq e)
 .trivial
theorem Xl{k:List p.den->Cmd α}{S:Sm}
  (h:∀(e:p.el=true) (e' :p.ty=t),(k (cast (congrArg List ((M.denEq p e).trans (congrArg Ty.den e'))).symm xs)).post S Q):(WJ p t xs k .fail).post S Q:=by
 unfold WJ;split
 .rename_i e;exact h e.1 e.2
 .trivial
theorem L_{xs:List p.den}{k:List t.den->Cmd α}{S:Sm}
  (h:∀(e:p.el=true) (e' :p.ty=t),(k (e' ▸cast (congrArg List (M.denEq p e)) xs)).post S Q):(a2c p t xs k .fail).post S Q:=by
 unfold a2c;split
 .rename_i e;obtain⟨e,rfl⟩:=e;exact h e rfl
 .trivial
theorem Jn{ok ok' :Nat->Ty->Prop}{m:Mp}(k:∀b t,ok b t->ok' b t){cs:List V}{vs:c6H}(hr:gB ⟨h,ok,m⟩ cs vs):gB ⟨h,ok',m⟩ cs vs:=
 Gj (C:=⟨h,ok,m⟩) (D:=⟨h,ok',m⟩) ⟨k,λ_ _ _=>rfl,λ_ _ h=>h⟩ hr
theorem Ue{ok ok' :Nat->Ty->Prop}{m:Mp}(k:∀b t,ok b t->ok' b t)(hr:lQ ⟨h,ok,m⟩ c v):lQ ⟨h,ok',m⟩ c v:=
 Jo (C:=⟨h,ok,m⟩) (D:=⟨h,ok',m⟩) ⟨k,λ_ _ _=>rfl,λ_ _ h=>h⟩ hr
theorem EZ{bs:c6I}{Ts:List Ty} :∀b t,ok b t->okW ok bs Ts b t:=λ_ _ h=> .inl h
def okL(ln:Ty->Bool)(S:Sm)(m:Mp)(ok:Nat->Ty->Prop):Nat->Ty->Prop:=λb t=>ok b t\/(ln t=true/\∃n,b∈U2 m n (S (X9+n))/\a8c (S (X9+n)) t)
theorem a2x:okL BF S m ok=ok:=by funext b t;simp[okL,BF]
theorem XV{ln:Ty->Bool}{n:Nat}{v:V}(hv:U2 m n v=[]){Ts:List Ty}{bs:c6I}(hbs:U2 m n (S (X9+n)) ⊆ bs)(hTs:∀t,a8c (S (X9+n)) t->t∈Ts):
  ∀b t,okL ln S m ok b t->okL ln (upd S (X9+n) v) m (okW ok bs Ts) b t:=by
 intro b t h;rcases h with h|⟨hl,k,hk,ht⟩
 .exact .inl (.inl h)
 .by_cases e:k=n
  .subst e;exact .inl (.inr ⟨hbs hk,hTs _ ht⟩)
  .exact .inr ⟨hl,k,by rw[bF _ _ o5];exact⟨hk,ht⟩⟩
def bi(S S' :Sm):Prop:=∀n,n<X9->S' n=S n
theorem bi.refl(S:Sm):bi S S:=λ_ _=>rfl
theorem bi.trans{A B C:Sm}(h:bi A B)(k:bi B C):bi A C:=λn hn=>(k n hn).trans (h n hn)
theorem bi.box(S:Sm)(n:Nat)(v:V):bi S (upd S (X9+n) v):=λk hk=>bF _ _ o5
theorem Xp{ln:Ty->Bool} :∀{ts:List Ty},t_ ln ts=true->∀t∈ts,ln t=true
 |[],_,_,h=>by cases h|u::r,e,t,h=>by
  unfold t_ at e;cases hl:ln u with
  |false=>rw[hl]at e;cases e|true=>
   rw[hl]at e;rcases D8.1 h with rfl|h
   .exact hl
   .exact Xp e t h
theorem Dv{α:Type}{Q:α->Sm->Prop}(ln:Ty->Bool):∀(t:Ty) {cs:List V} {K:t.den->List V->Cmd α} {S:Sm} {ok:Nat->Ty->Prop} {vs:c6H} (R:Rel X cl ch S m ok a w) (hT:Tk X S m ok w T)
  (hL:gB ⟨w.heap,ok,m⟩ cs vs)
  (hK:∀S' ok' x r us us',Rel X cl ch S' m ok' a w->Tk X S' m ok' w T->(∀b t,ok b t->ok' b t)->(∀b t,okL ln S m ok b t->okL ln S' m ok' b t)->bi S S' ->vs=us++us' ->rep w.heap (okL ln S' m ok') t x us->gB ⟨w.heap,ok',m⟩ r us' ->(K x r).post S' Q),
  (nU ln t cs K).post S Q
 | .bool,cs,K,S,ok,vs,R,hT,hL,hK=>by
  unfold nU;split
  .obtain⟨v,r,rfl,h1,_,h3⟩:=hL;exact hK _ _ _ _ [v] r R hT (λ_ _ h=>h) (λ_ _ h=>h) (bi.refl _) rfl (by simp only[wU]at h1;simp[rep,h1]) h3
  .trivial
 | .int k,cs,K,S,ok,vs,R,hT,hL,hK=>by
  unfold nU;split
  .rename_i k' n r0;obtain⟨v,r,rfl,h1,_,h3⟩:=hL;by_cases e:k=k'
   .subst e;simp only[decide_true,cond_true];exact hK _ _ _ _ [v] r R hT (λ_ _ h=>h) (λ_ _ h=>h) (bi.refl _) rfl (by simp only[wU]at h1;simp[rep,h1]) h3
   .simp only[e,decide_false,cond_false];trivial
  .trivial
 | .str,cs,K,S,ok,vs,R,hT,hL,hK=>by
  unfold nU;split
  .obtain⟨v,r,rfl,h1,_,h3⟩:=hL;exact hK _ _ _ _ [v] r R hT (λ_ _ h=>h) (λ_ _ h=>h) (bi.refl _) rfl (by simp only[wU]at h1;simp[rep,h1]) h3
  .trivial
 | .unit,cs,K,S,ok,vs,R,hT,hL,hK=>by unfold nU;exact hK _ _ _ _ [] vs R hT (λ_ _ h=>h) (λ_ _ h=>h) (bi.refl _) rfl rfl hL| .any none,cs,K,S,ok,vs,R,hT,hL,hK=>by
  unfold nU;split
  .obtain⟨v,r,rfl,h1,h2,h3⟩:=hL;exact hK _ _ _ _ [v] r R hT (λ_ _ h=>h) (λ_ _ h=>h) (bi.refl _) rfl ⟨v,rfl,h2,trivial⟩ h3
  .trivial
 | .any (some k),cs,K,S,ok,vs,R,hT,hL,hK=>by
  unfold nU;split
  .rename_i k' n r0;obtain⟨v,r,rfl,h1,h2,h3⟩:=hL;by_cases e:k=k'
   .subst e;simp only[decide_true,cond_true];exact hK _ _ _ _ [v] r R hT (λ_ _ h=>h) (λ_ _ h=>h) (bi.refl _) rfl ⟨v,rfl,h2,n,h1⟩ h3
   .simp only[e,decide_false,cond_false];trivial
  .trivial
 | .prod p q,cs,K,S,ok,vs,R,hT,hL,hK=>by unfold nU;refine Dv ln p R hT hL λS1 ok1 x r us us' R1 T1 k1 g1 s1 e1 h1 l1=>?_;refine Dv ln q R1 T1 l1 λS2 ok2 y r' vs2 vs2' R2 T2 k2 g2 s2 e2 h2 l2=>?_;subst e1;subst e2;exact hK _ _ _ _ (us++vs2) vs2' R2 T2 (λb t h=>k2 b t (k1 b t h)) (λb t h=>g2 b t (g1 b t h)) (s1.trans s2) D5 ⟨us,vs2,rfl,gX g2 (λ_ _ _=>rfl) h1,h2⟩ l2| .ent ..,cs,K,S,ok,vs,R,hT,hL,hK=>by unfold nU;trivial| .sl t,cs,K,S,ok,vs,R,hT,hL,hK=>by
  unfold nU;split
  .obtain⟨v,r,rfl,h1,_,h3⟩:=hL;simp only[wU]at h1;subst h1;cases ht:t.isEnt
   .exact hK _ _ _ _ [_] r R hT (λ_ _ h=>h) (λ_ _ h=>h) (bi.refl _) rfl (.inl ⟨ht,none,0,rfl,D7 _,λi x hi=>by simp at hi⟩) h3
   .trivial
  .rename_i t' xs r0;obtain⟨v,r,rfl,h1,_,h3⟩:=hL;refine jy λe=>?_;subst e;exact hK _ _ _ _ [v] r R hT (λ_ _ h=>h) (λ_ _ h=>h) (bi.refl _) rfl (gX (λ_ _ h=> .inl h) (λ_ _ _=>rfl) h1) h3
  .rename_i bx vw r0;obtain⟨v,r,rfl,h1,_,h3⟩:=hL;obtain⟨l,hm,hv⟩:=h1;show Cmd.post (match S (X9+bx)with| .barr t' xs=>_| .bfrz t' xs=>_| .barrs el xs none=>_|_=>_) S Q;have hb:=R.box bx;split
   .rename_i t' xs hS;rw[hS]at hb;obtain⟨l',hm',ha⟩:=hb;simp only at hm hm';rw[hm]at hm';cases hm';refine jy λe=>?_;subst e;have hob:U2 m bx (S (X9+bx))=l.blks:=by
     rw[hS];cases l<;>first|(simp[U2,hm,Loc.blks];done)|cases ha
    cases hl:ln t'
    .simp only[cond_false];show Cmd.post _ (upd S (X9+bx) (.bfrz t' xs)) Q;have hbs:∀b∈l.blks,b∈U2 m bx (S (X9+bx)):=λb h=>by rw[hob];exact h
     refine hK _ (okW ok l.blks [t']) _ _ [v] r (R.widen D5 rfl hbs ?_) (hT.widen rfl hbs) EZ (XV rfl (by rw[hob];exact λ_ h=>h) (by rw[hS];exact λ_ h=>h)) (bi.box _ _ _) rfl ?_ (Jn EZ h3)
     .exact⟨l,hm,pX EZ (λ_ _ _=>rfl) (λ_ _=>rfl) ha,λblk hb=> .inr ⟨hb,D5⟩⟩
     .exact qj (C:=⟨w.heap,ok,m⟩) ha hv (λb t h=> .inl (.inl h)) (λblk hb=> .inl (.inr ⟨hb,D5⟩))
    .simp only[cond_true];refine hK _ _ _ _ [v] r R hT (λ_ _ h=>h) (λ_ _ h=>h) (bi.refl _) rfl ?_ h3;refine qj (C:=⟨w.heap,ok,m⟩) ha hv (λb t h=> .inl h) (λblk hb=> .inr ⟨hl,bx,?_,by rw[hS];simp[a8c,b2j]⟩);rw[hob];exact hb
   .rename_i t' xs hS;rw[hS]at hb;obtain⟨l',hm',ha,hok⟩:=hb;simp only at hm hm';rw[hm]at hm';cases hm';refine jy λe=>?_;subst e;exact hK _ _ _ _ [v] r R hT (λ_ _ h=>h) (λ_ _ h=>h) (bi.refl _) rfl (qj (C:=⟨w.heap,ok,m⟩) ha hv (λ_ _ h=> .inl h) (λblk e=> .inl (hok _ e))) h3
   .rename_i md xs hS;rw[hS]at hb;obtain⟨hel,l',Os,hm',⟨ha,hho⟩,hk⟩:=hb;simp only at hm hm' hk;rw[hm]at hm';cases hm';refine L_ λe e' =>?_;subst e';have hob:U2 m bx (S (X9+bx))=l.blks++Os.flatten:=by
     rw[hS];simp only[U2];rw[hk];cases l<;>first|(simp[hm,Loc.blks];done)|cases ha
    simp only;cases hl:(ln md.ty&&t_ ln md.owned)
    .simp only[cond_false];show Cmd.post _ (upd S (X9+bx) (.bfrz md.ty _)) Q;have hbs:∀b∈l.blks++Os.flatten,b∈U2 m bx (S (X9+bx)):=λb h=>by rw[hob];exact h
     have ha' :arrOk ⟨w.heap,okW ok (l.blks++Os.flatten) (md.ty::md.owned),m⟩ md.ty (cast (congrArg List (M.denEq md e)) xs) l:=
      MZ e EZ (λb hb t ht=> .inr ⟨by simp[hb],by simp[ht]⟩) ha
     refine hK _ (okW ok (l.blks++Os.flatten) (md.ty::md.owned)) _ _ [v] r (R.widen D5 rfl hbs ?_) (hT.widen rfl hbs) EZ (XV rfl (by rw[hob];exact λ_ h=>h) (by rw[hS];exact λ_ h=>h)) (bi.box _ _ _) rfl ?_ (Jn EZ h3)
     .exact⟨l,hm,ha',λblk hb=> .inr ⟨by simp[hb],D5⟩⟩
     .exact qj (C:=⟨w.heap,okW ok (l.blks++Os.flatten) (md.ty::md.owned),m⟩) ha' hv (λb t h=> .inl h) (λblk hb=> .inl (.inr ⟨by simp[hb],D5⟩))
    .simp only[cond_true];simp only[D6]at hl;have ha' :arrOk ⟨w.heap,okL ln S m ok,m⟩ md.ty (cast (congrArg List (M.denEq md e)) xs) l:=
      MZ e (λb t h=> .inl h) (λb hb t ht=> .inr ⟨Xp hl.2 t ht,bx,by rw[hob];simp[hb],by rw[hS];simp[a8c,b2j,ht]⟩) ha
     refine hK _ _ _ _ [v] r R hT (λ_ _ h=>h) (λ_ _ h=>h) (bi.refl _) rfl ?_ h3;refine qj (C:=⟨w.heap,okL ln S m ok,m⟩) ha' hv (λb t h=>h) (λblk hb=> .inr ⟨hl.1,bx,?_,by rw[hS];simp[a8c,b2j]⟩);rw[hob];simp[hb]
   .trivial
  .trivial
theorem IC(t:Ty){cs:List V}{K:t.den->List V->Cmd α}{S:Sm}{ok:Nat->Ty->Prop}{vs:c6H}(R:Rel X cl ch S m ok a w)(hT:Tk X S m ok w T)
  (hL:gB ⟨w.heap,ok,m⟩ cs vs)
  (hK:∀S' ok' x r us us',Rel X cl ch S' m ok' a w->Tk X S' m ok' w T->(∀b t,ok b t->ok' b t)->bi S S' ->vs=us++us' ->rep w.heap ok' t x us->gB ⟨w.heap,ok',m⟩ r us' ->(K x r).post S' Q):
  (nU BF t cs K).post S Q:=
 Dv BF t R hT hL λS' ok' x r us us' R' T' k g s e h l=>hK S' ok' x r us us' R' T' k s e (by rw[a2x]at h;exact h) l
theorem Loc.blks_nodup(l:Loc):l.blks.Nodup:=by cases l<;>simp[Loc.blks]
theorem a0P(t:Ty){K:t.den->Cmd α}{S:Sm}{ok:Nat->Ty->Prop}(R:Rel X cl ch S m ok a w)(hT:Tk X S m ok w T)
  (hv:wU ⟨w.heap,ok,m⟩ c v)
  (hK:∀S' ok' x,Rel X cl ch S' m ok' a w->Tk X S' m ok' w T->(∀b t,ok b t->ok' b t)->bi S S' ->YM w.heap ok' t x 0 v->(K x).post S' Q):(rpC t c K).post S Q:=by
 unfold rpC;split
 .refine Ew λe=>?_;subst e;exact hK _ _ _ R hT (λ_ _ h=>h) (bi.refl _) hv
 .rename_i bx;obtain⟨blk,hm,rfl⟩:=hv;show Cmd.post (match S (X9+bx)with| .bfc t' x=>_| .bcells bs=>_|_=>_) S Q;have hb:=R.box bx;split
  .rename_i t' x hS;rw[hS]at hb;obtain⟨blk',es,hm',hok,hc,hr⟩:=hb;simp only at hm hm';rw[hm]at hm';cases hm';refine Ew λe=>?_;subst e;exact hK _ _ _ R hT (λ_ _ h=>h) (bi.refl _) ⟨blk,0,es,rfl,hok,hc,hr⟩
  .rename_i bs hS;rw[hS]at hb;obtain⟨blk',arr,Ty',hm',hh,hl⟩:=hb;simp only at hm hm';rw[hm]at hm';cases hm';refine IC t R hT hl λS1 ok1 x q us us' R1 T1 k1 s1 e1 h1 l1=>?_;cases q with
   |cons c q=>trivial|nil=>
    simp only[gB]at l1;subst l1;simp only[G7]at e1;show Cmd.post (match S1 (X9+bx)with| .bcells _=>_|_=>_) S1 Q;split
    .rename_i bs' hS';show Cmd.post _ (upd S1 (X9+bx) (.bfc t x)) Q;have hbs:∀b∈[blk],b∈U2 m bx (S1 (X9+bx)):=λb h=>by rw[hS'];simp at h;subst h;simp[U2,hm]
     have hce:bQ w.heap blk 0 t.size=some us:=by rw[jA hh 0 t.size (by have:=iQ h1;rw[←e1]at this;simp at this;omega)];rw[e1,←iQ h1];simp
     have hr:=gX (EZ (bs:=[blk]) (Ts:=[t])) (λ_ _ _=>rfl) h1;refine hK _ (okW ok1 [blk] [t]) _ (R1.widen D5 rfl hbs ?_) (T1.widen rfl hbs) (λb t h=> .inl (k1 b t h)) (s1.trans (bi.box _ _ _)) ?_
     .exact⟨blk,us,hm,.inr ⟨D5,D5⟩,hce,hr⟩
     .exact⟨blk,0,us,rfl,.inr ⟨D5,D5⟩,hce,hr⟩
    .trivial
  .trivial
 .trivial
theorem a0e(ln:Ty->Bool)(t:Ty){K:t.den->Cmd α}{S:Sm}{ok:Nat->Ty->Prop}(R:Rel X cl ch S m ok a w)(hT:Tk X S m ok w T)
  (hv:wU ⟨w.heap,ok,m⟩ c v)
  (hK:∀S' ok' x,Rel X cl ch S' m ok' a w->Tk X S' m ok' w T->(∀b t,ok b t->ok' b t)->(∀b t,okL ln S m ok b t->okL ln S' m ok' b t)->bi S S' ->YM w.heap (okL ln S' m ok') t x 0 v->(K x).post S' Q):(lpC ln t c K).post S Q:=by
 unfold lpC;split
 .refine Ew λe=>?_;subst e;exact hK _ _ _ R hT (λ_ _ h=>h) (λ_ _ h=>h) (bi.refl _) (Ef (λ_ _ h=> .inl h) (λ_ _ _=>rfl) hv)
 .rename_i bx;obtain⟨blk,hm,rfl⟩:=hv;show Cmd.post (match S (X9+bx)with| .bcells bs=>_|_=>_) S Q;have hb:=R.box bx;split
  .rename_i bs hS;rw[hS]at hb;obtain⟨blk',arr,Ty',hm',hh,hl⟩:=hb;simp only at hm hm';rw[hm]at hm';cases hm';cases hlt:ln t
   .trivial
   simp only[cond_true];refine Dv ln t R hT hl λS1 ok1 x q us us' R1 T1 k1 g1 s1 e1 h1 l1=>?_;cases q with
   |cons c q=>trivial|nil=>
    simp only[gB]at l1;subst l1;simp only[G7]at e1;show Cmd.post (match S1 (X9+bx)with| .bcells _=>_|_=>_) S1 Q;split
    .rename_i bs' hS';have hce:bQ w.heap blk 0 t.size=some us:=by
      rw[jA hh 0 t.size (by have:=iQ h1;rw[←e1]at this;simp at this;omega)];rw[e1,←iQ h1];simp
     exact hK _ _ _ R1 T1 k1 g1 s1 ⟨blk,0,us,rfl,.inr ⟨hlt,bx,by rw[hS'];simp[U2,hm],by rw[hS'];trivial⟩,hce,h1⟩
    .trivial
  .trivial
 .trivial
theorem JZ{α:Type}{Q:α->Sm->Prop}{h:Array Obj}{ok:Nat->Ty->Prop} :∀(ts:List Ty) {cs:List ((t:Ty)×t.den)} {vs:c6H} {K:OE ts->Cmd α} {S:Sm}
  (hc:Eu h ok cs vs) (hK:∀x,Eu h ok (RD ts x) vs->(K x).post S Q),(NQ ts cs K).post S Q
 |[],cs,vs,K,S,hc,hK=>by
  unfold NQ;split
  .exact hK _ hc
  .trivial
 |[t],cs,vs,K,S,hc,hK=>by
  unfold NQ;split
  .refine Ew λe=>?_;subst e;exact hK _ hc
  .trivial
 |t::t' ::r,cs,vs,K,S,hc,hK=>by
  unfold NQ;split
  .obtain⟨v,vs',rfl,h1,h2⟩:=hc;refine Ew λe=>?_;subst e;exact JZ (t' ::r) h2 λy hy=>hK _ ⟨v,vs',rfl,h1,hy⟩
  .trivial
theorem a9I{te:Nat}{K:c6F->Cmd α}{S:Sm}{ok:Nat->Ty->Prop}{T:c6I}(R:Rel X cl ch S m ok a w)(hT:Tk X S m ok w T)(hv:wU ⟨w.heap,ok,m⟩ c v)
  (hK:∀S' ys l,Rel X cl ch S' m ok a w->Tk X S' m ok w (T++l.blks)->bi S S' ->(∀n,(∀t xs,S (X9+n)≠.brow t xs)->S' (X9+n)=S (X9+n))->l.view none v->uN w.heap te ys l->(K ys).post S' Q):(sbC te c K).post S Q:=by
 unfold sbC;split
 .exact hK S [] .nil R (by simpa[Loc.blks]using hT) (bi.refl _) (λ_ _=>rfl) hv rfl
 .rename_i b;obtain⟨l,hm,hvw⟩:=hv;show Cmd.post (match S (X9+b)with| .brow te' xs=>_|_=>_) S Q;have hb:=R.box b;split
  .rename_i t' xs hS;rw[hS]at hb;obtain⟨l',hm',ha⟩:=hb;simp only at hm hm';rw[hm]at hm';cases hm';cases he:Nat.beq t' te
   .trivial
   have e:=eU he;subst e;show Cmd.post _ (upd S (X9+b) .dead) Q;refine hK _ xs l (R.kill b) (hT.kill R b (λb' hb' =>?_) (Loc.blks_nodup l)) (bi.box _ _ _) (λn hn=>?_) hvw ha
   .cases l with
    |nil=>simp[Loc.blks]at hb'|st _=>cases ha|arr blk off len cap sz=>simp[Loc.blks]at hb';subst hb';simp[U2,hS,hm]|mp blk=>cases ha
   .by_cases en:n=b
    .subst en;exact absurd hS (hn _ _)
    .rw[bF _ _ o5]
  .trivial
 .trivial
theorem EM{α:Type}{Q:α->Sm->Prop} :∀(md:M) {cs:List V} {K:md.den->List V->Cmd α} {S:Sm} {ok:Nat->Ty->Prop} {vs:c6H} {T:c6I} (R:Rel X cl ch S m ok a w) (hT:Tk X S m ok w T)
  (hL:gB ⟨w.heap,ok,m⟩ cs vs)
  (hK:∀S' ok' x r us us' O,Rel X cl ch S' m ok' a w->Tk X S' m ok' w (T++O)->(∀b t,ok b t->ok' b t)->bi S S' ->vs=us++us' ->mM w.heap ok' md none x us O->gB ⟨w.heap,ok',m⟩ r us' ->(K x r).post S' Q),
  (exM BF md cs K).post S Q
 | .dat t,cs,K,S,ok,vs,T,R,hT,hL,hK=>by unfold exM;exact IC t R hT hL λS' ok' x r us us' R' T' k s e h l=>hK S' ok' x r us us' [] R' (by simpa using T') k s e ⟨h,rfl⟩ l| .own t,cs,K,S,ok,vs,T,R,hT,hL,hK=>by
  unfold exM;split
  .obtain⟨v,r,rfl,h1,_,h3⟩:=hL;simp only[wU]at h1;subst h1;cases ht:t.isEnt
   .exact hK _ _ _ _ [_] r [] R (by simpa using hT) (λ_ _ h=>h) (bi.refl _) rfl (xP.2 ⟨.nil,_,rfl,rfl,⟨rfl,ht⟩,rfl⟩) h3
   .trivial
  .rename_i bx vw r0;obtain⟨v,r,rfl,h1,_,h3⟩:=hL;obtain⟨l,hm,hv⟩:=h1;show Cmd.post (match S (X9+bx)with| .barr t' xs=>_|_=>_) S Q;have hb:=R.box bx;split
   .rename_i t' xs hS;rw[hS]at hb;obtain⟨l',hm',ha⟩:=hb;simp only at hm hm';rw[hm]at hm';cases hm';refine jy λe=>?_;subst e;obtain⟨a1,a2,a3⟩:=II (C:=⟨w.heap,ok,m⟩) ha hv;show Cmd.post _ (upd S (X9+bx) .dead) Q;refine hK _ ok _ _ [v] r (Jt l vw).blks (R.kill bx) ?_ (λ_ _ h=>h) (bi.box _ _ _) rfl (xP.2 ⟨_,v,rfl,a2,pX (λ_ _ h=>h) (λ_ _ _=>rfl) (λ_ _=>rfl) a1,rfl⟩) h3;rw[a3];refine hT.kill R bx (λb hb=>?_) (Loc.blks_nodup l);cases l with
    |nil=>simp[Loc.blks]at hb|st _=>cases ha|arr blk off len cap sz=>simp[Loc.blks]at hb;subst hb;simp[U2,hS,hm]|mp blk=>simp[Loc.blks]at hb;subst hb;simp[U2,hS,hm]
   .trivial
  .trivial
 | .ownb t,cs,K,S,ok,vs,T,R,hT,hL,hK=>by
  unfold exM;split
  .obtain⟨v,r,rfl,h1,_,h3⟩:=hL;simp only[wU]at h1;subst h1;cases ht:t.isEnt
   .exact hK _ _ _ _ [_] r [] R (by simpa using hT) (λ_ _ h=>h) (bi.refl _) rfl ⟨.nil,_,rfl,rfl,⟨rfl,ht⟩,rfl⟩ h3
   .trivial
  .rename_i bx r0;obtain⟨v,r,rfl,h1,_,h3⟩:=hL;obtain⟨l,hm,hv⟩:=h1;show Cmd.post (match S (X9+bx)with| .barr t' xs=>_|_=>_) S Q;have hb:=R.box bx;split
   .rename_i t' xs hS;rw[hS]at hb;obtain⟨l',hm',ha⟩:=hb;simp only at hm hm';rw[hm]at hm';cases hm';refine jy λe=>?_;subst e;show Cmd.post _ (upd S (X9+bx) (.gone t')) Q;refine hK _ ok _ _ [v] r l.blks (R.killV bx D5 rfl ⟨l,hm,λblk off len cap sz e=>by subst e;exact ha.2.1⟩) ?_ (λ_ _ h=>h) (bi.box _ _ _) rfl ⟨l,v,rfl,hv,pX (λ_ _ h=>h) (λ_ _ _=>rfl) (λ_ _=>rfl) ha,rfl⟩ h3;refine hT.killV R bx rfl (λb hb=>?_) (Loc.blks_nodup l);cases l with
    |nil=>simp[Loc.blks]at hb|st _=>cases ha|arr blk off len cap sz=>simp[Loc.blks]at hb;subst hb;simp[U2,hS,hm]|mp blk=>simp[Loc.blks]at hb;subst hb;simp[U2,hS,hm]
   .trivial
  .trivial
 | .owns md,cs,K,S,ok,vs,T,R,hT,hL,hK=>by
  unfold exM;split
  .obtain⟨v,r,rfl,h1,_,h3⟩:=hL;simp only[wU]at h1;subst h1;refine Y6 λhe=>?_;exact hK _ _ _ _ [_] r [] R (by simpa using hT) (λ_ _ h=>h) (bi.refl _) rfl (yE.2 ⟨he,.nil,_,[],rfl,rfl,⟨rfl,rfl⟩,rfl⟩) h3
  .rename_i bx r0;obtain⟨v,r,rfl,h1,_,h3⟩:=hL;obtain⟨l,hm,hv⟩:=h1;show Cmd.post (match S (X9+bx)with| .barrs m' xs none=>_| .barrp m' xs n _=>_|_=>_) S Q;have hb:=R.box bx;split
   .rename_i md' xs hS;rw[hS]at hb;obtain⟨hel,l',Os,hm',⟨ha,hho⟩,hk⟩:=hb;simp only at hm hm' hk;rw[hm]at hm';cases hm';refine IJ λe=>?_;subst e;have hob:U2 m bx (S (X9+bx))=l.blks++Os.flatten:=by
     rw[hS];simp only[U2];rw[hk];cases l<;>first|(simp[hm,Loc.blks];done)|cases ha
    show Cmd.post _ (upd S (X9+bx) .dead) Q;refine hK _ ok _ _ [v] r (l.blks++Os.flatten) (R.kill bx) ?_ (λ_ _ h=>h) (bi.box _ _ _) rfl (yE.2 ⟨hel,l,v,Os,rfl,hv,ha,rfl⟩) h3;refine hT.kill R bx (λb hb=>by rw[hob];exact hb) (by rw[←hob];exact R.nd bx)
   .rename_i md' xs n o hS;rw[hS]at hb;obtain⟨hel,h0,l',Os,hm',ha,hk⟩:=hb;simp only at hm hm' hk;rw[hm]at hm';cases hm';refine IJ λe=>⟨λhn=>?_,λ_=>trivial⟩;subst e;have hob:U2 m bx (S (X9+bx))=l.blks++Os.flatten:=by
     rw[hS];simp only[U2];rw[hk];cases l<;>first|(simp[hm,Loc.blks];done)|cases ha
    have hn' :(xs.length:Int)<=n:=of_decide_eq_true hn;have ha' :vg w.heap md'.size (λ_ x es O=>mM w.heap ok md' none x es O) xs Os l:=a1D (λi x es O hi hr=>by simp only at hr;rw[U_ hi (show xs.length<=n.toNat by omega)]at hr;exact hr) ha
    show Cmd.post _ (upd S (X9+bx) .dead) Q;refine hK _ ok _ _ [v] r (l.blks++Os.flatten) (R.kill bx) ?_ (λ_ _ h=>h) (bi.box _ _ _) rfl (yE.2 ⟨hel,l,v,Os,rfl,hv,ha',rfl⟩) h3;refine hT.kill R bx (λb hb=>by rw[hob];exact hb) (by rw[←hob];exact R.nd bx)
   .trivial
  .trivial
 | .ownr md o,cs,K,S,ok,vs,T,R,hT,hL,hK=>by
  unfold exM;split
  .rename_i bx r0;obtain⟨v,r,rfl,h1,_,h3⟩:=hL;obtain⟨l,hm,hv⟩:=h1;show Cmd.post (match S (X9+bx)with| .barrp m' xs n o' =>_| .barr t xs=>_|_=>_) S Q;have hb:=R.box bx;split
   .rename_i md' xs n o' hS;rw[hS]at hb;obtain⟨hel,h0,l',Os,hm',ha,hk⟩:=hb;simp only at hm hm' hk;rw[hm]at hm';cases hm';refine Y6 λho=>IJ λe=>?_;have ho:=eU ho;subst ho;subst e;have hob:U2 m bx (S (X9+bx))=l.blks++Os.flatten:=by
     rw[hS];simp only[U2];rw[hk];cases l<;>first|(simp[hm,Loc.blks];done)|cases ha
    show Cmd.post _ (upd S (X9+bx) .dead) Q;refine hK _ ok _ _ [v] r (l.blks++Os.flatten) (R.kill bx) ?_ (λ_ _ h=>h) (bi.box _ _ _) rfl ⟨v,rfl,kU hv,hel,h0,l,Os,hv,ha,rfl⟩ h3;refine hT.kill R bx (λb hb=>by rw[hob];exact hb) (by rw[←hob];exact R.nd bx)
   .rename_i t xs hS;rw[hS]at hb;obtain⟨l',hm',ha⟩:=hb;simp only at hm hm';rw[hm]at hm';cases hm';refine Y6 λho1=>Xl λe e' =>?_;subst e';have hob:U2 m bx (S (X9+bx))=l.blks:=by
     rw[hS];cases l<;>first|(simp[U2,hm,Loc.blks];done)|cases ha
    have ha2:=x_ (R:=λi y es O=>mM w.heap ok md (wK o (0:Int).toNat i) y es O) (M.denEq md e).symm (congrArg List (M.denEq md e)).symm (M.ty_size e) (b2i ho1) (M.ty_ent e)
     (λi x es hr=>by
       have:wK o (0:Int).toNat i=some o:=by simp[wK]
       rw[this];exact VV e ho1 hr) ha
    show Cmd.post _ (upd S (X9+bx) .dead) Q;refine hK _ ok _ _ [v] r l.blks (R.kill bx) ?_ (λ_ _ h=>h) (bi.box _ _ _) rfl ⟨v,rfl,kU hv,e,uF 0,l,_,hv,ha2,D5⟩ h3;exact hT.kill R bx (λb hb=>by rw[hob];exact hb) (Loc.blks_nodup l)
   .trivial
  .trivial
 | .unit,cs,K,S,ok,vs,T,R,hT,hL,hK=>by unfold exM;exact hK _ _ _ _ [] vs [] R (by simpa using hT) (λ_ _ h=>h) (bi.refl _) rfl ⟨rfl,rfl⟩ hL
 | .pair p q,cs,K,S,ok,vs,T,R,hT,hL,hK=>by unfold exM;refine EM p R hT hL λS1 ok1 x r us us' O1 R1 T1 k1 s1 e1 h1 l1=>?_;refine EM q R1 T1 l1 λS2 ok2 y r' vs2 vs2' O2 R2 T2 k2 s2 e2 h2 l2=>?_;subst e1;subst e2;exact hK _ _ _ _ (us++vs2) vs2' (O1++O2) R2 (by simpa using T2) (λb t h=>k2 b t (k1 b t h)) (s1.trans s2) D5 ⟨us,vs2,O1,O2,rfl,rfl,iK k2 (λ_ _ _=>rfl) (λ_ _=>rfl) h1,h2⟩ l2| .box md,cs,K,S,ok,vs,T,R,hT,hL,hK=>by
  unfold exM;split
  .rename_i bx r0;obtain⟨v,r,rfl,h1,_,h3⟩:=hL;obtain⟨blk,hm,hv⟩:=h1;show Cmd.post (match S (X9+bx)with| .bcells bs=>_|_=>_) S Q;have hb:=R.box bx;split
   .rename_i bs hS;rw[hS]at hb;obtain⟨blk',arr,Ty',hm',hh,hl⟩:=hb;simp only at hm hm' hv;rw[hm]at hm';cases hm';subst hv;show Cmd.post _ (upd S (X9+bx) .dead) Q;have hT1:Tk X (upd S (X9+bx) .dead) m ok w (T++[blk]):=hT.kill R bx (λb hb=>by simp at hb;subst hb;simp[U2,hS,hm]) D5;refine EM md (R.kill bx) hT1 hl λS1 ok1 x q us us' O R1 T1 k1 s1 e1 h1 l1=>?_;cases q with
    |nil=>simp only[gB]at l1;subst l1;simp only[G7]at e1;refine hK _ _ _ _ [_] r (blk::O) R1 (by simpa using T1) k1 ((bi.box _ _ _).trans s1) rfl ⟨blk,arr,Ty',O,rfl,hh,by rw[e1];exact h1,rfl⟩ (Jn k1 h3)|cons c q=>trivial
   .trivial
  .trivial
 | .rp t,cs,K,S,ok,vs,T,R,hT,hL,hK=>by
  unfold exM;split
  .obtain⟨v,r,rfl,h1,_,h3⟩:=hL;refine a0P t R hT h1 λS1 ok1 x R1 T1 k1 s1 h1=>?_;exact hK _ _ _ _ [v] r [] R1 (by simpa using T1) k1 s1 rfl ⟨v,rfl,h1,rfl⟩ (Jn k1 h3)
  .trivial
 | .fn f ts,cs,K,S,ok,vs,T,R,hT,hL,hK=>by
  unfold exM;split
  .rename_i g caps r0;obtain⟨v,r,rfl,⟨us,rfl,hc⟩,_,h3⟩:=hL;cases hb:Nat.beq g f
   .trivial
   .simp only[cond_true];have e:=eU hb;subst e;exact JZ ts hc λx hx=>hK _ _ _ _ [_] r [] R (by simpa using hT) (λ_ _ h=>h) (bi.refl _) rfl ⟨us,rfl,hx,rfl⟩ h3
  .rename_i g r0;obtain⟨v,r,rfl,h1,_,h3⟩:=hL;have h1:v= .func (.func g) #[] #[]:=h1;subst h1;cases hb:Nat.beq g f
   .trivial
   .simp only[cond_true];have e:=eU hb;subst e;exact JZ (cs:=[]) (vs:=[]) ts rfl λx hx=>hK _ _ _ _ [_] r [] R (by simpa using hT) (λ_ _ h=>h) (bi.refl _) rfl ⟨#[],rfl,hx,rfl⟩ h3
  .trivial
 | .ifc t md,cs,K,S,ok,vs,T,R,hT,hL,hK=>by
  unfold exM;split
  .rename_i t' c r0;obtain⟨v,r,rfl,⟨u,rfl,hu,hc⟩,_,h3⟩:=hL;cases hb:Nat.beq t' t
   .trivial
   .simp only[cond_true];have e:=eU hb;subst e;refine EM md (vs:=[u]) R hT ⟨u,[],rfl,hc,hu,rfl⟩ λS1 ok1 x q us us' O R1 T1 k1 s1 e1 h1 l1=>?_;cases q with
    |cons c q=>trivial|nil=>simp only[gB]at l1;subst l1;simp only[G7]at e1;subst e1;exact hK _ _ _ _ [_] r O R1 T1 k1 s1 rfl ⟨u,rfl,h1⟩ (Jn k1 h3)
  .trivial
 | .cell (some none),cs,K,S,ok,vs,T,R,hT,hL,hK=>by
  unfold exM;split
  .obtain⟨v,r,rfl,h1,h2,h3⟩:=hL;exact hK _ _ _ _ [v] r [] R (by simpa using hT) (λ_ _ h=>h) (bi.refl _) rfl ⟨v,rfl,h2,λ_=>h1,(λ_ h=>nomatch h),rfl⟩ h3
  .trivial
 | .cell (some (some b)),cs,K,S,ok,vs,T,R,hT,hL,hK=>by
  unfold exM;split
  .obtain⟨v,r,rfl,h1,h2,h3⟩:=hL;cases b
   .trivial
   .exact hK _ _ _ _ [v] r [] R (by simpa using hT) (λ_ _ h=>h) (bi.refl _) rfl ⟨v,rfl,h2,(λh=>nomatch h),(λb' h=>by cases h;exact h1),rfl⟩ h3
  .obtain⟨v,r,rfl,h1,h2,h3⟩:=hL;cases b
   .exact hK _ _ _ _ [v] r [] R (by simpa using hT) (λ_ _ h=>h) (bi.refl _) rfl ⟨v,rfl,h2,(λh=>nomatch h),(λb' h=>by cases h;exact h1),rfl⟩ h3
   .trivial
  .trivial
 | .cell none,cs,K,S,ok,vs,T,R,hT,hL,hK=>by
  unfold exM;split
  .obtain⟨v,r,rfl,h1,h2,h3⟩:=hL;exact hK _ _ _ _ [v] r [] R (by simpa using hT) (λ_ _ h=>h) (bi.refl _) rfl ⟨v,rfl,h2,(λh=>nomatch h),(λ_ h=>nomatch h),rfl⟩ h3
  .trivial
 | .fr t,cs,K,S,ok,vs,T,R,hT,hL,hK=>by
  unfold exM;split
  .obtain⟨v,r,rfl,h1,_,h3⟩:=hL;simp only[wU]at h1;subst h1;cases ht:t.isEnt
   .exact hK _ _ _ _ [_] r [] R (by simpa using hT) (λ_ _ h=>h) (bi.refl _) rfl ⟨.nil,_,rfl,rfl,⟨rfl,ht⟩,(λb h=>by cases h),rfl⟩ h3
   .trivial
  .rename_i bx r0;obtain⟨v,r,rfl,h1,_,h3⟩:=hL;obtain⟨l,hm,hv⟩:=h1;show Cmd.post (match S (X9+bx)with| .barr t' xs=>_| .bfrz t' xs=>_|_=>_) S Q;have hb:=R.box bx;split
   .rename_i t' xs hS;rw[hS]at hb;obtain⟨l',hm',ha⟩:=hb;simp only at hm hm';rw[hm]at hm';cases hm';refine jy λe=>?_;subst e;have hob:U2 m bx (S (X9+bx))=l.blks:=by
     rw[hS];cases l<;>first|(simp[U2,hm,Loc.blks];done)|cases ha
    show Cmd.post _ (upd S (X9+bx) (.bfrz t' xs)) Q;have hbs:∀b∈l.blks,b∈U2 m bx (S (X9+bx)):=λb h=>by rw[hob];exact h
    have ha' :arrOk ⟨w.heap,okW ok l.blks [t'],nom⟩ t' xs l:=pX (m:=m) EZ (λ_ _ _=>rfl) (λ_ _=>rfl) ha;exact hK _ (okW ok l.blks [t']) _ _ [v] r [] (R.widen D5 rfl hbs ⟨l,hm,pX EZ (λ_ _ _=>rfl) (λ_ _=>rfl) ha,λblk hb=> .inr ⟨hb,D5⟩⟩) (by simpa using hT.widen rfl hbs) EZ (bi.box _ _ _) rfl ⟨l,v,rfl,hv,ha',λb hb=> .inr ⟨hb,D5⟩,rfl⟩ (Jn EZ h3)
   .rename_i t' xs hS;rw[hS]at hb;obtain⟨l',hm',ha,hk⟩:=hb;simp only at hm hm';rw[hm]at hm';cases hm';refine jy λe=>?_;subst e;exact hK _ ok _ _ [v] r [] R (by simpa using hT) (λ_ _ h=>h) (bi.refl _) rfl ⟨l,v,rfl,hv,pX (m:=m) (λ_ _ h=>h) (λ_ _ _=>rfl) (λ_ _=>rfl) ha,hk,rfl⟩ h3
   .trivial
  .trivial
 | .lp t,cs,K,S,ok,vs,T,R,hT,hL,hK=>by
  unfold exM;split
  .obtain⟨v,r,rfl,h1,_,h3⟩:=hL;refine a0e BF t R hT h1 λS1 ok1 x R1 T1 k1 g1 s1 h1=>?_;rw[a2x]at h1;exact hK _ _ _ _ [v] r [] R1 (by simpa using T1) k1 s1 rfl ⟨v,rfl,h1,rfl⟩ (Jn k1 h3)
  .trivial
 | .dv ..,cs,K,S,ok,vs,T,R,hT,hL,hK=>by
  unfold exM;split
  .obtain⟨v,r,rfl,h1,h2,h3⟩:=hL;exact hK _ _ _ _ [v] r [] R (by simpa using hT) (λ_ _ h=>h) (bi.refl _) rfl ⟨v,rfl,h2,rfl⟩ h3
  .trivial
 | .sit,cs,K,S,ok,vs,T,R,hT,hL,hK=>by
  unfold exM;split
  .rename_i bx r0;obtain⟨v,r,rfl,h1,_,h3⟩:=hL;obtain⟨blk,hm,rfl⟩:=h1;have hb:=R.box bx;show Cmd.post (match S (X9+bx)with| .biter l p=>_|_=>_) S Q;split
   .rename_i l p hS;rw[hS]at hb;obtain⟨blk',s,q,hm',hh,g1,g2⟩:=hb;simp only at hm hm';rw[hm]at hm';cases hm';show Cmd.post _ (upd S (X9+bx) .dead) Q;have T2:=hT.kill R bx (bs:=[blk]) (λb hb=>by rw[hS];simpa[U2,hm]using hb) D5;exact hK _ ok (l,p) _ _ r [blk] (R.kill bx) T2 (λ_ _ h=>h) (bi.box _ _ _) rfl ⟨blk,s,q,rfl,hh,g1,g2,rfl⟩ h3
   .trivial
  .trivial
 | .sbx tb te,cs,K,S,ok,vs,T,R,hT,hL,hK=>by
  unfold exM;split
  .rename_i bx r0;obtain⟨v,r,rfl,h1,_,h3⟩:=hL;obtain⟨blk,hm,rfl⟩:=h1;have hb:=R.box bx;show Cmd.post (match S (X9+bx)with| .bsb tb' c=>_|_=>_) S Q;split
   .rename_i tb' c hS;rw[hS]at hb;obtain⟨blk',a0,v0,hm',hh,hs,g2⟩:=hb;simp only at hm hm';rw[hm]at hm';cases hm';cases he:Nat.beq tb' tb
    .trivial
    have e:=eU he;subst e;simp only[cond_true];refine a9I R hT g2 λS1 ys l R1 T1 s1 n1 hv1 ha1=>?_;show Cmd.post _ (upd S1 (X9+bx) .dead) Q;have T2:=T1.kill R1 bx (bs:=[blk]) (λb hb=>by rw[n1 bx (λ_ _=>by rw[hS];simp),hS];simpa[U2,hm]using hb) D5;refine hK _ ok ys _ _ r (blk::l.blks) (R1.kill bx) (T2.perm ?_) (λ_ _ h=>h) (s1.trans (bi.box _ _ _)) rfl ⟨blk,a0,v0,l,rfl,hh,hs,hv1,ha1,rfl⟩ h3;rw[E8];exact qY _ jE
   .trivial
  .trivial
end
end Go.GP
namespace Go.GP
def gZ(C:Cx):List V->c6H->Prop
 |[],vs=>vs=[]|c::cs,vs=>∃v r,vs=v::r/\lQ C c v/\gZ C cs r
theorem Ld{h:Array Obj}{ok ok' :Nat->Ty->Prop}{m:Mp}(k:∀b t,ok b t->ok' b t):∀{cs:List V} {vs:c6H},gZ ⟨h,ok,m⟩ cs vs->gZ ⟨h,ok',m⟩ cs vs
 |[],_,e=>e|_::_,_,⟨v,r,e,h1,h2⟩=>⟨v,r,e,Ue k h1,Ld k h2⟩
theorem Zy{h:Array Obj}{ok:Nat->Ty->Prop}{m m' :Mp}(k:∀n l,m n=some l->m' n=some l):∀{cs:List V} {vs:c6H},gZ ⟨h,ok,m⟩ cs vs->gZ ⟨h,ok,m'⟩ cs vs
 |[],_,e=>e|_::_,_,⟨v,r,e,h1,h2⟩=>⟨v,r,e,Jo (C:=⟨h,ok,m⟩) (D:=⟨h,ok,m'⟩) ⟨λ_ _ h=>h,λ_ _ _=>rfl,k⟩ h1,Zy k h2⟩
theorem CE{h:Array Obj}{ok:Nat->Ty->Prop}{m m' :Mp}(k:∀n l,m n=some l->m' n=some l){cs:List V}{vs:c6H}(hr:gB ⟨h,ok,m⟩ cs vs):gB ⟨h,ok,m'⟩ cs vs:=
 Gj (C:=⟨h,ok,m⟩) (D:=⟨h,ok,m'⟩) ⟨λ_ _ h=>h,λ_ _ _=>rfl,k⟩ hr
variable {C:Cx}
theorem a0E{c:V}{v:Value}(h1:c≠.undef)(h2:c≠.un)(h:wU C c v):v.oneCell' =true:=by
 cases c<;>simp only[wU]at h<;>try (subst h;rfl)
 case ne=>obtain⟨_,_,rfl,_⟩:=h;rfl
 .exact absurd rfl h1
 .exact absurd rfl h2
 .rcases h with⟨_,a,cap,e,_⟩|⟨_,mv,e,_⟩<;>(simp at e;subst e;rfl)
 .obtain⟨l,_,hv⟩:=h;exact kU hv
 .obtain⟨b,_,rfl⟩:=h;rfl
 .obtain⟨_,_,_,_,_,_,_,rfl⟩:=h;rfl
 .exact Ku h
 all_goals first|exact h.elim|(obtain⟨_,rfl,_⟩:=h;rfl)|(obtain⟨_,_,rfl⟩:=h;rfl)
theorem DZ{c:V}{v:Value}(h:wU C c v):lQ C c v:=by
 cases c<;>simp only[wU]at h<;>try exact h
 all_goals exact h.elim
variable {α:Type}{v:V}{Q:α->Sm->Prop}{x:Value}{ln:Ty->Bool}
section
variable {X:Fx} {cl ch:Nat} {S:Sm} {m:Mp} {ok:Nat->Ty->Prop} {a:Act} {w:World} {T:c6I}
theorem FC{ag:Bool}{K:List V->Cmd α}{S:Sm}(hv:lQ C v x)
  (hK:∀cs us,Zw ag x us->gB C cs us->(K cs).post S Q):(YD ag v K).post S Q:=by
 unfold YD;split<;>try trivial
 .obtain⟨arr,rfl,hl⟩:=hv;exact hK _ _ ⟨arr,rfl,rfl⟩ hl
 .rename_i h1 h2 h3 h4;have hc:wU C v x:=by cases v<;>first|exact hv|exact absurd rfl (h1 _)|exact absurd rfl (h2 _)
  exact hK [v] [x] rfl ⟨x,[],rfl,hc,a0E (λe=>h3 e) (λe=>h4 e) hc,rfl⟩
theorem uT{K:List V->Cmd α}{S:Sm}(hv:lQ C v x)
  (hK:∀cs,gB C cs x.cells.toList->(K cs).post S Q):(GH v K).post S Q:=by
 unfold GH;split<;>try trivial
 .obtain⟨arr,rfl,hl⟩:=hv;exact hK _ hl
 .rename_i h1 h2 h3 h4;have hc:wU C v x:=by cases v<;>first|exact hv|exact absurd rfl (h1 _)|exact absurd rfl (h2 _)
  have h1' :=a0E (λe=>h3 e) (λe=>h4 e) hc;have e:x.cells.toList=[x]:=by cases x<;>simp[Value.cells]<;>simp[Value.oneCell']at h1'
  refine hK [v] ?_;rw[e];exact⟨x,[],rfl,hc,h1',rfl⟩
theorem N_{md:MG}{K:md.2.den->Cmd α}(R:Rel X cl ch S m ok a w)(hT:Tk X S m ok w T)(hv:lQ ⟨w.heap,ok,m⟩ v x)
  (hK:∀S' ok' y cs O,Rel X cl ch S' m ok' a w->Tk X S' m ok' w (T++O)->(∀b t,ok b t->ok' b t)->bi S S' ->Zw md.1 x cs->mM w.heap ok' md.2 none y cs O->(K y).post S' Q):
  (UX BF md v K).post S Q:=by
 refine FC hv λcs us hg hl=>?_;refine EM md.2 R hT hl λS1 ok1 y r us1 us' O R1 T1 k1 s1 e1 h1 l1=>?_;cases r with
 |cons c q=>trivial|nil=>simp only[gB]at l1;subst l1;simp only[G7]at e1;subst e1;exact hK _ _ _ _ _ R1 T1 k1 s1 hg h1
theorem a7g{md:M}(hd:md.isDat=false)(cs:List V)(K:md.den->List V->Cmd α):exM ln md cs K=exM BF md cs K:=by cases md<;>first|rfl|(simp[M.isDat]at hd;done)|(rename_i b;cases b<;>first|rfl|(rename_i b;cases b<;>rfl))
theorem XB{md:MG}(hd:md.2.isDat=true){K:md.2.den->Cmd α}(R:Rel X cl ch S m ok a w)(hT:Tk X S m ok w T)(hv:lQ ⟨w.heap,ok,m⟩ v x)
  (hK:∀S' ok' y cs,Rel X cl ch S' m ok' a w->Tk X S' m ok' w T->(∀b t,ok b t->ok' b t)->(∀b t,okL ln S m ok b t->okL ln S' m ok' b t)->bi S S' ->Zw md.1 x cs->mM w.heap (okL ln S' m ok') md.2 none y cs []->(K y).post S' Q):
  (UX ln md v K).post S Q:=by
 obtain⟨ag,mm⟩:=md;cases mm<;>simp[M.isDat]at hd
 case dat t=>
  refine FC hv λcs us hg hl=>?_;dsimp only;unfold exM;refine Dv ln _ R hT hl λS1 ok1 y r us1 us' R1 T1 k1 g1 s1 e1 h1 l1=>?_;cases r with
  |cons c q=>trivial|nil=>simp only[gB]at l1;subst l1;simp only[G7]at e1;subst e1;exact hK _ _ _ _ R1 T1 k1 g1 s1 hg ⟨h1,rfl⟩
 case lp t=>
  refine FC hv λcs us hg hl=>?_;dsimp only;unfold exM;cases cs with
  |nil=>trivial|cons c q=>
   obtain⟨u,r',rfl,h1,h2,h3⟩:=hl;refine a0e ln t R hT h1 λS1 ok1 y R1 T1 k1 g1 s1 d1=>?_;cases q with
   |cons c q=>trivial|nil=>simp only[gB]at h3;subst h3;exact hK _ _ _ _ R1 T1 k1 g1 s1 hg ⟨u,rfl,d1,rfl⟩
theorem b4y :∀b t,ok b t->okL ln S m ok b t:=λ_ _ h=> .inl h
theorem EL{α:Type}{Q:α->Sm->Prop}{ln:Ty->Bool} :∀(ms:List MG) {vs:List V} {xs:c6H} {K:U0 ms->Cmd α} {S:Sm} {ok:Nat->Ty->Prop} {T:c6I} (R:Rel X cl ch S m ok a w) (hT:Tk X S m ok w T)
  (hv:gZ ⟨w.heap,ok,m⟩ vs xs)
  (hK:∀S' ok' y O,Rel X cl ch S' m ok' a w->Tk X S' m ok' w (T++O)->(∀b t,ok b t->ok' b t)->bi S S' ->mg w.heap (okL ln S' m ok') ms y xs O->(K y).post S' Q),
  (Ky ln ms vs K).post S Q
 |[],vs,xs,K,S,ok,T,R,hT,hv,hK=>by
  unfold Ky;split
  .simp only[gZ]at hv;subst hv;exact hK _ _ _ [] R (by simpa using hT) (λ_ _ h=>h) (bi.refl _) ⟨rfl,rfl⟩
  .trivial
 |[md],vs,xs,K,S,ok,T,R,hT,hv,hK=>by
  unfold Ky;split
  .obtain⟨x,r,rfl,h1,h2⟩:=hv;simp only[gZ]at h2;subst h2;cases hd:md.2.isDat
   .unfold UX;simp only[a7g hd];exact N_ R hT h1 λS' ok' y cs O R' T' k s g h=>hK _ _ _ O R' T' k s ⟨x,cs,rfl,g,iK b4y (λ_ _ _=>rfl) (λ_ _=>rfl) h⟩
   .exact XB hd R hT h1 λS' ok' y cs R' T' k g s hg h=>hK _ _ _ [] R' (by simpa using T') k s ⟨x,cs,rfl,hg,h⟩
  .trivial
 |md::md' ::r,vs,xs,K,S,ok,T,R,hT,hv,hK=>by
  unfold Ky;split
  .obtain⟨x,xr,rfl,h1,h2⟩:=hv;cases hd:md.2.isDat
   .simp only[cond_false];unfold UX;simp only[a7g hd];refine N_ R hT h1 λS1 ok1 y cs O R1 T1 k1 s1 g1 h1' =>?_;refine EL (md' ::r) R1 T1 (Ld k1 h2) λS2 ok2 z O2 R2 T2 k2 s2 h2' =>?_;exact hK _ _ _ (O++O2) R2 (by simpa using T2) (λb t h=>k2 b t (k1 b t h)) (s1.trans s2) ⟨x,cs,xr,O,O2,rfl,rfl,g1,iK (λb t h=> .inl (k2 b t h)) (λ_ _ _=>rfl) (λ_ _=>rfl) h1',h2'⟩
   .simp only[cond_true];refine EL (md' ::r) R hT h2 λS2 ok2 z O2 R2 T2 k2 s2 h2' =>?_;refine XB hd R2 T2 (Ue k2 h1) λS1 ok1 y cs R1 T1 k1 g1 s1 hg h1' =>?_;exact hK _ _ _ ([]++O2) R1 (by simpa using T1) (λb t h=>k1 b t (k2 b t h)) (s2.trans s1) ⟨x,cs,xr,[],O2,rfl,rfl,hg,h1',SY g1 (λ_ _ _=>rfl) (λ_ _=>rfl) h2'⟩
  .trivial
theorem M_(ms:List MG){vs:List V}{xs:c6H}{K:U0 ms->Cmd α}{S:Sm}{ok:Nat->Ty->Prop}{T:c6I}(R:Rel X cl ch S m ok a w)(hT:Tk X S m ok w T)
  (hv:gZ ⟨w.heap,ok,m⟩ vs xs)
  (hK:∀S' ok' y O,Rel X cl ch S' m ok' a w->Tk X S' m ok' w (T++O)->(∀b t,ok b t->ok' b t)->bi S S' ->mg w.heap ok' ms y xs O->(K y).post S' Q):
  (Ky BF ms vs K).post S Q:=
 EL ms R hT hv λS' ok' y O R' T' k s h=>hK S' ok' y O R' T' k s (by rw[a2x]at h;exact h)
theorem RV{α:Type}{Q:α->Sm->Prop}{tmps:Array Value}{C:Cx} :∀(ns:c6I) {K:List V->Cmd α} {S:Sm} (hs:∀n,n<X9->lQ C (S n) (tmps.getD n Go.undef))
  (hK:∀vs,gZ C vs (ns.map λn=>tmps.getD n Go.undef)->(K vs).post S Q),(YS ns K).post S Q
 |[],K,S,hs,hK=>hK [] rfl|n::ns,K,S,hs,hK=>by
  unfold YS;cases hb:Nat.blt n X9
  .trivial
  .simp only[cond_true];show Cmd.post _ S Q;refine RV ns hs λvs hvs=>?_;exact hK _ ⟨_,_,rfl,hs n (by rw[Z5]at hb;exact hb),hvs⟩
def atV(h:Array Obj)(c:Nat)(u v:Value):Prop:=u=v\/∃b arr T f,u= .pointer (some ⟨b,0,none⟩)/\h[b]? =some (.cells arr T f)/\arr.toList[c]? =some v
def alR(h:Array Obj)(tmps:Array Value)(p:Nat×Nat×Option (Nat×Nat×Nat×Nat)):Prop:=match p with
 |(n,k,none)=>tmps.getD n Go.undef=tmps.getD k Go.undef|(n,k,some (c,j,o,sz))=>∃blk off len cap q y,atV h c (tmps.getD k Go.undef) (.slice (some ⟨blk,off,none⟩) len cap)/\tmps.getD j Go.undef= .int q y/\y.toNat<len/\tmps.getD n Go.undef= .pointer (some ⟨blk,off+y.toNat*sz+o,none⟩)
def a1A(h:Array Obj)(ok:Nat->Ty->Prop)(sg:Sig)(x:rE sg)(tmps:Array Value)(O:c6I):Prop:=
 mg h ok (sg.ms.map (·.2)) x ((sg.ms.map (·.1)).map λn=>tmps.getD n Go.undef) O/\∀p∈sg.als,alR h tmps p
theorem a9H{v u:V}{x y:Value}(h:b3B v u=true)(hv:lQ C v x)(hu:lQ C u y):x=y:=by
 cases v<;>try (cases h;done)
 case own a vw=>
 cases u<;>try (cases vw<;>cases h;done)
 case own b vu=>
 cases vw<;>cases vu<;>try (cases h;done)
 have:=eU (show Nat.beq a b=true from h);subst this;obtain⟨l,hm,h1⟩:=hv;obtain⟨l',hm',h2⟩:=hu;rw[hm]at hm';cases hm';cases l with
 |nil=>exact(show x=_ from h1).trans (show y=_ from h2).symm|st b=>cases h1|mp b=>exact(show x=_ from h1).trans (show y=_ from h2).symm|arr blk off len cap sz=>exact(show x=_ from h1).trans (show y=_ from h2).symm
theorem Rel.chmono(R:Rel X cl ch S m ok a w){ch' :Nat}(h:ch<=ch'):Rel X cl ch' S m ok a w:={ R with strict:=λn hn=>R.strict n o5 }
theorem pI{n:Nat}{K:Cmd α}(hK:S (X9+n)= .undef->K.post (upd S (X9+n) v) Q):(vI n v K).post S Q:=by
 unfold vI;show Cmd.post (match S (X9+n)with| .undef=>_|_=>_) S Q;split
 .rename_i h;exact hK h
 .trivial
theorem Rel.adopt(R:Rel X cl ch S m ok a w){n:Nat}{l:Loc}{ks:c6I}{O:c6I}(hn:S (X9+n)= .undef)(hcl:cl<=n)(hv:v≠.undef)
  (hT:Tk X S m ok w (O++T)) (ho:∀b∈U2 (mO m n l ks) n v,b∈O) (hnd:(U2 (mO m n l ks) n v).Nodup) (hB:Cm ⟨w.heap,ok,mO m n l ks⟩ n v):
  Rel X cl (max ch (n+1)) (upd S (X9+n) v) (mO m n l ks) ok a w/\Tk X (upd S (X9+n) v) (mO m n l ks) ok w T/\(∀k l',m k=some l' ->mO m n l ks k=some l'):=by
 have hm:m n=none:=R.fresh n hcl hn;refine⟨(R.chmono (dL ch (n+1))).lay hn hcl o5 hv rfl rfl rfl (D7 _) (λ_ _ _=>rfl) hnd (λb hb=>hT.free b (by simp[ho b hb])) hB,⟨?_,λb hb=>?_⟩,λk l' h=>?_⟩
 .exact(P8.1 hT.nodup).2.1
 .obtain⟨h1,h2,h3,h4⟩:=hT.free b (by simp[hb]);refine⟨h1,h2,h3,λk e=>?_⟩;by_cases ek:k=n
  .subst ek;rw[jZ]at e;exact(P8.1 hT.nodup).2.2 b (ho b e) b hb rfl
  .rw[bF _ _ o5]at e;refine h4 k ?_;rw[←Jf (m:=m) (jK m l ks ek) (RG m l ks ek)];exact e
 .by_cases ek:k=n
  .subst ek;simp[hm]at h
  .rw[jK _ _ _ ek];exact h
theorem Et{h:Array Obj}{ok:Nat->Ty->Prop}{m m' :Mp}{t:Ty}{xs:List t.den}{l:Loc}(hr:arrOk ⟨h,ok,m⟩ t xs l):arrOk ⟨h,ok,m'⟩ t xs l:=by cases l<;>exact hr
theorem a6u{S:Sm}{k:Nat}{c:Cmd α}(h:c.post (upd S k v) Q):(Cmd.set k v c).post S Q:=h
theorem Ib{α:Type}{Q:α->Sm->Prop} :∀(md:M) {x:md.den} {n:Nat} {r:List V} {K:List V->Nat->Cmd α} {S:Sm} {m:Mp} {ch:Nat} {us us' :c6H} {O T:c6I}
  (R:Rel X cl ch S m ok a w) (hcl:cl<=n) (hT:Tk X S m ok w (O++T)) (h:mM w.heap ok md none x us O) (hL:gB ⟨w.heap,ok,m⟩ r us')
  (hK:∀S' m' cs n' ch',Rel X cl ch' S' m' ok a w->ch' <=max ch n' ->Tk X S' m' ok w T->(∀k l,m k=some l->m' k=some l)->bi S S' ->gB ⟨w.heap,ok,m'⟩ cs (us++us')->n<=n' ->(K cs n').post S' Q),
  (emM md x n r K).post S Q
 | .dat t,x,n,r,K,S,m,ch,us,us',O,T,R,hcl,hT,h,hL,hK=>by unfold emM;obtain⟨hr,rfl⟩:=h;refine hK S m _ n ch R (dL _ _) (by simpa using hT) (λ_ _ h=>h) (bi.refl _) ?_ (D7 _);rw[mQ];exact xO (sK (C:=⟨w.heap,ok,m⟩) hr) hL
 | .own t,x,n,r,K,S,m,ch,us,us',O,T,R,hcl,hT,h,hL,hK=>by
  unfold emM;obtain⟨l,v,rfl,hv,ha,rfl⟩:=xP.1 h;refine pI λhn=>?_;have hob:U2 (mO m n l []) n (.barr t x)=l.blks:=by cases l<;>first|(simp[U2,Loc.blks];done)|cases ha
  obtain⟨R',T',k'⟩:=R.adopt (l:=l) (ks:=[]) (v:=.barr t x) hn hcl D5 hT (λb hb=>by rw[hob]at hb;exact hb) (by rw[hob];exact Loc.blks_nodup l) ⟨l,ax _ _ _ _,Et ha⟩;exact hK _ _ _ _ _ R' o5 T' k' (bi.box _ _ _) ⟨v,us',rfl,⟨l,ax _ _ _ _,hv⟩,kU hv,CE k' hL⟩ o5
 | .ownb t,x,n,r,K,S,m,ch,us,us',O,T,R,hcl,hT,h,hL,hK=>by
  unfold emM;obtain⟨l,v,rfl,hv,ha,rfl⟩:=h;refine pI λhn=>?_;have hob:U2 (mO m n l []) n (.barr t x)=l.blks:=by cases l<;>first|(simp[U2,Loc.blks];done)|cases ha
  obtain⟨R',T',k'⟩:=R.adopt (l:=l) (ks:=[]) (v:=.barr t x) hn hcl D5 hT (λb hb=>by rw[hob]at hb;exact hb) (by rw[hob];exact Loc.blks_nodup l) ⟨l,ax _ _ _ _,Et ha⟩;exact hK _ _ _ _ _ R' o5 T' k' (bi.box _ _ _) ⟨v,us',rfl,⟨l,ax _ _ _ _,hv⟩,kU hv,CE k' hL⟩ o5
 | .owns md,x,n,r,K,S,m,ch,us,us',O,T,R,hcl,hT,h,hL,hK=>by
  unfold emM;obtain⟨hw,l,v,Os,rfl,hv,ha,rfl⟩:=yE.1 h;refine pI λhn=>?_;have hob:U2 (mO m n l Os.flatten) n (.barrs md x none)=l.blks++Os.flatten:=by cases l<;>first|(simp[U2,Loc.blks];done)|cases ha
  obtain⟨R',T',k'⟩:=R.adopt (l:=l) (ks:=Os.flatten) (v:=.barrs md x none) hn hcl D5 hT (λb hb=>by rw[hob]at hb;exact hb) (by rw[hob];exact(P8.1 hT.nodup).1)
   ⟨hw,l,Os,ax _ _ _ _,⟨ha,trivial⟩,D5⟩
  refine a6u ?_;have T2:=T'.killV R' (NL+n) (v:=.blen (A7 x) md.size) rfl (bs:=[]) (λb h=>by cases h) bu;rw[G7]at T2;exact hK _ _ _ _ _ (R'.mark (jZ _ _ _)) o5 T2 k' ((bi.box _ _ _).trans (bi.box _ _ _)) ⟨v,us',rfl,⟨l,ax _ _ _ _,hv⟩,kU hv,CE k' hL⟩ o5
 | .pair p q,x,n,r,K,S,m,ch,us,us',O,T,R,hcl,hT,h,hL,hK=>by
  unfold emM;obtain⟨c,d,O1,O2,rfl,rfl,h1,h2⟩:=a6q.1 h;have hT1:Tk X S m ok w (O2++(O1++T)):=hT.perm (by rw[E8];exact(List.perm_append_comm_assoc _ _ _))
  refine Ib q R hcl hT1 h2 hL λS1 m1 cs1 n1 ch1 R1 c1 T1 k1 s1 l1 e1=>?_;refine Ib p R1 o5 T1 h1 l1 λS2 m2 cs2 n2 ch2 R2 c2 T2 k2 s2 l2 e2=>?_;exact hK _ _ _ _ _ R2 o5 T2 (λk l h=>k2 k l (k1 k l h)) (s1.trans s2) (by simpa using l2) o5
 | .unit,x,n,r,K,S,m,ch,us,us',O,T,R,hcl,hT,h,hL,hK=>by unfold emM;obtain⟨rfl,rfl⟩:=h;exact hK S m _ n ch R (dL _ _) (by simpa using hT) (λ_ _ h=>h) (bi.refl _) (by simpa using hL) (D7 _)
 | .box md,x,n,r,K,S,m,ch,us,us',O,T,R,hcl,hT,h,hL,hK=>by
  unfold emM;obtain⟨blk,arr,Tt,O',rfl,hh,hr,rfl⟩:=h;have hT1:Tk X S m ok w (O' ++([blk]++T)):=hT.perm (by simpa using List.perm_middle.symm);refine Ib md (r:=[]) (us' :=[]) R o5 hT1 hr rfl λS1 m1 cs1 n1 ch1 R1 c1 T1 k1 s1 l1 e1=>?_;refine pI λhn=>?_;obtain⟨R',T',k'⟩:=R1.adopt (l:=.st blk) (ks:=[]) (v:=.bcells cs1) hn hcl D5 T1 (λb hb=>by
   simp only[U2,ax]at hb;simp at hb;simp[hb]) (by simp[U2]) ⟨blk,arr,Tt,ax _ _ _ _,hh,CE (λk l (h:m1 k=some l)=>by
    by_cases ek:k=n
    .subst ek;have:=R1.fresh k hcl hn;rw[this]at h;cases h
    .rw[jK _ _ _ ek];exact h) (by simpa using l1)⟩
  refine hK _ _ _ _ _ R' o5 T' (λk l h=>k' k l (k1 k l h)) (s1.trans (bi.box _ _ _)) ⟨_,us',rfl,⟨blk,ax _ _ _ _,rfl⟩,rfl,CE k' (CE k1 hL)⟩ o5
 | .rp t,x,n,r,K,S,m,ch,us,us',O,T,R,hcl,hT,h,hL,hK=>by unfold emM;obtain⟨v,rfl,hv,rfl⟩:=h;exact hK S m _ n ch R (dL _ _) (by simpa using hT) (λ_ _ h=>h) (bi.refl _) ⟨v,us',rfl,hv,Ku hv,hL⟩ (D7 _)
 | .fn f ts,x,n,r,K,S,m,ch,us,us',O,T,R,hcl,hT,h,hL,hK=>by unfold emM;obtain⟨vs,rfl,hv,rfl⟩:=h;exact hK S m _ n ch R (dL _ _) (by simpa using hT) (λ_ _ h=>h) (bi.refl _) ⟨_,us',rfl,⟨vs,rfl,hv⟩,rfl,hL⟩ (D7 _)
 | .ifc t md,x,n,r,K,S,m,ch,us,us',O,T,R,hcl,hT,h,hL,hK=>by
  unfold emM;obtain⟨u,rfl,h1⟩:=h;refine Ib md (r:=[]) (us' :=[]) R hcl hT h1 rfl λS1 m1 cs1 n1 ch1 R1 c1 T1 k1 s1 l1 e1=>?_;split
  .rename_i c;obtain⟨v',r',e,h1',h2',h3'⟩:=l1;simp only[G7,U3,J4,I7]at e;obtain⟨rfl,rfl⟩:=e;exact hK _ _ _ _ _ R1 c1 T1 k1 s1 ⟨_,us',rfl,⟨u,rfl,h2',h1'⟩,rfl,CE k1 hL⟩ e1
  .trivial
 | .cell (some none),x,n,r,K,S,m,ch,us,us',O,T,R,hcl,hT,h,hL,hK=>by unfold emM;obtain⟨v,rfl,hv,h2,h4,rfl⟩:=h;exact hK S m _ n ch R (dL _ _) (by simpa using hT) (λ_ _ h=>h) (bi.refl _) ⟨v,us',rfl,h2 rfl,hv,hL⟩ (D7 _)
 | .cell (some (some b)),x,n,r,K,S,m,ch,us,us',O,T,R,hcl,hT,h,hL,hK=>by unfold emM;obtain⟨v,rfl,hv,h2,h4,rfl⟩:=h;exact hK S m _ n ch R (dL _ _) (by simpa using hT) (λ_ _ h=>h) (bi.refl _) ⟨v,us',rfl,h4 _ rfl,hv,hL⟩ (D7 _)
 | .cell none,x,n,r,K,S,m,ch,us,us',O,T,R,hcl,hT,h,hL,hK=>by unfold emM;obtain⟨v,rfl,hv,h2,h4,rfl⟩:=h;exact hK S m _ n ch R (dL _ _) (by simpa using hT) (λ_ _ h=>h) (bi.refl _) ⟨v,us',rfl,trivial,hv,hL⟩ (D7 _)
 | .lp t,x,n,r,K,S,m,ch,us,us',O,T,R,hcl,hT,h,hL,hK=>by unfold emM;obtain⟨v,rfl,hv,rfl⟩:=h;exact hK S m _ n ch R (dL _ _) (by simpa using hT) (λ_ _ h=>h) (bi.refl _) ⟨v,us',rfl,hv,Ku hv,hL⟩ (D7 _)
 | .dv ..,x,n,r,K,S,m,ch,us,us',O,T,R,hcl,hT,h,hL,hK=>by unfold emM;obtain⟨v,rfl,hv,rfl⟩:=h;exact hK S m _ n ch R (dL _ _) (by simpa using hT) (λ_ _ h=>h) (bi.refl _) ⟨v,us',rfl,trivial,hv,hL⟩ (D7 _)
 | .ownr md o,x,n,r,K,S,m,ch,us,us',O,T,R,hcl,hT,h,hL,hK=>by
  unfold emM;obtain⟨v,rfl,hv1,hw,h0,l,Os,hv,ha,rfl⟩:=h;refine pI λhn=>?_;have hob:U2 (mO m n l Os.flatten) n (.barrp md x.1 x.2 o)=l.blks++Os.flatten:=by cases l<;>first|(simp[U2,Loc.blks];done)|cases ha
  obtain⟨R',T',k'⟩:=R.adopt (l:=l) (ks:=Os.flatten) (v:=.barrp md x.1 x.2 o) hn hcl D5 hT (λb hb=>by rw[hob]at hb;exact hb) (by rw[hob];exact(P8.1 hT.nodup).1)
   ⟨hw,h0,l,Os,ax _ _ _ _,ha,D5⟩
  exact hK _ _ _ _ _ R' o5 T' k' (bi.box _ _ _) ⟨v,us',rfl,⟨l,ax _ _ _ _,hv⟩,kU hv,CE k' hL⟩ o5
 | .sit,x,n,r,K,S,m,ch,us,us',O,T,R,hcl,hT,h,hL,hK=>by
  unfold emM;obtain⟨blk,s,q,rfl,hh,h2,h3,rfl⟩:=h;refine pI λhn=>?_;obtain⟨R2,T2,k2⟩:=R.adopt (n:=n) (l:=.st blk) (ks:=[]) (v:=.biter x.1 x.2) hn hcl D5 hT (λb hb=>by simp only[U2,ax]at hb;simp at hb;simp[hb]) (by simp[U2]) ⟨blk,s,q,ax _ _ _ _,hh,h2,h3⟩
  exact hK _ _ _ _ _ R2 o5 T2 k2 (bi.box _ _ _) ⟨_,us',rfl,⟨blk,ax _ _ _ _,rfl⟩,rfl,CE k2 hL⟩ o5
 | .sbx tb te,x,n,r,K,S,m,ch,us,us',O,T,R,hcl,hT,h,hL,hK=>by
  unfold emM;obtain⟨blk,a0,v,l,rfl,hh,hs,hv,ha,rfl⟩:=h;have hT1:Tk X S m ok w (l.blks++([blk]++T)):=hT.perm (by simpa using List.perm_middle.symm);refine pI λhn1=>?_;have hob:U2 (mO m (n+1) l []) (n+1) (.brow te x)=l.blks:=by cases l<;>first|(simp[U2,Loc.blks];done)|cases ha
  obtain⟨R1,T1,k1⟩:=R.adopt (n:=n+1) (l:=l) (ks:=[]) (v:=.brow te x) hn1 o5 D5 hT1 (λb hb=>by rw[hob]at hb;exact hb) (by rw[hob];exact Loc.blks_nodup l) ⟨l,ax _ _ _ _,ha⟩;refine pI λhn=>?_;obtain⟨R2,T2,k2⟩:=R1.adopt (n:=n) (l:=.st blk) (ks:=[]) (v:=.bsb tb (.own (n+1) none)) hn hcl D5 T1 (λb hb=>by simp only[U2,ax]at hb;simp at hb;simp[hb]) (by simp[U2]) ⟨blk,a0,v,ax _ _ _ _,hh,hs,⟨l,(by rw[jK _ _ _ o5];exact ax _ _ _ _),hv⟩⟩
  refine hK _ _ _ _ _ R2 o5 T2 (λk l h=>k2 k l (k1 k l h)) ((bi.box _ _ _).trans (bi.box _ _ _)) ⟨_,us',rfl,⟨blk,ax _ _ _ _,rfl⟩,rfl,CE k2 (CE k1 hL)⟩ o5
 | .fr t,x,n,r,K,S,m,ch,us,us',O,T,R,hcl,hT,h,hL,hK=>by unfold emM;obtain⟨l,v,rfl,hv,ha,hk,rfl⟩:=h;refine pI λhn=>?_;obtain⟨R',T',k'⟩:=R.adopt (l:=l) (ks:=[]) (v:=.bfrz t x) hn hcl D5 hT (λb hb=>by cases hb) bu ⟨l,ax _ _ _ _,Et ha,hk⟩;exact hK _ _ _ _ _ R' o5 T' k' (bi.box _ _ _) ⟨v,us',rfl,⟨l,ax _ _ _ _,hv⟩,kU hv,CE k' hL⟩ o5
theorem VX{ag:Bool}{cs:List V}{us:c6H}(hg:Zw ag x us)(hl:gB C cs us):lQ C (mkV ag cs) x:=by
 cases ag
 .simp only[Zw]at hg;subst hg;cases cs with
  |nil=>simp[gB]at hl|cons c r=>
   obtain⟨v,r',e,h1,h2,h3⟩:=hl;simp at e;obtain⟨rfl,rfl⟩:=e;cases r with
   |nil=>exact DZ h1|cons d r=>obtain⟨_,_,e,_⟩:=h3;cases e
 .obtain⟨arr,rfl,rfl⟩:=hg;exact⟨arr,rfl,hl⟩
theorem EI{α:Type}{Q:α->Sm->Prop} :∀(ms:List MG) {x:U0 ms} {n:Nat} {K:List V->Nat->Cmd α} {S:Sm} {m:Mp} {ch:Nat} {xs:c6H} {O T:c6I}
  (R:Rel X cl ch S m ok a w) (hcl:cl<=n) (hT:Tk X S m ok w (O++T)) (h:mg w.heap ok ms x xs O)
  (hK:∀S' m' vs n' ch',Rel X cl ch' S' m' ok a w->ch' <=max ch n' ->Tk X S' m' ok w T->(∀k l,m k=some l->m' k=some l)->bi S S' ->gZ ⟨w.heap,ok,m'⟩ vs xs->n<=n' ->(K vs n').post S' Q),
  (EH ms x n K).post S Q
 |[],x,n,K,S,m,ch,xs,O,T,R,hcl,hT,h,hK=>by unfold EH;obtain⟨rfl,rfl⟩:=h;exact hK S m [] n ch R (dL _ _) (by simpa using hT) (λ_ _ h=>h) (bi.refl _) rfl (D7 _)
 |[md],x,n,K,S,m,ch,xs,O,T,R,hcl,hT,h,hK=>by unfold EH;obtain⟨v,cs,rfl,hg,hr⟩:=h;refine Ib md.2 (us' :=[]) R hcl hT hr rfl λS1 m1 cs1 n1 ch1 R1 c1 T1 k1 s1 l1 e1=>?_;exact hK _ _ _ _ _ R1 c1 T1 k1 s1 ⟨v,[],rfl,VX hg (by simpa using l1),rfl⟩ e1
 |md::md' ::r,x,n,K,S,m,ch,xs,O,T,R,hcl,hT,h,hK=>by unfold EH;obtain⟨v,cs,vs',O1,O2,rfl,rfl,hg,h1,h2⟩:=h;refine Ib md.2 (us' :=[]) R hcl (by simpa using hT) h1 rfl λS1 m1 cs1 n1 ch1 R1 c1 T1 k1 s1 l1 e1=>?_;refine EI (md' ::r) R1 o5 T1 h2 λS2 m2 vs2 n2 ch2 R2 c2 T2 k2 s2 l2 e2=>?_;exact hK _ _ _ _ _ R2 o5 T2 (λk l h=>k2 k l (k1 k l h)) (s1.trans s2) ⟨v,vs',rfl,VX hg (CE k2 (by simpa using l1)),l2⟩ o5
theorem Eb{Q:Unit->Sm->Prop} :∀(ns:c6I) {vs:List V} {S:Sm} {K:Cmd Unit} (R:Rel X cl ch S m ok a w) (hv:gZ ⟨w.heap,ok,m⟩ vs (ns.map λn=>a.tmps.getD n Go.undef))
  (hK:∀S',Rel X cl ch S' m ok a w->K.post S' Q),(CY ns vs K).post S Q
 |[],vs,S,K,R,hv,hK=>by
  simp only[lV]at hv;cases vs with
  |nil=>exact hK S R|cons _ _=>obtain⟨_,_,e,_⟩:=hv;cases e
 |n::ns,vs,S,K,R,hv,hK=>by
  cases vs with
  |nil=>trivial
  |cons v vs=>obtain⟨x,r,e,h1,h2⟩:=hv;simp only[dG,I7]at e;obtain⟨rfl,rfl⟩:=e;unfold CY;refine Y6 λhb=>?_;show Cmd.post _ (upd S n v) Q;exact Eb ns (R.slotV (by rw[Z5]at hb;exact hb) h1) h2 hK
end
end Go.GP
namespace Go.GP
def b1a(P:Program)(t:TypeId):TD->Prop
 | .bool=>P.underlying t=some .bool| .int k=>P.underlying t=some (.int k)| .str=>P.underlying t=some .string| .sl e=>P.underlying t=some (.slice e)| .ptr e=>P.underlying t=some (.pointer e)| .struct fs=>∃fields,P.underlying t=some (.struct fields)/\fields.toList.map (λf=>(f.type,f.offset))=fs| .arr n e=>P.underlying t=some (.array n e)| .map k e=>P.underlying t=some (.map k e)| .other=>∃d,P.underlying t=some d/\(match d with| .struct _| .array _ _=>False|_=>True)
structure TiOk (P:Program) (t:TypeId) (i:TI):Prop where
 info:∃inf,P.info? t=some inf/\inf.size=i.size/\inf.bytes=i.bytes/\
  (i.zero.length=i.size->∃z,inf.zero=some z/\gB ⟨#[],λ_ _=>False,nom⟩ i.zero z.cells.toList)/\
  (∀u,i.ty=some u->u.size=i.size/\∃z,inf.zero=some z/\rep #[] (λ_ _=>False) u u.zero z.cells.toList)
 td:b1a P t i.td
 one:jb i.td=false->i.size=1
 agg:∀inf z,P.info? t=some inf->inf.zero=some z->(jb i.td=true->∃arr,z= .agg arr)/\(jb i.td=false->z.oneCell' =true)
def OH(n:Nat)(v:Value)(rs:c6H):Prop:=rs.length=n/\v=(match rs with|[x]=>x|l=> .tuple l.toArray)
def tX(h:Array Obj):List MG->c6H->c6H->c6I->Prop
 |[],[],os,B=>os=[]/\B=[]|(_,.box _)::ms,v::vs,os,B=>∃b arr T os' B',v= .pointer (some ⟨b,0,none⟩)/\h[b]? =some (.cells arr T (0,0))/\os= .agg arr::os' /\B=b::B' /\tX h ms vs os' B'|(_,.ifc _ (.box _))::ms,v::vs,os,B=>∃t b arr T os' B',v= .iface t (.pointer (some ⟨b,0,none⟩))/\h[b]? =some (.cells arr T (0,0))/\os= .agg arr::os' /\B=b::B' /\tX h ms vs os' B'|(_,.ownb _)::ms,v::vs,os,B=>∃os',os=v::os' /\tX h ms vs os' B|(_,.sbx _ _)::ms,v::vs,os,B=>∃os',os=v::os' /\tX h ms vs os' B|_::ms,_::vs,os,B=>tX h ms vs os B|_,_,_,_=>False
def Qn(h:Array Obj)(x:Value)(off sz fo:Nat)(y:Value):Prop:=∃blk o b bo n c,x= .pointer (some ⟨blk,o,none⟩)/\bQ h blk (o+off) 1=some [.slice (some ⟨b,bo,none⟩) n c]/\
 0<=N9 .i64 (n:Int) 1/\N9 .i64 (n:Int) 1<(n:Int)/\y= .pointer (some ⟨b,bo+(N9 .i64 (n:Int) 1).toNat*sz+fo,none⟩)
theorem Qn.det{h:Array Obj}{x y z:Value}{off sz fo:Nat}(h1:Qn h x off sz fo y)(h2:Qn h x off sz fo z):y=z:=by obtain⟨blk,o,b,bo,n,c,rfl,e,_,_,rfl⟩:=h1;obtain⟨blk',o',b',bo',n',c',e1,e',_,_,rfl⟩:=h2;simp only[oq,G8,iM,and_true]at e1;obtain⟨rfl,rfl⟩:=e1;rw[e]at e';simp only[G8,I7,qC,iM,and_true]at e';obtain⟨⟨rfl,rfl⟩,rfl,rfl⟩:=e';rfl
def h_(h:Array Obj)(all:c6H):List MG->c6H->Prop
 |(_,.dv k off sz fo)::ms,v::vs=>(∃p,all[k]? =some p/\Qn h p off sz fo v)/\h_ h all ms vs|_::ms,_::vs=>h_ h all ms vs|_,_=>True
def a3N(P:Program)(f:FuncId)(off sz:Nat):Prop:=(∃fn,P.funcs[f]? =some fn/\fn.body.isSome=true/\(fn.name== "runtime.NumGoroutine")=false)/\
 ∀(w:World) (x y:Value),Qn w.heap x off sz 0 y->Calls P f #[x] w λe w' =>e= .returned y/\∃n,w' =w.drewN n
def PlP(P:Program)(f:FuncId)(off sz:Nat):Prop:=match sz with|0=>b7u P f off|_+1=>a3N P f off sz
theorem PlP.snd{P:Program}{f:FuncId}{off sz:Nat}(h:PlP P f off sz)(hz:Nat.beq sz 0=false):a3N P f off sz:=by
 cases sz with
 |zero=>cases hz|succ n=>exact h
def dD(P:Program)(gl:List (Nat×(t:Ty)×List t.den))(f:FuncId)(s:FSpec):Prop:=
 ∀(w:World) (ok:Nat->Ty->Prop) (O:c6I) (vals:c6H) (x:U0 s.ps) (r:U0 (s.rs++s.outs)),
  (∀b t,ok b t->b<w.heap.size)->O.Nodup->(∀b∈O,(∀t,¬ok b t)/\b<w.heap.size)->(∀g u,dX gl g=some u->IE ⟨w.heap,ok,nom⟩ g u.1 u.2)->
  mg w.heap ok s.ps x vals O->h_ w.heap vals s.ps vals->s.fn x=some r->
  Calls P f vals.toArray w λe w' =>∃v ok' O' rs os B,e= .returned v/\Frame' w w' O/\(∀b t,ok b t->ok' b t)/\(∀b t,ok' b t->b<w'.heap.size/\(ok b t\/w.heap.size<=b\/b∈O))/\
   (O' ++B).Nodup/\(∀b∈O' ++B,(∀t,¬ok' b t)/\b<w'.heap.size/\(w.heap.size<=b\/b∈O))/\
   OH s.rs.length v rs/\tX w'.heap s.ps vals os B/\mg w'.heap ok' (s.rs++s.outs) r (rs++os) O'
def a4g(P:Program):Nat:=P.types.toList.findIdx λi=>i.str== "amend.fault"
def nX(P:Program)(c:Int):List PanicEntry:=[{ v:=.iface (a4g P) (.agg #[.int .i64 c]),recovered:=false }]
def b1n(P:Program)(gl:List (Nat×(t:Ty)×List t.den))(f:FuncId)(ps rs outs:List MG)(fn:U0 ps->Option (U0 (cd::(rs++outs)))):Prop:=
 ∀(w:World) (ok:Nat->Ty->Prop) (O:c6I) (vals:c6H) (x:U0 ps) (r:U0 (cd::(rs++outs))),
  (∀b t,ok b t->b<w.heap.size)->O.Nodup->(∀b∈O,(∀t,¬ok b t)/\b<w.heap.size)->(∀g u,dX gl g=some u->IE ⟨w.heap,ok,nom⟩ g u.1 u.2)->
  mg w.heap ok ps x vals O->h_ w.heap vals ps vals->fn x=some r->
  Calls P f vals.toArray w λe w' =>(T_ (rs++outs) r=0/\∃v ok' O' rs' os B,e= .returned v/\Frame' w w' O/\(∀b t,ok b t->ok' b t)/\(∀b t,ok' b t->b<w'.heap.size/\(ok b t\/w.heap.size<=b\/b∈O))/\
   (O' ++B).Nodup/\(∀b∈O' ++B,(∀t,¬ok' b t)/\b<w'.heap.size/\(w.heap.size<=b\/b∈O))/\
   OH rs.length v rs' /\tX w'.heap ps vals os B/\mg w'.heap ok' (rs++outs) (tlT (rs++outs) r) (rs' ++os) O')\/
   (T_ (rs++outs) r≠0/\e= .panicked (nX P (T_ (rs++outs) r))/\Frame' w w' O)
def yK(P:Program)(gl:List (Nat×(t:Ty)×List t.den))(f:FuncId):FSpec->Prop
 |⟨ps,rs,outs,fn⟩=>∃(rs0:List MG) (h:rs=cd::rs0),b1n P gl f ps rs0 outs (λx=>(h▸fn:U0 ps->Option (U0 ((cd::rs0)++outs))) x)
def a5x(P:Program)(gl:List (Nat×(t:Ty)×List t.den))(p:Nat×FSpec):Prop:=bif Nat.ble PB p.1 then yK P gl (p.1 -PB) p.2 else dD P gl p.1 p.2
def a5M(n:Nat):Nat:=bif Nat.ble PB n then n -PB else n
def lK:List Ty->c6H->Prop
 |[],vs=>vs=[]| .bool::ts,vs=>∃b r,vs= .bool b::r/\lK ts r| .int k::ts,vs=>∃b r,vs= .int k b::r/\lK ts r| .str::ts,vs=>∃b r,vs= .string b::r/\lK ts r|_::_,_=>False
def a6E(P:Program)(t:TypeId)(sh:List Ty):Prop:=
 ∀(w:World) (C:Cx) (cs ds:List V) (xs ys:Array Value) (e:Bool) (op:BinOp) (x y:Operand),Bi sh cs=true->Bi sh ds=true->gB C cs xs.toList->gB C ds ys.toList->Ap cs ds=some e->
  (op= .eql\/op= .neq)->(do eqGuard op t x y (.agg xs) (.agg ys);binOp op t (.agg xs) (.agg ys):Sem Value).run P w= .ok (.bool (if op= .eql then e else !e)) w
def m_(P:Program)(t:TypeId)(sh:List Ty):Prop:=
 (∃fs,P.underlying t=some (.struct fs))/\∀(w:World) (xs:Array Value),lK sh xs.toList->(∀em,(Instr.checkKey em 10000 t (.agg xs)).run P w= .ok () w)/\
  ∀ys:Array Value,lK sh ys.toList->∃r,(Op.equal t (.agg xs) (.agg ys)).run P w= .ok r w/\(r=true↔xs.toList=ys.toList)
def LM(P:Program)(t:TypeId)(sh:List Ty):Prop:=a6E P t sh/\m_ P t sh
def Ep(P:Program)(t:Nat)(n:String)(f:Nat)(d:Option Nat):Prop:=
 ∀(v:Value) (w:World),match d with
  |none=>(method (P.types.size+Made.depth) t v n).run P w= .ok (f,v) w
  |some e=>∀ad,v= .pointer (some ad)->(method (P.types.size+Made.depth) t v n).run P w=((loadVar e ad).run P w).andThen λu w' => .ok (f,u) w'
structure FxOk (X:Fx):Prop where
 nt:64*X.E.nt<=999936
 tt:∀t i,dX X.E.tt t=some i->TiOk X.P t i
 fs:∀p∈X.E.fs,a5x X.P X.E.gl p
 eqs:∀t sh,dX X.E.eqs t=some sh->LM X.P t sh
 ms:∀p∈X.E.ms,Ep X.P p.1.1 p.1.2 p.2.1 p.2.2
 fn:∀p∈X.E.fs,∃fn,X.P.funcs[a5M p.1]? =some fn/\fn.body.isSome=true/\(fn.name== "runtime.NumGoroutine")=false
 pl:∀p∈X.E.pl,PlP X.P p.1 p.2.1 p.2.2
 df:∀l,X.df=some l->∀p∈X.E.pl,Nat.beq p.2.2 0=false
theorem FxOk.ntB{X:Fx}(H:FxOk X):X.E.nt<=X9:=by have:=H.nt;show X.E.nt<=1000000;omega
def b3h(X:Fx)(cl ch:Nat)(o:Oper)(a:Act)(w:World)(m:Mp)(ok:Nat->Ty->Prop)(c:Int)(S' :Sm):Prop:=
 ∀(next:Act->World->Prop) (Q:Exit->Act->World->Prop),
  (∀m' ok' w',Rel X cl ch S' m' ok' a w' ->(∀k l,m k=some l->m' k=some l)->(∀b t,ok b t->ok' b t)->Q (.panic (nX X.P c)) a w')->o.wp X.P a w next Q
def jO(X:Fx)(cl ch:Nat)(o:Oper)(a:Act)(w:World)(m:Mp)(ok:Nat->Ty->Prop)(S' :Sm):Prop:=
 ∀(next:Act->World->Prop) (Q:Exit->Act->World->Prop),
  (∀m' ok' a' w',Rel X cl ch S' m' ok' a' w' ->(∀k l,m k=some l->m' k=some l)->(∀b t,ok b t->ok' b t)->next a' w')->o.wp X.P a w next Q
theorem Iu{α:Type}{ι:Sort _}{Q:ι->α->Sm->Prop} :∀{c:Cmd α} {S:Sm},(∀i,c.post S (Q i))->c.post S (λx S' =>∀i,Q i x S')
 | .ret x,S,h=>λi=>h i| .fail,S,h=>trivial| .get k c,S,h=>Iu (c:=c (S k)) h| .set k v c,S,h=>Iu (c:=c) h
 | .opt o c,S,h=>λx e=>Iu (c:=c x) λi=>h i x e| .br b c d,S,h=>⟨λe=>Iu (c:=c) λi=>(h i).1 e,λe=>Iu (c:=d) λi=>(h i).2 e⟩
variable {x:Operand}{k:IntKind}{y:Operand}{α:Type}{Q:α->Sm->Prop}{C:Cx}{v:Value}{op:BinOp}{t:TypeId}{yt:TypeId}
section
variable {X:Fx} {cl ch:Nat} {S:Sm} {m:Mp} {ok:Nat->Ty->Prop} {a:Act} {w:World} {o:Oper}
theorem bP{b:Bool}{c:Cmd α}{S:Sm}(h:b=true->c.post S Q):(bif b then c else Cmd.fail).post S Q:=by
 cases b
 .trivial
 .exact h rfl
theorem GG{a b:Nat}(h:Nat.blt a b=true):a<b:=by rw[Z5]at h;exact h
theorem wJ(H:FxOk X){S:Sm}{m0 m:Mp}{ok0 ok:Nat->Ty->Prop}{w0 w:World}{a:Act}(R:Rel X cl ch S m ok a w)(hm:∀k l,m0 k=some l->m k=some l)(hok:∀b t,ok0 b t->ok b t)
  {v:V} {x:Value} (hv:lQ ⟨w.heap,ok,m⟩ v x) (run:(execOp a.eval o).run X.P w0= .ok (.value x) w):
  (dY X.E o.dst v).post S (λ_ S' =>jO X cl ch o a w0 m0 ok0 S'):=by
 unfold dY;cases hd:o.dst with
 |none=>
  intro next Q hn
  unfold Oper.wp;rw[run,oL,hd];exact hn m ok a w R hm hok
 |some d=>
  refine bP λhb=>?_;intro next Q hn
  unfold Oper.wp;rw[run,oL,hd];exact hn m ok _ w (R.put H.ntB hb hv) hm hok
theorem a1T(C:Cx)(v:Value):lQ C (a1S v) v:=by unfold a1S;split<;>first|exact rfl|trivial
theorem dh(R:Rel X cl ch S m ok a w){K:V->Cmd α}(hK:∀v,lQ ⟨w.heap,ok,m⟩ v (a.eval x)->(K v).post S Q):(vK x K).post S Q:=by
 unfold vK;cases x with
 |tmp t=>exact bP λhb=>hK (S t) (R.slot t (GG hb))|const v=>exact hK _ (a1T _ v)|global g=>exact hK _ rfl|func f=>exact hK _ rfl
theorem lZ{α:Type}{Q:α->Sm->Prop}(R:Rel X cl ch S m ok a w):∀(xs:List Operand) {K:List V->Cmd α} (hK:∀vs,gZ ⟨w.heap,ok,m⟩ vs (xs.map a.eval)->(K vs).post S Q),(Nw xs K).post S Q
 |[],K,hK=>hK [] rfl
 |x::r,K,hK=>by unfold Nw;refine dh R λv hv=>?_;exact lZ R r λvs hvs=>hK _ ⟨_,_,rfl,hv,hvs⟩
theorem aW(H:FxOk X)(R:Rel X cl ch S m ok a w){v:V}{x:Value}(hv:lQ ⟨w.heap,ok,m⟩ v x)(run:(execOp a.eval o).run X.P w= .ok (.value x) w):
  (dY X.E o.dst v).post S (λ_ S' =>jO X cl ch o a w m ok S'):=wJ H R (λ_ _ h=>h) (λ_ _ h=>h) hv run
theorem QV{x:Bool}(h:lQ C (.b x) v):v= .bool x:=h
theorem vP{n:Int}(h:lQ C (.i k n) v):v= .int k n:=h
theorem Lc{l:c6F}(h:lQ C (.s l) v):v= .string ⟨l.toArray⟩:=h
theorem a4L(H:FxOk X)(R:Rel X cl ch S m ok a w)(ho:o.op= .move x\/o.op= .assign x):(vK x λv=>dY X.E o.dst v).post S (λ_ S' =>jO X cl ch o a w m ok S'):=by refine dh R λv hv=>aW H R hv ?_;rcases ho with ho|ho<;>simp[execOp,ho]
theorem b2f(H:FxOk X)(R:Rel X cl ch S m ok a w){c x y:Operand}{q:Nat}(ho:o.op= .pick c x y):(dJ X.E q o).post S (λ_ S' =>jO X cl ch o a w m ok S'):=by
 unfold dJ;simp only[ho];refine dh R λv hv=>?_;split<;>try trivial
 rename_i t;have hc:=QV hv;cases t
 .simp only[cond_false];refine dh R λv hv=>aW H R hv ?_;simp[execOp,ho,hc,asBool]
 .simp only[cond_true];refine dh R λv hv=>aW H R hv ?_;simp[execOp,ho,hc,asBool]
theorem dM{α β:Type}{Q:α->Sm->Prop}{x:Option β}{c:β->Cmd α}{S:Sm}(h:∀y,x=some y->(c y).post S Q):(Cmd.opt x c).post S Q:=h
theorem a5s{yc:Operand}{a:Act}{b:Int}(h:Ei yc=false)(he:a.eval yc= .int k b):b≠0:=by
 unfold Ei at h;split at h
 .simp[Act.eval]at he;obtain⟨_,rfl⟩:=he;simpa using h
 .simp at h
theorem a7H{yc:Operand}{a:Act}{b:Int}(h:Ik yc=false)(he:a.eval yc= .int k b):¬b<0:=by
 unfold Ik at h;split at h
 .simp[Act.eval]at he;obtain⟨_,rfl⟩:=he;simpa using h
 .simp at h
theorem a6f(H:FxOk X)(R:Rel X cl ch S m ok a w)(ho:o.op= .binOp op t x y yt){k k' :IntKind}{p q:Int}
  (hx:a.eval x= .int k p) (hy:a.eval y= .int k' q):(JX X.E t op y (.i k p) (.i k' q) λv=>dY X.E o.dst v).post S (λ_ S' =>jO X cl ch o a w m ok S'):=by
 have run:∀v,(binOp op t (.int k p) (.int k' q)).run X.P w= .ok v w->(execOp a.eval o).run X.P w= .ok (.value v) w:=λv h=>by simp[execOp,ho,hx,hy,eqGuard_at_int,h]
 have fin:∀(v:V) (u:Value),lQ ⟨w.heap,ok,m⟩ v u->(binOp op t (.int k p) (.int k' q)).run X.P w= .ok u w->(dY X.E o.dst v).post S (λ_ S' =>jO X cl ch o a w m ok S'):=
  λv u hv h=>aW H R hv (run u h)
 unfold JX;cases op<;>simp only[]
 case shl=>
  cases hn:Ik y
  .simp only[cond_false];have h0:=a7H hn hy;exact fin _ _ rfl (by simp[binOp,Op.shift,h0,b1I])
  .simp only[cond_true];refine dM λr hr=>?_;unfold X_ at hr;split at hr
   .cases hr
   .rename_i h0;cases hr;exact fin _ _ rfl (by simp[binOp,Op.shift,h0,b1I])
 case shr=>
  cases hn:Ik y
  .simp only[cond_false];have h0:=a7H hn hy;exact fin _ _ rfl (by simp[binOp,Op.shift,h0,wM])
  .simp only[cond_true];refine dM λr hr=>?_;unfold a4v at hr;split at hr
   .cases hr
   .rename_i h0;cases hr;exact fin _ _ rfl (by simp[binOp,Op.shift,h0,wM])
 all_goals
  refine bP λhk=>?_;have hk' :k=k' :=of_decide_eq_true hk;subst hk'
 case quo=>
  cases hz:Ei y
  .simp only[cond_false];have h0:=a5s hz hy;exact fin _ _ rfl (by simp[binOp,Op.intDiv,h0,aO])
  .simp only[cond_true];refine dM λr hr=>?_;unfold XK at hr;split at hr
   .cases hr
   .rename_i h0;cases hr;exact fin _ _ rfl (by simp[binOp,Op.intDiv,h0])
 case rem=>
  cases hz:Ei y
  .simp only[cond_false];have h0:=a5s hz hy;exact fin _ _ rfl (by simp[binOp,Op.intDiv,h0,fE])
  .simp only[cond_true];refine dM λr hr=>?_;unfold a4u at hr;split at hr
   .cases hr
   .rename_i h0;cases hr;exact fin _ _ rfl (by simp[binOp,Op.intDiv,h0])
 case add=>exact fin _ _ rfl (by simp[binOp,Op.intArith,G5])
 case sub=>exact fin _ _ rfl (by simp[binOp,Op.intArith,N9])
 case mul=>exact fin _ _ rfl (by simp[binOp,Op.intArith,mY])
 case and=>exact fin _ _ rfl (by simp[binOp,Op.intBits,a5Q])
 case or=>exact fin _ _ rfl (by simp[binOp,Op.intBits,ior])
 case xor=>exact fin _ _ rfl (by simp[binOp,Op.intBits,a7y])
 case andNot=>exact fin _ _ rfl (by simp[binOp,Op.intBits,a4q])
 case eql=>exact fin _ _ rfl (by simp[binOp,Op.intCmp,C9];rfl)
 case neq=>exact fin _ _ rfl (by simp[binOp,Op.intCmp,C9,H5];rfl)
 case lss=>exact fin _ _ rfl (by simp[binOp,Op.intCmp,I5])
 case leq=>exact fin _ _ rfl (by simp[binOp,Op.intCmp,U7])
 case gtr=>exact fin _ _ rfl (by simp[binOp,Op.intCmp,I5])
 case geq=>exact fin _ _ rfl (by simp[binOp,Op.intCmp,U7])
theorem a6g(H:FxOk X)(R:Rel X cl ch S m ok a w)(ho:o.op= .binOp op t x y yt){p q:c6F}
  (hx:a.eval x= .string ⟨p.toArray⟩) (hy:a.eval y= .string ⟨q.toArray⟩):(JX X.E t op y (.s p) (.s q) λv=>dY X.E o.dst v).post S (λ_ S' =>jO X cl ch o a w m ok S'):=by
 have run:∀v,(Op.stringOp op ⟨p.toArray⟩ ⟨q.toArray⟩).run X.P w= .ok v w->(execOp a.eval o).run X.P w= .ok (.value v) w:=λv h=>by simp[execOp,ho,hx,hy,eqGuard_at_string,binOp,h]
 have fin:∀(v:V) (u:Value),lQ ⟨w.heap,ok,m⟩ v u->(Op.stringOp op ⟨p.toArray⟩ ⟨q.toArray⟩).run X.P w= .ok u w->(dY X.E o.dst v).post S (λ_ S' =>jO X cl ch o a w m ok S'):=
  λv u hv h=>aW H R hv (run u h)
 unfold JX;cases op<;>simp only[]<;>try trivial
 case add=>
  refine dM λr hr=>?_;unfold N8 at hr;split at hr
  .rename_i hle;cases hr;have e:(⟨p.toArray⟩:ByteArray)++⟨q.toArray⟩=⟨(p++q).toArray⟩:=by
    apply ByteArray.ext;apply jM;simp[ByteArray.data_append]
   refine fin _ (.string ⟨(p++q).toArray⟩) rfl ?_;have hs:¬((9223372036854775807:Int)<(p.length:Int)+(q.length:Int)):=o5;simp[Op.stringOp,e,ByteArray.size,hs]
  .cases hr
 case eql=>exact fin _ _ rfl (by simp only[Op.stringOp,ByteArray.toList_mk,seq,Y9];rw[show(p==q)=decide (p=q) by rw[tq];simp])
 case neq=>exact fin _ _ rfl (by simp only[Op.stringOp,ByteArray.toList_mk,seq,H5,Y9];rw[show(p==q)=decide (p=q) by rw[tq];simp])
 case lss=>exact fin _ _ rfl (by simp[Op.stringOp,ByteArray.toList_mk,slt])
theorem a2y(H:FxOk X)(R:Rel X cl ch S m ok a w)(ho:o.op= .binOp op t x y yt){p q:Bool}
  (hx:a.eval x= .bool p) (hy:a.eval y= .bool q):(JX X.E t op y (.b p) (.b q) λv=>dY X.E o.dst v).post S (λ_ S' =>jO X cl ch o a w m ok S'):=by
 unfold JX;cases hi:dX X.E.tt t with
 |none=>trivial|some i=>
 have ht' :=(H.tt t i hi).td;simp only[];cases hd:i.td<;>try trivial
 rw[hd]at ht';have ht:X.P.underlying t=some .bool:=ht';have he' :∀d,(Op.equalIn (d+1) t (.bool p) (.bool q)).run X.P w= .ok (p==q) w:=λd=>by simp[Op.equalIn,run_underlying ht]
 have he:(Op.equal t (.bool p) (.bool q)).run X.P w= .ok (p==q) w:=he' 9999;have run:∀v,(binOp op t (.bool p) (.bool q)).run X.P w= .ok v w->(execOp a.eval o).run X.P w= .ok (.value v) w:=λv h=>by simp[execOp,ho,hx,hy,eqGuard_at_bool,h]
 have fin:∀(v:V) (u:Value),lQ ⟨w.heap,ok,m⟩ v u->(binOp op t (.bool p) (.bool q)).run X.P w= .ok u w->(dY X.E o.dst v).post S (λ_ S' =>jO X cl ch o a w m ok S'):=
  λv u hv h=>aW H R hv (run u h)
 cases op<;>try trivial
 case eql=>exact fin _ _ rfl (by simp[binOp,he,Gz])
 case neq=>exact fin _ _ rfl (by simp[binOp,he,Gz,H5])
end
end Go.GP
namespace Go.GP
variable {x:Operand}{t:TypeId}{q:Nat}
section
variable {X:Fx} {cl ch:Nat} {S:Sm} {m:Mp} {ok:Nat->Ty->Prop} {a:Act} {w:World} {o:Oper}
theorem jY{α:Type}{Q:α->Sm->Prop}(H:FxOk X){t:Nat}{K:TI->Cmd α}(hK:∀i,TiOk X.P t i->(K i).post S Q):(tiC X.E t K).post S Q:=by
 unfold tiC;cases hi:dX X.E.tt t with
 |none=>trivial|some i=>exact hK i (H.tt t i hi)
theorem a6y{P:Program} :∀{d:TD},b1a P t d->∃e,P.underlying t=some e
 | .bool,h=>⟨_,h⟩| .int _,h=>⟨_,h⟩| .str,h=>⟨_,h⟩| .sl _,h=>⟨_,h⟩| .ptr _,h=>⟨_,h⟩| .struct _,⟨_,h,_⟩=>⟨_,h⟩| .arr _ _,h=>⟨_,h⟩| .map _ _,h=>⟨_,h⟩| .other,⟨_,h,_⟩=>⟨_,h⟩
theorem Zh(H:FxOk X)(R:Rel X cl ch S m ok a w){op:BinOp}{x y:Operand}{yt:TypeId}(ho:o.op= .binOp op t x y yt){ad:Option Addr}{n c:Nat}
  (hx:a.eval x= .slice ad n c) (hy:a.eval y= .slice none 0 0):(a7I X.E t op ad.isNone λv=>dY X.E o.dst v).post S (λ_ S' =>jO X cl ch o a w m ok S'):=by
 unfold a7I;cases hi:dX X.E.tt t with
 |none=>trivial|some i=>
 have ht' :=(H.tt t i hi).td;simp only[];cases hd:i.td<;>try trivial
 rename_i e;rw[hd]at ht';have ht:X.P.underlying t=some (.slice e):=ht';have he' :∀d,(Op.equalIn (d+1) t (.slice ad n c) (.slice none 0 0)).run X.P w= .ok ad.isNone w:=λd=>by cases ad<;>simp[Op.equalIn,run_underlying ht]
 have he:(Op.equal t (.slice ad n c) (.slice none 0 0)).run X.P w= .ok ad.isNone w:=he' 9999;have run:∀v,(binOp op t (.slice ad n c) (.slice none 0 0)).run X.P w= .ok v w->(execOp a.eval o).run X.P w= .ok (.value v) w:=λv h=>by simp[execOp,ho,hx,hy,eqGuard_at_slice,h]
 cases op<;>try trivial
 case eql=>exact aW H R (v:=.b ad.isNone) (x:=.bool ad.isNone) rfl (run _ (by simp[binOp,he]))
 case neq=>exact aW H R (v:=.b (H5 ad.isNone)) (x:=.bool (!ad.isNone)) rfl (run _ (by simp[binOp,he]))
theorem a7S(H:FxOk X)(R:Rel X cl ch S m ok a w){op:BinOp}{x y:Operand}{yt:TypeId}(ho:o.op= .binOp op t x y yt):
  (dJ X.E q o).post S (λ_ S' =>jO X cl ch o a w m ok S'):=by
 unfold dJ;simp only[ho];refine dh R λu hu=>dh R λv hv=>?_;cases u<;>try (unfold JX;trivial)
 case b p=>
  cases v<;>try (unfold JX;trivial)
  exact a2y H R ho (QV hu) (QV hv)
 case i k p=>
  cases v<;>try (unfold JX;trivial)
  exact a6f H R ho (vP hu) (vP hv)
 case s p=>
  cases v<;>try (unfold JX;trivial)
  exact a6g H R ho (Lc hu) (Lc hv)
 case nl=>
  cases v<;>try (unfold JX;trivial)
  exact Zh H R ho (ad:=none) (show a.eval x= .slice none 0 0 from hu) hv
 case ne=>
  cases v<;>try (unfold JX;trivial)
  obtain⟨ad,c,hx,hb⟩:=hu;subst hb;exact Zh H R ho (ad:=ad) hx hv
 case sl t' xs=>
  cases v<;>try (unfold JX;trivial)
  unfold JX;simp only[];cases ht:t'.isEnt
  .simp only[cond_false];obtain⟨ad,c,hx,hle,hx'⟩:=(zM ht).1 (show rep w.heap ok (.sl t') xs [a.eval x]from hu);cases xs with
   |nil=>exact⟨λ_=>trivial,λh=>by simp[C9,A7]at h⟩|cons z zs=>obtain⟨blk,off,es,rfl,_⟩:=hx' 0 z rfl;exact⟨λ_=>trivial,λ_=>Zh H R ho (ad:=some _) (by simpa using hx) hv⟩
  .trivial
 case agg cs=>
  cases v<;>try (unfold JX;trivial)
  case agg ds=>
  obtain⟨xs,hx,hl⟩:=hu;obtain⟨ys,hy,hl'⟩:=hv;unfold JX;simp only[];cases hq:dX X.E.eqs t with
  |none=>trivial|some sh=>
  simp only[];refine bP λhm=>?_;simp only[D6]at hm;have hE:=(H.eqs t sh hq).1;cases he:Ap cs ds with
  |none=>cases op<;>trivial|some e=>
   cases op<;>try trivial
   case eql=>refine aW H R (v:=.b e) (x:=.bool e) rfl ?_;have h:=hE w _ cs ds xs ys e .eql x y hm.1 hm.2 hl hl' he (.inl rfl);simp only[execOp,ho,hx,hy];rw[J5,h];rfl
   case neq=>refine aW H R (v:=.b (H5 e)) (x:=.bool (!e)) rfl ?_;have h:=hE w _ cs ds xs ys e .neq x y hm.1 hm.2 hl hl' he (.inr rfl);simp only[execOp,ho,hx,hy];rw[J5,h];rfl
theorem b2h(H:FxOk X)(R:Rel X cl ch S m ok a w){op:UnOp}(ho:o.op= .unOp op t x):
  (dJ X.E q o).post S (λ_ S' =>jO X cl ch o a w m ok S'):=by
 unfold dJ;simp only[ho];refine dh R λu hu=>?_;cases u<;>cases op<;>try (unfold unC;trivial)
 case b.not p=>exact aW H R (v:=.b (H5 p)) (x:=.bool (!p)) rfl (by simp[execOp,ho,QV hu,Op.unary])
 case i.neg k p=>exact aW H R (v:=.i k (N9 k 0 p)) (x:=.int k (k.wrap (0 -p))) rfl (by simp[execOp,ho,vP hu,Op.unary,Op.intArith])
 case i.xor k p=>exact aW H R (v:=.i k (a7y k (bif k.signed then -1 else k.max) p)) rfl (by simp only[execOp,ho,vP hu,Op.unary,Op.intBits,a7y];cases k.signed<;>simp)
theorem a8h{α:Type}{Q:α->Sm->Prop}(R:Rel X cl ch S m ok a w){u:Ty}{y:V}{vy:Value}{K:List u.den->Cmd α}(hy:lQ ⟨w.heap,ok,m⟩ y vy)
  (hK:∀xs,rep w.heap (λ_ _=>True) (.sl u) xs [vy]->(K xs).post S Q):(a6k u y K).post S Q:=by
 unfold a6k;split<;>try trivial
 .have hv:vy= .slice none 0 0:=hy;subst hv;cases ht:u.isEnt
  .exact hK [] (.inl ⟨ht,none,0,rfl,D7 _,λi x hi=>by simp at hi⟩)
  .trivial
 .obtain⟨ad,c,rfl,_⟩:=(show ∃a c,vy=Value.slice a 0 c/\a.isNone=_ from hy);cases ht:u.isEnt
  .exact hK [] (.inl ⟨ht,ad,c,rfl,cO _,λi x hi=>by simp at hi⟩)
  .trivial
 .refine jy λe=>?_;subst e;exact hK _ (gX (λ_ _ _=>trivial) (λ_ _ _=>rfl) (show rep w.heap ok (.sl _) _ [vy]from hy))
 .rename_i bx vw;obtain⟨l,hm,hv⟩:=hy;show Cmd.post (match S (X9+bx)with| .barr t' xs=>_| .bfrz t' xs=>_|_=>_) S Q;have hb:=R.box bx;split<;>try trivial
  .rename_i t' xs hS;rw[hS]at hb;obtain⟨l',hm',ha⟩:=hb;simp only at hm hm';rw[hm]at hm';cases hm';refine jy λe=>?_;subst e;exact hK _ (qj (C:=⟨w.heap,ok,m⟩) ha hv (λ_ _ _=>trivial) (λ_ _=>trivial))
  .rename_i t' xs hS;rw[hS]at hb;obtain⟨l',hm',ha,hok⟩:=hb;simp only at hm hm';rw[hm]at hm';cases hm';refine jy λe=>?_;subst e;exact hK _ (qj (C:=⟨w.heap,ok,m⟩) ha hv (λ_ _ _=>trivial) (λ_ _=>trivial))
theorem a0t(H:FxOk X)(R:Rel X cl ch S m ok a w){src t:TypeId}(ho:o.op= .convert src t x)
  (hB:∀l,a.eval x= .string ⟨l.toArray⟩->X.P.underlying src=some .string->(a6W X.E (O8 q o.dst) t l λv=>dY X.E o.dst v).post S (λ_ S' =>jO X cl ch o a w m ok S')):
  (dJ X.E q o).post S (λ_ S' =>jO X cl ch o a w m ok S'):=by
 unfold dJ;simp only[ho];refine dh R λu hu=>jY H λj hj=>jY H λi hi=>?_;obtain⟨e,he⟩:=a6y hj.td;have hd:=hi.td;split<;>try trivial
 .rename_i k' n k htd;rw[htd]at hd;exact aW H R (v:=.i k (wrap k n)) (x:=.int k (k.wrap n)) rfl (by simp[execOp,ho,vP hu,convert,run_underlying he,run_underlying (show X.P.underlying t=some (.int k)from hd),Conv.intToInt])
 .rename_i l htd;rw[htd]at hd;refine aW H R (v:=.s l) (x:=.string ⟨l.toArray⟩) rfl ?_;simp only[execOp,ho,Lc hu,convert,J5,run_underlying he,run_underlying (show X.P.underlying t=some .string from hd),L6];cases e<;>simp
 .split<;>try trivial
  rename_i l _ _ _ hjd;have hjs:=hj.td;rw[hjd]at hjs;exact hB l (Lc hu) hjs
 .rename_i hns htd;rw[htd]at hd;split<;>try trivial
  rename_i el hjd;have hjs:=hj.td;rw[hjd]at hjs;refine jY H λk hk=>?_;have hkd:=hk.td;split<;>try trivial
  rename_i hke;rw[hke]at hkd;refine a8h R hu λxs hr=>?_;obtain⟨ad,cap,hv,hcap,hcells⟩:=(zM rfl).1 hr;have hv:=(U8 hv).1;refine aW H R (v:=.s (C_ xs)) (x:=.string ⟨(C_ xs).toArray⟩) rfl ?_;have hh:(convert src t (a.eval x)).run X.P w= .ok (.string ⟨(C_ xs).toArray⟩) w:=by
   rw[hv];cases xs with
   |nil=>
    have:=run_convert_bytes_nil (P:=X.P) w src el hjs hkd 0 cap t hd;cases ad with
    |none=>exact this|some ad=>obtain⟨b,o,s⟩:=ad;rw[run_convert_bytes_string w src t el _ _ cap hjs hkd hd];simp[Conv.bytesToString,C_];rfl
   |cons y ys=>
    obtain⟨blk,off,es,rfl,_,_,_⟩:=hcells 0 y rfl;have:=run_convert_bytes_arg (P:=X.P) w src el hjs hkd blk off (y::ys).length cap (y::ys) rfl (λi hi=>?_) t hd
    .exact this
    .obtain⟨blk2,off2,es2,e2,_,hc,hr2⟩:=hcells i _ (lF hi);simp only[G8,iM]at e2;obtain⟨rfl,rfl,_⟩:=e2;obtain⟨c,T,f,hb,hn,rfl⟩:=qO hc;have hr3:((c.toList.drop (off+i*1)).take 1)=[.int .u8 (y::ys)[i]]:=hr2;have h5:=congrArg (λl=>l[0]?) hr3;simp only[aU (show 0<1 by omega),O9,aH,bD,iW,X4]at h5;simp only[World.cell?,hb,h5,Option.isSome_none];simp[List.getD,lF hi]
  simp only[execOp,ho];rw[J5,hh];rfl
theorem a2A(H:FxOk X)(R:Rel X cl ch S m ok a w){n:Nat}(ho:o.op= .extract x n):
  (dJ X.E q o).post S (λ_ S' =>jO X cl ch o a w m ok S'):=by
 unfold dJ;simp only[ho];refine dh R λu hu=>?_;cases u<;>try trivial
 case tup vs=>
 obtain⟨arr,hx,hl⟩:=hu;have key:∀(vs:List V) (us:c6H) (n:Nat) (v:V),Zx ⟨w.heap,ok,m⟩ vs us->vs[n]? =some v->∃u,us[n]? =some u/\lQ ⟨w.heap,ok,m⟩ v u:=by
  intro vs;induction vs with
  |nil=>intro us n v _ h;simp at h|cons c cs ih=>
   rintro us n v ⟨u,r,rfl,h1,h2⟩ h;cases n with
   |zero=>simp at h;subst h;refine⟨u,rfl,?_⟩;cases c<;>first|exact h1|exact h1.elim
   |succ n=>simpa using ih r n v h2 (by simpa using h)
 simp only[];split
 .rename_i v hv;obtain⟨u,hu,hr⟩:=key vs arr.toList n v hl hv;refine aW H R hr ?_;have:arr[n]? =some u:=by simpa using hu
  simp[execOp,ho,hx,Instr.extract,this]
 .trivial
theorem a7X(H:FxOk X)(R:Rel X cl ch S m ok a w){x ix:Operand}(ho:o.op= .index t x ix):
  (dJ X.E q o).post S (λ_ S' =>jO X cl ch o a w m ok S'):=by
 unfold dJ;simp only[ho];refine dh R λu hu=>dh R λv hv=>jY H λi hi=>?_;have hd:=hi.td;split<;>try trivial
 rename_i l k n htd;rw[htd]at hd;refine dM λc hc=>?_;unfold sat at hc;split at hc
 .rename_i h0;cases hl:l[n.toNat]? with
  |none=>simp[hl]at hc|some b=>
   simp[hl]at hc;subst hc;refine aW H R (v:=.i .u8 b.toNat) (x:=.int .u8 b.toNat) rfl ?_;have e:(⟨l.toArray⟩:ByteArray)[n.toNat]? =some b:=by
    obtain⟨h1,h2⟩:=bg.1 hl;have hs:n.toNat<(⟨l.toArray⟩:ByteArray).size:=by simpa[ByteArray.size]using h1
    show decidableGetElem? _ _=_;unfold decidableGetElem?;rw[dif_pos hs,←h2];rfl
   simp[execOp,ho,Lc hu,vP hv,Instr.index,asIntOf,run_underlying (show X.P.underlying t=some .string from hd),h0,e]
 .cases hc
theorem a0v(H:FxOk X)(R:Rel X cl ch S m ok a w)(ho:o.op= .nilCheck x):
  (dJ X.E q o).post S (λ_ S' =>jO X cl ch o a w m ok S'):=by
 unfold dJ;simp only[ho];refine dh R λu hu=>?_;cases u<;>try trivial
 case ptr bx f=>obtain⟨b,h1,h2⟩:=hu;exact aW H R (v:=.ptr bx f) ⟨b,h1,h2⟩ (by simp[execOp,ho,h2])
 case ep bx ix f=>obtain⟨_,_,_,_,_,h1,h2,h3⟩:=hu;exact aW H R (v:=.ep bx ix f) ⟨_,_,_,_,_,h1,h2,h3⟩ (by simp[execOp,ho,h3])
 case dp u y f=>obtain⟨_,_,_,h1,h2⟩:=hu;exact aW H R (v:=.dp u y f) ⟨_,_,_,h1,h2⟩ (by simp[execOp,ho,h1])
 case glob g=>exact aW H R (v:=.glob g) hu (by have hu:a.eval x=_:=hu;simp[execOp,ho,hu])
end
end Go.GP
namespace Go.GP
variable {n:Nat}{off:Nat}{blk:Nat}{es:c6H}
theorem rZ{w:World}(e:bQ w.heap blk off n=some es){j:Nat}{v:Value}(h:es[j]? =some v):w.cell? ⟨blk,off+j,none⟩=some v:=by
 obtain⟨c,T,f,hb,hn,rfl⟩:=qO e;rw[cell_of_row w blk (off+j) c T f hb];have hj:j<n:=by have:=(bg.1 h).1;simp at this;omega
 rw[Y7,if_pos hj,O9]at h;simpa using h
variable {t:TypeId}{P:Program}
theorem Em{d:TD}(h:b1a P t d)(w:World):(isAgg t).run P w= .ok (jb d) w:=by
 unfold isAgg;cases d<;>simp only[b1a]at h
 case struct fs=>obtain⟨fields,hu,_⟩:=h;rw[J5,run_underlying hu];rfl
 case other=>obtain⟨e,hu,hn⟩:=h;rw[J5,run_underlying hu];cases e<;>first|rfl|exact hn.elim
 all_goals (rw[J5,run_underlying h];rfl)
variable {i:TI}
theorem uj(h:TiOk P t i)(w:World):(sizeOf t).run P w= .ok i.size w:=by obtain⟨inf,h1,h2,_⟩:=h.info;simp[sizeOf,typeInfo,h1,h2]
def Qj(ag:Bool)(es:c6H):Value:=match ag with|true=> .agg es.toArray|false=>es.headD Go.undef
theorem tV(hi:TiOk P t i)(w:World)(e:bQ w.heap blk off i.size=some es):
  (loadVar t ⟨blk,off,none⟩).run P w= .ok (Qj (jb i.td) es) w:=by
 have hl:=lU e;unfold loadVar;rw[J5,Em hi.td];simp only[L6];cases ha:jb i.td
 .have h1:=hi.one ha;rw[h1]at hl;obtain⟨v,rfl⟩:∃v,es=[v]:=by
   cases es with
   |nil=>simp at hl
   |cons v r=>cases r with
    |nil=>exact⟨v,rfl⟩|cons _ _=>simp at hl
  have hc:=rZ e (j:=0) (v:=v) rfl;simp only[aH]at hc;simp[hc,Qj]
 .have hc:=run_loadCells_list (P:=P) w ⟨blk,off,none⟩ es (λj v h=>by rw[iI];exact rZ e h);rw[hl]at hc;simp[uj hi,hc,Qj]
variable {C:Cx}{cs:List V}
theorem CG{ag:Bool}(h:gB C cs es)(h1:ag=false->es.length=1):lQ C (mkV ag cs) (Qj ag es):=by
 refine VX (us:=es) ?_ h;cases ag
 .have:=h1 rfl;obtain⟨v,rfl⟩:∃v,es=[v]:=by
   cases es with
   |nil=>simp at this
   |cons v r=>cases r with
    |nil=>exact⟨v,rfl⟩|cons _ _=>simp at this
  rfl
 .exact⟨es.toArray,rfl,D5⟩
theorem UQ:∀(n:Nat) (cs r:List V),UO n cs=some r->n<=cs.length/\r=cs.drop n
 |0,cs,r,h=>by simp[UO]at h;simp[h]|n+1,[],r,h=>by simp[UO]at h|n+1,c::cs,r,h=>by obtain⟨h1,h2⟩:=UQ n cs r (by simpa[UO]using h);exact⟨by simp;omega,by simpa using h2⟩
theorem WE{α:Type}{Q:α->Sm->Prop}{S:Sm} :∀(n:Nat) (cs:List V) {K:List V->Cmd α} (hK:n<=cs.length->(K (cs.take n)).post S Q),(a1o n cs K .fail).post S Q
 |0,cs,K,hK=>by simpa[a1o]using hK (cO _)|n+1,[],K,hK=>trivial
 |n+1,c::cs,K,hK=>by unfold a1o;exact WE n cs λh=>by simpa using hK E5
variable {α:Type}{Q:α->Sm->Prop}
theorem yI{S:Sm}{K:List V->Cmd α}(hK:off+n<=cs.length->(K ((cs.drop off).take n)).post S Q):(Rz off n cs K .fail).post S Q:=by
 unfold Rz;split
 .rename_i r hr;obtain⟨h1,rfl⟩:=UQ _ _ _ hr;refine WE n _ λh=>hK ?_;simp at h;omega
 .trivial
def dA(off:Nat)(vs cs:List α):List α:=cs.take off++vs++cs.drop (off+vs.length)
theorem Cf{α:Type}{Q:α->Sm->Prop}{S:Sm} :∀(off:Nat) (vs cs:List V) {K:List V->Cmd α} (hK:off+vs.length<=cs.length->(K (dA off vs cs)).post S Q),(PU off vs cs K .fail).post S Q
 |0,[],cs,K,hK=>by have:=hK D5;cases cs<;>simpa[PU,dA]using this|0,v::vs,[],K,hK=>by simp[PU];trivial
 |0,v::vs,c::cs,K,hK=>by unfold PU;exact Cf 0 vs cs λh=>by simpa[dA]using hK (by simp at h ⊢;omega)|n+1,vs,[],K,hK=>by cases vs<;>simp[PU]<;>trivial|n+1,vs,c::cs,K,hK=>by
  have e:PU (n+1) vs (c::cs) K Cmd.fail=PU n vs cs (λr=>K (c::r)) Cmd.fail:=by cases vs<;>rfl
  rw[e];refine Cf n vs cs λh=>?_;have:=hK E5;have e2:n+1+vs.length=(n+vs.length)+1:=o5;simpa[dA,e2]using this
theorem Dp{vs cs:List V}{us xs:c6H}(hv:gB C vs us)(hc:gB C cs xs):gB C (dA off vs cs) (dA off us xs):=by unfold dA;rw[←kJ hv];exact xO (xO (uK off hc) hv) (sJ _ hc)
theorem CJ{P:Program}(g o:Nat)(t:TypeId):∀(vs:c6H) (i:Nat) (cur:Array Value) (f:Nat×Nat) (w:World),w.heap[g]? =some (.cells cur t f)->(f=(0,0)\/f=(cur.size,cur.size+1))->o+i+vs.length<=cur.size->(∀v∈vs,v.oneCell' =true)->
  (storeCells ⟨g,o,none⟩ vs i).run P w= .ok () (w.setRow g (cur.toList.take (o+i)++vs++cur.toList.drop (o+i+vs.length)).toArray)
 |[],i,cur,f,w,hg,_,_,_=>by simp only[storeCells,G7,aB,aH,Z4,Array.toArray_toList];rw[setRow_self w g cur t f hg];rfl|v::rest,i,cur,f,w,hg,hf,hl,h1=>by
  have hi:o+i<cur.size:=by simp at hl;omega
  have hadd:(⟨g,o,none⟩:Addr).add i=⟨g,o+i,none⟩:=by unfold Addr.add;split<;>simp_all
  have hcell:w.cell? ⟨g,o+i,none⟩=some cur[o+i]:=by simp[World.cell?,hg,hi]
  have hfro:w.frozen? ⟨g,o+i,none⟩=false:=by rcases hf with rfl|rfl<;>simp[World.frozen?,hg];omega
  have hst:(store ((⟨g,o,none⟩:Addr).add i) v).run P w= .ok () (w.setRow g (cur.setIfInBounds (o+i) v)):=by rw[hadd,run_store P w _ v _ (h1 v D5),hcell];simp[hfro,setCell_eq_setRow w g (o+i) cur t f v hg]
  have ih:=CJ (P:=P) g o t rest (i+1) (cur.setIfInBounds (o+i) v) f (w.setRow g (cur.setIfInBounds (o+i) v)) (setRow_heap w g cur _ t _ hg) (by simpa using hf) (by simp at hl ⊢;omega) (λx hx=>h1 x (by simp[hx]));simp only[storeCells,J5,hst,L6,ih,setRow_setRow];congr 3;have e:=list_seg_step cur.toList (o+i) v rest (by simp at hl ⊢;omega);simpa[mZ,iO]using e
theorem Bf(hi:TiOk P t i)(w:World){c:Array Value}{T:TypeId}{f:Nat×Nat}(hb:w.heap[blk]? =some (.cells c T f))(hf:f=(0,0)\/f=(c.size,c.size+1)){v:Value}
  (hs:v.cells.size=i.size) (ho:off+i.size<=c.size) (h1:∀u∈v.cells.toList,u.oneCell' =true):
  (storeVar t ⟨blk,off,none⟩ v).run P w= .ok () (w.setRow blk (dA off v.cells.toList c.toList).toArray):=by
 have h:=CJ (P:=P) blk off T v.cells.toList 0 c f w hb hf E5 h1;simp only[aH]at h;unfold storeVar;simp[uj hi,hs,h,dA]
variable {v:V}{l:Loc}{obj:Obj}{q:Nat}{ks:c6I}
section
variable {X:Fx} {cl ch:Nat} {S:Sm} {m:Mp} {ok:Nat->Ty->Prop} {a:Act} {w:World} {o:Oper}
theorem Rel.own_cells(R:Rel X cl ch S m ok a w)(h:S (X9+n)= .bcells cs):∃blk arr T,m n=some (.st blk)/\w.heap[blk]? =some (.cells arr T (0,0))/\gB ⟨w.heap,ok,m⟩ cs arr.toList:=by have:=R.box n;rw[h]at this;exact this
theorem Rel.own_arr(R:Rel X cl ch S m ok a w){t:Ty}{xs:List t.den}(h:S (X9+n)= .barr t xs):∃l,m n=some l/\arrOk ⟨w.heap,ok,m⟩ t xs l:=by have:=R.box n;rw[h]at this;exact this
theorem Rel.own_frz(R:Rel X cl ch S m ok a w){t:Ty}{xs:List t.den}(h:S (X9+n)= .bfrz t xs):∃l,m n=some l/\arrOk ⟨w.heap,ok,m⟩ t xs l/\(∀blk,blk∈l.blks->ok blk t):=by have:=R.box n;rw[h]at this;exact this
theorem Rel.own_barrs(R:Rel X cl ch S m ok a w){md:M}{xs:List md.den}{hole:Option (Nat×Nat×Option Nat)}(h:S (X9+n)= .barrs md xs hole):md.el=true/\∃l Os,m n=some l/\a3X ⟨w.heap,ok,m⟩ md xs hole Os l/\m.kid n=Os.flatten:=by have:=R.box n;rw[h]at this;exact this
theorem Rel.own_barrp(R:Rel X cl ch S m ok a w){md:M}{xs:List md.den}{k:Int}{o:Nat}(h:S (X9+n)= .barrp md xs k o):md.el=true/\0<=k/\∃l Os,m n=some l/\vg w.heap md.size (λi x es O=>mM w.heap ok md (wK o k.toNat i) x es O) xs Os l/\m.kid n=Os.flatten:=by have:=R.box n;rw[h]at this;exact this
theorem Rel.own_fc(R:Rel X cl ch S m ok a w){t:Ty}{x:t.den}(h:S (X9+n)= .bfc t x):∃blk es,m n=some (.st blk)/\ok blk t/\bQ w.heap blk 0 t.size=some es/\rep w.heap ok t x es:=by have:=R.box n;rw[h]at this;exact this
theorem Aq:∀(m:M) (x:m.den) (r:List V),JB m x r=JB m x []++r
 | .dat t,x,r=>mQ t x r| .pair a b,x,r=>by simp only[JB];rw[Aq a x.1 (JB b x.2 r),Aq b x.2 r,Aq a x.1 (JB b x.2 [])];simp| .unit,_,_=>rfl| .own _,_,_=>rfl| .owns _,_,_=>rfl| .box _,_,_=>rfl| .ownb _,_,_=>rfl| .rp _,_,_=>rfl| .fn _ _,_,_=>rfl| .ifc _ _,_,_=>rfl| .cell _,_,_=>rfl| .fr _,_,_=>rfl| .sbx _ _,_,_=>rfl| .lp _,_,_=>rfl| .dv ..,_,_=>rfl| .ownr ..,_,_=>rfl| .sit,_,_=>rfl
theorem IW:∀(m:M) (x:m.den),(JB m x []).length=m.size
 | .dat t,x=>oH t x| .pair a b,x=>by simp only[JB,M.size];rw[Aq a,I8,IW a x.1,IW b x.2]| .unit,_=>rfl| .own _,_=>rfl| .owns _,_=>rfl| .box _,_=>rfl| .ownb _,_=>rfl| .rp _,_=>rfl| .fn _ _,_=>rfl| .ifc _ _,_=>rfl| .cell _,_=>rfl| .fr _,_=>rfl| .sbx _ _,_=>rfl| .lp _,_=>rfl| .dv ..,_=>rfl| .ownr ..,_=>rfl| .sit,_=>rfl
theorem mf{cs:c6H}(h:cs.length=1)(h1:∀v∈cs,v.oneCell' =true):gB C [.undef] cs:=by
 match cs,h with
 |[v],_=>exact⟨v,[],rfl,trivial,h1 v D5,rfl⟩
theorem Ou{C:Cx} :∀{m:M} {ho:Option Nat} {x:m.den} {cs:c6H} {O:c6I},mM C.h C.ok m ho x cs O->gB C (JB m x []) cs
 | .dat t,_,_,_,_,h=>sK h.1| .pair a b,_,x,_,_,h=>by obtain⟨c,d,O1,O2,rfl,rfl,h1,h2⟩:=h;simp only[JB];rw[Aq a];exact xO (Ou h1) (Ou h2)
 | .unit,_,_,_,_,h=>by obtain⟨rfl,_⟩:=h;rfl
 | .own _,_,_,_,_,h=>mf (aZ h) (oN h)| .owns _,_,_,_,_,h=>mf (aZ h) (oN h)| .box _,_,_,_,_,h=>mf (aZ h) (oN h)| .ownb _,_,_,_,_,h=>mf (aZ h) (oN h)| .rp _,_,_,_,_,h=>mf (aZ h) (oN h)| .fn _ _,_,_,_,_,h=>mf (aZ h) (oN h)| .ifc _ _,_,_,_,_,h=>mf (aZ h) (oN h)| .cell _,_,_,_,_,h=>mf (aZ h) (oN h)| .fr _,_,_,_,_,h=>mf (aZ h) (oN h)| .sbx _ _,_,_,_,_,h=>mf (aZ h) (oN h)| .lp _,_,_,_,_,h=>mf (aZ h) (oN h)| .dv ..,_,_,_,_,h=>mf (aZ h) (oN h)| .ownr ..,_,_,_,_,h=>mf (aZ h) (oN h)| .sit,_,_,_,_,h=>mf (aZ h) (oN h)
theorem X7{S:Sm}{k:Nat}{c:V->Cmd α}(h:(c (S k)).post S Q):(Cmd.get k c).post S Q:=h
theorem gG{S:Sm}{k:Nat}{c:Cmd α}(h:c.post (upd S k v) Q):(Cmd.set k v c).post S Q:=h
theorem BZ(H:FxOk X)(R:Rel X cl ch S m ok a w){t:Nat}{p:V}{x:Value}(hp:lQ ⟨w.heap,ok,m⟩ p x){K:V->Cmd α}
  (hK:∀v u ad,lQ ⟨w.heap,ok,m⟩ v u->x= .pointer (some ad)->(loadVar t ad).run X.P w= .ok u w->(K v).post S Q):(FZ X.E t p K).post S Q:=by
 unfold FZ;refine jY H λi hi=>?_;cases p<;>try trivial
 case ptr bx off=>
  obtain⟨blk,hm,rfl⟩:=hp;refine X7 ?_;split<;>try trivial
  .rename_i cs hS;obtain⟨blk',arr,T,hm',hh,hl⟩:=R.own_cells hS;simp only at hm;rw[hm]at hm';cases hm';refine yI λhle=>?_;have hlen:=kJ hl;have e:=jA hh off i.size (by simp at hlen;omega);refine hK _ _ _ (CG (uK _ (sJ _ hl)) (λha=>by have:=lU e;rw[hi.one ha]at this;rw[hi.one ha];exact this)) rfl ?_;exact tV hi w e
  .rename_i u y hS;obtain⟨blk',es,hm',hok,he,hr⟩:=R.own_fc hS;simp only at hm;rw[hm]at hm';cases hm';refine yI λhle=>?_;rw[oH]at hle;have e:=qI he off i.size hle;rw[bY]at e;refine hK _ _ _ (CG (uK _ (sJ _ (sK (C:=⟨w.heap,ok,m⟩) hr))) (λha=>by have:=lU e;rw[hi.one ha]at this;rw[hi.one ha];exact this)) rfl ?_;exact tV hi w e
 case ep bx ix off=>
  obtain⟨blk,o',len,cap,sz,hm,hlt,rfl⟩:=hp;refine X7 ?_;have key:∀{u:Ty} {xs:List u.den},arrOk ⟨w.heap,ok,m⟩ u xs (.arr blk o' len cap sz)->(Cmd.opt (aN xs ix) λx=>Rz off i.size (flat u x []) (λr=>K (mkV (jb i.td) r)) Cmd.fail).post S Q:=by intro u xs ha;obtain⟨_,rfl,rfl,h3,c,T,f,hh,hz,hs,hx⟩:=ha;refine dM λy hy=>?_;obtain⟨es,he,hr⟩:=hx ix y hy;refine yI λhle=>?_;rw[oH]at hle;have e:=qI he off i.size hle;refine hK _ _ _ (CG (uK _ (sJ _ (sK (C:=⟨w.heap,ok,m⟩) hr))) (λha=>by have:=lU e;rw[hi.one ha]at this;rw[hi.one ha];exact this)) rfl ?_;exact tV hi w e
  split<;>try trivial
  .rename_i u xs hS;obtain⟨l,hm',ha⟩:=R.own_arr hS;simp only at hm;rw[hm]at hm';cases hm';exact key ha
  .rename_i u xs hS;obtain⟨l,hm',ha,_⟩:=R.own_frz hS;simp only at hm;rw[hm]at hm';cases hm';exact key ha
  .rename_i md xs hole hS;obtain⟨_,l,Os,hm',⟨ha,hho⟩,_⟩:=R.own_barrs hS;simp only at hm;rw[hm]at hm';cases hm';obtain⟨rfl,rfl,h3,h7,c,T,hh,hs,hx⟩:=ha;refine dM λy hy=>?_;obtain⟨es,O,hO,he,hr⟩:=hx ix y hy;refine yI λhle=>?_;rw[IW]at hle;have e:=qI he off i.size hle;refine hK _ _ _ (CG (uK _ (sJ _ (Ou (C:=⟨w.heap,ok,m⟩) hr))) (λha=>by have:=lU e;rw[hi.one ha]at this;rw[hi.one ha];exact this)) rfl ?_;exact tV hi w e
 case dp u y off=>obtain⟨blk,o',es,rfl,hb,he,hr⟩:=hp;refine yI λhle=>?_;rw[oH]at hle;have e:=qI he off i.size hle;refine hK _ _ _ (CG (uK _ (sJ _ (sK (C:=⟨w.heap,ok,m⟩) hr))) (λha=>by have:=lU e;rw[hi.one ha]at this;rw[hi.one ha];exact this)) rfl ?_;exact tV hi w e
theorem yT(h:Array Obj)(o:Obj){b:Nat}(hb:b<h.size):(h.push o)[b]? =h[b]?:=by rw[Array.getElem?_push,if_neg o5]
theorem Rel.new(R:Rel X cl ch S m ok a w)(hn:S (X9+n)= .undef)(hcl:cl<=n)(hch:n<ch)(hv:v≠.undef)
  (hb:U2 (mO m n l ks) n v=[w.heap.size]) (hB:Cm ⟨(w.alloc obj).heap,ok,mO m n l ks⟩ n v):
  Rel X cl ch (upd S (X9+n) v) (mO m n l ks) ok a (w.alloc obj):=by
 refine R.lay hn hcl hch hv rfl rfl rfl D5 (λb hb' _=>yT _ _ hb') (by rw[hb];simp) (λb h=>?_) hB;rw[hb]at h;simp only[lH]at h;subst h;refine⟨λt h' =>rf _ (R.okLt _ t h'),D5,.inl R.frame.size,λk h' =>rf _ (R.sep k _ h').2.1⟩
theorem Rel.newK(R:Rel X cl ch S m ok a w){T:c6I}(hT:Tk X S m ok w T)(hn:S (X9+n)= .undef)(hcl:cl<=n)(hch:n<ch)(hv:v≠.undef)
  (hb:U2 (mO m n l ks) n v=w.heap.size::ks) (hnd:ks.Nodup) (hks:∀b∈ks,b∈T) (hB:Cm ⟨(w.alloc obj).heap,ok,mO m n l ks⟩ n v):
  Rel X cl ch (upd S (X9+n) v) (mO m n l ks) ok a (w.alloc obj):=by
 refine R.lay hn hcl hch hv rfl rfl rfl D5 (λb hb' _=>yT _ _ hb') (by rw[hb];exact X0.2 ⟨λh=>rf _ (hT.free _ (hks _ h)).2.1,hnd⟩) (λb h=>?_) hB;rw[hb]at h;rcases D8.1 h with rfl|h
 .exact⟨λt h' =>rf _ (R.okLt _ t h'),D5,.inl R.frame.size,λk h' =>rf _ (R.sep k _ h').2.1⟩
 .obtain⟨h1,h2,h3,h4⟩:=hT.free b (hks b h);exact⟨h1,by simp;omega,h3,h4⟩
theorem Rel.le_new(R:Rel X cl ch S m ok a w)(hn:S (X9+n)= .undef)(hcl:cl<=n):Cx.le ⟨w.heap,ok,m⟩ ⟨(w.alloc obj).heap,ok,mO m n l ks⟩:=
 ⟨λ_ _ h=>h,λb t hb=>yT _ _ (R.okLt b t hb),λk x h=>by
  by_cases e:k=n
  .subst e;have:=R.fresh k hcl hn;simp only at h;rw[this]at h;cases h
  .show mO m n l ks k=some x;rw[jK _ _ _ e];exact h⟩
theorem qN(H:FxOk X)(d:Option Tmp)(hd:∀t,d=some t->t<X.E.nt):CB*q<=O8 q d/\O8 q d+64<=CB*q+CB:=by
 have:=H.nt;cases d with
 |none=>simp only[O8];show 1000000*q<=1000000*q+999936/\1000000*q+999936+64<=1000000*q+1000000;omega|some t=>simp only[O8];have h2:LT.lt (α:=Nat) t X.E.nt:=hd t rfl;clear hd;generalize X.E.nt=n at*;revert this h2;generalize (t:Nat)=t';intro this h2;show 1000000*q<=1000000*q+64*t' /\1000000*q+64*t' +64<=1000000*q+1000000;omega
theorem Me(H:FxOk X)(R:Rel X (CB*q) (CB*q+CB) S m ok a w){vv:V}{x:Value}(hv:v≠.undef)
  (hb:U2 (mO m (O8 q o.dst) l []) (O8 q o.dst) v=[w.heap.size]) (hB:S (X9+O8 q o.dst)= .undef->CB*q<=O8 q o.dst->Cm ⟨(w.alloc obj).heap,ok,mO m (O8 q o.dst) l []⟩ (O8 q o.dst) v)
  (hx:lQ ⟨(w.alloc obj).heap,ok,mO m (O8 q o.dst) l []⟩ vv x) (run:(execOp a.eval o).run X.P w= .ok (.value x) (w.alloc obj)):
  (vI (O8 q o.dst) v (dY X.E o.dst vv)).post S (λ_ S' =>jO X (CB*q) (CB*q+CB) o a w m ok S'):=by
 refine pI λhn=>?_;cases hd:o.dst with
 |none=>have hin:=qN H (q:=q) none (λt h=>by cases h);rw[hd]at hn hB hb hx;have R' :=R.new hn hin.1 o5 hv hb (hB hn hin.1);have:=wJ (o:=o) H R' (m0:=m) (ok0:=ok) (λk l' h=>(R.le_new (obj:=obj) hn hin.1).m k l' h) (λ_ _ h=>h) hx run;rw[hd]at this;exact this
 |some t=>unfold dY;refine bP λhb' =>?_;have hin:=qN H (q:=q) (some t) (λt' h=>by cases h;exact(zK hb').1);rw[hd]at hn hB hb hx;have R' :=R.new hn hin.1 o5 hv hb (hB hn hin.1);have:=wJ (o:=o) H R' (m0:=m) (ok0:=ok) (λk l' h=>(R.le_new (obj:=obj) hn hin.1).m k l' h) (λ_ _ h=>h) hx run;rw[hd]at this;unfold dY at this;simp only[hb',cond_true]at this;exact this
theorem Ot :∀{cs:List V} {vs:c6H},gB ⟨#[],λ_ _=>False,nom⟩ cs vs->gB C cs vs:=by intro cs vs h;exact Gj (C:=⟨#[],λ_ _=>False,nom⟩) ⟨λ_ _ h=>h.elim,λ_ _ h=>h.elim,λ_ _ h=>by cases h⟩ h
theorem a7R(H:FxOk X)(R:Rel X (CB*q) (CB*q+CB) S m ok a w)(ho:o.op= .alloc t):(dJ X.E q o).post S (λ_ S' =>jO X (CB*q) (CB*q+CB) o a w m ok S'):=by
 unfold dJ;simp only[ho];refine jY H λi hi=>bP λhz=>?_;obtain⟨inf,h1,h2,h3,h4,h5⟩:=hi.info;obtain⟨z,hz1,hz2⟩:=h4 (eU hz);have hex:(execOp a.eval o).run X.P w= .ok (.value (.pointer (some ⟨w.heap.size,0,none⟩))) (w.alloc (.cells z.cells t)):=by simp[execOp,ho,Instr.alloc,zeroValue,typeInfo,h1,hz1,newVar,newRow]
 unfold b7L;split
 .rename_i hz0;rw[hz0]at hz2;obtain⟨a0,r1,e1,g1,_,v0,r2,rfl,g2,_,g3⟩:=hz2;simp only[gB]at g3;subst g3;refine Me (l:=.st w.heap.size) (obj:=.cells z.cells t) H R D5 (by simp[U2]) (λhn hc=>?_) ⟨w.heap.size,D5,rfl⟩ hex;refine⟨w.heap.size,a0,v0,D5,?_,.inl g1,g2⟩;have:=heap_alloc_new w (.cells z.cells t);rw[show z.cells=#[a0,v0]from Array.toList_inj.1 e1]at this ⊢;exact this
 .refine Me (l:=.st w.heap.size) (obj:=.cells z.cells t) H R D5 (by simp[U2]) (λhn hc=>?_) ⟨w.heap.size,D5,rfl⟩ hex;exact⟨w.heap.size,z.cells,t,D5,heap_alloc_new w _,Ot hz2⟩
theorem b4B(H:FxOk X)(R:Rel X (CB*q) (CB*q+CB) S m ok a w){x:Operand}(ho:o.op= .box t x):(dJ X.E q o).post S (λ_ S' =>jO X (CB*q) (CB*q+CB) o a w m ok S'):=by
 unfold dJ;simp only[ho];refine dh R λu hu=>uT hu λcs hcs=>?_;refine Me (l:=.st w.heap.size) (obj:=.cells (a.eval x).cells t) H R D5 (by simp[U2]) (λhn hc=>?_) ⟨w.heap.size,D5,rfl⟩ ?_
 .exact⟨w.heap.size,(a.eval x).cells,t,D5,heap_alloc_new w _,Gj (R.le_new hn hc) hcs⟩
 .simp[execOp,ho,Instr.box,newVar,newRow]
end
end Go.GP
