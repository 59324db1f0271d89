import Derived.ProofKit
import Derived.Below
import Derived.Defers
import Derived.Laws.CopyRow
import Derived.Laws.BytesArg
import Derived.Laws.Cells
import Derived.Laws.Append
import Derived.Laws.Strings
import Derived.Lib.SmallJoins
set_option linter.all false
namespace Go.GP
abbrev c5v:Type:=List UInt8
abbrev c5w:Type:=List Int
abbrev c5x:Type:=List Value
abbrev c5y:Type:=List Nat
abbrev c5z:Type:=Option Bool
abbrev c5A:Type:=Option Int
variable {p:Prop}
theorem l9(h:p:=by omega):p:=h
theorem x8(h:p:=by simp):p:=h
theorem C9(h:p:=by decide):p:=h
theorem H7(h:p:=by simp;omega):p:=h
theorem J3:True:=trivial
def aO:=@List.take_succ_eq_append_getElem
def ik:=@List.take_append_of_le_length
def Y2:=@Array.getD_eq_getD_getElem?
def F7:=@List.getElem?_append_right
def mg:=@Array.getElem?_append_left
def N7:=@Array.getElem?_eq_some_iff
def ja:=@List.isPrefixOf_iff_prefix
def Z7:=@List.getElem?_append_left
def jo:=@List.drop_eq_getElem_cons
def mX:=@Classical.byContradiction
def X4:=@Array.getElem?_eq_getElem
def jM:=@List.getElem?_take_of_lt
def aA:=@List.getElem?_cons_zero
def aZ:=@List.length_eq_zero_iff
def kJ:=@List.getElem?_cons_succ
def kH:=@List.flatMap_eq_nil_iff
def dG:=@List.drop_eq_nil_of_le
def aH:=@List.take_of_length_le
def kX:=@MapKept.run_setObj_map
def iO:=@List.range_succ_eq_map
def wC:=@Option.map_eq_some_iff
def DT:=@Nat.eq_of_beq_eq_true
def gy:=@List.mem_append_right
def wR:=@List.Perm.append_left
def lI:=@List.perm_append_comm
def gB:=@List.take_append_drop
def S9:=@Nat.le_of_ble_eq_true
def lJ:=@Nat.ble_eq_true_of_le
def gu:=@Array.getElem?_toList
def qE:=@Array.getElem?_modify
def wS:=@List.length_filter_le
def lH:=@List.length_singleton
def U8:=@List.mem_append_left
def U9:=@List.mem_cons_of_mem
def F8:=@Nat.mul_le_mul_right
def qQ:=@List.replicate_succ'
def jE:=@List.mem_of_mem_take
def qR:=@MapKept.run_checkKey
def qP:=@List.range_eq_range'
def mF:=@List.mem_iff_getElem
def Z9:=@Bool.or_eq_false_iff
def P7:=@Array.length_toList
def jY:=@List.replicate_succ
def nO:=@List.flatten_append
def bP:=@List.getElem_of_mem
def nP:=@List.map_congr_left
def fM:=@Int.toNat_of_nonneg
def A7:=@List.length_append
def gz:=@List.mem_cons_self
def kR:=@List.getElem?_take
def dW:=@List.getElem?_drop
def oz:=@Bool.false_eq_true
def iW:=@Nat.eq_zero_or_pos
def iV:=@List.zip_cons_cons
def gG:=@Nat.lt_of_lt_of_le
def V8:=@List.pairwise_cons
def V7:=@List.mem_singleton
def P5:=@List.nodup_append
def E8:=@List.append_assoc
def L8:=@Result.andThen_ok
def aS:=@List.ext_getElem?
def fC:=@Bool.not_eq_true'
def lF:=@List.getElem?_set
def jr:=@List.size_toArray
def G6:=@Option.some.injEq
def jq:=@List.reverse_cons
def lG:=@List.length_range
def zG:=@List.getElem?_map
def I9:=@Int.toNat_natCast
def bM:=@List.any_eq_false
def uJ:=@List.foldl_append
def dH:=@List.flatMap_cons
def pG:=@List.take_add_one
def X7:=@List.mem_flatten
def D5:=@Bool.and_eq_true
def G9:=@List.cons_append
def A8:=@List.length_cons
def mM:=@List.length_drop
def jV:=@List.ext_getElem
def mO:=@List.range'_succ
def iL:=@List.take_length
def ax:=@List.all_eq_true
def aK:=@List.getElem_mem
def mP:=@Option.bind_some
def X8:=@Option.getD_some
def bu:=@Nat.le_add_right
def fV:=@List.length_take
def Aj:=@List.drop_length
def vX:=@List.any_eq_true
def qL:=@List.filter_cons
def jW:=@List.mem_flatMap
def J5:=@List.not_mem_nil
def F9:=@List.mem_append
def E9:=@List.append_nil
def bT:=@Nat.le_max_left
def G8:=@List.nil_append
def H8:=@List.cons.injEq
def kS:=@Oper.upon_value
def F6:=@List.length_nil
def Y9:=@List.nodup_cons
def BG:=@Nat.max_eq_left
def fE:=@Option.some.inj
def rF:=@List.map_append
def jd:=@List.length_map
def ah:=@Option.map_some
def BF:=@List.range_succ
def rE:=@Bool.or_eq_true
def aF:=@List.foldl_cons
def LD:=@List.drop_take
def lX:=@List.drop_drop
def dD:=@List.nodup_nil
def Y6:=@List.drop_left
def iI:=@List.drop_zero
def bJ:=@List.take_left
def D7:=@List.mem_cons
def uK:=@Nat.add_assoc
def Y8:=@List.cons.inj
def qG:=@Nat.lt_irrefl
def mZ:=@Prod.mk.injEq
def aB:=@List.map_cons
def qF:=@Bool.not_true
def V9:=@Nat.le_trans
def aT:=@Nat.sub_self
def jQ:=@Sem.run_pure
def J9:=@Sem.run_bind
def jL:=@Addr.add_lit
def jO:=@Nat.add_zero
def bC:=@Nat.zero_add
def P9:=@List.mem_map
def rH:=@List.map_map
def jP:=@Nat.lt_or_ge
def E5:=@Nat.le_refl
def V4:=@Nat.add_mul
def xy:=@Int.le_refl
def iF:=@Nat.zero_le
def eQ:=@Nat.le_succ
def mY:=@Nat.mul_one
def bK:=@Nat.blt_eq
def uY:=@Int.not_le
def xU:=@Prod.ext
variable {i:Nat}
theorem aJ{α:Type _}{l:List α}{a:α} :l[i]? =some a↔∃h:i<l.length,l[i]=a:=List.getElem?_eq_some_iff
theorem qC{α:Type _}{l:List α}(h:i<l.length):l[i]? =some l[i]:=List.getElem?_eq_getElem h
theorem fZ{n m:Nat}(h:Nat.beq n m=true):n=m:=DT h
theorem rD{α:Type _}{l:List α}{a:α}(h:l[i]? =some a):a∈l:=List.mem_of_getElem? h
theorem ZC{α:Type _}{l:List α}{a:α} :l.getD i a=l[i]?.getD a:=List.getD_eq_getElem?_getD
universe u
set_option linter.unusedVariables false
inductive Ty where
 |bool|int (k:IntKind)|str|sl (t:Ty)|prod (a b:Ty)|unit|ent (ka va:Bool) (k v:Ty)|any (o:Option IntKind)|ifv
def tbb(a b:Bool):Bool:=bif a then b else !b
theorem a4q:∀{a b:Bool},tbb a b=true->a=b:=by decide
theorem a2d:∀(a:Bool),tbb a a=true:=by decide
def Ty.beq:Ty->Ty->Bool
 | .bool,b=>match b with| .bool=>true|_=>false
 | .int k,b=>match b with| .int k' =>decide (k=k')|_=>false
 | .str,b=>match b with| .str=>true|_=>false
 | .sl t,b=>match b with| .sl u=>Ty.beq t u|_=>false
 | .prod p q,b=>match b with| .prod p' q' =>bif Ty.beq p p' then Ty.beq q q' else false|_=>false
 | .unit,b=>match b with| .unit=>true|_=>false
 | .any o,b=>match b with| .any o' =>decide (o=o')|_=>false
 | .ifv,b=>match b with| .ifv=>true|_=>false
 | .ent x y p q,b=>match b with| .ent x' y' p' q' =>bif tbb x x' &&tbb y y' then(bif Ty.beq p p' then Ty.beq q q' else false)else false|_=>false
theorem Ty.beq_eq:∀{a b:Ty},Ty.beq a b=true->a=b
 | .bool,b,h=>by cases b<;>first|rfl|cases h
 | .int k,b,h=>by cases b<;>first|(cases h;done)|(rename_i k';have:=of_decide_eq_true (show decide (k=k')=true from h);subst this;rfl)
 | .str,b,h=>by cases b<;>first|rfl|cases h
 | .sl t,b,h=>by cases b<;>first|(cases h;done)|(rename_i u;have:=Ty.beq_eq (show Ty.beq t u=true from h);subst this;rfl)
 | .prod p q,b,h=>by
  cases b<;>try (cases h;done)
  rename_i p' q';cases hp:Ty.beq p p'
  .have h' :(bif Ty.beq p p' then Ty.beq q q' else false)=true:=h;rw[hp]at h';cases h'
  .have h' :(bif Ty.beq p p' then Ty.beq q q' else false)=true:=h;rw[hp]at h';rw[Ty.beq_eq hp,Ty.beq_eq (show Ty.beq q q' =true from h')]
 | .unit,b,h=>by cases b<;>first|rfl|cases h
 | .ifv,b,h=>by cases b<;>first|rfl|cases h
 | .any o,b,h=>by cases b<;>first|(cases h;done)|(rename_i o';have:=of_decide_eq_true (show decide (o=o')=true from h);subst this;rfl)
 | .ent x y p q,b,h=>by
  cases b<;>try (cases h;done)
  rename_i x' y' p' q';have h0:(bif tbb x x' &&tbb y y' then(bif Ty.beq p p' then Ty.beq q q' else false)else false)=true:=h;cases hx:tbb x x'<;>cases hy:tbb y y'<;>rw[hx,hy]at h0<;>try (cases h0;done)
  cases hp:Ty.beq p p'<;>rw[hp]at h0
  .cases h0
  .rw[a4q hx,a4q hy,Ty.beq_eq hp,Ty.beq_eq (show Ty.beq q q' =true from h0)]
theorem Ty.beq_refl:∀(a:Ty),Ty.beq a a=true
 | .bool=>rfl| .int k=>by show decide (k=k)=true;simp| .str=>rfl| .sl t=>Ty.beq_refl t| .prod p q=>by show(bif Ty.beq p p then Ty.beq q q else false)=true;rw[Ty.beq_refl p,Ty.beq_refl q];rfl| .unit=>rfl| .ifv=>rfl| .any o=>by show decide (o=o)=true;simp| .ent x y p q=>by show(bif tbb x x&&tbb y y then(bif Ty.beq p p then Ty.beq q q else false)else false)=true;rw[a2d,a2d,Ty.beq_refl p,Ty.beq_refl q];rfl
instance:DecidableEq Ty:=λa b=>match h:Ty.beq a b with
 |true=> .isTrue (Ty.beq_eq h)|false=> .isFalse (λe=>by subst e;rw[Ty.beq_refl]at h;cases h)
@[reducible] def Ty.den:Ty->Type
 | .bool=>Bool| .int _=>Int| .str=>c5v| .sl t=>List t.den| .prod a b=>a.den×b.den| .unit=>Unit| .any _=>Unit| .ifv=>Option (Nat×(c5v⊕(IntKind×Int)))| .ent _ _ a b=>a.den×b.den
def Ty.isEnt:Ty->Bool| .ent ..=>true|_=>false
def Ty.size:Ty->Nat
 | .bool| .int _| .str| .sl _=>1| .prod a b=>a.size+b.size| .unit=>0| .any _=>1| .ifv=>1| .ent _ _ a b=>a.size+b.size
def Ty.flat:Ty->Bool
 | .bool| .int _| .str| .unit=>true| .sl _=>false| .prod a b=>a.flat&&b.flat
 | .ent ..=>false| .any _=>false| .ifv=>false
def Ty.zero:(t:Ty)->t.den
 | .bool=>false| .int _=>(0:Int)| .str=>[]| .sl _=>[]| .prod a b=>(a.zero,b.zero)| .unit=>()| .any _=>()| .ifv=>none| .ent _ _ a b=>(a.zero,b.zero)
inductive M where
 |dat (t:Ty)|own (t:Ty)|pair (a b:M)|unit|box (m:M)
 |owns (el:M)|ownb (t:Ty)|rp (t:Ty)|fn (f:Nat) (ts:List Ty)|ifc (t:Nat) (m:M)|cell (n:Option c5z)|fr (t:Ty)|mbx (t:Ty) (tb te o:Nat)|sit|lp (t:Ty)|dv (k off sz fo:Nat)|ownr (m:M) (o:Nat)
def M.beq:M->M->Bool
 | .dat t,b=>match b with| .dat u=>Ty.beq t u|_=>false
 | .own t,b=>match b with| .own u=>Ty.beq t u|_=>false
 | .pair p q,b=>match b with| .pair p' q' =>bif M.beq p p' then M.beq q q' else false|_=>false
 | .unit,b=>match b with| .unit=>true|_=>false
 | .owns m,b=>match b with| .owns m' =>M.beq m m'|_=>false
 |_,_=>false
theorem M.beq_eq:∀{a b:M},M.beq a b=true->a=b
 | .dat t,b,h=>by cases b<;>first|(cases h;done)|(rename_i u;have:=Ty.beq_eq (show Ty.beq t u=true from h);subst this;rfl)
 | .own t,b,h=>by cases b<;>first|(cases h;done)|(rename_i u;have:=Ty.beq_eq (show Ty.beq t u=true from h);subst this;rfl)
 | .pair p q,b,h=>by
  cases b<;>try (cases h;done)
  rename_i p' q';cases hp:M.beq p p'
  .have h' :(bif M.beq p p' then M.beq q q' else false)=true:=h;rw[hp]at h';cases h'
  .have h' :(bif M.beq p p' then M.beq q q' else false)=true:=h;rw[hp]at h';rw[M.beq_eq hp,M.beq_eq (show M.beq q q' =true from h')]
 | .unit,b,h=>by cases b<;>first|rfl|cases h
 | .owns m,b,h=>by cases b<;>first|(cases h;done)|(rename_i u;have:=M.beq_eq (show M.beq m u=true from h);subst this;rfl)
 | .box _,b,h=>by cases h| .ownb _,b,h=>by cases h| .rp _,b,h=>by cases h| .fn _ _,b,h=>by cases h| .ifc _ _,b,h=>by cases h| .cell _,b,h=>by cases h| .fr _,b,h=>by cases h| .mbx ..,b,h=>by cases h| .lp _,b,h=>by cases h| .dv ..,b,h=>by cases h| .sit,b,h=>by cases h| .ownr ..,b,h=>by cases h
@[reducible] def Rf:List Ty->Type
 |[]=>Unit|[t]=>t.den|t::t' ::r=>t.den×Rf (t' ::r)
@[reducible] def mbD:Ty->Type
 | .unit=>c5v| .bool=>Ty.bool.den×c5v| .int k=>(Ty.int k).den×c5v| .str=>Ty.str.den×c5v| .sl t=>(Ty.sl t).den×c5v| .prod a b=>(Ty.prod a b).den×c5v| .ent x y a b=>(Ty.ent x y a b).den×c5v| .any o=>(Ty.any o).den×c5v| .ifv=>Ty.ifv.den×c5v
def mbT:(t:Ty)->mbD t->c5v
 | .unit,x=>x| .bool,x| .int _,x| .str,x| .sl _,x| .prod _ _,x| .ent _ _ _ _,x| .any _,x| .ifv,x=>x.2
def mbX:(t:Ty)->mbD t->t.den
 | .unit,_=>()| .bool,x| .int _,x| .str,x| .sl _,x| .prod _ _,x| .ent _ _ _ _,x| .any _,x| .ifv,x=>x.1
def mbM:(t:Ty)->t.den->c5v->mbD t
 | .unit,_,y=>y| .bool,x,y| .int _,x,y| .str,x,y| .sl _,x,y| .prod _ _,x,y| .ent _ _ _ _,x,y| .any _,x,y| .ifv,x,y=>(x,y)
theorem a9h(t:Ty)(x:t.den)(y:c5v):mbT t (mbM t x y)=y:=by cases t<;>rfl
theorem a9i(t:Ty)(x:t.den)(y:c5v):mbX t (mbM t x y)=x:=by cases t<;>rfl
@[reducible] def M.den:M->Type
 | .dat t=>t.den| .own t=>List t.den| .pair a b=>a.den×b.den| .unit=>Unit| .box m=>m.den| .owns el=>List el.den| .ownb t=>List t.den| .rp t=>t.den| .fn _ ts=>Rf ts| .ifc _ m=>m.den| .cell _=>Unit| .fr t=>List t.den| .mbx t _ _ _=>mbD t| .sit=>c5v×Int| .lp t=>t.den| .dv ..=>Unit| .ownr m _=>List m.den×Int
def M.size:M->Nat
 | .dat t=>t.size| .own _=>1| .pair a b=>a.size+b.size| .unit=>0| .box _=>1| .owns _| .ownb _| .rp _| .fn _ _| .ifc _ _| .cell _| .fr _| .mbx ..| .sit| .lp _| .dv ..| .ownr ..=>1
def M.el:M->Bool
 | .unit=>true| .dat t| .own t=> !t.isEnt| .owns m=>m.el| .pair a b=>a.el&&b.el|_=>false
def M.ty:M->Ty
 | .dat t=>t| .own t=> .sl t| .owns m=> .sl m.ty| .pair a b=> .prod a.ty b.ty|_=> .unit
theorem M.denEq:∀(m:M),m.el=true->m.den=m.ty.den
 | .dat _,_=>rfl| .own _,_=>rfl| .unit,_=>rfl| .owns m,h=>congrArg List (M.denEq m h)| .pair a b,h=>by
  have h' :a.el=true/\b.el=true:=by simpa[M.el]using h
  show(a.den×b.den)=(a.ty.den×b.ty.den);rw[M.denEq a h'.1,M.denEq b h'.2]
 | .box _,h=>by simp[M.el]at h| .ownb _,h=>by simp[M.el]at h| .rp _,h=>by simp[M.el]at h| .fn _ _,h=>by simp[M.el]at h| .ifc _ _,h=>by simp[M.el]at h| .cell _,h=>by simp[M.el]at h| .fr _,h=>by simp[M.el]at h| .mbx ..,h=>by simp[M.el]at h| .lp _,h=>by simp[M.el]at h| .dv ..,h=>by simp[M.el]at h| .sit,h=>by simp[M.el]at h| .ownr ..,h=>by simp[M.el]at h
def M.zero:(m:M)->m.el=true->m.den
 |m,h=>cast (M.denEq m h).symm m.ty.zero
abbrev MG:=Bool×M
@[reducible] def Y3:List MG->Type
 |[]=>Unit|[m]=>m.2.den|m::m' ::r=>m.2.den×Y3 (m' ::r)
inductive V where
 |undef
 |un
 |b (x:Bool)|i (k:IntKind) (n:Int)|s (l:c5v)
 |nl
 |sl (t:Ty) (xs:List t.den)
 |own (bx:Nat) (vw:Option (Nat×Nat))
 |ptr (bx off:Nat)
 |ep (bx idx off:Nat)
 |dp (t:Ty) (x:t.den) (off:Nat)
 |agg (cs:List V)|tup (cs:List V)
 |glob (g:Nat)|fnv (f:Nat)|idl (f n:Nat)|clos (f:Nat) (caps:List ((t:Ty)×t.den))|ifc (t:Nat) (v:V)
 |bcells (cs:List V)|barr (t:Ty) (xs:List t.den)|bfrz (t:Ty) (xs:List t.den)|biter (l:c5v) (pos:Int)
 |barrs (el:M) (xs:List el.den) (hole:Option (Nat×Nat×Option Nat))|bfc (t:Ty) (x:t.den)
 |barrp (el:M) (xs:List el.den) (n:Int) (o:Nat)
 |dead|gone (t:Ty)|blen (n:Int) (sz:Nat)
 |ne (b:Bool)
 |npt|ifd (x:Ty.ifv.den)|bsb (tb:Nat) (cs:List V) (c:V)|brow (te:Nat) (xs:c5v)
variable {α:Type}{β:Type}
def o5(o:Option α)(f:α->Option β):Option β:=match o with|some x=>f x|none=>none
def l7(b:Bool)(x y:α):α:=match b with|true=>x|false=>y
def J4(a b:Int):Bool:=decide (a<b)
def U7(a b:Int):Bool:=decide (a<=b)
def D8(a b:Int):Bool:=decide (a=b)
def WZ(a b:Bool):Bool:=a==b
def I5(a:Bool):Bool:=!a
def qM(a b:Bool):Bool:=a&&b
def seq(a b:c5v):Bool:=decide (a=b)
def slt(a b:c5v):Bool:=Op.bytesLess a b
def wrap(k:IntKind)(n:Int):Int:=k.wrap n
def I8(k:IntKind)(a b:Int):Int:=k.wrap (a+b)
def L6(k:IntKind)(a b:Int):Int:=k.wrap (a -b)
def Qw(k:IntKind)(a b:Int):Int:=k.wrap (a*b)
def dh(k:IntKind)(a b:Int):Int:=k.wrap (a.tdiv b)
def iE(a b:Int):Int:=a.tmod b
def b4P(k:IntKind)(a b:Int):c5A:=if b=0 then none else some (k.wrap (a.tdiv b))
def b4Q(a b:Int):c5A:=if b=0 then none else some (a.tmod b)
def b9I(k:IntKind)(a b:Int):Int:=k.wrap (BitVec.ofInt k.bits a&&& BitVec.ofInt k.bits b).toNat
def ior(k:IntKind)(a b:Int):Int:=k.wrap (BitVec.ofInt k.bits a ||| BitVec.ofInt k.bits b).toNat
def b2P(k:IntKind)(a b:Int):Int:=k.wrap (BitVec.ofInt k.bits a^^^BitVec.ofInt k.bits b).toNat
def a5f(k:IntKind)(a b:Int):Int:=k.wrap (BitVec.ofInt k.bits a&&& ~~~(BitVec.ofInt k.bits b)).toNat
def b2K(k:IntKind)(a b:Int):Int:=k.wrap (a*2^(min b.toNat k.bits))
def b2L(k:IntKind)(a b:Int):Int:=a.fdiv (2^(min b.toNat k.bits))
def b4R(k:IntKind)(a b:Int):c5A:=if b<0 then none else some (b2K k a b)
def b4S(k:IntKind)(a b:Int):c5A:=if b<0 then none else some (b2L k a b)
def IR(a b:Int):Int:=if b<a then b else a
def Fh(a b:Int):Int:=if a<b then b else a
def x9(l:List α):Int:=l.length
def ak(a b:c5v):Option c5v:=if a.length+b.length<=4611686018427387904 then some (a++b)else none
def Ht(a b:Nat):Bool:=Nat.beq a b
def inb(i n:Int):Bool:=decide (0<=i/\i<n)
def P8(l:List α)(i:Int):Option α:=if 0<=i then l[i.toNat]? else none
def sJ(l:c5v)(p:Int):Int:=((Utf8.decode ⟨l.toArray⟩ p.toNat).1:Int)
def ui(l:c5v)(p:Int):Int:=p+((Utf8.decode ⟨l.toArray⟩ p.toNat).2:Int)
def sat(l:c5v)(i:Int):c5A:=if 0<=i then(l[i.toNat]?).map (λc=>(c.toNat:Int))else none
def jg(l:List α)(i:Nat):Option α:=l[i]?
def mQ(l:List α)(i:Nat)(x:α):List α:=l.set i x
def dM(l:List α)(lo hi:Int):Option (List α):=if 0<=lo/\lo<=hi/\hi<=l.length then some ((l.take hi.toNat).drop lo.toNat)else none
def lq(l:List α)(lo hi:Nat):List α:=(l.take hi).drop lo
def nK(lo hi n:Int):Bool:=decide (0<=lo/\lo<=hi/\hi<=n)
def iy(xs ys:List α):Option (List α):=if xs.length+ys.length<=1073741824 then some (xs++ys)else none
def Ny(n:Int)(x:α):Option (List α):=if 0<=n/\n<=1073741824 then some (List.replicate n.toNat x)else none
def dV(i:Int):Nat:=i.toNat
def Vm(i:Int):Int:=i+1
def b4r(n:Int):UInt8:=UInt8.ofNat n.toNat
def a8m(l:c5w):c5v:=l.map b4r
def ZG(l:c5v):c5w:=l.map λc=>(c.toNat:Int)
def JG{α β:Type}(eq:α->α->Bool):List (α×β)->α->β->β
 |[],_,z=>z|p::r,k,z=>bif eq k p.1 then p.2 else JG eq r k z
def JH{α β:Type}(eq:α->α->Bool):List (α×β)->α->Bool
 |[],_=>false|p::r,k=>bif eq k p.1 then true else JH eq r k
def Md{α β:Type}(eq:α->α->Bool):List (α×β)->α->β->List (α×β)
 |[],k,x=>[(k,x)]|p::r,k,x=>bif eq k p.1 then(k,x)::r else p::Md eq r k x
def a5r{α β:Type}(eq:α->α->Bool):List (α×β)->α->List (α×β)
 |[],_=>[]|p::r,k=>bif eq k p.1 then r else p::a5r eq r k
def Xl(eq:α->α->Bool)(l:List (α×β))(k:α)(z:β):β:=JG eq l k z
def OL(eq:α->α->Bool)(l:List (α×β))(k:α):Bool:=JH eq l k
def VG(eq:α->α->Bool)(l:List (α×β))(k:α)(x:β):List (α×β):=Md eq l k x
def a3j(eq:α->α->Bool)(l:List (α×β))(k:α):List (α×β):=a5r eq l k
def keq:(t:Ty)->t.den->t.den->Bool
 | .bool=>λa b=>WZ a b
 | .int _=>λa b=>D8 a b
 | .str=>λa b=>seq a b
 | .prod p q=>λa b=>qM (keq p a.1 b.1) (keq q a.2 b.2)
 |_=>λ_ _=>true
def b2v{α:Type}(eq:α->α->Bool):List α->List α->Bool
 |[],[]=>true|a::r,b::q=>eq a b&&b2v eq r q|_,_=>false
def UI:(t:Ty)->t.den->t.den->Bool
 | .bool=>λa b=>tbb a b
 | .int _=>λa b=>decide (a=b)
 | .str=>λa b=>decide (a=b)
 | .sl t=>λa b=>b2v (UI t) a b
 | .prod p q=>λa b=>UI p a.1 b.1&&UI q a.2 b.2
 | .unit=>λ_ _=>true
 | .any _=>λ_ _=>true
 | .ifv=>λ_ _=>false
 | .ent _ _ p q=>λa b=>UI p a.1 b.1&&UI q a.2 b.2
def deq(t:Ty)(a b:t.den):Bool:=UI t a b
def ifS(t:Nat)(x:Ty.ifv.den):Option (Bool×c5v):=match x with|some (t',.inl s)=>bif Nat.beq t' t then some (true,s)else some (false,[])|some (t',.inr _)=>bif Nat.beq t' t then none else some (false,[])|none=>some (false,[])
def ifI(t:Nat)(k:IntKind)(x:Ty.ifv.den):Option (Bool×Int):=match x with|some (t',.inr (k',n))=>bif Nat.beq t' t then(bif decide (k' =k)then some (true,n)else none)else some (false,0)|some (t',.inl _)=>bif Nat.beq t' t then none else some (false,0)|none=>some (false,0)
inductive Out (σ ε ρ:Type) where
 |nx (s:σ)|ex (e:ε)|rt (r:ρ)
variable {σ:Type}{ε:Type}
def dU(o:σ⊕ε)(f:σ->α)(g:ε->α):α:=match o with| .inl s=>f s| .inr e=>g e
def fQ{σ ε ρ:Type}(f:σ->Option (Out σ ε ρ)):Nat->σ->Option (ε⊕ρ)
 |0,_=>none
 |n+1,s=>match f s with
  |some (.nx s')=>fQ f n s'|some (.ex e)=>some (.inl e)|some (.rt r)=>some (.inr r)|none=>none
def wW{σ ε:Type}(f:σ->Option (σ⊕ε)):Nat->σ->Option ε
 |0,_=>none
 |n+1,s=>match f s with
  |some (.inl s')=>wW f n s'|some (.inr e)=>some e|none=>none
def au:Nat:=18446744073709551616
variable {ρ:Type}
def X5(f:σ->Option (Out σ ε ρ))(s:σ):Option (ε⊕ρ):=fQ f au s
def fF(f:σ->Option (σ⊕ε))(s:σ):Option ε:=wW f au s
inductive Cmd (α:Type):Type 1 where
 |ret (x:α)
 |fail
 |get (k:Nat) (c:V->Cmd α)
 |set (k:Nat) (v:V) (c:Cmd α)
 |opt {β:Type} (o:Option β) (c:β->Cmd α)
 |br (b:Bool) (c d:Cmd α)
inductive Ent where
 |kv (k:Nat) (v:V)|mask (lo hi:Nat)
abbrev St:=List Ent
def aI:St->Nat->V
 |[],_=> .undef| .kv k v::r,n=>bif Nat.beq k n then v else aI r n| .mask lo hi::r,n=>bif Nat.ble lo n&&Nat.blt n hi then .undef else aI r n
abbrev Tr:=c5y×c5y
variable {R:Type}
def V.force(v:V)(K:V->R):R:=
 match v with
 | .undef=>K .undef| .un=>K .un| .b x=>K (.b x)
 | .i k n=>match k with
  | .i8=>K (.i .i8 n)| .i16=>K (.i .i16 n)| .i32=>K (.i .i32 n)| .i64=>K (.i .i64 n)| .u8=>K (.i .u8 n)| .u16=>K (.i .u16 n)| .u32=>K (.i .u32 n)| .u64=>K (.i .u64 n)
 | .s l=>K (.s l)| .nl=>K .nl| .ne z=>K (.ne z)| .sl t xs=>K (.sl t xs)
 | .own bx vw=>match vw with|none=>K (.own bx none)|some p=>K (.own bx (some p))
 | .ptr bx off=>K (.ptr bx off)| .ep bx idx off=>K (.ep bx idx off)| .dp t x off=>K (.dp t x off)| .agg cs=>K (.agg cs)| .tup cs=>K (.tup cs)| .glob g=>K (.glob g)| .fnv f=>K (.fnv f)| .idl f n=>K (.idl f n)| .clos f bs=>K (.clos f bs)
 | .ifc t v=>v.force λv=>K (.ifc t v)
 | .barrs t xs h=>match h with|none=>K (.barrs t xs none)|some (p1,p2,p3)=>match p3 with|none=>K (.barrs t xs (some (p1,p2,none)))|some p3=>K (.barrs t xs (some (p1,p2,some p3)))
 | .bfc t x=>K (.bfc t x)| .barrp m xs n o=>K (.barrp m xs n o)| .bcells cs=>K (.bcells cs)| .barr t xs=>K (.barr t xs)| .bfrz t xs=>K (.bfrz t xs)| .biter l p=>K (.biter l p)| .dead=>K .dead| .gone t=>K (.gone t)| .blen n sz=>K (.blen n sz)| .npt=>K .npt| .ifd x=>K (.ifd x)
 | .bsb tb cs c=>c.force λc=>K (.bsb tb cs c)| .brow te xs=>K (.brow te xs)
def Nc{R:Type} :List V->(List V->R)->R
 |[],K=>K []
 |v::r,K=>v.force λv' =>Nc r λr' =>K (v' ::r')
def V.force2(v:V)(K:V->R):R:=
 v.force λv=>match v with
  | .agg cs=>Nc cs λcs=>K (.agg cs)
  | .bcells cs=>Nc cs λcs=>K (.bcells cs)
  | .bsb tb cs c=>Nc cs λcs=>c.force λc=>K (.bsb tb cs c)
  | .tup cs=>Nc cs λcs=>K (.tup cs)|v=>K v
def Cmd.runK :Cmd α->St->Tr->(α->St->Tr->Option R)->Option R
 | .ret x,s,t,K=>K x s t| .fail,_,_,_=>none
 | .get k c,s,t,K=>(aI s k).force λv=>(c v).runK s (k::t.1,t.2) K
 | .set k v c,s,t,K=>v.force2 λv=>c.runK (.kv k v::s) (t.1,k::t.2) K
 | .opt o c,s,t,K=>o5 o λx=>(c x).runK s t K| .br b c d,s,t,K=>l7 b (c.runK s t K) (d.runK s t K)
def Cmd.bind :Cmd α->(α->Cmd β)->Cmd β
 | .ret x,f=>f x| .fail,_=> .fail
 | .get k c,f=> .get k λv=>(c v).bind f| .set k v c,f=> .set k v (c.bind f)
 | .opt o c,f=> .opt o λx=>(c x).bind f| .br b c d,f=> .br b (c.bind f) (d.bind f)
inductive TD where
 |bool|int (k:IntKind)|str
 |sl (elem:Nat)|ptr (elem:Nat)
 |struct (fs:List (Nat×Nat))
 |arr (n elem:Nat)
 |map (key elem:Nat)
 |other
structure TI where
 size:Nat
 bytes:Nat
 td:TD
 ty:Option Ty
 zero:List V
def bZ{α:Type} :List (Nat×α)->Nat->Option α
 |[],_=>none|(k,v)::r,n=>bif Nat.beq k n then some v else bZ r n
structure FSpec where
 ps:List MG
 rs:List MG
 outs:List MG
 fn:Y3 ps->Option (Y3 (rs++outs))
structure Env where
 nt:Nat
 eqs:List (Nat×List Ty)
 tt:List (Nat×TI)
 gl:List (Nat×(t:Ty)×List t.den)
 fs:List (Nat×FSpec)
 om:List (Nat×M):=[]
 tk:c5y:=[]
 ms:List ((Nat×String)×Nat×Option Nat):=[]
 kp:c5y:=[]
 rc:c5y:=[]
 pl:List (Nat×Nat×Nat):=[]
abbrev U4:Nat:=1000000
abbrev CB:Nat:=1000000
abbrev MN:Nat:=1000000000000
def Ty.castL{R:Type u}(a b:Ty)(xs:List a.den)(k:List b.den->R)(f:R):R:=if h:a=b then k (h▸xs)else f
def UA{R:Type u}(a b:Ty)(x:a.den)(k:b.den->R)(f:R):R:=if h:a=b then k (h▸x)else f
def flat:(t:Ty)->t.den->List V->List V
 | .bool,x,r=> .b x::r| .int k,n,r=> .i k n::r| .str,l,r=> .s l::r| .sl t,xs,r=> .sl t xs::r| .prod a b,x,r=>flat a x.1 (flat b x.2 r)| .unit,_,r=>r| .any _,_,r=> .undef::r| .ifv,x,r=> .ifd x::r| .ent _ _ a b,x,r=>flat a x.1 (flat b x.2 r)
def kF(vw:Option (Nat×Nat))(xs:List α):List α:=match vw with|none=>xs|some (lo,hi)=>lq xs lo hi
def IE:(m:M)->m.den->List V->List V
 | .dat t,x,r=>flat t x r| .pair a b,x,r=>IE a x.1 (IE b x.2 r)| .unit,_,r=>r|_,_,r=> .undef::r
def XK{R:Type u}(a b:M)(xs:List a.den)(k:List b.den->R)(f:R):R:=match h:M.beq a b with
 |true=>k (M.beq_eq h▸xs)|false=>f
def a2P{R:Type u}(m:M)(t:Ty)(xs:List m.den)(k:List t.den->R)(f:R):R:=
 if h:m.el=true/\m.ty=t then k (cast (congrArg List ((M.denEq m h.1).trans (congrArg Ty.den h.2))) xs)else f
def WQ{R:Type u}(m:M)(t:Ty)(xs:List t.den)(k:List m.den->R)(f:R):R:=
 if h:m.el=true/\m.ty=t then k (cast (congrArg List ((M.denEq m h.1).trans (congrArg Ty.den h.2))).symm xs)else f
def M.own0:M->Bool
 | .dat _=>true| .unit=>true| .pair a b=>a.own0&&b.own0|_=>false
def M.own1:M->Nat->Bool
 | .own _,off=>Nat.beq off 0| .pair a b,off=>bif Nat.blt off a.size then a.own1 off&&b.own0 else a.own0&&b.own1 (off -a.size)|_,_=>false
def M.owned:M->List Ty
 | .own t=>[t]| .owns m=>m.ty::m.owned| .pair a b=>a.owned++b.owned|_=>[]
def a0e(ln:Ty->Bool):List Ty->Bool|[]=>true|t::r=>bif ln t then a0e ln r else false
def mD{α:Type}(ln:Ty->Bool):(t:Ty)->List V->(t.den->List V->Cmd α)->Cmd α
 | .bool,cs,K=>match cs with| .b x::r=>K x r|_=> .fail
 | .int k,cs,K=>match cs with| .i k' n::r=>(bif decide (k=k')then K n r else Cmd.fail)|_=> .fail
 | .str,cs,K=>match cs with| .s l::r=>K l r|_=> .fail
 | .prod a b,cs,K=>mD ln a cs λx r=>mD ln b r λy r' =>K (x,y) r'| .unit,cs,K=>K () cs
 | .any none,cs,K=>match cs with|_::r=>K () r|_=> .fail
 | .any (some k),cs,K=>match cs with| .i k' _::r=>bif decide (k=k')then K () r else Cmd.fail|_=> .fail
 | .ifv,cs,K=>match cs with
  | .ifd x::r=>K x r| .ifc t v::r=>(match v with| .s l=>K (some (t,.inl l)) r| .i k n=>K (some (t,.inr (k,n))) r|_=> .fail)|_=> .fail
 | .ent ..,_,_=> .fail
 | .sl t,cs,K=>match cs with
  | .nl::r=>bif t.isEnt then .fail else K [] r| .sl t' xs::r=>Ty.castL t' t xs (λys=>K ys r) Cmd.fail
  | .own bx vw::r=> .get (U4+bx) λ
   | .barr t' xs=>Ty.castL t' t xs (λys=>bif ln t then K (kF vw ys) r else Cmd.set (U4+bx) (.bfrz t ys) (K (kF vw ys) r)) Cmd.fail| .bfrz t' xs=>Ty.castL t' t xs (λys=>K (kF vw ys) r) Cmd.fail| .barrs el xs none=>a2P el t xs (λys=>bif ln t&&a0e ln el.owned then K (kF vw ys) r else Cmd.set (U4+bx) (.bfrz t ys) (K (kF vw ys) r)) Cmd.fail|_=> .fail
  |_=> .fail
def zu:Ty->Bool:=λ_=>false
def a7v(t:Ty)(v:V)(K:List t.den->Cmd α):Cmd α:=match v with
 | .nl=>bif t.isEnt then .fail else K []| .ne _=>bif t.isEnt then .fail else K []| .sl t' xs=>Ty.castL t' t xs K Cmd.fail
 | .own bx vw=> .get (U4+bx) λ
  | .barr t' xs=>Ty.castL t' t xs (λys=>K (kF vw ys)) Cmd.fail| .bfrz t' xs=>Ty.castL t' t xs (λys=>K (kF vw ys)) Cmd.fail|_=> .fail
 |_=> .fail
def rpC(t:Ty)(v:V)(K:t.den->Cmd α):Cmd α:=match v with
 | .dp t' x 0=>UA t' t x K .fail
 | .ptr bx 0=> .get (U4+bx) λ
  | .bfc t' x=>UA t' t x K .fail
  | .bcells bs=>mD zu t bs λx q=>(match q with
   |[]=> .get (U4+bx) λ
    | .bcells _=>Cmd.set (U4+bx) (.bfc t x) (K x)|_=> .fail
   |_=> .fail)
  |_=> .fail
 |_=> .fail
def lpC(ln:Ty->Bool)(t:Ty)(v:V)(K:t.den->Cmd α):Cmd α:=match v with
 | .dp t' x 0=>UA t' t x K .fail
 | .ptr bx 0=> .get (U4+bx) λ
  | .bcells bs=>bif ln t then mD ln t bs λx q=>(match q with
   |[]=> .get (U4+bx) λ
    | .bcells _=>K x|_=> .fail
   |_=> .fail)else .fail
  |_=> .fail
 |_=> .fail
def MR{α:Type} :(ts:List Ty)->List ((t:Ty)×t.den)->(Rf ts->Cmd α)->Cmd α
 |[],cs,K=>match cs with|[]=>K ()|_=> .fail
 |[t],cs,K=>match cs with|[⟨t',x⟩]=>UA t' t x K .fail|_=> .fail
 |t::t' ::r,cs,K=>match cs with
  |⟨u,x⟩::cs=>UA u t x (λx=>MR (t' ::r) cs λy=>K (x,y)) .fail|[]=> .fail
def QZ:(ts:List Ty)->Rf ts->List ((t:Ty)×t.den)
 |[],_=>[]|[t],x=>[⟨t,x⟩]|t::t' ::r,x=>⟨t,x.1⟩::QZ (t' ::r) x.2
def sbC(te:Nat)(c:V)(K:c5v->Cmd α):Cmd α:=match c with
 | .nl=>K []
 | .own b none=> .get (U4+b) λ
  | .brow te' xs=>bif Nat.beq te' te then Cmd.set (U4+b) .dead (K xs)else .fail|_=> .fail
 |_=> .fail
def exM{α:Type}(ln:Ty->Bool):(m:M)->List V->(m.den->List V->Cmd α)->Cmd α
 | .dat t,cs,K=>mD ln t cs K
 | .own t,cs,K=>match cs with
  | .nl::r=>bif t.isEnt then .fail else K [] r
  | .own bx vw::r=> .get (U4+bx) λ
   | .barr t' xs=>Ty.castL t' t xs (λys=>Cmd.set (U4+bx) .dead (K (kF vw ys) r)) Cmd.fail|_=> .fail
  |_=> .fail
 | .pair a b,cs,K=>exM zu a cs λx r=>exM zu b r λy r' =>K (x,y) r'| .unit,cs,K=>K () cs
 | .box m,cs,K=>match cs with
  | .ptr bx 0::r=> .get (U4+bx) λ
   | .bcells bs=>Cmd.set (U4+bx) .dead (exM zu m bs λx q=>match q with|[]=>K x r|_=> .fail)|_=> .fail
  |_=> .fail
 | .owns m,cs,K=>match cs with
  | .nl::r=>bif m.el then K [] r else .fail
  | .own bx none::r=> .get (U4+bx) λ
   | .barrs m' xs none=>XK m' m xs (λys=>Cmd.set (U4+bx) .dead (K ys r)) Cmd.fail| .barrp m' xs n _=>XK m' m xs (λys=> .br (U7 (x9 xs) n) (Cmd.set (U4+bx) .dead (K ys r)) .fail) Cmd.fail|_=> .fail
  |_=> .fail
 | .ownr m o,cs,K=>match cs with
  | .own bx none::r=> .get (U4+bx) λ
   | .barrp m' xs n o' =>bif Nat.beq o' o then XK m' m xs (λys=>Cmd.set (U4+bx) .dead (K (ys,n) r)) Cmd.fail else .fail| .barr t xs=>bif m.own1 o then WQ m t xs (λys=>Cmd.set (U4+bx) .dead (K (ys,0) r)) .fail else .fail|_=> .fail
  |_=> .fail
 | .ownb t,cs,K=>match cs with
  | .nl::r=>bif t.isEnt then .fail else K [] r
  | .own bx none::r=> .get (U4+bx) λ
   | .barr t' xs=>Ty.castL t' t xs (λys=>Cmd.set (U4+bx) (.gone t) (K ys r)) Cmd.fail|_=> .fail
  |_=> .fail
 | .rp t,cs,K=>match cs with
  |v::r=>rpC t v λx=>K x r|_=> .fail
 | .fn f ts,cs,K=>match cs with
  | .clos g caps::r=>bif Nat.beq g f then MR ts caps λx=>K x r else .fail
  | .fnv g::r=>bif Nat.beq g f then MR ts [] λx=>K x r else .fail|_=> .fail
 | .ifc t m,cs,K=>match cs with
  | .ifc t' v::r=>bif Nat.beq t' t then exM zu m [v] λx q=>(match q with|[]=>K x r|_=> .fail)else .fail|_=> .fail
 | .cell (some none),cs,K=>match cs with
  | .nl::r=>K () r|_=> .fail
 | .cell (some (some b)),cs,K=>match cs with
  | .ne true::r=>bif b then K () r else .fail| .ne false::r=>bif b then .fail else K () r|_=> .fail
 | .cell none,cs,K=>match cs with
  |_::r=>K () r|_=> .fail
 | .fr t,cs,K=>match cs with
  | .nl::r=>bif t.isEnt then .fail else K [] r
  | .own bx none::r=> .get (U4+bx) λ
   | .barr t' xs=>Ty.castL t' t xs (λys=>Cmd.set (U4+bx) (.bfrz t ys) (K ys r)) Cmd.fail| .bfrz t' xs=>Ty.castL t' t xs (λys=>K ys r) Cmd.fail|_=> .fail
  |_=> .fail
 | .sit,cs,K=>match cs with
  | .ptr bx 0::r=> .get (U4+bx) λ
   | .biter l p=>Cmd.set (U4+bx) .dead (K (l,p) r)|_=> .fail
  |_=> .fail
 | .lp t,cs,K=>match cs with
  |v::r=>lpC ln t v λx=>K x r|_=> .fail
 | .dv ..,cs,K=>match cs with
  |_::r=>K () r|_=> .fail
 | .mbx t tb te o,cs,K=>match cs with
  | .ptr bx o' ::r=> .get (U4+bx) λ
   | .bsb tb' bs c=>bif Nat.beq tb' tb&&Nat.beq o' o then(sbC te c λys=>Cmd.set (U4+bx) .dead (mD zu t bs λx q=>match q with
    |[]=>K (mbM t x ys) r
    |_=> .fail))else .fail
   |_=> .fail
  |_=> .fail
def cellsOf(v:V):List V:=match v with| .agg cs=>cs|v=>[v]
def uP(n:Nat)(v:V)(K:Cmd α):Cmd α:=.get (U4+n) λ
 | .undef=> .set (U4+n) v K|_=> .fail
def emM{α:Type} :(m:M)->m.den->Nat->List V->(List V->Nat->Cmd α)->Cmd α
 | .dat t,x,n,r,K=>K (flat t x r) n| .own t,xs,n,r,K=>uP n (.barr t xs) (K (.own n none::r) (n+1))
 | .pair a b,x,n,r,K=>emM b x.2 n r λr' n' =>emM a x.1 n' r' K| .unit,_,n,r,K=>K r n
 | .box m,x,n,r,K=>emM m x (n+1) [] λcs n' =>uP n (.bcells cs) (K (.ptr n 0::r) n')| .owns m,xs,n,r,K=>uP n (.barrs m xs none) (.set (U4+(MN+n)) (.blen (x9 xs) m.size) (K (.own n none::r) (n+1)))| .ownb t,xs,n,r,K=>uP n (.barr t xs) (K (.own n none::r) (n+1))| .rp t,x,n,r,K=>K (.dp t x 0::r) n| .fn f ts,x,n,r,K=>K (.clos f (QZ ts x)::r) n
 | .ifc t m,x,n,r,K=>emM m x n [] λcs n' =>match cs with|[c]=>K (.ifc t c::r) n'|_=> .fail
 | .cell (some none),_,n,r,K=>K (.nl::r) n| .cell (some (some b)),_,n,r,K=>K (.ne b::r) n| .cell none,_,n,r,K=>K (.undef::r) n| .fr t,xs,n,r,K=>uP n (.bfrz t xs) (K (.own n none::r) (n+1))| .sit,x,n,r,K=>uP n (.biter x.1 x.2) (K (.ptr n 0::r) (n+1))| .lp t,x,n,r,K=>K (.dp t x 0::r) n| .dv ..,_,n,r,K=>K (.undef::r) n| .ownr m o,x,n,r,K=>uP n (.barrp m x.1 x.2 o) (K (.own n none::r) (n+1))| .mbx t tb te o,x,n,r,K=>uP (n+1) (.brow te (mbT t x)) (uP n (.bsb tb (flat t (mbX t x) []) (.own (n+1) none)) (K (.ptr n o::r) (n+2)))
structure Sig where
 ms:List (Nat×MG)
 als:List (Nat×Nat×Option (Nat×Nat×Nat×Nat))
@[reducible] def qJ (s:Sig):Type:=Y3 (s.ms.map (·.2))
def UB(ag:Bool)(v:V)(K:List V->Cmd α):Cmd α:=match ag,v with
 |true,.agg cs=>K cs|true,_=> .fail|false,.agg _=> .fail|false,.tup _=> .fail|false,.undef=> .fail|false,.un=> .fail|false,v=>K [v]
def Dz(v:V)(K:List V->Cmd α):Cmd α:=match v with
 | .agg cs=>K cs| .tup _=> .fail| .undef=> .fail| .un=> .fail|v=>K [v]
def M.isDat:M->Bool| .dat _=>true| .lp _=>true|_=>false
def UQ(ln:Ty->Bool)(m:MG)(v:V)(K:m.2.den->Cmd α):Cmd α:=
 UB m.1 v λcs=>exM ln m.2 cs λx q=>match q with|[]=>K x|_=> .fail
def Jm{α:Type}(ln:Ty->Bool):(ms:List MG)->List V->(Y3 ms->Cmd α)->Cmd α
 |[],vs,K=>match vs with|[]=>K ()|_=> .fail
 |[m],vs,K=>match vs with
  |[v]=>UQ ln m v K|_=> .fail
 |m::m' ::r,vs,K=>match vs with
  |v::vs=>bif m.2.isDat then Jm ln (m' ::r) vs λy=>UQ ln m v λx=>K (x,y)
   else UQ ln m v λx=>Jm ln (m' ::r) vs λy=>K (x,y)
  |[]=> .fail
def Zv{α:Type} :c5y->(List V->Cmd α)->Cmd α
 |[],K=>K []
 |s::r,K=>bif Nat.blt s U4 then .get s λv=>Zv r λvs=>K (v::vs)else .fail
def b5z:V->V->Bool
 | .own a none,.own b none=>Nat.beq a b|_,_=>false
def mkV(ag:Bool)(cs:List V):V:=match ag,cs with|true,cs=> .agg cs|false,[v]=>v|false,_=> .undef
def Jl{α:Type} :(ms:List MG)->Y3 ms->Nat->(List V->Nat->Cmd α)->Cmd α
 |[],_,n,K=>K [] n
 |[m],x,n,K=>emM m.2 x n [] λcs n' =>K [mkV m.1 cs] n'
 |m::m' ::r,x,n,K=>emM m.2 x.1 n [] λcs n' =>Jl (m' ::r) x.2 n' λvs n'' =>K (mkV m.1 cs::vs) n''
def Ls:c5y->List V->Cmd Unit->Cmd Unit
 |[],[],K=>K|n::ns,v::vs,K=>bif Nat.blt n U4 then .set n v (Ls ns vs K)else .fail|_,_,_=> .fail
def a2G:Value->V
 | .bool b=> .b b| .int k n=> .i k n| .string s=> .s s.data.toList| .slice none 0 0=> .nl|_=> .undef
def qI(x:Operand)(K:V->Cmd α):Cmd α:=
 match x with
 | .tmp t=>bif Nat.blt t U4 then .get t K else .fail| .const v=>K (a2G v)| .global g=>K (.glob g)| .func f=>K (.fnv f)
def OZ{α:Type} :List Operand->(List V->Cmd α)->Cmd α
 |[],K=>K []
 |x::r,K=>qI x λv=>OZ r λvs=>K (v::vs)
def UK(n:Nat)(cs:List V):Option (List V):=match n,cs with
 |0,cs=>some cs|n+1,_::cs=>UK n cs|_+1,[]=>none
def a2c{R:Type u}(n:Nat)(cs:List V)(K:List V->R)(f:R):R:=match n,cs with
 |0,_=>K []|n+1,c::cs=>a2c n cs (λr=>K (c::r)) f|_+1,[]=>f
def PR{R:Type u}(off n:Nat)(cs:List V)(K:List V->R)(f:R):R:=match UK off cs with|some r=>a2c n r K f|none=>f
def QH{R:Type u}(off:Nat)(vs cs:List V)(K:List V->R)(f:R):R:=match off,vs,cs with
 |0,[],cs=>K cs|0,v::vs,_::cs=>QH 0 vs cs (λr=>K (v::r)) f|n+1,vs,c::cs=>QH n vs cs (λr=>K (c::r)) f|_,_,[]=>f
def Di:Operand->Bool
 | .const (.int _ n)=>decide (n=0)|_=>true
def FY:Operand->Bool
 | .const (.int _ n)=>decide (n<0)|_=>true
def eq1:V->V->c5z
 | .b x,.b y=>some (WZ x y)| .i j x,.i k y=>bif decide (j=k)then some (D8 x y)else none| .s x,.s y=>some (seq x y)|_,_=>none
def zB:List V->List V->c5z
 |[],[]=>some true
 |a::r,b::q=>match eq1 a b with
  |none=>none
  |some e=>match r,q with
   |[],[]=>some e|_,_=>(match zB r q with|some e' =>some (qM e e')|none=>none)
 |_,_=>none
def Ad:List Ty->List V->Bool
 |[],[]=>true| .bool::ts,.b _::cs=>Ad ts cs| .int k::ts,.i k' _::cs=>decide (k=k')&&Ad ts cs| .str::ts,.s _::cs=>Ad ts cs|_,_=>false
def Ea(n:Nat):c5y->Bool|[]=>false|k::r=>bif Nat.beq k n then true else Ea n r
def a9q(E:Env)(t:Nat)(op:BinOp)(b:Bool)(K:V->Cmd α):Cmd α:=
 match bZ E.tt t with
 |some i=>match i.td,op with
  | .sl _,.eql=>K (.b b)| .sl _,.neq=>K (.b (I5 b))|_,_=> .fail
 |none=> .fail
def Za(E:Env)(t:Nat)(op:BinOp)(yc:Operand)(x y:V)(K:V->Cmd α):Cmd α:=
 match x,y with
 | .i k a,.i k' b=>
  match op with
  | .shl=>bif FY yc then Cmd.opt (b4R k a b) λr=>K (.i k r)else K (.i k (b2K k a b))
  | .shr=>bif FY yc then Cmd.opt (b4S k a b) λr=>K (.i k r)else K (.i k (b2L k a b))|_=>
  bif decide (k=k')then
   match op with
   | .add=>K (.i k (I8 k a b))| .sub=>K (.i k (L6 k a b))| .mul=>K (.i k (Qw k a b))
   | .quo=>bif Di yc then Cmd.opt (b4P k a b) λr=>K (.i k r)else K (.i k (dh k a b))
   | .rem=>bif Di yc then Cmd.opt (b4Q a b) λr=>K (.i k r)else K (.i k (iE a b))| .and=>K (.i k (b9I k a b))| .or=>K (.i k (ior k a b))| .xor=>K (.i k (b2P k a b))| .andNot=>K (.i k (a5f k a b))| .eql=>K (.b (D8 a b))| .neq=>K (.b (I5 (D8 a b)))| .lss=>K (.b (J4 a b))| .leq=>K (.b (U7 a b))| .gtr=>K (.b (J4 b a))| .geq=>K (.b (U7 b a))|_=> .fail
  else .fail
 | .s a,.s b=>
  match op with
  | .add=>Cmd.opt (ak a b) λr=>K (.s r)| .eql=>K (.b (seq a b))| .neq=>K (.b (I5 (seq a b)))| .lss=>K (.b (slt a b))|_=> .fail
 | .b a,.b b=>
  match bZ E.tt t with
  |some i=>match i.td,op with
   | .bool,.eql=>K (.b (WZ a b))| .bool,.neq=>K (.b (I5 (WZ a b)))|_,_=> .fail
  |none=> .fail
 | .agg xs,.agg ys=>
  match bZ E.eqs t with
  |some sh=>bif Ad sh xs&&Ad sh ys then(match op,zB xs ys with
   | .eql,some e=>K (.b e)| .neq,some e=>K (.b (I5 e))
   |_,_=> .fail)else .fail
  |none=> .fail
 | .nl,.nl=>a9q E t op true K| .ne b,.nl=>a9q E t op b K| .sl u xs,.nl=>bif u.isEnt then .fail else .br (D8 (x9 xs) 0) .fail (a9q E t op false K)|_,_=> .fail
def unC(op:UnOp)(x:V)(K:V->Cmd α):Cmd α:=
 match op,x with
 | .neg,.i k a=>K (.i k (L6 k 0 a))| .xor,.i k a=>K (.i k (b2P k (bif k.signed then -1 else k.max) a))| .not,.b a=>K (.b (I5 a))|_,_=> .fail
def RS(E:Env)(t:Nat):Bool:=bif Nat.blt t E.nt then !(Ea t E.kp)else false
def cu(E:Env)(d:Option Tmp)(v:V):Cmd Unit:=match d with|some t=>bif RS E t then .set t v (.ret ())else .fail|none=> .ret ()
def J7(q:Nat)(d:Option Tmp):Nat:=match d with|some t=>CB*q+64*t|none=>CB*q+999936
def tiC(E:Env)(t:Nat)(K:TI->Cmd α):Cmd α:=match bZ E.tt t with|some i=>K i|none=> .fail
def az:TD->Bool| .struct _| .arr _ _=>true|_=>false
def EH(E:Env)(t:Nat)(p:V)(K:V->Cmd α):Cmd α:=
 tiC E t λi=>match p with
 | .ptr bx off=> .get (U4+bx) λ
  | .bcells cs=>PR off i.size cs (λr=>K (mkV (az i.td) r)) Cmd.fail| .bsb _ cs _=>PR off i.size cs (λr=>K (mkV (az i.td) r)) Cmd.fail| .bfc u x=>PR off i.size (flat u x []) (λr=>K (mkV (az i.td) r)) Cmd.fail|_=> .fail
 | .ep bx idx off=> .get (U4+bx) λ
  | .barr u xs=>Cmd.opt (jg xs idx) λx=>PR off i.size (flat u x []) (λr=>K (mkV (az i.td) r)) Cmd.fail
  | .bfrz u xs=>Cmd.opt (jg xs idx) λx=>PR off i.size (flat u x []) (λr=>K (mkV (az i.td) r)) Cmd.fail
  | .barrs m xs _=>Cmd.opt (jg xs idx) λx=>PR off i.size (IE m x []) (λr=>K (mkV (az i.td) r)) Cmd.fail|_=> .fail
 | .dp u x off=>PR off i.size (flat u x []) (λr=>K (mkV (az i.td) r)) Cmd.fail|_=> .fail
def RX{R:Type u} :(m:M)->Nat->m.den->(V->R)->R->R
 | .own t,off,xs,K,f=>bif Nat.beq off 0 then K (.barr t xs)else f| .owns m,off,xs,K,f=>bif Nat.beq off 0 then K (.barrs m xs none)else f| .pair a b,off,x,K,f=>bif Nat.blt off a.size then RX a off x.1 K f else RX b (off -a.size) x.2 K f|_,_,_,_,f=>f
def Vr{R:Type u} :(m:M)->Nat->V->m.den->(m.den->R)->R->R
 | .own t,off,v,_,K,f=>bif Nat.beq off 0 then(match v with| .barr t' ys=>Ty.castL t' t ys K f| .nl=>bif t.isEnt then f else K []|_=>f)else f| .owns m,off,v,_,K,f=>bif Nat.beq off 0 then(match v with| .barrs m' ys none=>XK m' m ys K f| .nl=>K []|_=>f)else f| .pair a b,off,v,x,K,f=>bif Nat.blt off a.size then Vr a off v x.1 (λy=>K (y,x.2)) f else Vr b (off -a.size) v x.2 (λy=>K (x.1,y)) f|_,_,_,_,_,f=>f
def a6D{α:Type} :(m:M)->Nat->List V->m.den->(m.den->Cmd α)->Cmd α
 | .dat t,off,vs,x,K=>bif t.flat then QH off vs (flat t x []) (λr=>mD zu t r λy q=>match q with|[]=>K y|_=> .fail) .fail else .fail| .pair a b,off,vs,x,K=>bif Nat.blt off a.size then a6D a off vs x.1 (λy=>K (y,x.2))else a6D b (off -a.size) vs x.2 (λy=>K (x.1,y))|_,_,_,_,_=> .fail
def M.ownAt:M->Nat->Bool
 | .own _,off=>Nat.beq off 0| .owns _,off=>Nat.beq off 0| .pair a b,off=>bif Nat.blt off a.size then a.ownAt off else b.ownAt (off -a.size)|_,_=>false
def M.firstOwn(m:M):Nat->Nat->Option Nat
 |_,0=>none|off,n+1=>bif m.ownAt off then some off else m.firstOwn (off+1) n
def setCell:Nat->V->List V->List V
 |_,_,[]=>[]|0,v,_::cs=>v::cs|n+1,v,c::cs=>c::setCell n v cs
def a3u(o n:Nat)(v:V):V:=match v with
 | .agg cs=> .agg (setCell o (.own n none) cs)|v=>v
def tkD(E:Env)(d:Option Nat):Bool:=match d with|some t=>RS E t&&Ea t E.tk|none=>false
def Ve(h:Option (Nat×Nat×Option Nat))(idx off:Nat):Bool:=match h with|none=>true|some (i,o,_)=>bif Nat.beq o off then Ht i idx else false
def b4U(E:Env)(d:Option Tmp)(nm t:Nat)(p:V)(K:V->Cmd α):Cmd α:=
 match p with
 | .ep bx idx off=> .get (U4+bx) λ
  | .barrs m xs none=>bif m.ownAt off then tiC E t λi=>(bif Nat.beq i.size 1&&!az i.td then
     (bif Ea (match d with|some d=>d|none=>U4) E.tk then
      Cmd.opt (jg xs idx) λx=>RX m off x (λv=>Cmd.set (U4+bx) (.barrs m xs (some (idx,off,none))) (uP nm v (Cmd.set (U4+bx) (.barrs m xs (some (idx,off,some nm))) (K (.own nm none))))) .fail
     else mD zu (.sl m.ty) [.own bx none] λ_ _=>EH E t p K)else .fail)
    else bif tkD E d then tiC E t λi=>(match m.firstOwn off i.size with
     |none=>EH E t p K
     |some o=>bif az i.td&&Nat.ble (off+i.size) m.size then Cmd.opt (jg xs idx) λx=>RX m o x (λv=>Cmd.set (U4+bx) (.barrs m xs (some (idx,o,none))) (uP nm v (Cmd.set (U4+bx) (.barrs m xs (some (idx,o,some nm))) (EH E t p λu=>K (a3u (o -off) nm u))))) .fail else .fail)
    else EH E t p K
  | .barrs m xs (some (i,o,some n))=>bif m.ownAt off then tiC E t λj=>(bif Nat.beq j.size 1&&!az j.td then
     .br (Ve (some (i,o,some n)) idx off) (K (.own n none)) .fail else .fail)
    else bif tkD E d then tiC E t λj=>(match m.firstOwn off j.size with
     |none=>EH E t p K
     |some o' =>bif az j.td&&Nat.ble (off+j.size) m.size then .br (Ve (some (i,o,some n)) idx o') (EH E t p λu=>K (a3u (o' -off) n u)) .fail else .fail)
    else EH E t p K
  |_=>EH E t p K
 |_=>EH E t p K
def a8U:V->Bool| .barr ..=>true| .barrs _ _ none=>true|_=>false
def a2D(bx:Nat)(K:Cmd α):Cmd α:=.get (U4+bx) λ
 | .barrs _ _ (some (_,_,some n))=> .get (U4+n) λw=>bif a8U w then Cmd.set (U4+n) .dead (.get (U4+bx) λ
  | .barrs m xs (some (i,o,some _))=>Cmd.opt (jg xs i) λx=>Vr m o w x (λy=>Cmd.set (U4+bx) (.barrs m (mQ xs i y) none) K) .fail
  |_=> .fail)else .fail
 |_=>K
def Qh{α:Type} :List V->Cmd α->Cmd α
 |[],K=>K
 |v::r,K=>match v with
  | .own bx none=>a2D bx (Qh r K)|_=>Qh r K
def GN{α:Type} :List V->Cmd α->Cmd α
 |[],K=>K
 |v::r,K=>match v with
  | .own bx none=>a2D bx (GN r K)
  | .ptr bx 0=> .get (U4+bx) λ
   | .bcells cs=>Qh cs (GN r K)|_=>GN r K
  | .agg cs=>Qh cs (GN r K)|_=>GN r K
def a4L(c:Nat)(u:V)(K:Nat->Cmd α):Cmd α:=match u with
 | .own b none=>K b
 | .ptr pb 0=> .get (U4+pb) λ
  | .bcells cs=>PR c 1 cs (λr=>match r with|[.own b none]=>K b|_=> .fail) .fail|_=> .fail
 |_=> .fail
def b8Z(b sz:Nat)(K:Cmd α):Cmd α:=.get (U4+b) λ
 | .barrs m _ _=>bif Nat.beq m.size sz then K else .fail| .barr t _=>bif Nat.beq t.size sz then K else .fail|_=> .fail
def b2h{α:Type} :List (Nat×Nat×Option (Nat×Nat×Nat×Nat))->Cmd α->Cmd α
 |[],K=>K
 |(n,k,none)::r,K=>bif Nat.blt n U4&&Nat.blt k U4 then .get n λv=> .get k λu=>bif b5z v u then b2h r K else .fail else .fail
 |(n,k,some (c,j,o,sz))::r,K=>bif Nat.blt n U4&&Nat.blt k U4&&Nat.blt j U4 then .get n λv=> .get k λu=> .get j λx=>(match v,x with
  | .ep b' i o',.i _ y=>a4L c u λb=>bif Nat.beq o' o&&Nat.beq b' b then b8Z b sz (.br (Ht i (dV y)) (b2h r K) .fail)else .fail
  |_,_=> .fail)else .fail
def b4J(s:Sig):Cmd (qJ s):=b2h s.als (Zv (s.ms.map (·.1)) λvs=>GN vs (Jm zu (s.ms.map (·.2)) vs .ret))
def v_:List (Nat×Nat×Option (Nat×Nat×Nat×Nat))->Cmd Unit
 |[]=> .ret ()
 |(n,k,none)::r=>bif Nat.blt n U4&&Nat.blt k U4 then .get k λv=> .set n v (v_ r)else .fail
 |(n,k,some (c,j,o,sz))::r=>bif Nat.blt n U4&&Nat.blt k U4&&Nat.blt j U4 then .get k λu=> .get j λx=>(match x with
  | .i _ y=>a4L c u λb=>b8Z b sz (.set n (.ep b (dV y) o) (v_ r))
  |_=> .fail)else .fail
def b4I(s:Sig)(x:qJ s)(nb lim:Nat):Cmd Unit:=
 Jl (s.ms.map (·.2)) x nb λvs n=>bif Nat.ble n lim then Ls (s.ms.map (·.1)) vs (v_ s.als)else .fail
def D_(bx idx off:Nat)(m:M)(xs:List m.den)(hole:Option (Nat×Nat×Option Nat))(v:V)(K:Cmd Unit):Cmd Unit:=
 .br (Ve hole idx off) (Cmd.opt (jg xs idx) λx=>Vr m off v x (λy=>Cmd.set (U4+bx) (.barrs m (mQ xs idx y) none) K) .fail) .fail
def b1G(E:Env)(t:Nat)(p v:V):Cmd Unit:=
 tiC E t λi=>match p with
 | .ptr bx off=> .get (U4+bx) λ
  | .bcells cs=>Dz v λvs=>bif Nat.beq vs.length i.size then QH off vs cs (λr=>Cmd.set (U4+bx) (.bcells r) (.ret ())) Cmd.fail else .fail
  | .bsb tb cs c=>Dz v λvs=>bif Nat.beq vs.length i.size then QH off vs cs (λr=>Cmd.set (U4+bx) (.bsb tb r c) (.ret ())) Cmd.fail else .fail|_=> .fail
 | .ep bx idx off=> .get (U4+bx) λ
  | .barr u xs=>Cmd.opt (jg xs idx) λx=>Dz v λvs=>bif Nat.beq vs.length i.size then QH off vs (flat u x []) (λr=>
    mD zu u r λy q=>match q with
     |[]=> .get (U4+bx) λ
      | .barr u' xs' =>Ty.castL u' u xs' (λxs' =>Cmd.set (U4+bx) (.barr u (mQ xs' idx y)) (.ret ())) Cmd.fail|_=> .fail
     |_=> .fail) Cmd.fail else .fail
  | .barrs m xs hole=>bif m.ownAt off&&Nat.beq i.size 1&&!az i.td then(match v with
    | .nl=>D_ bx idx off m xs hole .nl (.ret ())
    | .own b2 none=> .get (U4+b2) λw=>bif a8U w then Cmd.set (U4+b2) .dead (.get (U4+bx) λ
     | .barrs m xs hole=>D_ bx idx off m xs hole w (.ret ())
     |_=> .fail)else .fail
    |_=> .fail)
   else match hole with
    |none=>Dz v λvs=>bif Nat.beq vs.length i.size then Cmd.opt (jg xs idx) λx=>a6D m off vs x λy=>Cmd.set (U4+bx) (.barrs m (mQ xs idx y) none) (.ret ())else .fail|some _=> .fail
  | .barrp _ _ _ o=>bif Nat.beq off o&&Nat.beq i.size 1&&!az i.td then(match v with
    | .own b2 none=> .get (U4+b2) λw=>bif a8U w then Cmd.set (U4+b2) .dead (.get (U4+bx) λ
     | .barrp m xs n o=> .br (Ht idx (dV n)) (Cmd.opt (jg xs idx) λx=>Vr m off w x (λy=>Cmd.set (U4+bx) (.barrp m (mQ xs idx y) (Vm n) o) (.ret ())) .fail) .fail
     |_=> .fail)else .fail
    |_=> .fail)else .fail
  |_=> .fail
 |_=> .fail
def szB(sz:Nat)(u:Ty):Bool:=bif u.isEnt then false else Nat.beq sz u.size
def Jo(E:Env)(t f:Nat):Option (Nat×Nat×Bool):=
 match bZ E.tt t with
 |some i=>match i.td with
  | .struct fs=>match fs[f]? with
   |some (ft,off)=>match bZ E.tt ft with|some j=>bif Nat.beq j.size 0 then none else some (off,j.size,az j.td)|none=>none
   |none=>none
  |_=>none
 |none=>none
def a9c(vw:Option (Nat×Nat)):Nat:=match vw with|none=>0|some (lo,_)=>lo
def b6w(vw:Option (Nat×Nat))(n:Nat):Nat:=match vw with|none=>n|some (lo,_)=>lo+n
theorem b2O(vw:Option (Nat×Nat))(n:Nat):b6w vw n=a9c vw+n:=by cases vw<;>simp[b6w,a9c]
def GU(E:Env)(t:Nat):Option (Bool×Nat×Nat):=
 match bZ E.tt t with
 |some i=>match i.td with
  | .sl e=>match bZ E.tt e with|some j=>some (false,0,j.size)|none=>none
  | .arr n e=>match bZ E.tt e with|some j=>some (true,n,j.size)|none=>none
  |_=>none
 |none=>none
def Vj(E:Env)(t:Nat)(x ix:V)(K:V->Cmd α):Cmd α:=
 match ix,GU E t with
 | .i _ n,some (false,_,sz)=>match x with
  | .sl u xs=>bif szB sz u then Cmd.opt (P8 xs n) λy=>K (.dp u y 0)else .fail
  | .own bx vw=> .get (U4+(MN+bx)) λ
   | .blen ln sz' =>(match vw with|none=>bif Nat.beq sz sz' then .br (inb n ln) (K (.ep bx (dV n) 0)) .fail else .fail|_=> .fail)
   |_=> .get (U4+bx) λ
   | .barr u xs=>bif szB sz u then Cmd.opt (P8 (kF vw xs) n) λ_=>K (.ep bx (b6w vw (dV n)) 0)else .fail
   | .bfrz u xs=>bif szB sz u then Cmd.opt (P8 (kF vw xs) n) λy=>K (.dp u y 0)else .fail| .barrs m xs _=>(match vw with|none=>bif Nat.beq sz m.size then Cmd.opt (P8 xs n) λ_=>K (.ep bx (dV n) 0)else .fail|_=> .fail)| .barrp m xs _ _=>(match vw with|none=>bif Nat.beq sz m.size then Cmd.opt (P8 xs n) λ_=>K (.ep bx (dV n) 0)else .fail|_=> .fail)|_=> .fail
  |_=> .fail
 | .i _ n,some (true,l,sz)=>match x with
  | .glob g=>match bZ E.gl g with
   |some ⟨u,xs⟩=>bif Nat.beq sz u.size&&Nat.beq l xs.length then Cmd.opt (P8 xs n) λy=>K (.dp u y 0)else .fail|none=> .fail
  | .ptr bx off=> .br (inb n l) (K (.ptr bx (off+dV n*sz))) .fail|_=> .fail
 |_,_=> .fail
def b9L(td:TD)(x:V)(K:V->Cmd α):Cmd α:=
 match td,x with
 | .str,.s l=>K (.i .i64 (x9 l))| .sl _,.sl t xs=>bif t.isEnt then .fail else K (.i .i64 (x9 xs))| .map ..,.sl t xs=>bif t.isEnt then K (.i .i64 (x9 xs))else .fail
 | .map ..,.own bx none=> .get (U4+bx) λ
  | .barr t xs=>bif t.isEnt then K (.i .i64 (x9 xs))else .fail| .bfrz t xs=>bif t.isEnt then K (.i .i64 (x9 xs))else .fail|_=> .fail
 | .sl _,.nl=>K (.i .i64 0)
 | .sl _,.own bx vw=> .get (U4+(MN+bx)) λ
  | .blen ln _=>(match vw with|none=>K (.i .i64 ln)|_=> .fail)
  |_=> .get (U4+bx) λ
  | .barr t xs=>bif t.isEnt then .fail else K (.i .i64 (x9 (kF vw xs)))| .bfrz t xs=>bif t.isEnt then .fail else K (.i .i64 (x9 (kF vw xs)))| .barrs _ xs _=>(match vw with|none=>K (.i .i64 (x9 xs))|_=> .fail)| .barrp _ xs _ _=>(match vw with|none=>K (.i .i64 (x9 xs))|_=> .fail)|_=> .fail
 |_,_=> .fail
def Ar(d:Int):Option V->c5A
 |none=>some d|some (.i _ n)=>some n|some _=>none
def QT(E:Env)(t:Nat)(x:V)(lo hi:Option V)(K:V->Cmd α):Cmd α:=
 match x with
 | .s l=>tiC E t λi=>match i.td,Ar 0 lo,Ar (x9 l) hi with
  | .str,some a,some b=>Cmd.opt (dM l a b) λr=>K (.s r)|_,_,_=> .fail
 | .sl u l=>match GU E t,Ar 0 lo,Ar (x9 l) hi with
  |some (false,_,sz),some a,some b=>bif szB sz u then Cmd.opt (dM l a b) λr=>K (.sl u r)else .fail|_,_,_=> .fail
 | .own bx none=> .get (U4+bx) λ
  | .barr u xs=>match GU E t,Ar 0 lo,Ar (x9 xs) hi with
   |some (false,_,sz),some a,some b=>bif szB sz u then .br (nK a b (x9 xs)) (K (.own bx (some (dV a,dV b)))) .fail else .fail|_,_,_=> .fail
  | .bfrz u xs=>match GU E t,Ar 0 lo,Ar (x9 xs) hi with
   |some (false,_,sz),some a,some b=>bif szB sz u then .br (nK a b (x9 xs)) (K (.own bx (some (dV a,dV b)))) .fail else .fail|_,_,_=> .fail
  |_=> .fail
 |_=> .fail
def a6f{α:Type}(u:Ty):Nat->List V->(List u.den->Cmd α)->Cmd α
 |0,cs,K=>match cs with|[]=>K []|_=> .fail
 |n+1,cs,K=>mD zu u cs λx r=>a6f u n r λxs=>K (x::xs)
def a1O(E:Env)(nm t bx:Nat)(K:V->Cmd Unit):Cmd Unit:=tiC E t λi=>match i.td with
 | .arr n e=>tiC E e λj=>(match j.ty with
  |some u=>bif u.flat then .get (U4+bx) λ
   | .bcells cs=>a6f u n cs λxs=>Cmd.set (U4+bx) .dead (uP nm (.barr u xs) (K (.own nm none)))|_=> .fail
   else .fail
  |none=> .fail)
 |_=> .fail
def DK(E:Env)(t:Nat):Option (Nat×Ty):=
 match bZ E.tt t with
 |some i=>match i.td with
  | .sl e=>match bZ E.tt e with
   |some j=>match j.ty with|some u=>bif (Nat.beq u.size j.size&&Nat.ble j.bytes 65536&&!u.isEnt)then some (e,u)else none|none=>none
   |none=>none
  |_=>none
 |none=>none
def TA(nm:Nat)(u:Ty)(x:V)(ys:List u.den)(K:V->Cmd Unit):Cmd Unit:=
 match x with
 | .nl=>Cmd.opt (iy [] ys) λzs=>uP nm (.barr u zs) (K (.own nm none))
 | .own bx vw=> .get (U4+bx) λ
  | .barr u' xs=>Ty.castL u' u xs (λxs=>Cmd.opt (iy (kF vw xs) ys) λzs=>Cmd.set (U4+bx) .dead (uP nm (.barr u zs) (K (.own nm none)))) Cmd.fail|_=> .fail
 |_=> .fail
def a4H(E:Env)(nm:Nat)(t:Nat)(x:V)(l:c5v)(K:V->Cmd Unit):Cmd Unit:=
 match DK E t with
 |some (_,.int .u8)=>(match bZ E.om t with|none=>TA nm (.int .u8) x (ZG l) K|some _=> .fail)|_=> .fail
def a8s(E:Env)(nm:Nat)(t:Nat)(l:c5v)(K:V->Cmd Unit):Cmd Unit:=
 match DK E t with
 |some (e,.int .u8)=>tiC E e λk=>(match k.td with
  | .int .u8=>uP nm (.barr (.int .u8) (ZG l)) (K (.own nm none))
  |_=> .fail)
 |_=> .fail
def a4G(E:Env)(nm:Nat)(t:Nat)(x y:V)(K:V->Cmd Unit):Cmd Unit:=
 match DK E t with
 |none=> .fail
 |some (_,u)=>match bZ E.om t with
  |none=>a7v u y λys=>TA nm u x ys K
  |some m=>bif Nat.beq m.size u.size then exM zu (.owns m) [y] λys _=>exM zu (.owns m) [x] λxs _=>Cmd.opt (iy xs ys) λzs=>uP nm (.barrs m zs none) (K (.own nm none))else .fail
def MQ{α:Type}(u:Ty):List (Nat×V)->Nat->Nat->(List u.den->Cmd α)->Cmd α
 |[],_,0,K=>K []
 |(i,v)::r,n,m+1,K=>bif Nat.beq i n then Dz v λcs=>mD zu u cs λx q=>match q with|[]=>MQ u r (n+1) m λxs=>K (x::xs)|_=> .fail else .fail
 |_,_,_,_=> .fail
def Jb{α:Type}(m:M):List (Nat×V)->Nat->Nat->(List m.den->Cmd α)->Cmd α
 |[],_,0,K=>K []
 |(i,v)::r,n,k+1,K=>bif Nat.beq i n then Dz v λcs=>exM zu m cs λx q=>match q with|[]=>Jb m r (n+1) k λxs=>K (x::xs)|_=> .fail else .fail
 |_,_,_,_=> .fail
def a4E(E:Env):List (Nat×Nat)->Bool
 |[]=>true
 |(t,_)::r=>match bZ E.tt t with|some _=>a4E E r|none=>false
def BM{α:Type}(E:Env)(t:Nat):List (Nat×V)->List V->(List V->Cmd α)->Cmd α
 |[],cs,K=>K cs
 |(f,v)::r,cs,K=>match Jo E t f with
  |some (off,n,_)=>Dz v λvs=>bif Nat.beq vs.length n then QH off vs cs (λcs' =>BM E t r cs' K) .fail else .fail|none=> .fail
def Oj{α:Type}(sz:Nat):List (Nat×V)->List V->(List V->Cmd α)->Cmd α
 |[],cs,K=>K cs
 |(i,v)::r,cs,K=>Dz v λvs=>bif Nat.beq vs.length sz then QH (i*sz) vs cs (λcs' =>Oj sz r cs' K) .fail else .fail
def X9{α:Type} :List MG->List V->List V->Cmd α->Cmd α
 |(_,.box _)::ms,.ptr bx _::vs,.agg cs::os,K=> .get (U4+bx) λ
  | .dead=>Cmd.set (U4+bx) (.bcells cs) (X9 ms vs os K)|_=> .fail
 |(_,.box _)::_,_,_,_=> .fail
 |(_,.ifc _ (.box _))::ms,.ifc _ (.ptr bx _)::vs,.agg cs::os,K=> .get (U4+bx) λ
  | .dead=>Cmd.set (U4+bx) (.bcells cs) (X9 ms vs os K)|_=> .fail
 |(_,.ifc _ (.box _))::_,_,_,_=> .fail
 |(_,.ownb _)::ms,.own bx none::vs,.own nm none::os,K=> .get (U4+nm) λ
  | .barr u xs=>Cmd.set (U4+nm) .dead (.get (U4+bx) λ
   | .gone t=>Ty.castL u t xs (λxs=>Cmd.set (U4+bx) (.barr t xs) (X9 ms vs os K)) .fail
   |_=> .fail)
  |_=> .fail
 |(_,.ownb _)::ms,.nl::vs,.own nm none::os,K=>Cmd.set (U4+nm) .dead (X9 ms vs os K)|(_,.ownb _)::_,_,_,_=> .fail
 |(_,.mbx ..)::ms,.ptr bx _::vs,.ptr nm _::os,K=> .get (U4+nm) λ
  | .bsb tb cs c=>Cmd.set (U4+nm) .dead (.get (U4+bx) λ
   | .dead=>Cmd.set (U4+bx) (.bsb tb cs c) (X9 ms vs os K)
   |_=> .fail)
  |_=> .fail
 |(_,.mbx ..)::_,_,_,_=> .fail|(_,.sit)::_,_,_,_=> .fail|_::ms,_::vs,os,K=>X9 ms vs os K|[],[],[],K=>K|_,_,_,_=> .fail
def Ty.occ(t:Ty):Ty->Bool
 | .sl u=>decide (t=u) || Ty.occ t u| .prod a b=>Ty.occ t a || Ty.occ t b| .ent _ _ a b=>Ty.occ t a || Ty.occ t b|_=>false
def RQ(t:Ty):List Ty->Bool|[]=>false|u::r=>decide (t=u) || Ty.occ t u || RQ t r
def M.occ(t:Ty):M->Bool
 | .dat u=>Ty.occ t u| .own u=>Ty.occ t u| .pair a b=>a.occ t || b.occ t| .unit=>false| .box m=>m.occ t| .owns m=>m.occ t| .ownb u=>Ty.occ t u| .rp u=>decide (t=u) || Ty.occ t u| .fn _ ts=>RQ t ts| .ifc _ m=>m.occ t| .cell _=>false| .fr u=>decide (t=u) || Ty.occ t u| .mbx t' _ _ _=>Ty.occ t t'| .sit=>false| .lp u=>decide (t=u) || Ty.occ t u| .dv ..=>false| .ownr m _=>m.occ t
def JJ(t:Ty):List MG->Bool|[]=>false|m::r=>m.2.occ t || JJ t r
def Jz(s:FSpec):Ty->Bool:=λt=> !(JJ t s.rs || JJ t s.outs)
def Cc:Nat->List V->Option (List V×List V)
 |0,vs=>some ([],vs)
 |n+1,v::vs=>match Cc n vs with|some (a,b)=>some (v::a,b)|none=>none
 |_+1,[]=>none
def BV:List V->Bool|[]=>false| .tup _::_=>true|_::r=>BV r
def a3L:List V->V|[v]=>v|vs=> .tup vs
def Js:List MG->List V->Bool
 |(_,.fn g _)::ms,.clos f _::vs=>Nat.beq f g&&Js ms vs|(_,.fn g _)::ms,.fnv f::vs=>Nat.beq f g&&Js ms vs|(_,.ifc t _)::ms,.ifc t' _::vs=>Nat.beq t t' &&Js ms vs|(_,.dv _ _ _ fo)::ms,v::vs=>(match v with| .ep _ _ o=>Nat.beq o fo|_=>false)&&Js ms vs|(_,.mbx _ _ _ fo)::ms,v::vs=>(match v with| .ptr _ o=>Nat.beq o fo|_=>false)&&Js ms vs|_::ms,_::vs=>Js ms vs|_,_=>true
def Yr:List (Nat×FSpec)->Nat->List V->Option FSpec
 |[],_,_=>none|(g,s)::r,f,vs=>bif Nat.beq g f&&Js s.ps vs then some s else Yr r f vs
def a5n(sz fo:Nat)(c:V)(K:V->Cmd α):Cmd α:=match c with
 | .sl u xs=>bif szB sz u then Cmd.opt (P8 xs (L6 .i64 (x9 xs) 1)) λy=>K (.dp u y fo)else .fail
 | .own bx none=> .get (U4+(MN+bx)) λ
  | .blen ln sz' =>bif Nat.beq sz sz' then .br (inb (L6 .i64 ln 1) ln) (K (.ep bx (dV (L6 .i64 ln 1)) fo)) .fail else .fail
  |_=> .get (U4+bx) λ
   | .barr u xs=>bif szB sz u then Cmd.opt (P8 xs (L6 .i64 (x9 xs) 1)) λ_=>K (.ep bx (dV (L6 .i64 (x9 xs) 1)) fo)else .fail
   | .bfrz u xs=>bif szB sz u then Cmd.opt (P8 xs (L6 .i64 (x9 xs) 1)) λy=>K (.dp u y fo)else .fail
   | .barrs m xs _=>bif Nat.beq sz m.size then Cmd.opt (P8 xs (L6 .i64 (x9 xs) 1)) λ_=>K (.ep bx (dV (L6 .i64 (x9 xs) 1)) fo)else .fail|_=> .fail
 |_=> .fail
def a1o(off sz fo:Nat)(v:V)(K:V->Cmd α):Cmd α:=match v with
 | .ptr bx o=> .get (U4+bx) λ
  | .bcells cs=>PR (o+off) 1 cs (λr=>match r with|[c]=>a5n sz fo c K|_=> .fail) .fail|_=> .fail
 | .dp u x o=>PR (o+off) 1 (flat u x []) (λr=>match r with|[c]=>a5n sz fo c K|_=> .fail) .fail|_=> .fail
def b9D(a b:V)(K:Cmd α):Cmd α:=match a,b with
 | .ep n i o,.ep n' i' o' =>bif Nat.beq n n' &&Nat.beq o o' then .br (Ht i i') K .fail else .fail|_,_=> .fail
def b2Y:List V->Nat->V
 |[],_=> .un|v::_,0=>v|_::r,n+1=>b2Y r n
def dvC{α:Type}(all:List V):List MG->List V->Cmd α->Cmd α
 |(_,.dv k off sz fo)::ms,v::vs,K=>a1o off sz fo (b2Y all k) λr=>b9D r v (dvC all ms vs K)|_::ms,_::vs,K=>dvC all ms vs K|[],[],K=>K|_,_,_=> .fail
def XI(E:Env)(q:Nat)(d:Option Tmp)(f:Nat)(vs:List V):Cmd Unit:=
 bif Nat.ble 1000000000 f then .fail else
 match Yr E.fs f vs with
 |none=> .fail|some s=>dvC vs s.ps vs<|
  Jm (Jz s) s.ps vs λx=>Cmd.opt (s.fn x) λr=>
   Jl (s.rs++s.outs) r (J7 q d) λws n' =>bif Nat.ble n' (J7 q d+64)then(match Cc s.rs.length ws with
    |some (a,o)=>bif BV a then .fail else X9 s.ps vs o (cu E d (a3L a))
    |none=> .fail)else .fail
abbrev PB:Nat:=1000000000
abbrev cd:MG:=(false,.dat (.int .i64))
def a2Z:(l:List MG)->Y3 (cd::l)->Int
 |[],x=>x|_::_,x=>x.1
def tlT:(l:List MG)->Y3 (cd::l)->Y3 l
 |[],_=>()|_::_,x=>x.2
def b9G:List (Nat×FSpec)->Nat->Bool
 |[],_=>false|(g,_)::r,f=>bif Nat.beq g (PB+f)then true else b9G r f
def a2A(E:Env)(q:Nat)(d:Option Tmp)(vs:List V)(ps:List MG):(rs outs:List MG)->(Y3 ps->Option (Y3 (rs++outs)))->Cmd c5A
 |(false,.dat (.int .i64))::rs,outs,fn=>dvC vs ps vs<|
   Jm (Jz ⟨ps,rs,outs,λ_=>none⟩) ps vs λx=>Cmd.opt (fn x) λr=>
    .br (D8 (a2Z (rs++outs) r) 0)
     ((Jl (rs++outs) (tlT (rs++outs) r) (J7 q d) λws n' =>bif Nat.ble n' (J7 q d+64)then(match Cc rs.length ws with
      |some (a,o)=>bif BV a then .fail else X9 ps vs o (cu E d (a3L a))
      |none=> .fail)else .fail).bind λ_=> .ret none)
     (.ret (some (a2Z (rs++outs) r)))
 |_,_,_=> .fail
def a8n(E:Env)(q:Nat)(d:Option Tmp)(f:Nat)(vs:List V):Cmd c5A:=
 match Yr E.fs (PB+f) vs with
 |none=> .fail|some s=>a2A E q d vs s.ps s.rs s.outs s.fn
def wo{α:Type} :List MG->List V->(List ((t:Ty)×t.den)->Cmd α)->Cmd α
 |(_,.rp t)::ms,v::vs,K=>rpC t v λx=>wo ms vs λcs=>K (⟨t,x⟩::cs)|[],[],K=>K []|_,_,_=> .fail
def b9B(c:(t:Ty)×t.den):V:=.dp c.1 c.2 0
def VC:List ((Nat×String)×Nat×Option Nat)->Nat->String->Option (Nat×Option Nat)
 |[],_,_=>none|((t,n),r)::l,u,m=>bif Nat.beq t u&&(n==m)then some r else VC l u m
def Ty.leaves:Ty->List Ty
 | .prod a b=>a.leaves++b.leaves| .unit=>[]|t=>[t]
def QR:List Ty->List Ty->Bool
 |[],[]=>true|a::r,b::q=>bif Ty.beq a b then QR r q else false|_,_=>false
def a0P(E:Env)(ke:Nat)(td:TD)(k:Ty):Bool:=
 match td,k with
 | .bool,.bool=>true| .int i,.int j=>decide (i=j)| .str,.str=>true| .struct _,k=>bif k.flat then(match bZ E.eqs ke with|some sh=>QR sh k.leaves|none=>false)else false|_,_=>false
structure MT where
 ke:Nat
 el:Nat
 ka:Bool
 va:Bool
 k:Ty
 v:Ty
abbrev MT.ent(m:MT):Ty:=.ent m.ka m.va m.k m.v
def JE(E:Env)(t:Nat):Option MT:=
 match bZ E.tt t with
 |some i=>match i.td with
  | .map ke el=>match bZ E.tt ke,bZ E.tt el with
   |some a,some b=>(match a.ty,b.ty with
    |some k,some v=>bif a0P E ke a.td k&&k.flat then some ⟨ke,el,az a.td,az b.td,k,v⟩else none
    |_,_=>none)
   |_,_=>none
  |_=>none
 |none=>none
def a8x(ag:Bool)(t:Ty)(v:V)(K:t.den->Cmd α):Cmd α:=
 UB ag v λcs=>mD zu t cs λx q=>match q with|[]=>K x|_=> .fail
def a9M(u:Ty)(v:V)(K:List u.den->Cmd α):Cmd α:=
 match v with
 | .sl t xs=>Ty.castL t u xs K .fail
 | .own bx none=> .get (U4+bx) λ
  | .barr t xs=>Ty.castL t u xs K .fail| .bfrz t xs=>Ty.castL t u xs K .fail|_=> .fail
 |_=> .fail
def JD(E:Env)(nm t:Nat)(K:V->Cmd Unit):Cmd Unit:=
 match JE E t with
 |some m=>uP nm (.barr m.ent []) (K (.own nm none))|none=> .fail
def a5p(E:Env)(t:Nat)(ok:Bool)(x ix:V)(K:V->Cmd Unit):Cmd Unit:=
 match JE E t with
 |some m=>a8x m.ka m.k ix λkey=>a9M m.ent x λes=>
   bif ok then K (.tup [mkV m.va (flat m.v (Xl (keq m.k) es key m.v.zero) []),.b (OL (keq m.k) es key)])
   else K (mkV m.va (flat m.v (Xl (keq m.k) es key m.v.zero) []))
 |none=> .fail
def H_(E:Env)(t:Nat)(x ix y:V):Cmd Unit:=
 match JE E t with
 |some m=>a8x m.ka m.k ix λkey=>a8x m.va m.v y λz=>match x with
  | .own bx none=> .get (U4+bx) λ
   | .barr u xs=>Ty.castL u m.ent xs (λes=>Cmd.set (U4+bx) (.barr m.ent (VG (keq m.k) es key z)) (.ret ())) .fail|_=> .fail
  |_=> .fail
 |none=> .fail
def a4P(E:Env)(t:Nat)(x ix:V):Cmd Unit:=
 match JE E t with
 |some m=>a8x m.ka m.k ix λkey=>match x with
  | .own bx none=> .get (U4+bx) λ
   | .barr u xs=>Ty.castL u m.ent xs (λes=>Cmd.set (U4+bx) (.barr m.ent (a3j (keq m.k) es key)) (.ret ())) .fail|_=> .fail
  |_=> .fail
 |none=> .fail
def RP:M->List V->Bool
 | .dat _,_=>true| .unit,_=>true
 | .own t,cs=>match cs with| .nl::_=> !t.isEnt|_=>false
 | .owns _,cs=>match cs with| .nl::_=>true|_=>false
 | .pair a b,cs=>match UK a.size cs with|some r=>bif RP a cs then RP b r else false|none=>false
 |_,_=>false
def a6p(E:Env)(t:Nat)(m:M):Bool:=
 match DK E t with
 |some (e,_)=>match bZ E.tt e with|some j=>bif Nat.beq j.zero.length j.size then RP m j.zero else false|none=>false
 |none=>false
def Wx:Operand->Operand->Bool
 | .tmp a,.tmp b=>Nat.beq a b|_,_=>false
def b2i:List V->Option (List V)
 |[.npt,.nl]=>some []|[]=>none
 |v::r=>match b2i r with|some s=>some (v::s)|none=>none
def b2j(t:Nat)(zs:List V):V:=match b2i zs with
 |some s=> .bsb t s .nl|none=> .bcells zs
def aQ(E:Env)(q:Nat)(o:Oper):Cmd Unit:=
 match o.op with
 | .move x| .assign x=>qI x λv=>cu E o.dst v
 | .pick c a b=>qI c λ
  | .b t=>bif t then qI a λva=>cu E o.dst va else qI b λvb=>cu E o.dst vb|_=> .fail
 | .alloc t=>tiC E t λi=>bif Nat.beq i.zero.length i.size then uP (J7 q o.dst) (b2j t i.zero) (cu E o.dst (.ptr (J7 q o.dst) 0))else .fail
 | .box t x=>qI x λv=>Dz v λcs=>uP (J7 q o.dst) (b2j t cs) (cu E o.dst (.ptr (J7 q o.dst) 0))
 | .build t ps=>tiC E t λi=>match i.td with
  | .struct fs=>bif a4E E fs&&Nat.beq i.zero.length i.size then(OZ (ps.toList.map (·.2)) λvs=>
    BM E t ((ps.toList.map (·.1)).zip vs) i.zero (λcs=>cu E o.dst (.agg cs)))else .fail
  | .arr _ e=>tiC E e λj=>bif Nat.beq i.zero.length i.size then(OZ (ps.toList.map (·.2)) λvs=>
    Oj j.size ((ps.toList.map (·.1)).zip vs) i.zero (λcs=>cu E o.dst (.agg cs)))else .fail
  |_=> .fail
 | .buildSlice t n ps=>match DK E t with
  |some (_,u)=>bif Nat.ble (n*u.size) 16777216 then(OZ (ps.toList.map (·.2)) λvs=>match bZ E.om t with
    |none=>MQ u ((ps.toList.map (·.1)).zip vs) 0 n λxs=>uP (J7 q o.dst) (.barr u xs) (cu E o.dst (.own (J7 q o.dst) none))
    |some m=>bif Nat.beq m.size u.size&&m.el then Jb m ((ps.toList.map (·.1)).zip vs) 0 n λxs=>uP (J7 q o.dst) (.barrs m xs none) (cu E o.dst (.own (J7 q o.dst) none))else .fail)else .fail
  |none=> .fail
 | .load t x=>qI x λp=>b4U E o.dst (J7 q o.dst) t p λv=>cu E o.dst v
 | .store t x y=>match o.dst with|none=>qI x λp=>qI y λv=>b1G E t p v|some _=> .fail
 | .binOp op t x y _=>qI x λa=>qI y λb=>Za E t op y a b λv=>cu E o.dst v
 | .unOp op _ x=>qI x λa=>unC op a λv=>cu E o.dst v
 | .convert src t x=>qI x λa=>tiC E src λj=>tiC E t λi=>match a,i.td with
  | .i _ n,.int k=>cu E o.dst (.i k (wrap k n))| .s l,.str=>cu E o.dst (.s l)| .s l,.sl _=>(match j.td with| .str=>a8s E (J7 q o.dst) t l λv=>cu E o.dst v|_=> .fail)
  |_,.str=>(match j.td with
   | .sl e=>tiC E e λk=>(match k.td with
    | .int .u8=>a7v (.int .u8) a λxs=>cu E o.dst (.s (a8m xs))
    |_=> .fail)
   |_=> .fail)
  |_,_=> .fail
 | .makeSlice t l c=>match bZ E.om t with
  |some m=>(match DK E t with
   |some (_,u)=>qI l λ
    | .i _ n=>bif Wx l c&&Nat.beq m.size u.size&&a6p E t m then(if h:m.el=true/\m.ty=u then Cmd.opt (Ny n (m.zero h.1)) λxs=>uP (J7 q o.dst) (.barrs m xs none) (.set (U4+(MN+J7 q o.dst)) (.blen (x9 xs) m.size) (cu E o.dst (.own (J7 q o.dst) none)))else .fail)else .fail|_=> .fail
   |none=> .fail)
  |none=>match DK E t with
  |some (_,u)=>qI l λ
   | .i _ n=>bif Wx l c then
     Cmd.opt (Ny n u.zero) λxs=>uP (J7 q o.dst) (.barr u xs) (cu E o.dst (.own (J7 q o.dst) none))
    else qI c λ
     | .i _ k=>Cmd.br (nK n k 1073741824) (Cmd.opt (Ny n u.zero) λxs=>uP (J7 q o.dst) (.barr u xs) (cu E o.dst (.own (J7 q o.dst) none))) .fail|_=> .fail
   |_=> .fail
  |none=> .fail
 | .slice t x lo hi none=>qI x λv=>OZ (lo.toList++hi.toList) λbs=>
   match lo,hi,bs with
   |none,none,[]=>(match v with
    | .ptr bx 0=>a1O E (J7 q o.dst) t bx λr=>cu E o.dst r
    |_=>QT E t v none none λr=>cu E o.dst r)
   |some _,none,[a]=>QT E t v (some a) none λr=>cu E o.dst r
   |none,some _,[b]=>QT E t v none (some b) λr=>cu E o.dst r
   |some _,some _,[a,b]=>QT E t v (some a) (some b) λr=>cu E o.dst r|_,_,_=> .fail
 | .fieldAddr t x f=>qI x λp=>match Jo E t f with
  |some (off,_,_)=>match p with
   | .ptr bx o' =>cu E o.dst (.ptr bx (o' +off))| .ep bx ix o' =>cu E o.dst (.ep bx ix (o' +off))| .dp u y o' =>cu E o.dst (.dp u y (o' +off))|_=> .fail
  |none=> .fail
 | .field t x f=>qI x λp=>match Jo E t f with
  |some (off,n,ag)=>UB true p λps=>PR off n ps (λcs=>cu E o.dst (mkV ag cs)) Cmd.fail|none=> .fail
 | .indexAddr t x ix=>qI x λv=>qI ix λn=>Vj E t v n λr=>cu E o.dst r
 | .index t x ix=>qI x λv=>qI ix λn=>tiC E t λi=>match i.td,v,n with
  | .str,.s l,.i _ k=>Cmd.opt (sat l k) λc=>cu E o.dst (.i .u8 c)|_,_,_=> .fail
 | .extract x n=>qI x λ
  | .tup vs=>match vs[n]? with|some v=>cu E o.dst v|none=> .fail
  |_=> .fail
 | .nilCheck x=>qI x λv=>match v with
  | .ptr ..| .ep ..| .dp ..| .glob _=>cu E o.dst v|_=> .fail
 | .call c=>OZ c.args.toList λvs=>match c.callee with
  | .builtin .len=>(match c.argTypes.toList,vs with
   |t::_,[x]=>tiC E t λi=>b9L i.td x λv=>cu E o.dst v
   |_,_=> .fail)
  | .builtin .append=>(match c.argTypes.toList,vs with
   |[t,t'],[x,y]=>bif Nat.beq t t' then a4G E (J7 q o.dst) t x y λv=>cu E o.dst v else(match y with
    | .s l=>tiC E t' λi=>(match i.td with| .str=>a4H E (J7 q o.dst) t x l λv=>cu E o.dst v|_=> .fail)
    |_=> .fail)
   |_,_=> .fail)
  | .builtin .delete=>(match o.dst,c.argTypes.toList,vs with|none,t::_,[x,ix]=>a4P E t x ix|_,_,_=> .fail)| .builtin .min=>(match vs with|[.i k a,.i k' b]=>bif decide (k=k')then cu E o.dst (.i k (IR a b))else .fail|_=> .fail)| .builtin .max=>(match vs with|[.i k a,.i k' b]=>bif decide (k=k')then cu E o.dst (.i k (Fh a b))else .fail|_=> .fail)
  | .value (.func f)=>(match bZ E.pl f with
   |some (off,sz)=>bif Nat.beq sz 0 then .fail else(match vs with|[v]=>a1o off sz 0 v λr=>cu E o.dst r|_=> .fail)
   |none=>XI E q o.dst f vs)
  | .value x=>qI x λ
   | .clos f caps=>XI E q o.dst f (vs++caps.map b9B)|_=> .fail
  | .invoke x n=>qI x λ
   | .ifc t v=>(match VC E.ms t n with
    |some (f,none)=>XI E q o.dst f (v::vs)
    |some (f,some e)=>EH E e v λr=>XI E q o.dst f (r::vs)
    |none=> .fail)
   |_=> .fail
  |_=> .fail
 | .makeFunc (.func f) first caps=>bif Nat.beq first.size 0 then(match bZ E.pl f with
  |some (n,z)=>bif Nat.beq z 0&&Nat.beq caps.size n then cu E o.dst (.idl f n)else .fail
  |none=>(match bZ E.fs f with
   |some s=>OZ caps.toList λvs=>wo (s.ps.drop (s.ps.length -vs.length)) vs λcs=>cu E o.dst (.clos f cs)
   |none=> .fail))else .fail
 | .defer c=>bif Nat.beq c.args.size 0 then(match o.dst,c.callee with
  |none,.value x=>qI x λ
   | .idl f n=>(match bZ E.pl f with
    |some (k,z)=>bif Nat.beq z 0&&Nat.beq n k then cu E none .undef else .fail
    |none=> .fail)
   |_=> .fail
  |_,_=> .fail)else .fail
 | .makeInterface t x=>tiC E t λi=>(match i.td with
  | .bool| .int _| .str| .ptr _=>qI x λv=>(match v with
   | .b ..| .i ..| .s ..| .ptr ..=>cu E o.dst (.ifc t v)
   |_=> .fail)
  |_=> .fail)
 | .typeAssert x _ t ok=>tiC E t λi=>(match i.td with
  | .other=> .fail
  |_=>qI x λ
   | .ifc t' v=>bif Nat.beq t' t then cu E o.dst (bif ok then .tup [v,.b true]else v)else .fail
   | .ifd x=>bif ok then(match i.td with
    | .str=>(match i.zero with|[.s []]=>Cmd.opt (ifS t x) λy=>cu E o.dst (.tup [.s y.2,.b y.1])|_=> .fail)| .int k=>(match i.zero with|[.i k' 0]=>bif decide (k' =k)then Cmd.opt (ifI t k x) λy=>cu E o.dst (.tup [.i k y.2,.b y.1])else .fail|_=> .fail)
    |_=> .fail)else .fail
   |_=> .fail)
 | .makeMap t r=>(match r with
  |none=>JD E (J7 q o.dst) t λv=>cu E o.dst v
  |some h=>qI h λ
   | .i _ _=>JD E (J7 q o.dst) t λv=>cu E o.dst v
   |_=> .fail)
 | .range t x=>qI x λv=>tiC E t λi=>match i.td,v with
  | .str,.s l=>uP (J7 q o.dst) (.biter l 0) (cu E o.dst (.ptr (J7 q o.dst) 0))|_,_=> .fail
 | .next x isS=>bif isS then(qI x λ
   | .ptr bx 0=> .get (U4+bx) λ
    | .biter l p=> .br (J4 p (x9 l)) (Cmd.set (U4+bx) (.biter l (ui l p)) (cu E o.dst (.tup [.b true,.i .i64 p,.i .i32 (sJ l p)]))) (cu E o.dst (.tup [.b false]))|_=> .fail
   |_=> .fail)else .fail
 | .lookup t x ix ok=>qI x λm=>qI ix λk=>a5p E t ok m k λv=>cu E o.dst v
 | .mapUpdate t x ix y| .insert t x ix y=>match o.dst with|none=>qI x λm=>qI ix λk=>qI y λv=>H_ E t m k v|some _=> .fail
 |_=> .fail
def Iq(E:Env)(q:Nat)(ops:List Oper)(o:Oper):Cmd Unit:=
 match o.guard with
 |none=>aQ E q o
 |some (j,want)=>match ops[j]? with
  |some p=>match p.dst with
   |some t=>bif Nat.blt t U4 then(.get t λ
    | .b y=>bif (bif want then y else !y)then aQ E q o else cu E o.dst .un| .un=>cu E o.dst .un
    |_=> .fail)else .fail
   |none=> .fail
  |none=> .fail
def Ci(E:Env)(o:Oper):Option Nat:=match o.op with
 | .call c=>(match c.callee with
  | .value (.func f)=>bif b9G E.fs f then some f else none
  |_=>none)
 |_=>none
def opP(E:Env)(q:Nat)(o:Oper)(f:Nat):Cmd c5A:=match o.op with
 | .call c=>OZ c.args.toList λvs=>a8n E q o.dst f vs|_=> .fail
def Gv(E:Env)(q:Nat)(ops:List Oper)(o:Oper)(f:Nat):Cmd c5A:=
 match o.guard with
 |none=>opP E q o f
 |some (j,want)=>match ops[j]? with
  |some p=>match p.dst with
   |some t=>bif Nat.blt t U4 then(.get t λ
    | .b y=>bif (bif want then y else !y)then opP E q o f else(cu E o.dst .un).bind λ_=> .ret none
    | .un=>(cu E o.dst .un).bind λ_=> .ret none
    |_=> .fail)else .fail
   |none=> .fail
  |none=> .fail
def b9O(x:c5A):Cmd Unit:=match x with|none=> .ret ()|some _=> .fail
def oH(E:Env)(q:Nat)(ops:List Oper)(o:Oper):Cmd Unit:=match Ci E o with
 |none=>Iq E q ops o|some f=>(Gv E q ops o f).bind b9O
def Pq(t:Nat)(s:St)(K:St->Option R):Option R:=
 (aI s t).force λ
  | .b y=>l7 y (K (.kv t (.b true)::s)) (K (.kv t (.b false)::s))| .un=>K s|_=>none
def a8i(ops:List Oper)(o:Oper):Option Nat:=
 match o.guard with
 |some (j,_)=>match ops[j]? with|some p=>p.dst|none=>none
 |none=>match o.op with| .pick (.tmp t) _ _=>some t|_=>none
abbrev Trs:=List Tr
def Fv{R:Type}(E:Env)(q:Nat)(all:List Oper)(P:Int->St->Tr->Trs->Option R):List Oper->St->Trs->(St->Trs->Option R)->Option R
 |[],s,t,K=>K s t
 |o::r,s,t,K=>match Ci E o with
  |none=>(match a8i all o with
   |none=>(Iq E q all o).runK s ([],[]) λ_ s' tr=>Fv E q all P r s' (tr::t) K
   |some p=>Pq p s λs=>(Iq E q all o).runK s ([],[]) λ_ s' tr=>Fv E q all P r s' (tr::t) K)
  |some f=>(match a8i all o with
   |none=>(Gv E q all o f).runK s ([],[]) λx s' tr=>(match x with|none=>Fv E q all P r s' (tr::t) K|some c=>P c s' tr t)
   |some p=>Pq p s λs=>(Gv E q all o f).runK s ([],[]) λx s' tr=>(match x with|none=>Fv E q all P r s' (tr::t) K|some c=>P c s' tr t))
def IQ:c5y->c5y->Bool
 |[],[]=>true|a::r,b::q=>bif Nat.beq a b then IQ r q else false|_,_=>false
def qB(o:Oper):Bool:=match o.op with| .call ..=>true|_=>false
def a0D(E:Env)(o:Oper):Bool:=!qB o&&(match o.dst with|some d=>Ea d E.rc|none=>false)
def a8G(E:Env)(all:List Oper)(i:Nat):Bool:=match all[i]? with|some o=>a0D E o|none=>false
def Zc(all:List Oper)(i:Nat):Bool:=match all[i]? with|some o=>qB o|none=>false
def b1W(a b:V)(K:Option R):Option R:=
 a.force λa=>b.force λb=>match a with
  | .i k n=>(match b with| .i k' n' =>bif decide (k=k')then l7 (D8 n n') K none else none|_=>none)| .sl t xs=>(match b with| .sl u ys=>Ty.castL u t ys (λys=>l7 (deq (.sl t) xs ys) K none) none|_=>none)| .b x=>(match b with| .b y=>l7 (WZ x y) K none|_=>none)| .s x=>(match b with| .s y=>l7 (seq x y) K none|_=>none)|_=>none
abbrev a6r:=List (Oper×Tr×V)
def a1r{R:Type}(E:Env)(q:Nat)(all:List Oper)(s:St):a6r->Option R->Option R
 |[],K=>K
 |(o,tr,v)::p,K=>(oH E q all o).runK s ([],[]) λ_ s2 tr2=>match o.dst with
  |some d=>bif IQ tr.1 tr2.1&&IQ tr.2 tr2.2&&IQ tr2.2 [d]then b1W v (aI s2 d) (a1r E q all s p K)else none|none=>none
def ZV(E:Env)(o:Oper)(s:St)(tr:Tr)(p:a6r):a6r:=
 bif a0D E o then(match o.dst with|some d=>(o,tr,aI s d)::p|none=>p)else p
def zZ{R:Type}(E:Env)(q:Nat)(all:List Oper):List Oper->St->Trs->a6r->(St->Trs->Option R)->Option R
 |[],s,t,_,K=>K s t
 |o::r,s,t,p,K=>match a8i all o with
  |none=>(oH E q all o).runK s ([],[]) λ_ s' tr=>bif qB o then a1r E q all s' p (zZ E q all r s' (tr::t) p K)else zZ E q all r s' (tr::t) (ZV E o s' tr p) K
  |some g=>Pq g s λs=>(oH E q all o).runK s ([],[]) λ_ s' tr=>bif qB o then a1r E q all s' p (zZ E q all r s' (tr::t) p K)else zZ E q all r s' (tr::t) (ZV E o s' tr p) K
def Oq(a b:c5y):Bool:=match a with|[]=>true|k::r=>bif Ea k b then false else Oq r b
def VO(ordered:Bool)(x y:Tr):Bool:=bif ordered then true else(Oq x.2 y.1&&Oq x.2 y.2&&Oq x.1 y.2)
def Lc(mask:Nat)(y:Tr):Trs->Nat->Bool
 |[],_=>true|x::r,i=>VO (Nat.testBit mask (i -1)) x y&&Lc mask y r (i -1)
def NE:c5y->Trs->Bool
 |m::ms,y::r=>Lc m y r r.length&&NE ms r|[],[]=>true|_,_=>false
def a5s(mask:Nat)(x:Tr):List (Nat×Tr)->Bool
 |[]=>true|(m,z)::r=>(Nat.testBit mask m || Oq x.1 z.2)&&a5s mask x r
def a5w(ordered ex:Bool)(mask:Nat)(x y:Tr)(mids:List (Nat×Tr)):Bool:=
 bif ordered then true else(Oq x.2 y.1&&Oq x.2 y.2&&(bif Oq x.1 y.2 then true else(ex&&Oq x.2 x.1&&a5s mask x mids)))
def OV(E:Env)(all:List Oper)(mask:Nat)(y:Tr)(cy:Bool):Trs->Nat->List (Nat×Tr)->Bool
 |[],_,_=>true|x::r,i,mids=>a5w (Nat.testBit mask (i -1)) (cy&&a8G E all (i -1)) mask x y mids&&OV E all mask y cy r (i -1) ((i -1,x)::mids)
def OW(E:Env)(all:List Oper):c5y->Trs->Bool
 |m::ms,y::r=>OV E all m y (Zc all r.length) r r.length []&&OW E all ms r|[],[]=>true|_,_=>false
inductive Flow (ρ:Type) where
 |nm|ex (id:Nat)|rt (r:ρ)
def LX(acc:c5y)(n:Nat):List Edge->Nat->Option Nat
 |[],m=>some m
 |e::r,m=>match e.ground with
  | .textOnly _=>LX acc n r m| .gcOnly _=>LX acc n r m|_=>bif Nat.blt e.on n then LX acc n r (m ||| 2^e.on ||| acc.getD (n -1 -e.on) 0)else none
def Tm:List Oper->Nat->c5y->Option c5y
 |[],_,acc=>some acc
 |o::r,n,acc=>match LX acc n o.after.toList 0 with
  |some m=>Tm r (n+1) (m::acc)|none=>none
def QI(md:Region.Mode)(done:c5y):List Edge->Bool
 |[]=>true|e::r=>bif (!Region.binds md e || Ea e.on done)then QI md done r else false
def wQ(md:Region.Mode)(done:c5y):List Oper->Nat->Option Nat
 |[],_=>none|o::r,n=>bif Ea n done then wQ md done r (n+1)else bif QI md done o.after.toList then some n else wQ md done r (n+1)
def a4D:Nat->c5y->Bool
 |0,_=>true|n+1,d=>Ea n d&&a4D n d
def WN(md:Region.Mode)(ops:List Oper):Nat->c5y->Bool
 |0,d=>a4D ops.length d
 |k+1,done=>match wQ md done ops 0 with|some n=>WN md ops k (n::done)|none=>false
def VS:List Edge->Bool
 |[]=>true
 |e::r=>match e.ground with| .textOnly _=>false| .gcOnly _=>false|_=>VS r
def zT:List Oper->Bool|[]=>true|o::r=>bif VS o.after.toList then zT r else false
def a8B(ops:List Oper)(t:Trs):Bool:=
 match Tm ops 0 []with
 |some ms=>bif NE ms t then(bif zT ops then true else WN .text ops ops.length []&&WN .gc ops ops.length [])else false|none=>false
def EQ{R:Type}(E:Env)(q:Nat)(all:List Oper)(k:Nat):List Oper->c5y->St->Trs->(St->Trs->Option R)->Option R
 |[],[],s,t,K=>K s t
 |o::l,m::ms,s,t,K=>bif Nat.testBit m k then EQ E q all k l ms s (([],[])::t) K else(oH E q all o).runK s ([],[]) λ_ s' tr=>EQ E q all k l ms s' (tr::t) K|_,_,_,_,_=>none
def a0f(x:Tr):Trs->Bool
 |[]=>true|y::r=>bif VO false x y then a0f x r else false
def TN(ops:List Oper)(ms:c5y)(tr:Tr)(t tl:Trs):Bool:=
 bif NE ms (tl++([],[])::t)&&a0f tr tl then(match ms.drop (ops.length -1 -t.length)with
  |m::_=>bif Lc m tr t t.length then(bif zT ops then true else WN .text ops ops.length []&&WN .gc ops ops.length [])else false
  |[]=>false)else false
def wrs:Trs->c5y
 |[]=>[]|x::r=>x.2++wrs r
def a4S(E:Env)(ops:List Oper)(t:Trs):Bool:=
 match Tm ops 0 []with
 |some ms=>bif OW E ops ms t then(bif zT ops then true else WN .text ops ops.length []&&WN .gc ops ops.length [])else false|none=>false
abbrev Rgs:=List (Nat×Nat)
inductive Ann where
 |leaf
 |seq (a b:Ann)|cond (a b:Ann)|blk (a:Ann)
 |loop (rs:Rgs) (hd:Sig) (xid:Nat) (xs:Sig) (body:Ann)
 |loopR (rs:Rgs) (hd:Sig) (xid:Nat) (xs:Sig) (body:Ann)
 |join (rs:Rgs) (nm:Sig) (inner:Ann)
 |joinR (rs:Rgs) (nm:Sig) (inner:Ann)
structure Ret where
 rs:List (ResultVar×MG)
 outs:List (Nat×MG)
@[reducible] def Ret.den (r:Ret):Type:=Y3 (r.rs.map (·.2)++r.outs.map (·.2))
def QO{α:Type}(E:Env):List ResultVar->(List V->Cmd α)->Cmd α
 |[],K=>K []| .tmp t::r,K=>bif Nat.blt t U4 then(.get t λv=>QO E r λvs=>K (v::vs))else .fail| .cell a t::r,K=>bif Nat.blt a U4 then(.get a λp=>EH E t p λv=>QO E r λvs=>K (v::vs))else .fail
def LC:MG->Bool|(_,.mbx ..)=>true|_=>false
def NG{α:Type} :List (Nat×MG)->(List V->Cmd α)->Cmd α
 |[],K=>K []
 |(n,m)::r,K=>bif LC m then(bif Nat.blt n U4 then .get n λv=>(match v with
  | .ptr bx o=>NG r λvs=>K (.ptr bx o::vs)
  |_=> .fail)else .fail)else bif Nat.blt n U4 then .get n λv=>(match v with
  | .ptr bx 0=> .get (U4+bx) λ
   | .bcells cs=>Cmd.set (U4+bx) .dead (NG r λvs=>K (.agg cs::vs))|_=> .fail
  | .ifc _ u=>(match u with
   | .ptr bx 0=> .get (U4+bx) λ
    | .bcells cs=>Cmd.set (U4+bx) .dead (NG r λvs=>K (.agg cs::vs))|_=> .fail
   |_=> .fail)
  | .own bx none=>NG r λvs=>K (.own bx none::vs)
  |_=> .fail)else .fail
def b0s(E:Env)(r:Ret):Cmd r.den:=
 QO E (r.rs.map (·.1)) λvs=>NG r.outs λws=>GN (vs++ws) (Jm zu (r.rs.map (·.2)++r.outs.map (·.2)) (vs++ws) .ret)
def Ann.l:Ann->Ann| .seq a _=>a| .cond a _=>a| .blk a=>a|_=> .leaf
def Ann.r:Ann->Ann| .seq _ b=>b| .cond _ b=>b|_=> .leaf
def zt:Code->Nat
 | .region ..=>2| .seq x y=>1+zt x+zt y| .cond _ x y=>1+zt x+zt y| .block _ x=>1+zt x| .loop x=>3+zt x|_=>1
abbrev Den(ρ:Type):=Nat->Ann->St->Rgs->(R:Type)->(Flow ρ->St->Rgs->Option R)->Option R
def a6S(lo hi:Nat):Rgs->Bool|[]=>false|(a,b)::r=>bif Nat.ble a lo&&Nat.ble hi b then true else a6S lo hi r
def UF(lim:Nat)(rs:Rgs):Rgs->Bool|[]=>true|(a,b)::w=>bif Nat.ble lim a || a6S a b rs then UF lim rs w else false
def OG(ks:c5y)(w:Rgs):Rgs:=match ks with|[]=>w|k::r=>(k,k+1)::OG r w
def DZ(rs:Rgs)(s:St):St:=match rs with|[]=>s|(a,b)::r=> .mask a b::DZ r s
def OH(q:Nat)(sg:Sig)(rs:Rgs)(s:St)(w:Rgs)(K:qJ sg->Option R):Option R:=
 (b4J sg).runK s ([],[]) λx _ tr=>bif UF (U4+CB*q) rs (OG tr.2 w)then K x else none
def enter(q:Nat)(sg:Sig)(rs:Rgs)(s:St)(x:qJ sg)(K:St->Rgs->Option R):Option R:=
 (b4I sg x (CB*q) (CB*q+CB)).runK (DZ rs s) ([],[]) λ_ s' tr=>K s' (OG tr.2 rs)
def Un(a b:Rgs):Rgs:=match a with|[]=>b|x::r=>x::Un r b
def Gz(core:Den ρ):Den ρ:=λq a s w R K=>
 match a with
 | .join rs nm a=>o5 (core (q+1) a s [] (qJ nm) λfl s' w' =>match fl with
   | .nm=>OH q nm rs s' w' some
   |_=>none) λx=>enter q nm rs s x λs' w' =>K .nm s' (Un w' w)
 | .joinR rs nm a=>o5 (core (q+1) a s [] (qJ nm⊕ρ) λfl s' w' =>match fl with
   | .nm=>OH q nm rs s' w' λx=>some (Sum.inl x)| .rt r=>some (Sum.inr r)
   |_=>none) λo=>dU o (λx=>enter q nm rs s x λs' w' =>K .nm s' (Un w' w)) (λr=>K (.rt r) [] [])
 |a=>core (q+1) a s w R K
def b0u(core:Den ρ)(q:Nat)(rs:Rgs)(hd:Sig)(xid:Nat)(xs:Sig)(a:Ann)(s:St)(x:qJ hd):Option (qJ hd⊕qJ xs):=
 enter q hd rs s x λs w=>core (q+2) a s w (qJ hd⊕qJ xs) λfl s' w' =>match fl with
  | .nm=>OH q hd rs s' w' λx=>some (Sum.inl x)
  | .ex id=>bif Nat.beq id xid then OH q xs rs s' w' λy=>some (Sum.inr y)else none| .rt _=>none
def b0v(core:Den ρ)(q:Nat)(rs:Rgs)(hd:Sig)(xid:Nat)(xs:Sig)(a:Ann)(s:St)(x:qJ hd):Option (Out (qJ hd) (qJ xs) ρ):=
 enter q hd rs s x λs w=>core (q+2) a s w (Out (qJ hd) (qJ xs) ρ) λfl s' w' =>match fl with
  | .nm=>OH q hd rs s' w' λx=>some (.nx x)
  | .ex id=>bif Nat.beq id xid then OH q xs rs s' w' λy=>some (.ex y)else none| .rt r=>some (.rt r)
def a0V(core:Den ρ):Den ρ:=λq a s w R K=>
 match a with
 | .loop rs hd xid xs a=>OH q hd rs s [] λx0=>
  o5 (fF (λx=>b0u core q rs hd xid xs a s x) x0) λy=>enter (q+1) xs rs s y λs' w' =>K (.ex xid) s' (Un w' w)
 | .loopR rs hd xid xs a=>OH q hd rs s [] λx0=>
  o5 (X5 (λx=>b0v core q rs hd xid xs a s x) x0) λo=>dU o (λy=>enter (q+1) xs rs s y λs' w' =>K (.ex xid) s' (Un w' w)) (λr=>K (.rt r) [] [])
 |_=>none
def Ce(t:Trs)(w:Rgs):Rgs:=match t with|[]=>w|x::r=>OG x.2 (Ce r w)
def d_(E:Env)(q:Nat)(ops:Array Oper)(draw:Bool)(s:St)(w:Rgs)(K:St->Rgs->Option R)(P:Int->St->c5y->Option R):Option R:=
 match E.rc with
 |[]=>Fv E q ops.toList (λc s' tr t=>bif draw then(match Tm ops.toList 0 []with
   |some ms=>EQ E q ops.toList t.length (ops.toList.drop (t.length+1)) ((ms.take (ops.toList.length -1 -t.length)).reverse) s' [] λs2 tl=>bif TN ops.toList ms tr t tl then P c s2 (wrs tl++wrs t)else none
   |none=>none)else P c s' []) ops.toList s [] λs' t=>
  bif draw then(bif a8B ops.toList t then K s' (Ce t w)else none)else K s' (Ce t w)
 |_::_=>zZ E q ops.toList ops.toList s [] [] λs' t=>
  bif draw then(bif a4S E ops.toList t then K s' (Ce t w)else none)else K s' (Ce t w)
abbrev a6t(ρ:Type):Type 1:=Int⊕Nat->Cmd ρ
def c5e(pan:a6t ρ)(K:Flow ρ->St->Rgs->Option R)(c:Int)(s:St)(ws:c5y):Option R:=
 (pan (.inl c)).runK s ([],[]) λx _ tr=>bif Oq tr.1 ws then K (.rt x) [] []else none
def FP{ρ:Type}(E:Env)(rt:Ret)(ret:rt.den->ρ)(pan:a6t ρ):Code->Den ρ
 | .skip=>Gz λ_ _ s w _ K=>K .nm s w
 | .label _=>Gz λ_ _ s w _ K=>K .nm s w
 | .region _ ops draw=>Gz λq _ s w _ K=>d_ E q ops draw s w (λs' w' =>K .nm s' w') (c5e pan K)
 | .seq x y=>Gz λq a s w R K=>FP E rt ret pan x q a.l s w R λfl s' w' =>match fl with
   | .nm=>FP E rt ret pan y (q+zt x) a.r s' w' R K| .ex id=>K (.ex id) s' w'| .rt r=>K (.rt r) s' w'
 | .cond c x y=>Gz λq a s w R K=>(qI c λv=>Cmd.ret v:Cmd V).runK s ([],[]) λv s' _=>match v with
   | .b t=>l7 t (FP E rt ret pan x q a.l s' w R K) (FP E rt ret pan y (q+zt x) a.r s' w R K)|_=>none
 | .block id x=>Gz λq a s w R K=>FP E rt ret pan x q a.l s w R λfl s' w' =>match fl with
   | .nm=>K .nm s' w'| .ex j=>bif Nat.beq j id then K .nm s' w' else K (.ex j) s' w'| .rt r=>K (.rt r) s' w'
 | .loop x=>Gz (a0V λq a s w R K=>FP E rt ret pan x q a s w R K)
 | .exit id=>Gz λ_ _ s w _ K=>K (.ex id) s w
 | .goto l=>Gz λ_ _ s _ _ K=>(pan (.inr l)).runK s ([],[]) λx _ _=>K (.rt x) [] []
 | .ret=>Gz λ_ _ s _ _ K=>(b0s E rt).runK s ([],[]) λr _ _=>K (.rt (ret r)) [] []
 |_=>λ_ _ _ _ _ _=>none
def b6q(E:Env)(rt:Ret)(ret:rt.den->ρ)(fl:Flow ρ)(s:St):Option ρ:=match fl with
 | .rt r=>some r
 | .nm=>(b0s E rt).runK s ([],[]) λr _ _=>some (ret r)| .ex _=>none
def den(E:Env)(rt:Ret):Code->Den rt.den:=FP E rt (λr=>r) (λ_=> .fail)
def mV:List MG->Nat->c5y
 |[],_=>[]|(_,.box _)::ms,n=>n::mV ms (n+1)|(_,.ifc _ (.box _))::ms,n=>n::mV ms (n+1)|(_,.ownb _)::ms,n=>n::mV ms (n+1)|(_,.mbx ..)::ms,n=>n::mV ms (n+1)|_::ms,n=>mV ms (n+1)
def a7O:c5y->c5y->Bool
 |[],_=>true|a::r,b=>bif Ea a b then a7O r b else false
def EI:List MG->List (Nat×MG)->Bool
 |[],_=>true|(_,.box _)::ms,o::os=>bif LC o.2 then false else EI ms os|(_,.ifc _ (.box _))::ms,o::os=>bif LC o.2 then false else EI ms os|(_,.ownb _)::ms,o::os=>bif LC o.2 then false else EI ms os|(_,.mbx ..)::ms,o::os=>bif LC o.2 then EI ms os else false|(_,.box _)::_,[]=>false|(_,.ifc _ (.box _))::_,[]=>false|(_,.ownb _)::_,[]=>false|(_,.mbx ..)::_,[]=>false|(_,.sit)::_,_=>false|_::ms,os=>EI ms os
def a0t:List MG->Nat->Cmd Unit->Cmd Unit
 |[],_,K=>K
 |(_,.dv k off sz fo)::ms,n,K=>bif Nat.blt k U4&&Nat.blt n U4 then .get k λv=>a1o off sz fo v λr=> .set n r (a0t ms (n+1) K)else .fail|_::ms,n,K=>a0t ms (n+1) K
def a6E(E:Env)(ps:List MG)(rt:Ret)(body:Code)(a:Ann)(x:Y3 ps):Option rt.den:=
 bif Nat.ble ps.length E.nt&&IQ (rt.outs.map (·.1)) (mV ps 0)&&a7O (rt.outs.map (·.1)) E.kp&&EI ps rt.outs then
 (Jl ps x 0 λvs n=>bif Nat.ble n CB then Ls (List.range vs.length) vs (a0t ps 0 (.ret ()))else .fail).runK [] ([],[]) λ_ s _=>
  FP E rt (λr=>r) (λ_=> .fail) body 1 a s [] rt.den λfl s' _=>b6q E rt (λr=>r) fl s'
 else none
end Go.GP
namespace Go.GP
open RowKit
def bW(h:Array Obj)(blk off n:Nat):Option c5x:=
 match h[blk]? with
 |some (.cells c _ _)=>if off+n<=c.size then some ((c.toList.drop off).take n)else none|_=>none
variable {h:Array Obj}{h':Array Obj}{blk:Nat}
theorem rW(e:h'[blk]? =h[blk]?)(off n:Nat):bW h' blk off n=bW h blk off n:=by simp[bW,e]
variable {n:Nat}{off:Nat}{es:c5x}
theorem lC(e:bW h blk off n=some es):es.length=n:=by
 grind [bW]
theorem jH{c:Array Value}{T:TypeId}{f:Nat×Nat}(hb:h[blk]? =some (.cells c T f))(off n:Nat)(hn:off+n<=c.size):
  bW h blk off n=some ((c.toList.drop off).take n):=by simp_all [bW]
theorem qw(e:bW h blk off n=some es):
  ∃c T f,h[blk]? =some (.cells c T f)/\off+n<=c.size/\es=(c.toList.drop off).take n:=by
 grind [bW]
theorem pU(e:bW h blk off n=some es)(a k:Nat)(hk:a+k<=n):
  bW h blk (off+a) k=some ((es.drop a).take k):=by
 obtain⟨c,T,f,hb,hn,rfl⟩:=qw e;rw[jH hb _ _ l9]
 grind [List.drop_take,List.drop_drop]
def tq(ag:Bool)(v:Value):c5x:=match ag with
 |true=>v.cells.toList|false=>[v]
def gok(ag:Bool)(v:Value):Prop:=match ag with
 |true=>∃arr,v= .agg arr|false=>v.oneCell' =true
def xR(t:Ty)(e:MapEntry):c5x:=match t with
 | .ent ka va _ _=>tq ka e.key++tq va e.val|_=>[]
def LY(t:Ty)(e:MapEntry):Prop:=match t with
 | .ent ka va k v=>gok ka e.key/\gok va e.val/\(tq ka e.key).length=k.size|_=>False
def ZA:Ty.ifv.den->Value
 |none=> .nilIface|some (t,.inl s)=> .iface t (.string ⟨s.toArray⟩)|some (t,.inr (k,n))=> .iface t (.int k n)
theorem Vg:∀(x:Ty.ifv.den),(ZA x).oneCell' =true
 |none=>rfl|some (_,.inl _)=>rfl|some (_,.inr (_,_))=>rfl
def b9u:Option IntKind->Value->Prop
 |none,_=>True|some k,v=>∃n,v= .int k n
def vS(es:Array MapEntry)(ck n:Nat):Prop:=es.size=n/\(∀e∈es.toList,e.born<ck)/\(es.toList.map (·.born)).Nodup
def kZ(h:Array Obj)(ok:Nat->Ty->Prop):(t:Ty)->t.den->c5x->Prop
 | .ent _ _ a b,x,cs=>∃c d,cs=c++d/\kZ h ok a x.1 c/\kZ h ok b x.2 d| .bool,x,cs=>cs=[.bool x]| .int k,n,cs=>cs=[.int k n]| .str,l,cs=>cs=[.string ⟨l.toArray⟩]| .prod a b,x,cs=>∃c d,cs=c++d/\kZ h ok a x.1 c/\kZ h ok b x.2 d| .unit,_,cs=>cs=[]| .any o,_,cs=>∃v,cs=[v]/\v.oneCell' =true/\b9u o v| .ifv,x,cs=>cs=[ZA x]
 | .sl t,xs,cs=>(t.isEnt=false/\∃a cap,cs=[.slice a xs.length cap]/\xs.length<=cap/\
   ∀i x,xs[i]? =some x->∃blk off es,a=some ⟨blk,off,none⟩/\ok blk t/\bW h blk (off+i*t.size) t.size=some es/\kZ h ok t x es)\/
   (t.isEnt=true/\∃mv,cs=[.map mv]/\(mv=none->xs=[])/\∀blk,mv=some blk->ok blk t/\∃(es:Array MapEntry) (ck:Nat),h[blk]? =some (.map es ck)/\vS es ck (xs:List t.den).length/\
    ∀(i:Nat) (x:t.den),(xs:List t.den)[i]? =some x->∃e:MapEntry,es[i]? =some e/\LY t e/\kZ h ok t x (xR t e))
variable {t:Ty}{xs:List t.den}{ok:Nat->Ty->Prop}
theorem yL{cs:c5x}(ht:t.isEnt=false):kZ h ok (.sl t) xs cs↔∃a cap,cs=[.slice a xs.length cap]/\xs.length<=cap/\
   ∀i x,xs[i]? =some x->∃blk off es,a=some ⟨blk,off,none⟩/\ok blk t/\bW h blk (off+i*t.size) t.size=some es/\kZ h ok t x es:=by
 constructor
 .rintro(h|h)<;>simp_all
 .exact λh=> .inl ⟨ht,h⟩
theorem a3K{cs:c5x}(ht:t.isEnt=true):kZ h ok (.sl t) xs cs↔∃mv,cs=[.map mv]/\(mv=none->xs=[])/\∀blk,mv=some blk->ok blk t/\∃(es:Array MapEntry) (ck:Nat),h[blk]? =some (.map es ck)/\vS es ck (xs:List t.den).length/\
    ∀(i:Nat) (x:t.den),(xs:List t.den)[i]? =some x->∃e:MapEntry,es[i]? =some e/\LY t e/\kZ h ok t x (xR t e):=by
 constructor
 .rintro(h|h)<;>simp_all
 .exact λh=> .inr ⟨ht,h⟩
theorem bV{h:Array Obj}{ok:Nat->Ty->Prop} :∀{t:Ty} {x:t.den} {cs:c5x},kZ h ok t x cs->cs.length=t.size
 | .bool,_,_,e=>by simp[kZ]at e;simp[e,Ty.size]| .int _,_,_,e=>by simp[kZ]at e;simp[e,Ty.size]| .str,_,_,e=>by simp[kZ]at e;simp[e,Ty.size]| .unit,_,_,e=>by simp[kZ]at e;simp[e,Ty.size]| .any _,_,_,e=>by obtain⟨v,rfl,_⟩:=e;rfl
 | .ifv,_,_,e=>by simp[kZ]at e;simp[e,Ty.size]| .prod a b,_,_,e=>by obtain⟨c,d,rfl,h1,h2⟩:=e;simp[bV h1,bV h2,Ty.size]
 | .ent _ _ a b,_,_,e=>by obtain⟨c,d,rfl,h1,h2⟩:=e;simp[bV h1,bV h2,Ty.size]
 | .sl t,_,_,e=>by rcases e with⟨_,a,cap,rfl,_⟩|⟨_,mv,rfl,_⟩<;>simp[Ty.size]
theorem dm{h h' :Array Obj}{ok ok' :Nat->Ty->Prop}(hok:∀b t,ok b t->ok' b t)(hh:∀b t,ok b t->h'[b]? =h[b]?):
  ∀{t:Ty} {x:t.den} {cs:c5x},kZ h ok t x cs->kZ h' ok' t x cs
 | .bool,_,_,e=>e| .int _,_,_,e=>e| .str,_,_,e=>e| .unit,_,_,e=>e| .any _,_,_,e=>e| .ifv,_,_,e=>e| .prod a b,_,_,e=>by obtain⟨c,d,rfl,h1,h2⟩:=e;exact⟨c,d,rfl,dm hok hh h1,dm hok hh h2⟩
 | .ent _ _ a b,_,_,e=>by obtain⟨c,d,rfl,h1,h2⟩:=e;exact⟨c,d,rfl,dm hok hh h1,dm hok hh h2⟩
 | .sl t,xs,_,e=>by
  rcases e with⟨ht,a,cap,rfl,hc,hx⟩|⟨ht,mv,rfl,hn,hx⟩
  .refine .inl ⟨ht,a,cap,rfl,hc,λi x hi=>?_⟩;obtain⟨blk,off,es,ha,hb,he,hr⟩:=hx i x hi;exact⟨blk,off,es,ha,hok _ _ hb,by rw[rW (hh _ _ hb)];exact he,dm hok hh hr⟩
  .refine .inr ⟨ht,mv,rfl,hn,λblk hb=>?_⟩;obtain⟨ho,es,ck,he,hs,hi⟩:=hx blk hb;refine⟨hok _ _ ho,es,ck,by rw[hh _ _ ho];exact he,hs,λi x hx=>?_⟩;obtain⟨e,h1,h2,h3⟩:=hi i x hx;exact⟨e,h1,h2,dm hok hh h3⟩
theorem wX{h h' :Array Obj}{ok ok' :Nat->Ty->Prop} :∀{t:Ty} {x:t.den} {cs:c5x},t.flat=true->kZ h ok t x cs->kZ h' ok' t x cs
 | .bool,_,_,_,e=>e| .int _,_,_,_,e=>e| .str,_,_,_,e=>e| .unit,_,_,_,e=>e| .prod a b,_,_,f,e=>by simp[Ty.flat]at f;obtain⟨c,d,rfl,h1,h2⟩:=e;exact⟨c,d,rfl,wX f.1 h1,wX f.2 h2⟩
 | .sl t,xs,_,f,e=>by grind [Ty.flat]| .ent ..,xs,_,f,e=>by grind [Ty.flat]| .any _,xs,_,f,e=>by grind [Ty.flat]| .ifv,xs,_,f,e=>by simp[Ty.flat]at f
theorem wY{h:Array Obj}{ok:Nat->Ty->Prop} :∀{t:Ty} {x:t.den} {cs:c5x},kZ h ok t x cs->∀v∈cs,v.oneCell' =true
 | .bool,_,_,e=>by simp[kZ]at e;subst e;simp[Value.oneCell']| .int _,_,_,e=>by simp[kZ]at e;subst e;simp[Value.oneCell']| .str,_,_,e=>by simp[kZ]at e;subst e;simp[Value.oneCell']| .unit,_,_,e=>by simp[kZ]at e;subst e;simp| .any _,_,_,e=>by obtain⟨v,rfl,h,_⟩:=e;simp[h]
 | .ifv,x,_,e=>by simp[kZ]at e;subst e;simp[Vg]| .prod a b,_,_,e=>by
  obtain⟨c,d,rfl,h1,h2⟩:=e;intro v hv;rcases F9.1 hv with hv|hv
  .exact wY h1 v hv
  .exact wY h2 v hv
 | .ent _ _ a b,_,_,e=>by
  obtain⟨c,d,rfl,h1,h2⟩:=e;intro v hv;rcases F9.1 hv with hv|hv
  .exact wY h1 v hv
  .exact wY h2 v hv
 | .sl t,xs,_,e=>by rcases e with⟨_,a,cap,rfl,_⟩|⟨_,mv,rfl,_⟩<;>simp[Value.oneCell']
theorem wG{h:Array Obj}{ok ok' :Nat->Ty->Prop} :∀{t:Ty} {x:t.den} {cs:c5x},(∀b u,ok b u->Ty.occ u t=true->ok' b u)->kZ h ok t x cs->kZ h ok' t x cs
 | .bool,_,_,_,e=>e| .int _,_,_,_,e=>e| .str,_,_,_,e=>e| .unit,_,_,_,e=>e| .any _,_,_,_,e=>e| .ifv,_,_,_,e=>e| .prod a b,_,_,f,e=>by obtain⟨c,d,rfl,h1,h2⟩:=e;exact⟨c,d,rfl,wG (λb u h k=>f b u h (by simp[Ty.occ,k])) h1,wG (λb u h k=>f b u h (by simp[Ty.occ,k])) h2⟩
 | .ent _ _ a b,_,_,f,e=>by obtain⟨c,d,rfl,h1,h2⟩:=e;exact⟨c,d,rfl,wG (λb u h k=>f b u h (by simp[Ty.occ,k])) h1,wG (λb u h k=>f b u h (by simp[Ty.occ,k])) h2⟩
 | .sl t,xs,_,f,e=>by
  rcases e with⟨ht,a,cap,rfl,hc,hx⟩|⟨ht,mv,rfl,hn,hx⟩
  .refine .inl ⟨ht,a,cap,rfl,hc,λi x hi=>?_⟩;obtain⟨blk,off,es,ha,hb,he,hr⟩:=hx i x hi;exact⟨blk,off,es,ha,f _ _ hb (by simp[Ty.occ]),he,wG (λb u h k=>f b u h (by simp[Ty.occ,k])) hr⟩
  .refine .inr ⟨ht,mv,rfl,hn,λblk hb=>?_⟩;obtain⟨ho,es,ck,he,hs,hi⟩:=hx blk hb;refine⟨f _ _ ho (by simp[Ty.occ]),es,ck,he,hs,λi x hx=>?_⟩;obtain⟨e,h1,h2,h3⟩:=hi i x hx;exact⟨e,h1,h2,wG (λb u h k=>f b u h (by simp[Ty.occ,k])) h3⟩
inductive Loc where
 |nil|arr (blk off len cap sz:Nat)|st (blk:Nat)|mp (blk:Nat)
structure Mp where
 loc:Nat->Option Loc
 kid:Nat->c5y
instance:CoeFun Mp (λ_=>Nat->Option Loc):=⟨Mp.loc⟩
def nom:Mp:=⟨λ_=>none,λ_=>[]⟩
structure Cx where
 h:Array Obj
 ok:Nat->Ty->Prop
 m:Mp
def Loc.view:Loc->Option (Nat×Nat)->Value->Prop
 | .nil,none,v=>v= .slice none 0 0| .nil,some (lo,hi),v=>lo=0/\hi=0/\v= .slice none 0 0| .arr blk off len cap _,none,v=>v= .slice (some ⟨blk,off,none⟩) len cap| .arr blk off len cap sz,some (lo,hi),v=>lo<=hi/\hi<=len/\v= .slice (some (if cap=lo then⟨blk,off,none⟩else⟨blk,off+lo*sz,none⟩)) (hi -lo) (cap -lo)| .st _,_,_=>False| .mp b,none,v=>v= .map (some b)| .mp _,some _,_=>False
def Loc.blks:Loc->c5y
 | .nil=>[]| .arr b _ _ _ _=>[b]| .st b=>[b]| .mp b=>[b]
def Zl(h:Array Obj)(ok:Nat->Ty->Prop)(t:Ty)(x:t.den)(o:Nat)(v:Value):Prop:=
 ∃blk off es,v= .pointer (some ⟨blk,off+o,none⟩)/\ok blk t/\bW h blk off t.size=some es/\kZ h ok t x es
def Dx(h:Array Obj)(ok:Nat->Ty->Prop):List ((t:Ty)×t.den)->c5x->Prop
 |[],vs=>vs=[]|c::cs,vs=>∃v r,vs=v::r/\Zl h ok c.1 c.2 0 v/\Dx h ok cs r
def rP(C:Cx):V->Value->Prop
 | .undef,_=>True| .un,v=>v=Go.undef| .b x,v=>v= .bool x| .i k n,v=>v= .int k n| .s l,v=>v= .string ⟨l.toArray⟩| .nl,v=>v= .slice none 0 0| .npt,v=>v= .pointer none| .ifd x,v=>v=ZA x| .ne b,v=>∃a c,v= .slice a 0 c/\a.isNone=b| .sl t xs,v=>kZ C.h C.ok (.sl t) xs [v]| .own bx vw,v=>∃loc,C.m bx=some loc/\loc.view vw v| .ptr bx o,v=>∃blk,C.m bx=some (.st blk)/\v= .pointer (some ⟨blk,o,none⟩)| .ep bx ix o,v=>∃blk off len cap sz,C.m bx=some (.arr blk off len cap sz)/\ix<len/\v= .pointer (some ⟨blk,off+ix*sz+o,none⟩)| .dp t x o,v=>Zl C.h C.ok t x o v| .glob g,v=>v= .pointer (some ⟨g,0,none⟩)| .fnv f,v=>v= .func (.func f) #[] #[]| .idl f n,v=>∃cap:Array Value,v= .func (.func f) #[] cap/\cap.size=n| .clos f caps,v=>∃vs,v= .func (.func f) #[] vs/\Dx C.h C.ok caps vs.toList| .ifc t c,v=>∃u,v= .iface t u/\u.oneCell' =true/\rP C c u|_,_=>False
def fU(C:Cx):List V->c5x->Prop
 |[],vs=>vs=[]|c::cs,vs=>∃v r,vs=v::r/\rP C c v/\v.oneCell' =true/\fU C cs r
def VZ(C:Cx):V->Value->Prop
 | .agg cs,v=>∃arr,v= .agg arr/\fU C cs arr.toList|c,v=>rP C c v
def h_(C:Cx):List V->c5x->Prop
 |[],vs=>vs=[]|c::cs,vs=>∃v r,vs=v::r/\VZ C c v/\h_ C cs r
def kU(C:Cx):V->Value->Prop
 | .tup cs,v=>∃arr,v= .tuple arr/\h_ C cs arr.toList|c,v=>VZ C c v
def fzo(t:Ty)(n:Nat)(f:Nat×Nat):Prop:=f=(0,0)\/(t= .int .u8/\f=(n,n+1))
theorem fzo.of{f:Nat×Nat}(h:fzo t n f):f=(0,0)\/f=(n,n+1):=h.elim .inl λh=> .inr h.2
def arrOk(C:Cx)(t:Ty)(xs:List t.den):Loc->Prop
 | .nil=>xs=[]/\t.isEnt=false| .arr blk off len cap sz=>t.isEnt=false/\sz=t.size/\len=xs.length/\len<=cap/\∃c T f,C.h[blk]? =some (.cells c T f)/\fzo t c.size f/\off+cap*sz<=c.size/\
   ∀i x,xs[i]? =some x->∃es,bW C.h blk (off+i*sz) sz=some es/\kZ C.h C.ok t x es
 | .st _=>False| .mp blk=>t.isEnt=true/\∃(es:Array MapEntry) (ck:Nat),C.h[blk]? =some (.map es ck)/\vS es ck xs.length/\
   ∀(i:Nat) (x:t.den),(xs:List t.den)[i]? =some x->∃e:MapEntry,es[i]? =some e/\LY t e/\kZ C.h C.ok t x (xR t e)
def uB{α:Type}(h:Array Obj)(sz:Nat)(R:Nat->α->c5x->c5y->Prop)(xs:List α)(Os:List c5y):Loc->Prop
 | .nil=>xs=[]/\Os=[]| .arr blk off len cap sz' =>sz' =sz/\len=xs.length/\len<=cap/\Os.length=xs.length/\∃c T,h[blk]? =some (.cells c T (0,0))/\off+cap*sz<=c.size/\
   ∀i x,xs[i]? =some x->∃es O,Os[i]? =some O/\bW h blk (off+i*sz) sz=some es/\R i x es O
 | .st _=>False| .mp _=>False
def sH(h:Array Obj)(te:Nat)(xs:c5v):Loc->Prop
 | .nil=>xs=[]
 | .arr g off len cap sz=>off=0/\sz=1/\len=xs.length/\len<=cap/\cap<=maxLen/\∃cur fz,h[g]? =some (.cells cur te fz)/\fz.2<=len/\cur.size=cap/\cur.toList.take len=xs.map λc=>Value.int .u8 (c.toNat:Int)| .st _=>False| .mp _=>False
variable {l:Loc}
theorem wZ{te:Nat}{xs:c5v}(hh:∀b∈l.blks,h'[b]? =h[b]?)(hr:sH h te xs l):sH h' te xs l:=by
 cases l with
 |nil=>exact hr|st b=>exact hr|mp b=>exact hr|arr g off len cap sz=>obtain⟨h1,h2,h3,h4,h5,cur,fz,h6,h7⟩:=hr;exact⟨h1,h2,h3,h4,h5,cur,fz,by simp_all [Loc.blks],h7⟩
def vU(o n i:Nat):Option Nat:=if n<=i then some o else none
def lS(h:Array Obj)(ok:Nat->Ty->Prop):(m:M)->Option Nat->m.den->c5x->c5y->Prop
 | .dat t,_,x,cs,O=>kZ h ok t x cs/\O=[]| .own t,ho,xs,cs,O=>∃v,cs=[v]/\v.oneCell' =true/\(match ho with|some 0=>O=[]|_=>∃l,l.view none v/\arrOk ⟨h,ok,nom⟩ t xs l/\O=l.blks)| .pair a b,ho,x,cs,O=>∃c d O1 O2,cs=c++d/\O=O1++O2/\lS h ok a (match ho with|some o=>if o<a.size then some o else none|none=>none) x.1 c O1/\
   lS h ok b (match ho with|some o=>if o<a.size then none else some (o -a.size)|none=>none) x.2 d O2
 | .unit,_,_,cs,O=>cs=[]/\O=[]| .box m,_,x,cs,O=>∃blk arr T O',cs=[.pointer (some ⟨blk,0,none⟩)]/\h[blk]? =some (.cells arr T (0,0))/\lS h ok m none x arr.toList O' /\O=blk::O'| .owns m,ho,xs,cs,O=>∃v,cs=[v]/\v.oneCell' =true/\(match ho with|some 0=>O=[]|_=>m.el=true/\∃l Os,l.view none v/\uB h m.size (λ_ x es O=>lS h ok m none x es O) xs Os l/\O=l.blks++Os.flatten)| .ownb t,_,xs,cs,O=>∃l v,cs=[v]/\l.view none v/\arrOk ⟨h,ok,nom⟩ t xs l/\O=l.blks| .rp t,_,x,cs,O=>∃v,cs=[v]/\Zl h ok t x 0 v/\O=[]| .fn f ts,_,x,cs,O=>∃vs,cs=[.func (.func f) #[] vs]/\Dx h ok (QZ ts x) vs.toList/\O=[]| .ifc t m,_,x,cs,O=>∃u,cs=[.iface t u]/\lS h ok m none x [u] O| .lp t,_,x,cs,O=>∃v,cs=[v]/\Zl h ok t x 0 v/\O=[]| .dv ..,_,x,cs,O=>∃v,cs=[v]/\v.oneCell' =true/\O=[]| .ownr m o,_,x,cs,O=>∃v,cs=[v]/\v.oneCell' =true/\m.el=true/\0<=x.2/\∃l Os,l.view none v/\uB h m.size (λi y es O=>lS h ok m (vU o x.2.toNat i) y es O) x.1 Os l/\O=l.blks++Os.flatten| .cell b,_,x,cs,O=>∃v,cs=[v]/\v.oneCell' =true/\(b=some none->v= .slice none 0 0)/\(∀b',b=some (some b')->∃a c,v= .slice a 0 c/\a.isNone=b')/\O=[]| .fr t,_,xs,cs,O=>∃l v,cs=[v]/\l.view none v/\arrOk ⟨h,ok,nom⟩ t xs l/\(∀b∈l.blks,ok b t)/\O=[]| .sit,_,x,cs,O=>∃blk s q,cs=[.pointer (some ⟨blk,0,none⟩)]/\h[blk]? =some (.stringIter s q)/\s.data.toList=x.1/\x.2=((q:Nat):Int)/\O=[blk]| .mbx t tb te o,_,x,cs,O=>∃blk arr es a v l,cs=[.pointer (some ⟨blk,o,none⟩)]/\h[blk]? =some (.cells arr tb (0,0))/\arr.toList=es++[a,v]/\kZ h ok t (mbX t x) es/\(a= .pointer none\/a= .pointer (some ⟨blk,es.length,none⟩))/\l.view none v/\sH h te (mbT t x) l/\O=blk::l.blks
def Xk(hole:Option (Nat×Nat×Option Nat))(i:Nat):Option Nat:=match hole with|some (j,o,_)=>if i=j then some o else none|none=>none
def Vf(C:Cx)(sz:Nat)(l:Loc):Option (Nat×Nat×Option Nat)->Prop
 |none=>True|some (_,_,none)=>True|some (i,o,some n)=>∃blk off len cap u l',l= .arr blk off len cap sz/\bW C.h blk (off+i*sz+o) 1=some [u]/\C.m n=some l' /\l'.view none u
def a4J(C:Cx)(m:M)(xs:List m.den)(hole:Option (Nat×Nat×Option Nat))(Os:List c5y)(l:Loc):Prop:=
 uB C.h m.size (λi x es O=>lS C.h C.ok m (Xk hole i) x es O) xs Os l/\Vf C m.size l hole
def AY(C:Cx)(n:Nat):V->Prop
 | .bcells cs=>∃blk arr T,C.m n=some (.st blk)/\C.h[blk]? =some (.cells arr T (0,0))/\fU C cs arr.toList| .biter l p=>∃blk s q,C.m n=some (.st blk)/\C.h[blk]? =some (.stringIter s q)/\s.data.toList=l/\p=((q:Nat):Int)| .bsb tb cs c=>∃blk arr es a v,C.m n=some (.st blk)/\C.h[blk]? =some (.cells arr tb (0,0))/\arr.toList=es++[a,v]/\fU C cs es/\(a= .pointer none\/a= .pointer (some ⟨blk,es.length,none⟩))/\rP C c v| .brow te xs=>∃loc,C.m n=some loc/\sH C.h te xs loc| .barr t xs=>∃loc,C.m n=some loc/\arrOk C t xs loc| .bfrz t xs=>∃loc,C.m n=some loc/\arrOk C t xs loc/\(∀blk,blk∈loc.blks->C.ok blk t)| .barrs m xs hole=>m.el=true/\∃loc Os,C.m n=some loc/\a4J C m xs hole Os loc/\C.m.kid n=Os.flatten| .barrp m xs k o=>m.el=true/\0<=k/\∃loc Os,C.m n=some loc/\uB C.h m.size (λi x es O=>lS C.h C.ok m (vU o k.toNat i) x es O) xs Os loc/\C.m.kid n=Os.flatten| .bfc t x=>∃blk es,C.m n=some (.st blk)/\C.ok blk t/\bW C.h blk 0 t.size=some es/\kZ C.h C.ok t x es| .gone t=>∃l,C.m n=some l/\∀blk off len cap sz,l= .arr blk off len cap sz->sz=t.size| .blen ln sz=>∃k l,n=MN+k/\C.m k=some l/\(match l with| .arr _ _ len _ sz' =>ln=(len:Int)/\sz=sz'| .nil=>ln=0| .st _=>False| .mp _=>False)|_=>True
def N8(m:Mp)(n:Nat):V->c5y
 | .bcells _=>match m n with|some (.st blk)=>[blk]|_=>[]
 | .biter _ _=>match m n with|some (.st blk)=>[blk]|_=>[]
 | .bsb _ _ _=>match m n with|some (.st blk)=>[blk]|_=>[]
 | .brow _ _=>match m n with|some (.arr blk _ _ _ _)=>[blk]|_=>[]
 | .barr _ _=>match m n with|some (.arr blk _ _ _ _)=>[blk]|some (.mp blk)=>[blk]|_=>[]
 | .barrs _ _ _=>(match m n with|some (.arr blk _ _ _ _)=>[blk]|_=>[])++m.kid n| .barrp _ _ _ _=>(match m n with|some (.arr blk _ _ _ _)=>[blk]|_=>[])++m.kid n|_=>[]
def b3h:V->List Ty
 | .barr t _=>[t]| .barrs m _ _=>m.ty::m.owned|_=>[]
def a9I(v:V)(t:Ty):Prop:=match v with
 | .bcells _=>True|v=>t∈b3h v
structure Cx.le (C D:Cx):Prop where
 ok:∀b t,C.ok b t->D.ok b t
 h:∀b t,C.ok b t->D.h[b]? =C.h[b]?
 m:∀n l,C.m n=some l->D.m n=some l
theorem Cx.le.refl(C:Cx):C.le C:=⟨λ_ _ h=>h,λ_ _ _=>rfl,λ_ _ h=>h⟩
theorem Cx.le.trans{A B C:Cx}(h:A.le B)(k:B.le C):A.le C:=
 ⟨λb t x=>k.ok _ _ (h.ok _ _ x),λb t x=>(k.h _ _ (h.ok _ _ x)).trans (h.h _ _ x),λn l x=>k.m _ _ (h.m _ _ x)⟩
variable {v:Value}{ok':Nat->Ty->Prop}
theorem CZ(hok:∀b t,ok b t->ok' b t)(hh:∀b t,ok b t->h'[b]? =h[b]?){x:t.den}{o:Nat}(hr:Zl h ok t x o v):Zl h' ok' t x o v:=by obtain⟨b,o',es,hv,hb,hc,hp⟩:=hr;exact⟨b,o',es,hv,hok _ _ hb,by grind [rW],dm hok hh hp⟩
theorem Jc{h h' :Array Obj}{ok ok' :Nat->Ty->Prop}(hok:∀b t,ok b t->ok' b t)(hh:∀b t,ok b t->h'[b]? =h[b]?):∀{cs:List ((t:Ty)×t.den)} {vs:c5x},Dx h ok cs vs->Dx h' ok' cs vs
 |[],_,hr=>hr|_::_,_,⟨v,r,e,h1,h2⟩=>⟨v,r,e,CZ hok hh h1,Jc hok hh h2⟩
variable {C:Cx}{D:Cx}
theorem TT(h:C.le D):∀{c:V} {v:Value},rP C c v->rP D c v:=by
 intro c;induction c using V.rec<;>try trivial
 all_goals
  intro v hr;simp[rP]at hr ⊢
  try exact hr
 case sl t xs=>exact dm h.ok h.h hr
 case own bx vw=>obtain⟨l,hm,hv⟩:=hr;exact⟨l,h.m _ _ hm,hv⟩
 case ptr bx o=>obtain⟨b,hm,hv⟩:=hr;exact⟨b,h.m _ _ hm,hv⟩
 case ep bx ix o=>obtain⟨b,o',l,c,s,hm,hv⟩:=hr;exact⟨b,o',l,c,s,h.m _ _ hm,hv⟩
 case dp t x o=>exact CZ h.ok h.h hr
 case clos f caps=>obtain⟨vs,e,hc⟩:=hr;exact⟨vs,e,Jc h.ok h.h hc⟩
 grind
theorem Bo{C D:Cx}(h:C.le D):∀{cs:List V} {vs:c5x},fU C cs vs->fU D cs vs
 |[],_,hr=>hr|_::_,_,⟨v,r,e,h1,h2,h3⟩=>⟨v,r,e,TT h h1,h2,Bo h h3⟩
theorem a5E(h:C.le D){c:V}(hr:VZ C c v):VZ D c v:=by
 cases c<;>simp[VZ]at hr ⊢<;>try exact TT h hr
 grind [Bo]
theorem a5F{C D:Cx}(h:C.le D):∀{cs:List V} {vs:c5x},h_ C cs vs->h_ D cs vs
 |[],_,hr=>hr|_::_,_,⟨v,r,e,h1,h3⟩=>⟨v,r,e,a5E h h1,a5F h h3⟩
theorem Ij(h:C.le D){c:V}(hr:kU C c v):kU D c v:=by
 cases c<;>simp[kU]at hr ⊢<;>try exact a5E h hr
 grind [a5F]
theorem oL{m m' :Mp}(hok:∀b t,ok b t->ok' b t)(hh:∀b t,ok b t->h'[b]? =h[b]?)
  (hb:∀b∈l.blks,h'[b]? =h[b]?) (hr:arrOk ⟨h,ok,m⟩ t xs l):arrOk ⟨h',ok',m'⟩ t xs l:=by
 cases l with
 |nil=>exact hr|st b=>exact hr|mp blk=>have e:=hb blk (by simp[Loc.blks]);obtain⟨h1,es,ck,h2,h3,h4⟩:=hr;refine⟨h1,es,ck,by rw[e];exact h2,h3,λi x hi=>?_⟩<;>grind [dm]
 |arr blk off len cap sz=>have e:=hb blk (by simp[Loc.blks]);obtain⟨h0,h1,h2,h3,c,T,f,h4,hz,h5,h6⟩:=hr;refine⟨h0,h1,h2,h3,c,T,f,by show h'[blk]? =_;rw[e];exact h4,hz,h5,λi x hi=>?_⟩<;>grind [rW,dm]
theorem a0g(h:C.le D)(hb:∀b∈l.blks,D.h[b]? =C.h[b]?)(hr:arrOk C t xs l):arrOk D t xs l:=
 oL h.ok h.h hb hr
theorem uo{α:Type}{sz:Nat}{R R' :Nat->α->c5x->c5y->Prop}{xs:List α}{Os:List c5y}(hb:∀b∈l.blks,h'[b]? =h[b]?)
  (hR:∀i x es O,O∈Os->R i x es O->R' i x es O) (hr:uB h sz R xs Os l):uB h' sz R' xs Os l:=by
 cases l with
 |nil=>exact hr|st b=>exact hr|mp b=>exact hr|arr blk off len cap sz=>have e:=hb blk (by simp[Loc.blks]);obtain⟨h1,h2,h3,h7,c,T,h4,h5,h6⟩:=hr;refine⟨h1,h2,h3,h7,c,T,by rw[e];exact h4,h5,λi x hi=>?_⟩<;>grind [rW]
theorem gZ{h h' :Array Obj}{ok ok' :Nat->Ty->Prop}(hok:∀b t,ok b t->ok' b t)(hh:∀b t,ok b t->h'[b]? =h[b]?):
  ∀{m:M} {ho:Option Nat} {x:m.den} {cs:c5x} {O:c5y},(∀b∈O,h'[b]? =h[b]?)->lS h ok m ho x cs O->lS h' ok' m ho x cs O
 | .dat t,_,_,_,_,_,e=>⟨dm hok hh e.1,e.2⟩| .own t,ho,_,_,O,hb,⟨v,e,h1,ha⟩=>by
  refine⟨v,e,h1,?_⟩;split at ha
  .exact ha
  .obtain⟨l,hv,ha,ho⟩:=ha;exact⟨l,hv,oL hok hh (by subst ho;exact hb) ha,ho⟩
 | .pair a b,_,_,_,_,hb,⟨c,d,O1,O2,e,eo,h1,h2⟩=>by subst eo;exact⟨c,d,O1,O2,e,rfl,gZ hok hh (λb h=>hb b (by simp[h])) h1,gZ hok hh (λb h=>hb b (by simp[h])) h2⟩| .unit,_,_,_,_,_,e=>e| .box m,_,_,_,_,hb,⟨blk,arr,T,O',e,hh',hr,eo⟩=>by subst eo;exact⟨blk,arr,T,O',e,by rw[hb blk x8];exact hh',gZ hok hh (λb h=>hb b (by simp[h])) hr,rfl⟩| .owns m,ho,_,_,O,hb,⟨v,e,h1,ha⟩=>by
  refine⟨v,e,h1,?_⟩;split at ha
  .exact ha
  .obtain⟨he,l,Os,hv,ha,ho⟩:=ha;subst ho;exact⟨he,l,Os,hv,uo (λb h=>hb b (by simp[h])) (λi x es O hO hr=>gZ hok hh (λb h=>hb b (by simp only[F9,X7];exact .inr ⟨O,hO,h⟩)) hr) ha,rfl⟩
 | .ownb t,_,_,_,_,hb,⟨l,v,e,hv,ha,ho⟩=>⟨l,v,e,hv,oL hok hh (by subst ho;exact hb) ha,ho⟩| .rp t,_,_,_,_,_,⟨v,e,h1,h2⟩=>⟨v,e,CZ hok hh h1,h2⟩| .fn f ts,_,_,_,_,_,⟨vs,e,h1,h2⟩=>⟨vs,e,Jc hok hh h1,h2⟩| .lp t,_,_,_,_,_,⟨v,e,h1,h2⟩=>⟨v,e,CZ hok hh h1,h2⟩| .dv ..,_,_,_,_,_,h=>h| .ownr md o,_,x,_,O,hb,⟨v,e,h1,he,h0,l,Os,hv,ha,ho⟩=>by
  subst ho;exact⟨v,e,h1,he,h0,l,Os,hv,uo (λb h=>hb b (by simp[h])) (λi x es O hO hr=>gZ hok hh (λb h=>hb b (by simp only[F9,X7];exact .inr ⟨O,hO,h⟩)) hr) ha,rfl⟩
 | .ifc t m,_,_,_,_,hb,⟨u,e,h1⟩=>⟨u,e,gZ hok hh hb h1⟩| .cell b,_,_,_,_,_,h=>h| .fr t,_,_,_,_,_,⟨l,v,e,hv,ha,hk,ho⟩=>⟨l,v,e,hv,oL hok hh (λb h=>hh _ _ (hk b h)) ha,λb h=>hok _ _ (hk b h),ho⟩| .sit,_,_,_,_,hb,⟨blk,s,q,e,hh',h2,h3,eo⟩=>by subst eo;exact⟨blk,s,q,e,by rw[hb blk x8];exact hh',h2,h3,rfl⟩| .mbx t tb te o,_,_,_,_,hb,⟨blk,arr,es,a,v,l,e,hh',h1,h2,h3,h4,h5,eo⟩=>by subst eo;exact⟨blk,arr,es,a,v,l,e,by rw[hb blk x8];exact hh',h1,dm hok hh h2,h3,h4,wZ (λb h=>hb b (by simp[h])) h5,rfl⟩
theorem TS(h:C.le D){v:V}(hk:D.m.kid n=C.m.kid n)(hb:∀b∈N8 C.m n v,D.h[b]? =C.h[b]?)(hr:AY C n v):AY D n v:=by
 cases v<;>simp only[AY]at hr ⊢
 case bcells cs=>obtain⟨blk,arr,T,hm,hh,hl⟩:=hr;exact⟨blk,arr,T,h.m _ _ hm,by rw[hb blk (by simp[N8,hm])];exact hh,Bo h hl⟩
 case biter l p=>obtain⟨blk,s,q,hm,hh,h2,h3⟩:=hr;exact⟨blk,s,q,h.m _ _ hm,by rw[hb blk (by simp[N8,hm])];exact hh,h2,h3⟩
 case bsb tb cs c=>obtain⟨blk,arr,es,a,v,hm,hh,h1,h2,h3,h4⟩:=hr;exact⟨blk,arr,es,a,v,h.m _ _ hm,by rw[hb blk (by simp[N8,hm])];exact hh,h1,Bo h h2,h3,TT h h4⟩
 case brow te xs=>
  obtain⟨l,hm,ha⟩:=hr;refine⟨l,h.m _ _ hm,wZ (λb hbl=>hb b ?_) ha⟩;cases l<;>simp[Loc.blks]at hbl
  .subst hbl;simp[N8,hm]
  .cases ha
  .cases ha
 case barr t xs=>
  obtain⟨l,hm,ha⟩:=hr;refine⟨l,h.m _ _ hm,a0g h ?_ ha⟩;intro b hbl;refine hb b ?_;cases l<;>simp[Loc.blks]at hbl
  .subst hbl;simp[N8,hm]
  .cases ha
  .subst hbl;simp[N8,hm]
 case bfrz t xs=>obtain⟨l,hm,ha,hok⟩:=hr;refine⟨l,h.m _ _ hm,a0g h ?_ ha,λblk e=>h.ok _ _ (hok _ e)⟩;intro b hbl;exact h.h _ _ (hok _ hbl)
 case barrp m xs k o=>
  obtain⟨he,h0,l,Os,hm,ha,ho⟩:=hr;refine⟨he,h0,l,Os,h.m _ _ hm,uo ?_ ?_ ha,hk.trans ho⟩
  .intro b hbl;refine hb b ?_;cases l<;>simp[Loc.blks]at hbl
   .subst hbl;simp[N8,hm]
   .cases ha
   .cases ha
  .intro i x es O hO hr;refine gZ h.ok h.h (λb hbO=>hb b ?_) hr;simp only[N8,F9];right;rw[ho];exact X7.2 ⟨O,hO,hbO⟩
 case barrs m xs hole=>
  obtain⟨he,l,Os,hm,ha,ho⟩:=hr;obtain⟨ha,hh⟩:=ha;refine⟨he,l,Os,h.m _ _ hm,⟨uo ?_ ?_ ha,?_⟩,hk.trans ho⟩
  .intro b hbl;refine hb b ?_;cases l<;>simp[Loc.blks]at hbl
   .subst hbl;simp[N8,hm]
   .cases ha
   .cases ha
  .intro i x es O hO hr;refine gZ h.ok h.h (λb hbO=>hb b ?_) hr;simp only[N8,F9];right;rw[ho];exact X7.2 ⟨O,hO,hbO⟩
  .rcases hole with _|⟨i,o,_|k⟩
   .trivial
   .trivial
   .obtain⟨blk,off,len,cap,u,l',rfl,h1,h2,h3⟩:=hh;exact⟨blk,off,len,cap,u,l',rfl,by rw[rW (hb blk (by simp[N8,hm]))];exact h1,h.m _ _ h2,h3⟩
 case bfc t x=>obtain⟨blk,es,hm,hok,he,hr⟩:=hr;exact⟨blk,es,h.m _ _ hm,h.ok _ _ hok,by rw[rW (h.h _ _ hok)];exact he,dm h.ok h.h hr⟩
 case gone t=>obtain⟨l,hm,hs⟩:=hr;exact⟨l,h.m _ _ hm,hs⟩
 case blen ln sz=>obtain⟨k,l,e,hm,hs⟩:=hr;exact⟨k,l,e,h.m _ _ hm,hs⟩
theorem gX{C:Cx} :∀{cs:List V} {vs:c5x},fU C cs vs->cs.length=vs.length
 |[],_,h=>by simp_all [fU]|_::_,_,⟨v,r,e,_,_,h3⟩=>by subst e;simp[gX h3]
theorem zf{C:Cx} :∀{a:List V} {va:c5x} {b:List V} {vb:c5x},fU C a va->fU C b vb->fU C (a++b) (va++vb)
 |[],_,_,_,h,k=>by simp_all [fU]|_::_,_,_,_,⟨v,r,e,h1,h2,h3⟩,k=>by subst e;exact⟨v,r++_,rfl,h1,h2,zf h3 k⟩
theorem JR{C:Cx} :∀{cs:List V} {vs:c5x},fU C cs vs->∀v∈vs,v.oneCell' =true
 |[],_,h=>by simp_all [fU]|_::_,_,⟨v,r,e,_,h2,h3⟩=>by
  subst e;intro u hu;rcases D7.1 hu with rfl|hu
  .exact h2
  .exact JR h3 u hu
theorem qp{C:Cx} :∀(n:Nat) {cs:List V} {vs:c5x},fU C cs vs->fU C (cs.drop n) (vs.drop n)
 |0,_,_,h=>by simp_all|n+1,[],_,h=>by simp_all [fU]|n+1,_::_,_,⟨v,r,e,_,_,h3⟩=>by simp_all [qp]
theorem rf{C:Cx} :∀(n:Nat) {cs:List V} {vs:c5x},fU C cs vs->fU C (cs.take n) (vs.take n)
 |0,_,_,h=>by simp[fU]|n+1,[],_,h=>by simp_all [fU]|n+1,_::_,_,⟨v,r,e,h1,h2,h3⟩=>by subst e;exact⟨v,r.take n,x8,h1,h2,rf n h3⟩
theorem lZ:∀(t:Ty) (x:t.den) (r:List V),flat t x r=flat t x []++r
 | .bool,_,_=>rfl| .int _,_,_=>rfl| .str,_,_=>rfl| .sl _,_,_=>rfl| .unit,_,_=>rfl| .any _,_,_=>rfl| .ifv,_,_=>rfl| .prod a b,x,r=>by simp only[flat];rw[lZ a x.1 (flat b x.2 r),lZ b x.2 r,lZ a x.1 (flat b x.2 [])];simp| .ent _ _ a b,x,r=>by simp only[flat];rw[lZ a x.1 (flat b x.2 r),lZ b x.2 r,lZ a x.1 (flat b x.2 [])];simp
theorem oG{C:Cx} :∀{t:Ty} {x:t.den} {cs:c5x},kZ C.h C.ok t x cs->fU C (flat t x []) cs
 | .bool,x,_,h=>by simp[kZ]at h;subst h;exact⟨_,_,rfl,rfl,rfl,rfl⟩| .int _,x,_,h=>by simp[kZ]at h;subst h;exact⟨_,_,rfl,rfl,rfl,rfl⟩| .str,x,_,h=>by simp[kZ]at h;subst h;exact⟨_,_,rfl,rfl,rfl,rfl⟩| .unit,_,_,h=>by simp[kZ]at h;subst h;rfl| .any _,_,_,h=>by obtain⟨v,rfl,h1,_⟩:=h;exact⟨v,[],rfl,trivial,h1,rfl⟩
 | .ifv,x,_,h=>by simp[kZ]at h;subst h;exact⟨_,_,rfl,rfl,Vg x,rfl⟩
 | .sl t,xs,_,h=>by have h' :=h;rcases h with⟨_,a,cap,rfl,_⟩|⟨_,mv,rfl,_⟩<;>exact⟨_,_,rfl,h',rfl,rfl⟩
 | .ent _ _ a b,x,_,h=>by obtain⟨c,d,rfl,h1,h2⟩:=h;simp only[flat];rw[lZ a];exact zf (oG h1) (oG h2)
 | .prod a b,x,_,h=>by obtain⟨c,d,rfl,h1,h2⟩:=h;simp only[flat];rw[lZ a];exact zf (oG h1) (oG h2)
theorem nU:∀(t:Ty) (x:t.den),(flat t x []).length=t.size
 | .bool,_=>rfl| .int _,_=>rfl| .str,_=>rfl| .sl _,_=>rfl| .unit,_=>rfl| .any _,_=>rfl| .ifv,_=>rfl| .prod a b,x=>by simp only[flat,Ty.size];rw[lZ a,A7,nU a x.1,nU b x.2]| .ent _ _ a b,x=>by simp only[flat,Ty.size];rw[lZ a,A7,nU a x.1,nU b x.2]
theorem oP{vw:Option (Nat×Nat)}(ha:arrOk C t xs l)(hv:l.view vw v)
  (hok:∀b t,C.ok b t->ok' b t) (hb:∀blk,blk∈l.blks->ok' blk t):kZ C.h ok' (.sl t) (kF vw xs) [v]:=by
 cases l with
 |st b=>cases ha|mp b=>
  obtain⟨h0,es,ck,h1,h2,h3⟩:=ha;cases vw with
  |some p=>cases hv|none=>subst hv;refine .inr ⟨h0,some b,rfl,(λh=>nomatch h),λblk e=>?_⟩;cases e;refine⟨hb b (by simp[Loc.blks]),es,ck,h1,h2,λi x hi=>?_⟩;obtain⟨en,a1,a2,a3⟩:=h3 i x hi<;>grind [dm]
 |nil=>
  obtain⟨ha,h0⟩:=ha;subst ha;cases vw with
  |none=>subst hv;exact .inl ⟨h0,none,0,rfl,E5 _,λi x hi=>by grind [kF]⟩|some p=>obtain⟨lo,hi⟩:=p;obtain⟨rfl,rfl,rfl⟩:=hv;exact .inl ⟨h0,none,0,by simp[kF,lq],by simp[kF,lq],λi x hi=>by grind [kF,lq]⟩
 |arr blk off len cap sz=>
  obtain⟨h0,rfl,rfl,hc,c,T,f,hh,hz,hs,hx⟩:=ha;have hbk:=hb blk (by simp[Loc.blks]);cases vw with
  |none=>subst hv;refine .inl ⟨h0,_,cap,rfl,hc,λi x hi=>?_⟩;obtain⟨es,he,hr⟩:=hx i x hi<;>grind [dm]
  |some p=>
   obtain⟨lo,hi⟩:=p;obtain⟨h1,h2,rfl⟩:=hv;have hl:(kF (some (lo,hi)) xs).length=hi -lo:=by simp_all [kF,lq]
   refine .inl ⟨h0,_,cap -lo,by rw[hl],l9,λi x hix=>?_⟩;have hi' :i<hi -lo:=by grind
   have hx' :xs[lo+i]? =some x:=by
    grind [kF,lq]
   obtain⟨es,he,hr⟩:=hx _ x hx';have hne:cap≠lo:=l9;refine⟨blk,off+lo*t.size,es,by simp[hne],hbk,?_,dm hok (λ_ _ _=>rfl) hr⟩<;>grind
end Go.GP
namespace Go.GP
abbrev Sm:=Nat->V
def upd(S:Sm)(k:Nat)(v:V):Sm:=λn=>if n=k then v else S n
@[simp] theorem Eo (S:Sm) (k:Nat) (v:V):upd S k v k=v:=by simp[upd]
theorem aW(S:Sm){k n:Nat}(v:V)(h:n≠k):upd S k v n=S n:=by simp[upd,h]
variable {α:Type}
def Cmd.eval :Cmd α->Sm->Tr->Option (α×Sm×Tr)
 | .ret x,S,t=>some (x,S,t)| .fail,_,_=>none| .get k c,S,t=>(c (S k)).eval S (k::t.1,t.2)| .set k v c,S,t=>c.eval (upd S k v) (t.1,k::t.2)
 | .opt o c,S,t=>match o with|some x=>(c x).eval S t|none=>none
 | .br b c d,S,t=>if b=true then c.eval S t else d.eval S t
def Cmd.post :Cmd α->Sm->(α->Sm->Prop)->Prop
 | .ret x,S,Q=>Q x S| .fail,_,_=>True| .get k c,S,Q=>(c (S k)).post S Q| .set k v c,S,Q=>c.post (upd S k v) Q| .opt o c,S,Q=>∀x,o=some x->(c x).post S Q| .br b c d,S,Q=>(b=true->c.post S Q)/\(b=false->d.post S Q)
theorem qY{α:Type}{Q:α->Sm->Prop} :∀{c:Cmd α} {S S' :Sm} {t t' :Tr} {x:α},c.post S Q->c.eval S t=some (x,S',t')->Q x S'
 | .ret x,_,_,_,_,_,h,e=>by obtain⟨rfl,rfl,rfl⟩:=e;exact h
 | .fail,_,_,_,_,_,h,e=>by grind [Cmd.eval]| .get k c,_,_,_,_,_,h,e=>qY (c:=c _) h e| .set k v c,_,_,_,_,_,h,e=>qY (c:=c) h e| .opt o c,_,_,_,_,_,h,e=>by
  cases o with
  |none=>grind [Cmd.eval]|some x=>exact qY (h x rfl) e
 | .br b c d,_,_,_,_,_,h,e=>by
  cases b
  .exact qY (h.2 rfl) (by simpa[Cmd.eval]using e)
  .exact qY (h.1 rfl) (by simpa[Cmd.eval]using e)
theorem tX{α:Type}{Q Q' :α->Sm->Prop}(hq:∀x S,Q x S->Q' x S):∀{c:Cmd α} {S:Sm},c.post S Q->c.post S Q'
 | .ret x,_,h=>hq _ _ h| .fail,_,_=>trivial| .get k c,_,h=>tX hq (c:=c _) h| .set k v c,_,h=>tX hq (c:=c) h
 | .opt o c,_,h=>λx e=>tX hq (c:=c x) (h x e)| .br b c d,_,h=>⟨λe=>tX hq (c:=c) (h.1 e),λe=>tX hq (c:=d) (h.2 e)⟩
theorem Dc{α β:Type}{f:α->Cmd β} :∀(c:Cmd α) (S:Sm) (t:Tr),(c.bind f).eval S t=(match c.eval S t with|some (x,S',t')=>(f x).eval S' t'|none=>none)
 | .ret x,S,t=>rfl| .fail,_,_=>rfl| .get k c,S,t=>Dc (c (S k)) S _| .set k v c,S,t=>Dc c _ _| .opt o c,S,t=>by
  cases o with
  |none=>rfl|some x=>exact Dc (c x) S t
 | .br b c d,S,t=>by
  cases b
  .simpa[Cmd.bind,Cmd.eval]using Dc d S t
  .simpa[Cmd.bind,Cmd.eval]using Dc c S t
theorem yY{α β:Type}{Q:β->Sm->Prop}{f:α->Cmd β} :∀{c:Cmd α} {S:Sm},c.post S (λx S' =>(f x).post S' Q)->(c.bind f).post S Q
 | .ret x,_,h=>h| .fail,_,_=>trivial| .get k c,_,h=>yY (c:=c _) h| .set k v c,_,h=>yY (c:=c) h
 | .opt o c,_,h=>λx e=>yY (c:=c x) (h x e)| .br b c d,_,h=>⟨λe=>yY (c:=c) (h.1 e),λe=>yY (c:=d) (h.2 e)⟩
theorem DR{R:Type} :∀(v:V) (K:V->R),v.force K=K v:=by
 intro v;induction v using V.rec (motive_2:=λ_=>True)<;>try trivial
 all_goals intro K
 all_goals try rfl
 case i k n=>cases k<;>rfl
 case own bx vw=>cases vw<;>rfl
 case barrs m xs h=>rcases h with _|⟨p,q,_|r⟩<;>rfl
 case ifc t v ih=>simp only[V.force];rw[ih]
 case bsb tb cs c _ ih=>simp only[V.force];rw[ih]
theorem XY{R:Type} :∀(l:List V) (K:List V->R),Nc l K=K l
 |[],_=>rfl|v::r,K=>by simp[Nc,DR,XY r]
theorem a6L{R:Type}(v:V)(K:V->R):v.force2 K=K v:=by unfold V.force2;rw[DR];cases v<;>simp[XY,DR]
theorem a5o(k:Nat)(v:V)(s:St):aI (.kv k v::s)=upd (aI s) k v:=by
 funext n;simp[aI,upd];by_cases h:n=k
 .simp_all
 grind [Nat.eq_of_beq_eq_true]
theorem Ee{α β:Type}{o:Option α}{f:α->Option β}{r:β}(h:o5 o f=some r):∃x,o=some x/\f x=some r:=by cases o<;>simp_all [o5]
theorem kV{α R:Type} :∀{c:Cmd α} {s:St} {t:Tr} {K:α->St->Tr->Option R} {r:R},c.runK s t K=some r->
  ∃x s' t',c.eval (aI s) t=some (x,aI s',t')/\K x s' t' =some r
 | .ret x,s,t,K,r,h=>⟨x,s,t,rfl,h⟩| .fail,_,_,_,_,h=>by grind [Cmd.runK]| .get k c,s,t,K,r,h=>by simp[Cmd.runK,DR]at h;exact kV (c:=c _) h| .set k v c,s,t,K,r,h=>by simp[Cmd.runK,a6L]at h;obtain⟨x,s',t',e,hk⟩:=kV h<;>grind [Cmd.eval,a5o]
 | .opt o c,s,t,K,r,h=>by obtain⟨y,rfl,h⟩:=Ee h;exact kV (c:=c y) h
 | .br b c d,s,t,K,r,h=>by
  cases b
  .obtain⟨x,s',t',e,hk⟩:=kV (show d.runK s t K=some r from h)<;>grind [Cmd.eval]
  .obtain⟨x,s',t',e,hk⟩:=kV (show c.runK s t K=some r from h)<;>grind [Cmd.eval]
theorem AA{α:Type} :∀{c:Cmd α} {S S' :Sm} {t t' :Tr} {x:α},c.eval S t=some (x,S',t')->(∀k∈t.1,k∈t'.1)/\(∀k∈t.2,k∈t'.2)
 | .ret x,_,_,_,_,_,e=>by simp_all [Cmd.eval]| .fail,_,_,_,_,_,e=>by grind [Cmd.eval]| .get k c,_,_,_,_,_,e=>by have h:=AA (c:=c _) e;exact⟨λn hn=>h.1 n (by simp[hn]),h.2⟩| .set k v c,_,_,_,_,_,e=>by have h:=AA (c:=c) e;exact⟨h.1,λn hn=>h.2 n (by simp[hn])⟩| .opt o c,_,_,_,_,_,e=>by
  cases o with
  |none=>simp[Cmd.eval]at e|some x=>exact AA (c:=c x) e
 | .br b c d,_,_,_,_,_,e=>by
  cases b
  .exact AA (by simpa[Cmd.eval]using e)
  .exact AA (by simpa[Cmd.eval]using e)
theorem rX{α:Type} :∀{c:Cmd α} {S S' :Sm} {t t' :Tr} {x:α},c.eval S t=some (x,S',t')->∀T:Sm,(∀k∈t'.1,T k=S k)->
  ∃T',c.eval T t=some (x,T',t')/\(∀k,T k=S k->T' k=S' k)/\(∀k,k∉t'.2->T' k=T k)/\(∀k,k∈t'.2->k∉t.2->T' k=S' k)
 | .ret x,_,_,_,_,_,e,T,hT=>by simp_all [Cmd.eval]| .fail,_,_,_,_,_,e,_,_=>by grind [Cmd.eval]| .get k c,S,_,t,t',_,e,T,hT=>by have hk:T k=S k:=hT k ((AA (c:=c _) e).1 k x8);obtain⟨T',h1,h2,h3,h4⟩:=rX (c:=c _) e T hT<;>simp_all [Cmd.eval]
 | .set k v c,S,_,t,t',_,e,T,hT=>by
  obtain⟨T',h1,h2,h3,h4⟩:=rX (c:=c) e (upd T k v) (λn hn=>by by_cases h:n=k<;>simp_all [aW])
  have hkin:=(AA (c:=c) e).2 k x8;refine⟨T',h1,λn hn=>h2 n ?_,λn hn=>?_,λn hn hn' =>?_⟩
  .by_cases h:n=k<;>simp_all [aW]
  .grind [aW]
  .by_cases h:n=k<;>simp_all
 | .opt o c,_,_,_,_,_,e,T,hT=>by
  cases o with
  |none=>grind [Cmd.eval]|some x=>exact rX (c:=c x) e T hT
 | .br b c d,_,_,_,_,_,e,T,hT=>by
  cases b
  .obtain⟨T',h1,h2⟩:=rX (by simpa[Cmd.eval]using e) T hT<;>simp_all [Cmd.eval]
  .obtain⟨T',h1,h2⟩:=rX (by simpa[Cmd.eval]using e) T hT<;>simp_all [Cmd.eval]
theorem yG{c:Cmd α}{S S' :Sm}{t t' :Tr}{x:α}(e:c.eval S t=some (x,S',t'))(k:Nat)(h:k∉t'.2):S' k=S k:=by obtain⟨T',h1,_,h3,_⟩:=rX e S (λ_ _=>rfl)<;>simp_all
section draws
variable {n:Nat} {c:Nat->Cmd Unit} {S:Nat->Sm} {T:Nat->Tr}
def SD(S:Nat->Sm)(T:Nat->Tr)(D:c5y):Nat->Sm
 |0=>S 0
 |m+1=>λk=>if m∈D/\k∈(T m).2 then S (m+1) k else SD S T D m k
theorem CX(hs:∀i,i<n->(c i).eval (S i) ([],[])=some ((),S (i+1),T i))(D:c5y)(k:Nat):
  ∀m,m<=n->(∀j,j<m->k∈(T j).2->j∈D)->SD S T D m k=S m k
 |0,_,_=>rfl|m+1,hm,h=>by
  have ih:=CX hs D k m l9 (λj hj=>h j l9);simp only[SD];by_cases hk:k∈(T m).2
  .simp_all
  .rw[if_neg (λx=>hk x.2),ih,yG (hs m l9) k hk]
theorem Og(D:c5y)(k i:Nat):∀m,i<=m->(∀j,i<=j->j<m->k∈(T j).2->j∉D)->SD S T D m k=SD S T D i k
 |m,hm,h=>by induction m<;>grind [SD]
theorem a4C(D:c5y)(i k:Nat)(hk:k∉(T i).2):∀m,SD S T (i::D) m k=SD S T D m k
 |0=>rfl|m+1=>by
  simp[SD,a4C D i k hk m];by_cases e:m=i
  .subst e;simp[hk]
  .simp[D7,e]
theorem a8c(hs:∀i,i<n->(c i).eval (S i) ([],[])=some ((),S (i+1),T i)){D:c5y}(hD:∀i,i<n->i∈D):SD S T D n=S n:=by funext k;exact CX hs D k n l9 (λj hj _=>hD j hj)
theorem a8d(n:Nat):SD S T [] n=S 0:=by induction n<;>simp_all [SD]
end draws
end Go.GP
namespace Go.GP
def a4B(P:Program)(d:Deferred):Prop:=∃fv cap f args,d.target= .fn fv cap/\(∀w:World,(invoke d.target d.args).run P w= .ok (.enter f args) w)/\
 ∀w,CallsD P f args .returning w λe u' w' =>(∃v,e= .returned v)/\u' = .returning/\w' =w
def b9l(P:Program)(f n:Nat):Prop:=∀cap:Array Value,cap.size=n->a4B P { target:=.fn (.func f) cap,args:=#[] }
theorem Rz{P:Program}{fn:Func}{tmps:Array Value}{R:Ending->World->Prop}{w:World}(h:∃v,(results fn tmps).run P w= .ok v w/\R (.returned v) w):∀(ds:List Deferred),(∀d∈ds,a4B P d)->Leaves P fn tmps R ds .returning w
 |[],_=>h
 |d::ds,hd=>by obtain⟨fv,cap,f,args,ht,hi,hc⟩:=hd d x8;refine⟨x8,fv,cap,f,args,ht,hi w,(hc w).mono ?_⟩;rintro e u' w' ⟨⟨v,rfl⟩,rfl,rfl⟩;exact Rz h ds λx hx=>hd x (by simp[hx])
structure Fx where
 P:Program
 E:Env
 w0:World
 O:c5y
 ok0:Nat->Ty->Prop
 tm0:Array Value
 df:Option (List Deferred)
structure Frame' (μ:Prop) (w0 w:World) (O:c5y):Prop where
 os:w.os=w0.os
 tape:w.tape=w0.tape
 output:w.output=w0.output
 size:w0.heap.size<=w.heap.size
 block:∀b,b<w0.heap.size->b∉O->w.heap[b]? =w0.heap[b]?
 drawn:μ->w0.drawn<=w.drawn
theorem Frame'.refl{μ:Prop}(w:World)(O:c5y):Frame' μ w w O:=⟨rfl,rfl,rfl,E5 _,λ_ _ _=>rfl,λ_=>E5 _⟩
def b4y(h:Array Obj)(g n:Nat):Prop:=∃c T f,h[g]? =some (.cells c T f)/\c.size=n
def GG(C:Cx)(g:Nat)(t:Ty)(xs:List t.den):Prop:=
 C.ok g t/\b4y C.h g (xs.length*t.size)/\∀i x,xs[i]? =some x->∃es,bW C.h g (i*t.size) t.size=some es/\kZ C.h C.ok t x es
theorem GG.le{C D:Cx}(h:C.le D){g:Nat}{t:Ty}{xs:List t.den}(k:GG C g t xs):GG D g t xs:=by obtain⟨h1,h3,h2⟩:=k;refine⟨h.ok _ _ h1,by unfold b4y at h3 ⊢;rw[h.h _ _ h1];omega,λi x hi=>?_⟩;obtain⟨es,he,hr⟩:=h2 i x hi;exact⟨es,by rw[rW (h.h _ _ h1)];omega,dm h.ok h.h hr⟩
structure Rel (X:Fx) (cl ch:Nat) (S:Sm) (m:Mp) (ok:Nat->Ty->Prop) (a:Act) (w:World):Prop where
 size:a.tmps.size=X.E.nt
 nodef:∀d∈a.defers,a4B X.P d
 dfs:∀l,X.df=some l->a.defers=l
 slot:∀n,n<U4->kU ⟨w.heap,ok,m⟩ (S n) (a.tmps.getD n Go.undef)
 box:∀n,AY ⟨w.heap,ok,m⟩ n (S (U4+n))
 inj:∀n n' b,b∈N8 m n (S (U4+n))->b∈N8 m n' (S (U4+n'))->n=n'
 nd:∀n,(N8 m n (S (U4+n))).Nodup
 sep:∀n b,b∈N8 m n (S (U4+n))->(∀t,¬ok b t)/\b<w.heap.size/\(X.w0.heap.size<=b\/b∈X.O)
 okLt:∀b t,ok b t->b<w.heap.size
 okIn:∀b t,X.ok0 b t->ok b t
 okOut:∀b t,ok b t->X.ok0 b t\/X.w0.heap.size<=b\/b∈X.O
 frame:Frame' (X.E.gl=[]) X.w0 w X.O
 fresh:∀n,cl<=n->S (U4+n)= .undef->m n=none
 strict:∀n,ch<=n->m n=none
 gl:∀g u,bZ X.E.gl g=some u->GG ⟨w.heap,ok,m⟩ g u.1 u.2
 kept:∀n∈X.E.kp,a.tmps.getD n Go.undef=X.tm0.getD n Go.undef
def nJ(m:Mp)(n:Nat)(l:Loc)(ks:c5y):Mp:=⟨λk=>if k=n then some l else m k,λk=>if k=n then ks else m.kid k⟩
@[simp] theorem Y4 (m:Mp) (n:Nat) (l:Loc) (ks:c5y):nJ m n l ks n=some l:=by simp[nJ]
variable {n:Nat}{k:Nat}
theorem jl(m:Mp)(l:Loc)(ks:c5y)(h:k≠n):nJ m n l ks k=m k:=by simp[nJ,h]
@[simp] theorem c4M (m:Mp) (n:Nat) (l:Loc) (ks:c5y):(nJ m n l ks).kid n=ks:=by simp[nJ]
theorem Rh(m:Mp)(l:Loc)(ks:c5y)(h:k≠n):(nJ m n l ks).kid k=m.kid k:=by simp[nJ,h]
def Ac(m:Mp)(n:Nat)(ks:c5y):Mp:=⟨m.loc,λk=>if k=n then ks else m.kid k⟩
@[simp] theorem c3R (m:Mp) (n k:Nat) (ks:c5y):Ac m n ks k=m k:=rfl
@[simp] theorem c3Q (m:Mp) (n:Nat) (ks:c5y):(Ac m n ks).kid n=ks:=by simp[Ac]
theorem YE(m:Mp)(ks:c5y)(h:k≠n):(Ac m n ks).kid k=m.kid k:=by simp[Ac,h]
theorem xI(m:Mp)(n:Nat):Ac m n (m.kid n)=m:=by cases m<;>grind [Ac,Mp.mk.injEq]
variable {v:V}
theorem Hy{m m' :Mp}(h:m' n=m n)(k:m'.kid n=m.kid n):N8 m' n v=N8 m n v:=by simp_all [N8]
variable {d:Nat}
theorem Xj{tmps:Array Value}(h:d<tmps.size)(x e:Value):(tmps.setIfInBounds d x).getD d e=x:=by simp_all
theorem Ju{tmps:Array Value}(h:n≠d)(x e:Value):(tmps.setIfInBounds d x).getD n e=tmps.getD n e:=by
 simp
 grind
structure Tk (X:Fx) (S:Sm) (m:Mp) (ok:Nat->Ty->Prop) (w:World) (T:c5y):Prop where
 nodup:T.Nodup
 free:∀b∈T,(∀t,¬ok b t)/\b<w.heap.size/\(X.w0.heap.size<=b\/b∈X.O)/\∀n,b∉N8 m n (S (U4+n))
theorem Tk.nil{X:Fx}{S:Sm}{m:Mp}{ok:Nat->Ty->Prop}{w:World} :Tk X S m ok w []:=⟨dD,λb h=>by grind⟩
def okW(ok:Nat->Ty->Prop)(bs:c5y)(Ts:List Ty):Nat->Ty->Prop:=λb t=>ok b t\/(b∈bs/\t∈Ts)
variable {w':World}{bs:c5y}
section
variable {X:Fx} {cl ch:Nat} {S:Sm} {m:Mp} {ok:Nat->Ty->Prop} {a:Act} {w:World} {T:c5y}
theorem Tk.perm{T T' :c5y}(h:Tk X S m ok w T)(p:T.Perm T'):Tk X S m ok w T' :=
 ⟨p.nodup_iff.1 h.nodup,λb hb=>h.free b (p.mem_iff.2 hb)⟩
theorem Vz{n:Nat} :∀{l:c5y},Ea n l=false->n∉l
 |[],_,h=>by grind|k::r,hb,h=>by
  unfold Ea at hb;cases hk:Nat.beq k n<;>rw[hk]at hb
  .rcases D7.1 h with e|h
   .subst e;rw[show Nat.beq n n=true from Nat.beq_refl n]at hk;cases hk
   .exact Vz hb h
  .cases hb
theorem Ym{n:Nat} :∀{l:c5y},Ea n l=true->n∈l
 |[],h=>by cases h|k::r,hb=>by
  unfold Ea at hb;cases hk:Nat.beq k n<;>rw[hk]at hb
  .exact U9 _ (Ym hb)
  .have:=fZ hk;subst this;exact gz
theorem yH{E:Env}{t:Nat}(h:RS E t=true):t<E.nt/\t∉E.kp:=by
 grind [RS,Nat.blt_eq,Vz]
theorem Rel.put(R:Rel X cl ch S m ok a w)(hnt:X.E.nt<=U4){x:Value}(hd:RS X.E d=true)(hv:kU ⟨w.heap,ok,m⟩ v x):
  Rel X cl ch (upd S d v) m ok (a.put (some d) x) w:=by
 obtain⟨hd,hkp⟩:=yH hd;have hb:∀n,upd S d v (U4+n)=S (U4+n):=λn=>aW _ _ l9;have hkept:∀n∈X.E.kp,(a.put (some d) x).tmps.getD n Go.undef=X.tm0.getD n Go.undef:=λn hn=>by have e:n≠d:=λe=>hkp (e▸hn);simp only[Act.put];rw[Ju e];exact R.kept n hn
 refine { R with size:=(by simp[Act.put,R.size]),nodef:=(by simpa[Act.put]using R.nodef),dfs:=(by simpa[Act.put]using R.dfs),slot:=λn hn=>?_,box:=λn=>(by rw[hb];exact R.box n),inj:=λn n' b=>(by rw[hb,hb];exact R.inj n n' b),nd:=λn=>(by rw[hb];exact R.nd n),sep:=λn b=>(by rw[hb];exact R.sep n b),fresh:=λn h1 h2=>R.fresh n h1 (by simp_all),kept:=hkept };by_cases e:n=d
 .subst e;simp only[Eo,Act.put];rw[Xj (by rw[R.size];omega)];omega
 .rw[aW _ _ e];simp only[Act.put];rw[Ju e];exact R.slot n hn
theorem Rel.slotV(R:Rel X cl ch S m ok a w)(hd:d<U4)(hv:kU ⟨w.heap,ok,m⟩ v (a.tmps.getD d Go.undef)):
  Rel X cl ch (upd S d v) m ok a w:=by
 have hb:∀n,upd S d v (U4+n)=S (U4+n):=λn=>aW _ _ l9;refine { R with slot:=λn hn=>?_,box:=λn=>(by rw[hb];exact R.box n),inj:=λn n' b=>(by rw[hb,hb];exact R.inj n n' b),nd:=λn=>(by rw[hb];exact R.nd n),sep:=λn b=>(by rw[hb];exact R.sep n b),fresh:=λn h1 h2=>R.fresh n h1 (by simp_all) };by_cases e:n=d
 .simp_all
 .rw[aW _ _ e];exact R.slot n hn
theorem Rel.world(R:Rel X cl ch S m ok a w){ok' :Nat->Ty->Prop}(hos:w'.os=w.os)(htp:w'.tape=w.tape)(hout:w'.output=w.output)(hsz:w.heap.size<=w'.heap.size)
  (hkeep:∀b,b<w.heap.size->((∃t,ok b t)\/(∃n,b∈N8 m n (S (U4+n)))\/¬(X.w0.heap.size<=b\/b∈X.O))->w'.heap[b]? =w.heap[b]?)
  (hok:∀b t,ok b t->ok' b t) (hok' :∀b t,ok' b t->b<w'.heap.size/\(ok b t\/((X.w0.heap.size<=b\/b∈X.O)/\∀n,b∉N8 m n (S (U4+n)))))
  (hdr:X.E.gl=[]->w.drawn<=w'.drawn:=by exact λ_=>E5 _):Rel X cl ch S m ok' a w' :=by
 have hle:Cx.le ⟨w.heap,ok,m⟩ ⟨w'.heap,ok',m⟩:=⟨hok,λb t hb=>hkeep b (R.okLt b t hb) (.inl ⟨t,hb⟩),λ_ _ h=>h⟩;refine { kept:=R.kept,size:=R.size,nodef:=R.nodef,dfs:=R.dfs,inj:=R.inj,nd:=R.nd,fresh:=R.fresh,strict:=R.strict,slot:=λn hn=>Ij hle (R.slot n hn),box:=λn=>TS hle rfl (λb hb=>hkeep b (R.sep n b hb).2.1 (.inr (.inl ⟨n,hb⟩))) (R.box n),sep:=λn b hb=>?_,okLt:=λb t hb=>(hok' b t hb).1,okIn:=λb t hb=>hok b t (R.okIn b t hb),okOut:=λb t hb=>?_,frame:=?_,gl:=λg u hg=>GG.le hle (R.gl g u hg) }
 .obtain⟨h1,h2,h3⟩:=R.sep n b hb<;>grind
 .rcases(hok' b t hb).2 with h|⟨h,_⟩
  .exact R.okOut b t h
  simp_all
 .obtain⟨f1,f2,f3,f4,f5,f6⟩:=R.frame;refine⟨hos.trans f1,htp.trans f2,hout.trans f3,l9,λb hb hO=>?_,λh=>V9 (f6 h) (hdr h)⟩<;>grind
theorem Rel.same(R:Rel X cl ch S m ok a w)(hos:w'.os=w.os)(htp:w'.tape=w.tape)(hout:w'.output=w.output)(hh:w'.heap=w.heap)(hdr:X.E.gl=[]->w.drawn<=w'.drawn:=by exact λ_=>E5 _):Rel X cl ch S m ok a w' :=by exact R.world hos htp hout (by simp_all) (λb _ _=>by rw[hh]) (λ_ _ h=>h) (λb t h=>⟨by rw[hh];exact R.okLt b t h,.inl h⟩) hdr
theorem yX{n k b:Nat}(hv:N8 m n v=[])(h:b∈N8 m k (upd S (U4+n) v (U4+k))):k≠n/\b∈N8 m k (S (U4+k)):=by
 grind [Eo,aW]
theorem Rel.killV(R:Rel X cl ch S m ok a w)(n:Nat)(hv:v≠.undef)(hw:N8 m n v=[])(hB:AY ⟨w.heap,ok,m⟩ n v):Rel X cl ch (upd S (U4+n) v) m ok a w:=by
 have ho:∀k b,b∈N8 m k (upd S (U4+n) v (U4+k))->k≠n/\b∈N8 m k (S (U4+k)):=λk b h=>yX hw h;refine { R with slot:=λk hk=>(by rw[aW _ _ l9];exact R.slot k hk),box:=λk=>?_,inj:=λk k' b h h' =>R.inj k k' b (ho _ _ h).2 (ho _ _ h').2,nd:=λk=>?_,sep:=λk b h=>R.sep k b (ho _ _ h).2,fresh:=λk h1 h2=>?_ }
 .by_cases e:k=n
  .simp_all
  .rw[aW _ _ l9];exact R.box k
 .by_cases e:k=n
  .simp_all
  .rw[aW _ _ l9];exact R.nd k
 .by_cases e:k=n
  .simp_all
  .rw[aW _ _ l9]at h2;exact R.fresh k h1 h2
theorem Rel.kill(R:Rel X cl ch S m ok a w)(n:Nat):Rel X cl ch (upd S (U4+n) .dead) m ok a w:=R.killV n x8 rfl trivial
theorem Tk.killV(R:Rel X cl ch S m ok a w)(h:Tk X S m ok w T)(n:Nat)(hw:N8 m n v=[])(hbs:∀b,b∈bs->b∈N8 m n (S (U4+n)))(hnd:bs.Nodup):
  Tk X (upd S (U4+n) v) m ok w (T++bs):=by
 refine⟨P5.2 ⟨h.nodup,hnd,λx hx y hy e=>?_⟩,λb hb=>?_⟩
 .subst e;exact(h.free x hx).2.2.2 n (hbs x hy)
 .rcases F9.1 hb with hb|hb
  .obtain⟨h1,h2,h3,h4⟩:=h.free b hb;exact⟨h1,h2,h3,λk e=>h4 k (yX hw e).2⟩
  .obtain⟨h1,h2,h3⟩:=R.sep n b (hbs b hb);exact⟨h1,h2,h3,λk e=>(yX hw e).1 (R.inj k n b (yX hw e).2 (hbs b hb))⟩
theorem Rel.mark(R:Rel X cl ch S m ok a w){md:M}{xs:List md.den}(hS:S (U4+n)= .barrs md xs none):Rel X cl ch (upd S (U4+(MN+n)) (.blen (x9 xs) md.size)) m ok a w:=by
 refine R.killV (MN+n) x8 rfl ?_;have hb:=R.box n;rw[hS]at hb;obtain⟨_,l,Os,hm,⟨ha,hho⟩,_⟩:=hb;refine⟨n,l,rfl,hm,?_⟩;cases l with
 |nil=>obtain⟨rfl,_⟩:=ha;rfl
 |st b=>cases ha|mp b=>cases ha|arr blk off len cap sz=>exact⟨by rw[ha.2.1];rfl,ha.1.symm⟩
theorem Tk.kill(R:Rel X cl ch S m ok a w)(h:Tk X S m ok w T)(n:Nat)(hbs:∀b,b∈bs->b∈N8 m n (S (U4+n)))(hnd:bs.Nodup):
  Tk X (upd S (U4+n) .dead) m ok w (T++bs):=h.killV R n rfl hbs hnd
theorem Rel.lay(R:Rel X cl ch S m ok a w){l:Loc}{ks:c5y}(hn:S (U4+n)= .undef)(hcl:cl<=n)(hch:n<ch)(hv:v≠.undef)
  (hos:w'.os=w.os) (htp:w'.tape=w.tape) (hout:w'.output=w.output) (hsz:w.heap.size<=w'.heap.size)
  (hkeep:∀b,b<w.heap.size->b∉N8 (nJ m n l ks) n v->w'.heap[b]? =w.heap[b]?)
  (hnd:(N8 (nJ m n l ks) n v).Nodup)
  (hfree:∀b∈N8 (nJ m n l ks) n v,(∀t,¬ok b t)/\b<w'.heap.size/\(X.w0.heap.size<=b\/b∈X.O)/\∀k,b∉N8 m k (S (U4+k)))
  (hB:AY ⟨w'.heap,ok,nJ m n l ks⟩ n v) (hdr:X.E.gl=[]->w.drawn<=w'.drawn:=by exact λ_=>E5 _):Rel X cl ch (upd S (U4+n) v) (nJ m n l ks) ok a w' :=by
 have hm:m n=none:=R.fresh n hcl hn;have hR:Rel X cl ch S m ok a w' :=by refine R.world hos htp hout hsz (λb hb h=>?_) (λ_ _ h=>h) (λb t h=>⟨by have:=R.okLt b t h;omega,.inl h⟩) hdr<;>grind
 have hle:Cx.le ⟨w'.heap,ok,m⟩ ⟨w'.heap,ok,nJ m n l ks⟩:=⟨λ_ _ h=>h,λ_ _ _=>rfl,λk x h=>by
  grind [jl]⟩
 have hob:∀k,k≠n->N8 (nJ m n l ks) k (upd S (U4+n) v (U4+k))=N8 m k (S (U4+k)):=λk e=>by
  grind [aW,Hy,jl,Rh]
 have hobn:N8 (nJ m n l ks) n (upd S (U4+n) v (U4+n))=N8 (nJ m n l ks) n v:=x8;refine { kept:=hR.kept,size:=hR.size,nodef:=hR.nodef,dfs:=hR.dfs,okLt:=hR.okLt,okIn:=hR.okIn,okOut:=hR.okOut,frame:=hR.frame,slot:=λk hk=>(by rw[aW _ _ l9];exact Ij hle (hR.slot k hk)),box:=λk=>?_,inj:=λk k' b h h' =>?_,nd:=λk=>?_,sep:=λk b h=>?_,fresh:=λk h1 h2=>?_,strict:=λk h=>?_,gl:=λg u hg=>GG.le hle (hR.gl g u hg) }
 .by_cases e:k=n
  .simp_all
  .rw[aW _ _ l9];refine TS hle (Rh _ _ _ e) (λb hb=>rfl) (hR.box k)
 .by_cases e:k=n
  .grind
  .by_cases e' :k' =n
   .simp_all
   .rw[hob k e]at h;rw[hob k' e']at h';exact R.inj k k' b h h'
 .by_cases e:k=n
  .simp_all
  .rw[hob k e];exact R.nd k
 .by_cases e:k=n
  .simp_all
  .rw[hob k e]at h;exact hR.sep k b h
 .by_cases e:k=n
  .simp_all
  .rw[aW _ _ l9]at h2;rw[jl _ _ _ e];exact R.fresh k h1 h2
 .have e:k≠n:=l9;rw[jl _ _ _ e];exact R.strict k h
theorem Rel.modK(R:Rel X cl ch S m ok a w)(hT:Tk X S m ok w T){ks:c5y}(hv:v≠.undef)
  (hnd:(N8 (Ac m n ks) n v).Nodup) (hsub:∀b∈N8 (Ac m n ks) n v,b∈N8 m n (S (U4+n))\/b∈T)
  (hos:w'.os=w.os) (htp:w'.tape=w.tape) (hout:w'.output=w.output) (hsz:w'.heap.size=w.heap.size)
  (hkeep:∀b,b∉N8 m n (S (U4+n))->w'.heap[b]? =w.heap[b]?) (hB:AY ⟨w'.heap,ok,Ac m n ks⟩ n v)
  {T' :c5y} (hnd' :T'.Nodup) (hT' :∀b∈T',(b∈N8 m n (S (U4+n))\/b∈T)/\b∉N8 (Ac m n ks) n v) (hdr:X.E.gl=[]->w.drawn<=w'.drawn:=by exact λ_=>E5 _):
  Rel X cl ch (upd S (U4+n) v) (Ac m n ks) ok a w' /\Tk X (upd S (U4+n) v) (Ac m n ks) ok w' T' :=by
 have hsep:∀b,b∈N8 m n (S (U4+n))\/b∈T->(∀t,¬ok b t)/\b<w.heap.size/\(X.w0.heap.size<=b\/b∈X.O)/\∀k,k≠n->b∉N8 m k (S (U4+k)):=λb h=>by
  rcases h with h|h
  .obtain⟨h1,h2,h3⟩:=R.sep n b h;exact⟨h1,h2,h3,λk e h' =>e (R.inj k n b h' h)⟩
  .obtain⟨h1,h2,h3,h4⟩:=hT.free b h<;>simp_all
 have hle:Cx.le ⟨w.heap,ok,m⟩ ⟨w'.heap,ok,Ac m n ks⟩:=⟨λ_ _ h=>h,λb t hb=>hkeep b (λe=>(R.sep n b e).1 t hb),λ_ _ h=>h⟩;have hob:∀k,k≠n->N8 (Ac m n ks) k (upd S (U4+n) v (U4+k))=N8 m k (S (U4+k)):=λk e=>by rw[aW _ _ l9];exact Hy rfl (YE _ _ e)
 have hobn:N8 (Ac m n ks) n (upd S (U4+n) v (U4+n))=N8 (Ac m n ks) n v:=x8;refine⟨?_,hnd',λb hb=>?_⟩
 .refine { kept:=R.kept,size:=R.size,nodef:=R.nodef,dfs:=R.dfs,okLt:=λb t hb=>(by rw[hsz];exact R.okLt b t hb),okIn:=R.okIn,okOut:=R.okOut,strict:=R.strict,slot:=λk hk=>(by rw[aW _ _ l9];exact Ij hle (R.slot k hk)),box:=λk=>?_,inj:=λk k' b h h' =>?_,nd:=λk=>?_,sep:=λk b h=>?_,fresh:=λk h1 h2=>?_,frame:=?_,gl:=λg u hg=>GG.le hle (R.gl g u hg) }
  .by_cases e:k=n
   .simp_all
   .rw[aW _ _ l9];refine TS hle (YE _ _ e) (λb hb=>hkeep b (λe' =>e (R.inj k n b hb e'))) (R.box k)
  .by_cases e:k=n
   .grind
   .by_cases e' :k' =n
    .simp_all
    .rw[hob k e]at h;rw[hob k' e']at h';exact R.inj k k' b h h'
  .by_cases e:k=n
   .simp_all
   .rw[hob k e];exact R.nd k
  .by_cases e:k=n
   .simp_all
   .rw[hob k e]at h;obtain⟨h1,h2,h3⟩:=R.sep k b h<;>simp_all
  .obtain⟨f1,f2,f3,f4,f5,f6⟩:=R.frame;refine⟨hos.trans f1,htp.trans f2,hout.trans f3,by rw[hsz];exact f4,λb hb hO=>?_,λh=>V9 (f6 h) (hdr h)⟩<;>grind
  .by_cases e:k=n
   .simp_all
   .rw[aW _ _ l9]at h2;exact R.fresh k h1 h2
 grind
theorem Rel.mod(R:Rel X cl ch S m ok a w)(ho:N8 m n v=N8 m n (S (U4+n)))(hv:v≠.undef)
  (hos:w'.os=w.os) (htp:w'.tape=w.tape) (hout:w'.output=w.output) (hsz:w'.heap.size=w.heap.size)
  (hkeep:∀b,b∉N8 m n (S (U4+n))->w'.heap[b]? =w.heap[b]?) (hB:AY ⟨w'.heap,ok,m⟩ n v) (hdr:X.E.gl=[]->w.drawn<=w'.drawn:=by exact λ_=>E5 _):Rel X cl ch (upd S (U4+n) v) m ok a w' :=by
 have h:=R.modK Tk.nil hv (by rw[xI,ho];exact R.nd n) (by simp_all [xI]) hos htp hout hsz hkeep (by simp_all [xI]) dD (λb h=>by grind) hdr;simp_all [xI]
theorem Rel.widen(R:Rel X cl ch S m ok a w)(hv:v≠.undef)(ho:N8 m n v=[]){Ts:List Ty}(hbs:∀b∈bs,b∈N8 m n (S (U4+n)))
  (hB:AY ⟨w.heap,okW ok bs Ts,m⟩ n v):Rel X cl ch (upd S (U4+n) v) m (okW ok bs Ts) a w:=by
 have hmono:∀b t,ok b t->okW ok bs Ts b t:=λb t h=> .inl h;have hob:∀k b,b∈N8 m k (upd S (U4+n) v (U4+k))->k≠n/\b∈N8 m k (S (U4+k)):=λk b h=>yX ho h;have hle:Cx.le ⟨w.heap,ok,m⟩ ⟨w.heap,okW ok bs Ts,m⟩:=⟨hmono,λ_ _ _=>rfl,λ_ _ h=>h⟩;refine { kept:=R.kept,size:=R.size,nodef:=R.nodef,dfs:=R.dfs,strict:=R.strict,frame:=R.frame,okIn:=λb t h=>hmono b t (R.okIn b t h),slot:=λk hk=>(by rw[aW _ _ l9];exact Ij hle (R.slot k hk)),box:=λk=>?_,inj:=λk k' b h h' =>R.inj k k' b (hob _ _ h).2 (hob _ _ h').2,nd:=λk=>?_,sep:=λk b h=>?_,okLt:=λb t h=>?_,okOut:=λb t h=>?_,fresh:=λk h1 h2=>?_,gl:=λg u hg=>GG.le hle (R.gl g u hg) }
 .by_cases e:k=n
  .simp_all
  .rw[aW _ _ l9];exact TS hle rfl (λb hb=>rfl) (R.box k)
 .by_cases e:k=n
  .simp_all
  .rw[aW _ _ l9];exact R.nd k
 .obtain⟨e,h⟩:=hob k b h;obtain⟨h1,h2,h3⟩:=R.sep k b h;refine⟨λt h' =>?_,h2,h3⟩;rcases h' with h'|⟨h',_⟩
  .simp_all
  .exact e (R.inj k n b h (hbs b h'))
 .rcases h with h|⟨h,_⟩
  .exact R.okLt b t h
  .exact(R.sep n b (hbs b h)).2.1
 .rcases h with h|⟨h,_⟩
  .exact R.okOut b t h
  .exact .inr (R.sep n b (hbs b h)).2.2
 .by_cases e:k=n
  .simp_all
  .rw[aW _ _ l9]at h2;exact R.fresh k h1 h2
theorem Tk.widen(h:Tk X S m ok w T)(ho:N8 m n v=[]){Ts:List Ty}(hbs:∀b∈bs,b∈N8 m n (S (U4+n))):
  Tk X (upd S (U4+n) v) m (okW ok bs Ts) w T:=by
 refine⟨h.nodup,λb hb=>?_⟩;obtain⟨h1,h2,h3,h4⟩:=h.free b hb;refine⟨λt e=>?_,h2,h3,λk e=>h4 k (yX ho e).2⟩;rcases e with e|⟨e,_⟩<;>grind
theorem Rel.backV(R:Rel X cl ch S m ok a w){O1 B:c5y}(hv:v≠.undef)(hT:Tk X S m ok w (O1++B))(ho:N8 m n v=O1)(hB:AY ⟨w.heap,ok,m⟩ n v):
  Rel X cl ch (upd S (U4+n) v) m ok a w/\Tk X (upd S (U4+n) v) m ok w B:=by
 have hnd:=P5.1 hT.nodup;have h:=R.modK hT (n:=n) (ks:=m.kid n) hv (by simp_all [xI]) (by simp_all [xI]) rfl rfl rfl rfl (λ_ _=>rfl) (by simp_all [xI]) hnd.2.1
  (λb hb=>⟨.inr (by grind),by grind [xI]⟩)
 simp_all [xI]
end
end Go.GP
namespace Go.GP
def IA:Loc->Option (Nat×Nat)->Loc
 | .arr blk off len cap sz,some (lo,hi)=>if cap=lo then .arr blk off 0 0 sz else .arr blk (off+lo*sz) (hi -lo) (cap -lo) sz|l,_=>l
variable {t:Ty}{v:Value}{l:Loc}{xs:List t.den}
theorem GI{C:Cx}{vw:Option (Nat×Nat)}(ha:arrOk C t xs l)(hv:l.view vw v):
  arrOk C t (kF vw xs) (IA l vw)/\(IA l vw).view none v/\(IA l vw).blks=l.blks:=by
 cases l with
 |st b=>cases ha|mp b=>
  cases vw with
  |none=>exact⟨ha,hv,rfl⟩|some p=>cases hv
 |nil=>
  obtain⟨ha,h0⟩:=ha;subst ha;cases vw with
  |none=>exact⟨⟨rfl,h0⟩,hv,rfl⟩|some p=>obtain⟨lo,hi⟩:=p;obtain⟨rfl,rfl,rfl⟩:=hv;exact⟨⟨rfl,h0⟩,rfl,rfl⟩
 |arr blk off len cap sz=>
  cases vw with
  |none=>exact⟨ha,hv,rfl⟩|some p=>
   obtain⟨lo,hi⟩:=p;obtain⟨h0,rfl,rfl,hc,c,T,f,hh,hz,hs,hx⟩:=ha;obtain⟨h1,h2,rfl⟩:=hv;have hl:(kF (some (lo,hi)) xs).length=hi -lo:=by simp_all [kF,lq]
   by_cases e:cap=lo
   .subst e;have e2:hi=cap:=l9;subst e2;simp only[IA,if_true,Loc.view,aT];refine⟨⟨h0,rfl,l9,E5 _,c,T,f,hh,hz,?_,λi x hi=>?_⟩,trivial,rfl⟩<;>grind
   .simp only[IA,e,if_false,Loc.view];refine⟨⟨h0,rfl,by rw[hl],l9,c,T,f,hh,hz,?_,λi x hix=>?_⟩,trivial,rfl⟩
    .have:off+lo*t.size+(cap -lo)*t.size=off+cap*t.size:=by
      rw[uK,←V4];grind
     omega
    grind [kF,lq]
def Xr(ag:Bool)(v:Value)(cs:c5x):Prop:=match ag with
 |true=>∃arr,v= .agg arr/\arr.toList=cs|false=>cs=[v]
def nI(h:Array Obj)(ok:Nat->Ty->Prop):(ms:List MG)->Y3 ms->c5x->c5y->Prop
 |[],_,vs,O=>vs=[]/\O=[]|[m],x,vs,O=>∃v cs,vs=[v]/\Xr m.1 v cs/\lS h ok m.2 none x cs O|m::m' ::r,x,vs,O=>∃v cs vs' O1 O2,vs=v::vs' /\O=O1++O2/\Xr m.1 v cs/\lS h ok m.2 none x.1 cs O1/\nI h ok (m' ::r) x.2 vs' O2
theorem kW{vw:Option (Nat×Nat)}(h:l.view vw v):v.oneCell' =true:=by
 cases l<;>rcases vw with _|⟨lo,hi⟩<;>simp[Loc.view]at h
 .subst h;rfl
 .obtain⟨_,_,rfl⟩:=h;rfl
 .subst h;rfl
 .obtain⟨_,_,rfl⟩:=h;rfl
 .subst h;rfl
variable {h:Array Obj}{o:Nat}
theorem Jk{ok:Nat->Ty->Prop}{x:t.den}(k:Zl h ok t x o v):v.oneCell' =true:=by obtain⟨_,_,_,rfl,_⟩:=k;rfl
variable {α:Type}{ok':Nat->Ty->Prop}{cs:c5x}{O:c5y}{m:M}{sz:Nat}{mp:Mp}{R:Nat->α->c5x->c5y->Prop}{Os:List c5y}
section
variable {h:Array Obj} {ok:Nat->Ty->Prop}
theorem xX :lS h ok (.own t) none xs cs O↔∃l v,cs=[v]/\l.view none v/\arrOk ⟨h,ok,nom⟩ t xs l/\O=l.blks:=by
 constructor
 .rintro⟨v,e,_,l,hv,ha,ho⟩<;>grind
 .rintro⟨l,v,e,hv,ha,ho⟩;exact⟨v,e,kW hv,l,hv,ha,ho⟩
theorem xG{xs:List m.den} :lS h ok (.owns m) none xs cs O↔m.el=true/\∃l v Os,cs=[v]/\l.view none v/\
  uB h m.size (λ_ x es O=>lS h ok m none x es O) xs Os l/\O=l.blks++Os.flatten:=by
 constructor
 .rintro⟨v,e,_,he,l,Os,hv,ha,ho⟩<;>grind
 .rintro⟨he,l,v,Os,e,hv,ha,ho⟩;exact⟨v,e,kW hv,he,l,Os,hv,ha,ho⟩
theorem a7C{a b:M}{x:a.den×b.den} :lS h ok (.pair a b) none x cs O↔∃c d O1 O2,cs=c++d/\O=O1++O2/\lS h ok a none x.1 c O1/\lS h ok b none x.2 d O2:=Iff.rfl
theorem nX:∀{m:M} {ho:Option Nat} {x:m.den} {cs:c5x} {O:c5y},lS h ok m ho x cs O->∀v∈cs,v.oneCell' =true
 | .dat t,_,_,_,_,e=>wY e.1| .own t,_,_,_,_,⟨v,e,hv,_⟩=>by subst e;simp[hv]| .owns t,_,_,_,_,⟨v,e,hv,_⟩=>by subst e;simp[hv]| .ownb t,_,_,_,_,⟨l,v,e,hv,_⟩=>by subst e;simp[kW hv]| .pair a b,_,_,_,_,⟨c,d,_,_,e,_,h1,h2⟩=>by
  subst e;intro v hv;rcases F9.1 hv with hv|hv
  .exact nX h1 v hv
  .exact nX h2 v hv
 | .unit,_,_,_,_,⟨e,_⟩=>by subst e;simp| .box m,_,_,_,_,⟨_,_,_,_,e,_⟩=>by subst e;simp[Value.oneCell']| .rp t,_,_,_,_,⟨v,e,hv,_⟩=>by subst e;simp[Jk hv]| .fn f ts,_,_,_,_,⟨vs,e,_⟩=>by subst e;simp[Value.oneCell']| .ifc t m,_,_,_,_,⟨u,e,_⟩=>by subst e;simp[Value.oneCell']| .cell _,_,_,_,_,⟨v,e,h,_⟩=>by subst e;simp[h]| .fr t,_,_,_,_,⟨l,v,e,hv,_⟩=>by subst e;simp[kW hv]| .lp t,_,_,_,_,⟨v,e,hv,_⟩=>by subst e;simp[Jk hv]| .dv ..,_,_,_,_,⟨v,e,h,_⟩=>by subst e;simp[h]| .ownr ..,_,_,_,_,⟨v,e,h,_⟩=>by subst e;simp[h]| .sit,_,_,_,_,⟨blk,a,v,e,_⟩=>by subst e;simp[Value.oneCell']| .mbx ..,_,_,_,_,⟨blk,arr,es,a,v,l,e,_⟩=>by subst e;simp[Value.oneCell']
theorem FO{α β α' β' :Type}(ea:α=α')(eb:β=β')(e:(α×β)=(α' ×β'))(x:α×β):cast e x=(cast ea x.1,cast eb x.2):=by grind
theorem M.ty_size:∀{m:M},m.el=true->m.ty.size=m.size
 | .dat _,_=>rfl| .own _,_=>rfl| .owns _,_=>rfl| .unit,_=>rfl| .pair a b,h=>by
  have h' :a.el=true/\b.el=true:=by simpa[M.el]using h
  simp[M.ty,Ty.size,M.size,M.ty_size h'.1,M.ty_size h'.2]
 | .box _,h=>by simp[M.el]at h| .ownb _,h=>by simp[M.el]at h| .rp _,h=>by simp[M.el]at h| .fn _ _,h=>by simp[M.el]at h| .ifc _ _,h=>by simp[M.el]at h| .cell _,h=>by simp[M.el]at h| .fr _,h=>by simp[M.el]at h| .mbx ..,h=>by simp[M.el]at h| .lp _,h=>by simp[M.el]at h| .dv ..,h=>by simp[M.el]at h| .ownr ..,h=>by simp[M.el]at h| .sit,h=>by simp[M.el]at h
theorem aG:∀{m:M} {ho:Option Nat} {x:m.den} {cs:c5x} {O:c5y},lS h ok m ho x cs O->cs.length=m.size
 | .dat t,_,_,_,_,e=>bV e.1| .own t,_,_,_,_,⟨v,e,hv,_⟩=>by subst e;rfl| .owns t,_,_,_,_,⟨v,e,hv,_⟩=>by subst e;rfl| .ownb t,_,_,_,_,⟨l,v,e,hv,_⟩=>by subst e;rfl| .pair a b,_,_,_,_,⟨c,d,_,_,e,_,h1,h2⟩=>by subst e;simp[aG h1,aG h2,M.size]| .unit,_,_,_,_,⟨e,_⟩=>by subst e;rfl| .box m,_,_,_,_,⟨_,_,_,_,e,_⟩=>by subst e;rfl| .rp t,_,_,_,_,⟨v,e,hv,_⟩=>by subst e;rfl| .fn f ts,_,_,_,_,⟨vs,e,_⟩=>by subst e;rfl| .ifc t m,_,_,_,_,⟨u,e,_⟩=>by subst e;rfl| .cell _,_,_,_,_,⟨v,e,_⟩=>by subst e;rfl| .fr t,_,_,_,_,⟨l,v,e,hv,_⟩=>by subst e;rfl| .lp t,_,_,_,_,⟨v,e,_⟩=>by subst e;rfl| .dv ..,_,_,_,_,⟨v,e,_⟩=>by subst e;rfl| .ownr ..,_,_,_,_,⟨v,e,_⟩=>by subst e;rfl| .sit,_,_,_,_,⟨blk,a,v,e,_⟩=>by subst e;rfl| .mbx ..,_,_,_,_,⟨blk,arr,es,a,v,l,e,_⟩=>by subst e;rfl
theorem a0h(h0:t.isEnt=false)(e:α=t.den)(e' :List α=List t.den)(hs:t.size=sz){xs:List α}
  (hR:∀i x es O,O∈Os->R i x es O->kZ h ok' t (cast e x) es) (ha:uB h sz R xs Os l):arrOk ⟨h,ok',mp⟩ t (cast e' xs) l:=by
 subst e;cases l with
 |nil=>exact⟨ha.1,h0⟩|st b=>exact ha|mp b=>exact ha.elim|arr blk off len cap sz' =>obtain⟨h1,h2,h3,h7,c,T,h4,h5,h6⟩:=ha;refine⟨h0,by rw[hs];exact h1,h2,h3,c,T,_,h4,.inl rfl,by rw[h1];exact h5,λi x hi=>?_⟩<;>grind
theorem M.ty_ent:∀{m:M},m.el=true->m.ty.isEnt=false
 | .dat t,h=>by simpa[M.el,M.ty]using h| .own _,_=>rfl| .owns _,_=>rfl| .unit,_=>rfl| .pair _ _,_=>rfl| .box _,h=>by simp[M.el]at h| .ownb _,h=>by simp[M.el]at h| .rp _,h=>by simp[M.el]at h| .fn _ _,h=>by simp[M.el]at h| .ifc _ _,h=>by simp[M.el]at h| .cell _,h=>by simp[M.el]at h| .fr _,h=>by simp[M.el]at h| .mbx ..,h=>by simp[M.el]at h| .lp _,h=>by simp[M.el]at h| .dv ..,h=>by simp[M.el]at h| .ownr ..,h=>by simp[M.el]at h| .sit,h=>by simp[M.el]at h
theorem Py{ok' :Nat->Ty->Prop}(hok:∀b t,ok b t->ok' b t):∀{m:M} (he:m.el=true) {x:m.den} {cs:c5x} {O:c5y},(∀b∈O,∀t∈m.owned,ok' b t)->lS h ok m none x cs O->kZ h ok' m.ty (cast (M.denEq m he) x) cs
 | .dat t,_,_,_,_,_,e=>dm hok (λ_ _ _=>rfl) e.1| .unit,_,_,_,_,_,e=>e.1| .own t,he,xs,_,_,hO,e=>by obtain⟨l,v,rfl,hv,ha,rfl⟩:=xX.1 e;exact oP (C:=⟨h,ok,nom⟩) (vw:=none) ha hv hok (λblk hb=>hO blk hb t (by simp[M.owned]))
 | .pair a b,he,x,_,_,hO,e=>by
  obtain⟨c,d,O1,O2,rfl,rfl,h1,h2⟩:=e;have h' :a.el=true/\b.el=true:=by simpa[M.el]using he
  have e:cast (M.denEq (.pair a b) he) x=(cast (M.denEq a h'.1) x.1,cast (M.denEq b h'.2) x.2):=FO _ _ _ _;refine⟨c,d,rfl,?_,?_⟩
  .rw[e];exact Py hok h'.1 (λb hb t ht=>hO b (by simp[hb]) t (by simp[M.owned,ht])) h1
  .rw[e];exact Py hok h'.2 (λb hb t ht=>hO b (by simp[hb]) t (by simp[M.owned,ht])) h2
 | .owns m,he,xs,_,_,hO,e=>by
  obtain⟨_,l,v,Os,rfl,hv,ha,rfl⟩:=xG.1 e;have he' :m.el=true:=he;have hA:arrOk ⟨h,ok',nom⟩ m.ty (cast (congrArg List (M.denEq m he')) xs) l:=a0h (M.ty_ent he') (M.denEq m he') _ (M.ty_size he') (λi x es O hOi hr=>Py hok he' (λb hb t ht=>hO b (by simp only[F9,X7];exact .inr ⟨O,hOi,hb⟩) t (by simp[M.owned,ht])) hr) ha
  exact oP (C:=⟨h,ok',nom⟩) (t:=m.ty) (vw:=none) hA hv (λ_ _ h=>h) (λblk hb=>hO blk (by simp[hb]) m.ty (by simp[M.owned]))
 | .box _,h,_,_,_,_,_=>by simp[M.el]at h| .ownb _,h,_,_,_,_,_=>by simp[M.el]at h| .rp _,h,_,_,_,_,_=>by simp[M.el]at h| .fn _ _,h,_,_,_,_,_=>by simp[M.el]at h| .ifc _ _,h,_,_,_,_,_=>by simp[M.el]at h| .cell _,h,_,_,_,_,_=>by simp[M.el]at h| .fr _,h,_,_,_,_,_=>by simp[M.el]at h| .mbx ..,h,_,_,_,_,_=>by simp[M.el]at h| .lp _,h,_,_,_,_,_=>by simp[M.el]at h| .dv ..,h,_,_,_,_,_=>by simp[M.el]at h| .ownr ..,h,_,_,_,_,_=>by simp[M.el]at h| .sit,h,_,_,_,_,_=>by simp[M.el]at h
theorem Lm:∀{m:M} (he:m.el=true) (h0:m.own0=true) {x:m.ty.den} {cs:c5x},kZ h ok m.ty x cs->lS h ok m none (cast (M.denEq m he).symm x) cs []
 | .dat t,_,_,_,_,e=>⟨e,rfl⟩| .unit,_,_,_,_,e=>⟨e,rfl⟩| .pair a b,he,h0,x,_,e=>by
  obtain⟨c,d,rfl,h1,h2⟩:=e;have h' :a.el=true/\b.el=true:=by simpa[M.el]using he
  have h0' :a.own0=true/\b.own0=true:=by simpa[M.own0]using h0
  have e:cast (M.denEq (.pair a b) he).symm x=(cast (M.denEq a h'.1).symm x.1,cast (M.denEq b h'.2).symm x.2):=FO _ _ _ _;refine⟨c,d,[],[],rfl,rfl,?_,?_⟩
  .rw[e];exact Lm h'.1 h0'.1 h1
  .rw[e];exact Lm h'.2 h0'.2 h2
 | .own _,_,h0,_,_,_=>by simp[M.own0]at h0| .owns _,_,h0,_,_,_=>by simp[M.own0]at h0| .box _,h,_,_,_,_=>by simp[M.el]at h| .ownb _,h,_,_,_,_=>by simp[M.el]at h| .rp _,h,_,_,_,_=>by simp[M.el]at h| .fn _ _,h,_,_,_,_=>by simp[M.el]at h| .ifc _ _,h,_,_,_,_=>by simp[M.el]at h| .cell _,h,_,_,_,_=>by simp[M.el]at h| .fr _,h,_,_,_,_=>by simp[M.el]at h| .mbx ..,h,_,_,_,_=>by simp[M.el]at h| .lp _,h,_,_,_,_=>by simp[M.el]at h| .dv ..,h,_,_,_,_=>by simp[M.el]at h| .ownr ..,h,_,_,_,_=>by simp[M.el]at h| .sit,h,_,_,_,_=>by simp[M.el]at h
theorem Wi:∀{m:M} (he:m.el=true) {o:Nat} (h1:m.own1 o=true) {x:m.ty.den} {cs:c5x},kZ h ok m.ty x cs->lS h ok m (some o) (cast (M.denEq m he).symm x) cs []
 | .own t,_,o,h1,x,_,e=>by have h1:o=0:=fZ h1;subst h1;rcases e with⟨_,a,cap,rfl,_⟩|⟨_,mv,rfl,_⟩<;>exact⟨_,rfl,rfl,rfl⟩
 | .pair a b,he,o,h1,x,_,e=>by
  obtain⟨c,d,rfl,r1,r2⟩:=e;have h' :a.el=true/\b.el=true:=by simpa[M.el]using he
  have e:cast (M.denEq (.pair a b) he).symm x=(cast (M.denEq a h'.1).symm x.1,cast (M.denEq b h'.2).symm x.2):=FO _ _ _ _;refine⟨c,d,[],[],rfl,rfl,?_,?_⟩<;>rw[e]<;>by_cases hlt:o<a.size
  .have hb:Nat.blt o a.size=true:=by rw[bK];exact hlt
   simp only[M.own1,hb,cond_true,D5]at h1;simp only[hlt,if_true];exact Wi h'.1 h1.1 r1
  .have hb:Nat.blt o a.size=false:=by cases hc:Nat.blt o a.size<;>first|rfl|(rw[bK]at hc;exact absurd hc hlt)
   simp only[M.own1,hb,cond_false,D5]at h1;simp only[hlt,if_false];exact Lm h'.1 h1.1 r1
  .have hb:Nat.blt o a.size=true:=by rw[bK];exact hlt
   simp only[M.own1,hb,cond_true,D5]at h1;simp only[hlt,if_true];exact Lm h'.2 h1.2 r2
  .have hb:Nat.blt o a.size=false:=by cases hc:Nat.blt o a.size<;>first|rfl|(rw[bK]at hc;exact absurd hc hlt)
   simp only[M.own1,hb,cond_false,D5]at h1;simp only[hlt,if_false];exact Wi h'.2 h1.2 r2
 | .dat _,_,_,h1,_,_,_=>by simp[M.own1]at h1| .unit,_,_,h1,_,_,_=>by simp[M.own1]at h1| .owns _,_,_,h1,_,_,_=>by simp[M.own1]at h1| .box _,h,_,_,_,_,_=>by simp[M.el]at h| .ownb _,h,_,_,_,_,_=>by simp[M.el]at h| .rp _,h,_,_,_,_,_=>by simp[M.el]at h| .fn _ _,h,_,_,_,_,_=>by simp[M.el]at h| .ifc _ _,h,_,_,_,_,_=>by simp[M.el]at h| .cell _,h,_,_,_,_,_=>by simp[M.el]at h| .fr _,h,_,_,_,_,_=>by simp[M.el]at h| .mbx ..,h,_,_,_,_,_=>by simp[M.el]at h| .lp _,h,_,_,_,_,_=>by simp[M.el]at h| .dv ..,h,_,_,_,_,_=>by simp[M.el]at h| .ownr ..,h,_,_,_,_,_=>by simp[M.el]at h| .sit,h,_,_,_,_,_=>by simp[M.el]at h
theorem b3g(h:m.own1 o=true):m.ty≠.int .u8:=by cases m<;>first|(simp[M.own1]at h;done)|(simp[M.ty])
theorem a0i(e:t.den=α)(e' :List t.den=List α)(hs:t.size=sz)(hu:t≠.int .u8)(hE:t.isEnt=false)
  (hR:∀i x es,kZ h ok t x es->R i (cast e x) es []) (ha:arrOk ⟨h,ok,mp⟩ t xs l):uB h sz R (cast e' xs) (List.replicate xs.length []) l:=by
 subst e;cases l with
 |nil=>obtain⟨rfl,_⟩:=ha;exact⟨rfl,rfl⟩
 |st b=>exact ha|mp b=>rw[ha.1]at hE;grind|arr blk off len cap sz' =>
  obtain⟨h0,h1,h2,h3,c,T,f,h4,hz,h5,h6⟩:=ha;have hf:=hz.elim id (λh=>absurd h.1 hu);subst hf;refine⟨h1.trans hs,h2,h3,x8,c,T,h4,by simp_all,λi x hi=>?_⟩;obtain⟨es,hc,hr⟩:=h6 i x hi;refine⟨es,[],?_,by simp_all,hR i x es hr⟩
  grind
theorem a2r{R R' :Nat->α->c5x->c5y->Prop}{xs:List α}
  (hR:∀i x es O,i<xs.length->R i x es O->R' i x es O) (hr:uB h sz R xs Os l):uB h sz R' xs Os l:=by
 cases l with
 |nil=>exact hr|st b=>exact hr|mp b=>exact hr|arr blk off len cap sz=>obtain⟨h1,h2,h3,h7,c,T,h4,h5,h6⟩:=hr;refine⟨h1,h2,h3,h7,c,T,h4,h5,λi x hi=>?_⟩<;>grind
theorem a0L{o n i k:Nat}(h:i<k)(hn:k<=n):vU o n i=none:=by grind [vU]
theorem LQ(he:m.el=true)(hok:∀b t,ok b t->ok' b t){xs:List m.den}(hO:∀b∈Os.flatten,∀t∈m.owned,ok' b t)
  (ha:uB h m.size (λ_ x es O=>lS h ok m none x es O) xs Os l):arrOk ⟨h,ok',mp⟩ m.ty (cast (congrArg List (M.denEq m he)) xs) l:=
 a0h (M.ty_ent he) (M.denEq m he) _ (M.ty_size he) (λi x es O hOi hr=>Py hok he (λb hb t ht=>hO b (X7.2 ⟨O,hOi,hb⟩) t ht) hr) ha
end
theorem Su{h h' :Array Obj}{ok ok' :Nat->Ty->Prop}(hok:∀b t,ok b t->ok' b t)(hh:∀b t,ok b t->h'[b]? =h[b]?):
  ∀{ms:List MG} {x:Y3 ms} {vs:c5x} {O:c5y},(∀b∈O,h'[b]? =h[b]?)->nI h ok ms x vs O->nI h' ok' ms x vs O
 |[],_,_,_,_,e=>e|[m],_,_,_,hb,⟨v,cs,e,hg,hr⟩=>⟨v,cs,e,hg,gZ hok hh hb hr⟩|m::m' ::r,_,_,_,hb,⟨v,cs,vs',O1,O2,e,eo,hg,h1,h2⟩=>by subst eo;exact⟨v,cs,vs',O1,O2,e,rfl,hg,gZ hok hh (λb h=>hb b (by grind)) h1,Su hok hh (λb h=>hb b (by grind)) h2⟩
variable {Q:α->Sm->Prop}{c:V}{p:M}
section
variable {X:Fx} {cl ch:Nat} {S:Sm} {m:Mp} {ok:Nat->Ty->Prop} {a:Act} {w:World} {T:c5y}
theorem eH{p q:Ty}{xs:List p.den}{k:List q.den->Cmd α}{S:Sm}
  (h:∀e:p=q,(k (e▸xs)).post S Q):(Ty.castL p q xs k .fail).post S Q:=by
 unfold Ty.castL;split
 .simp_all
 .trivial
theorem U5{b:Bool}{c:Cmd α}{S:Sm}(h:b=true->c.post S Q):(bif b then c else Cmd.fail).post S Q:=by
 cases b
 .trivial
 simp_all
theorem Dy{p q:Ty}{x:p.den}{k:q.den->Cmd α}{S:Sm}
  (h:∀e:p=q,(k (e▸x)).post S Q):(UA p q x k .fail).post S Q:=by
 unfold UA;split
 .simp_all
 .trivial
theorem GL{p q:M}{xs:List p.den}{k:List q.den->Cmd α}{S:Sm}
  (h:∀e:p=q,(k (e▸xs)).post S Q):(XK p q xs k .fail).post S Q:=by
 unfold XK;split
 .simp_all
 .trivial
theorem Xz{k:List p.den->Cmd α}{S:Sm}
  (h:∀(e:p.el=true) (e' :p.ty=t),(k (cast (congrArg List ((M.denEq p e).trans (congrArg Ty.den e'))).symm xs)).post S Q):(WQ p t xs k .fail).post S Q:=by
 unfold WQ;split
 .simp_all
 .trivial
theorem a0A{xs:List p.den}{k:List t.den->Cmd α}{S:Sm}
  (h:∀(e:p.el=true) (e' :p.ty=t),(k (e' ▸cast (congrArg List (M.denEq p e)) xs)).post S Q):(a2P p t xs k .fail).post S Q:=by
 unfold a2P;split
 .grind
 .trivial
theorem EM{ok ok' :Nat->Ty->Prop}{m:Mp}(k:∀b t,ok b t->ok' b t){cs:List V}{vs:c5x}(hr:fU ⟨h,ok,m⟩ cs vs):fU ⟨h,ok',m⟩ cs vs:=
 Bo (C:=⟨h,ok,m⟩) (D:=⟨h,ok',m⟩) ⟨k,λ_ _ _=>rfl,λ_ _ h=>h⟩ hr
theorem Lp{ok ok' :Nat->Ty->Prop}{m:Mp}(k:∀b t,ok b t->ok' b t)(hr:kU ⟨h,ok,m⟩ c v):kU ⟨h,ok',m⟩ c v:=
 Ij (C:=⟨h,ok,m⟩) (D:=⟨h,ok',m⟩) ⟨k,λ_ _ _=>rfl,λ_ _ h=>h⟩ hr
theorem Ef{bs:c5y}{Ts:List Ty} :∀b t,ok b t->okW ok bs Ts b t:=λ_ _ h=> .inl h
def okL(ln:Ty->Bool)(S:Sm)(m:Mp)(ok:Nat->Ty->Prop):Nat->Ty->Prop:=λb t=>ok b t\/(ln t=true/\∃n,b∈N8 m n (S (U4+n))/\a9I (S (U4+n)) t)
theorem a3n:okL zu S m ok=ok:=by grind [okL,zu]
theorem Yp{ln:Ty->Bool}{n:Nat}{v:V}(hv:N8 m n v=[]){Ts:List Ty}{bs:c5y}(hbs:N8 m n (S (U4+n)) ⊆ bs)(hTs:∀t,a9I (S (U4+n)) t->t∈Ts):
  ∀b t,okL ln S m ok b t->okL ln (upd S (U4+n) v) m (okW ok bs Ts) b t:=by
 intro b t h;rcases h with h|⟨hl,k,hk,ht⟩
 .exact .inl (.inl h)
 .by_cases e:k=n
  .subst e;exact .inl (.inr ⟨hbs hk,hTs _ ht⟩)
  .exact .inr ⟨hl,k,by simp_all [aW]⟩
def ay(S S' :Sm):Prop:=∀n,n<U4->S' n=S n
theorem ay.refl(S:Sm):ay S S:=λ_ _=>rfl
theorem ay.trans{A B C:Sm}(h:ay A B)(k:ay B C):ay A C:=λn hn=>(k n hn).trans (h n hn)
theorem ay.box(S:Sm)(n:Nat)(v:V):ay S (upd S (U4+n) v):=λk hk=>aW _ _ l9
theorem XF{ln:Ty->Bool} :∀{ts:List Ty},a0e ln ts=true->∀t∈ts,ln t=true
 |[],_,_,h=>by grind|u::r,e,t,h=>by
  unfold a0e at e;cases hl:ln u with
  |false=>rw[hl]at e;cases e|true=>
   rw[hl]at e;rcases D7.1 h with rfl|h
   .exact hl
   .exact XF e t h
theorem BO{α:Type}{Q:α->Sm->Prop}(ln:Ty->Bool):∀(t:Ty) {cs:List V} {K:t.den->List V->Cmd α} {S:Sm} {ok:Nat->Ty->Prop} {vs:c5x} (R:Rel X cl ch S m ok a w) (hT:Tk X S m ok w T)
  (hL:fU ⟨w.heap,ok,m⟩ cs vs)
  (hK:∀S' ok' x r us us',Rel X cl ch S' m ok' a w->Tk X S' m ok' w T->(∀b t,ok b t->ok' b t)->(∀b t,okL ln S m ok b t->okL ln S' m ok' b t)->ay S S' ->vs=us++us' ->kZ w.heap (okL ln S' m ok') t x us->fU ⟨w.heap,ok',m⟩ r us' ->(K x r).post S' Q),
  (mD ln t cs K).post S Q
 | .bool,cs,K,S,ok,vs,R,hT,hL,hK=>by
  unfold mD;split
  .obtain⟨v,r,rfl,h1,_,h3⟩:=hL;exact hK _ _ _ _ [v] r R hT (λ_ _ h=>h) (λ_ _ h=>h) (ay.refl _) rfl (by simp only[rP]at h1;simp[kZ,h1]) h3
  .trivial
 | .int k,cs,K,S,ok,vs,R,hT,hL,hK=>by
  unfold mD;split
  .rename_i k' n r0;obtain⟨v,r,rfl,h1,_,h3⟩:=hL;by_cases e:k=k'
   .subst e;simp only[decide_true,cond_true];exact hK _ _ _ _ [v] r R hT (λ_ _ h=>h) (λ_ _ h=>h) (ay.refl _) rfl (by simp only[rP]at h1;simp[kZ,h1]) h3
   .simp only[e,decide_false,cond_false];trivial
  .trivial
 | .str,cs,K,S,ok,vs,R,hT,hL,hK=>by
  unfold mD;split
  .obtain⟨v,r,rfl,h1,_,h3⟩:=hL;exact hK _ _ _ _ [v] r R hT (λ_ _ h=>h) (λ_ _ h=>h) (ay.refl _) rfl (by simp only[rP]at h1;simp[kZ,h1]) h3
  .trivial
 | .unit,cs,K,S,ok,vs,R,hT,hL,hK=>by unfold mD;exact hK _ _ _ _ [] vs R hT (λ_ _ h=>h) (λ_ _ h=>h) (ay.refl _) rfl rfl hL| .ifv,cs,K,S,ok,vs,R,hT,hL,hK=>by
  unfold mD;split
  .obtain⟨v,r,rfl,h1,_,h3⟩:=hL;exact hK _ _ _ _ [v] r R hT (λ_ _ h=>h) (λ_ _ h=>h) (ay.refl _) rfl (by simp only[rP]at h1;simp[kZ,h1]) h3
  .obtain⟨v,r,rfl,⟨u,rfl,_,h1⟩,_,h3⟩:=hL;split<;>try trivial
   all_goals
    simp only[rP]at h1;subst h1;exact hK _ _ _ _ [_] r R hT (λ_ _ h=>h) (λ_ _ h=>h) (ay.refl _) rfl rfl h3
  .trivial
 | .any none,cs,K,S,ok,vs,R,hT,hL,hK=>by
  unfold mD;split
  .obtain⟨v,r,rfl,h1,h2,h3⟩:=hL;exact hK _ _ _ _ [v] r R hT (λ_ _ h=>h) (λ_ _ h=>h) (ay.refl _) rfl ⟨v,rfl,h2,trivial⟩ h3
  .trivial
 | .any (some k),cs,K,S,ok,vs,R,hT,hL,hK=>by
  unfold mD;split
  .rename_i k' n r0;obtain⟨v,r,rfl,h1,h2,h3⟩:=hL;by_cases e:k=k'
   .subst e;simp only[decide_true,cond_true];exact hK _ _ _ _ [v] r R hT (λ_ _ h=>h) (λ_ _ h=>h) (ay.refl _) rfl ⟨v,rfl,h2,n,h1⟩ h3
   .simp only[e,decide_false,cond_false];trivial
  .trivial
 | .prod p q,cs,K,S,ok,vs,R,hT,hL,hK=>by unfold mD;refine BO ln p R hT hL λS1 ok1 x r us us' R1 T1 k1 g1 s1 e1 h1 l1=>?_;refine BO ln q R1 T1 l1 λS2 ok2 y r' vs2 vs2' R2 T2 k2 g2 s2 e2 h2 l2=>?_;subst e1;subst e2;exact hK _ _ _ _ (us++vs2) vs2' R2 T2 (λb t h=>k2 b t (k1 b t h)) (λb t h=>g2 b t (g1 b t h)) (s1.trans s2) x8 ⟨us,vs2,rfl,dm g2 (λ_ _ _=>rfl) h1,h2⟩ l2| .ent ..,cs,K,S,ok,vs,R,hT,hL,hK=>by unfold mD;trivial| .sl t,cs,K,S,ok,vs,R,hT,hL,hK=>by
  unfold mD;split
  .obtain⟨v,r,rfl,h1,_,h3⟩:=hL;simp only[rP]at h1;subst h1;cases ht:t.isEnt
   .exact hK _ _ _ _ [_] r R hT (λ_ _ h=>h) (λ_ _ h=>h) (ay.refl _) rfl (.inl ⟨ht,none,0,rfl,E5 _,λi x hi=>by simp at hi⟩) h3
   .trivial
  .rename_i t' xs r0;obtain⟨v,r,rfl,h1,_,h3⟩:=hL;refine eH λe=>?_;subst e;exact hK _ _ _ _ [v] r R hT (λ_ _ h=>h) (λ_ _ h=>h) (ay.refl _) rfl (dm (λ_ _ h=> .inl h) (λ_ _ _=>rfl) h1) h3
  .rename_i bx vw r0;obtain⟨v,r,rfl,h1,_,h3⟩:=hL;obtain⟨l,hm,hv⟩:=h1;show Cmd.post (match S (U4+bx)with| .barr t' xs=>_| .bfrz t' xs=>_| .barrs el xs none=>_|_=>_) S Q;have hb:=R.box bx;split
   .rename_i t' xs hS;rw[hS]at hb;obtain⟨l',hm',ha⟩:=hb;simp only at hm hm';rw[hm]at hm';cases hm';refine eH λe=>?_;subst e;have hob:N8 m bx (S (U4+bx))=l.blks:=by
     rw[hS];cases l<;>first|(simp[N8,hm,Loc.blks];done)|cases ha
    cases hl:ln t'
    .simp only[cond_false];show Cmd.post _ (upd S (U4+bx) (.bfrz t' xs)) Q;have hbs:∀b∈l.blks,b∈N8 m bx (S (U4+bx)):=λb h=>by rw[hob];exact h
     refine hK _ (okW ok l.blks [t']) _ _ [v] r (R.widen x8 rfl hbs ?_) (hT.widen rfl hbs) Ef (Yp rfl (by rw[hob];exact λ_ h=>h) (by rw[hS];exact λ_ h=>h)) (ay.box _ _ _) rfl ?_ (EM Ef h3)
     .exact⟨l,hm,oL Ef (λ_ _ _=>rfl) (λ_ _=>rfl) ha,λblk hb=> .inr ⟨hb,x8⟩⟩
     .exact oP (C:=⟨w.heap,ok,m⟩) ha hv (λb t h=> .inl (.inl h)) (λblk hb=> .inl (.inr ⟨hb,x8⟩))
    .simp only[cond_true];refine hK _ _ _ _ [v] r R hT (λ_ _ h=>h) (λ_ _ h=>h) (ay.refl _) rfl ?_ h3;refine oP (C:=⟨w.heap,ok,m⟩) ha hv (λb t h=> .inl h) (λblk hb=> .inr ⟨hl,bx,?_,by rw[hS];simp[a9I,b3h]⟩);rw[hob];exact hb
   .rename_i t' xs hS;rw[hS]at hb;obtain⟨l',hm',ha,hok⟩:=hb;simp only at hm hm';rw[hm]at hm';cases hm';refine eH λe=>?_;subst e;exact hK _ _ _ _ [v] r R hT (λ_ _ h=>h) (λ_ _ h=>h) (ay.refl _) rfl (oP (C:=⟨w.heap,ok,m⟩) ha hv (λ_ _ h=> .inl h) (λblk e=> .inl (hok _ e))) h3
   .rename_i md xs hS;rw[hS]at hb;obtain⟨hel,l',Os,hm',⟨ha,hho⟩,hk⟩:=hb;simp only at hm hm' hk;rw[hm]at hm';cases hm';refine a0A λe e' =>?_;subst e';have hob:N8 m bx (S (U4+bx))=l.blks++Os.flatten:=by
     rw[hS];simp only[N8];rw[hk];cases l<;>first|(simp[hm,Loc.blks];done)|cases ha
    simp only;cases hl:(ln md.ty&&a0e ln md.owned)
    .simp only[cond_false];show Cmd.post _ (upd S (U4+bx) (.bfrz md.ty _)) Q;have hbs:∀b∈l.blks++Os.flatten,b∈N8 m bx (S (U4+bx)):=λb h=>by rw[hob];exact h
     have ha' :arrOk ⟨w.heap,okW ok (l.blks++Os.flatten) (md.ty::md.owned),m⟩ md.ty (cast (congrArg List (M.denEq md e)) xs) l:=
      LQ e Ef (λb hb t ht=> .inr ⟨by simp[hb],by simp[ht]⟩) ha
     refine hK _ (okW ok (l.blks++Os.flatten) (md.ty::md.owned)) _ _ [v] r (R.widen x8 rfl hbs ?_) (hT.widen rfl hbs) Ef (Yp rfl (by rw[hob];exact λ_ h=>h) (by rw[hS];exact λ_ h=>h)) (ay.box _ _ _) rfl ?_ (EM Ef h3)
     .exact⟨l,hm,ha',λblk hb=> .inr ⟨by simp[hb],x8⟩⟩
     .exact oP (C:=⟨w.heap,okW ok (l.blks++Os.flatten) (md.ty::md.owned),m⟩) ha' hv (λb t h=> .inl h) (λblk hb=> .inl (.inr ⟨by simp[hb],x8⟩))
    .simp only[cond_true];simp only[D5]at hl;have ha' :arrOk ⟨w.heap,okL ln S m ok,m⟩ md.ty (cast (congrArg List (M.denEq md e)) xs) l:=
      LQ e (λb t h=> .inl h) (λb hb t ht=> .inr ⟨XF hl.2 t ht,bx,by rw[hob];simp[hb],by rw[hS];simp[a9I,b3h,ht]⟩) ha
     refine hK _ _ _ _ [v] r R hT (λ_ _ h=>h) (λ_ _ h=>h) (ay.refl _) rfl ?_ h3;refine oP (C:=⟨w.heap,okL ln S m ok,m⟩) ha' hv (λb t h=>h) (λblk hb=> .inr ⟨hl.1,bx,?_,by rw[hS];simp[a9I,b3h]⟩);rw[hob];simp[hb]
   .trivial
  .trivial
theorem Bc(t:Ty){cs:List V}{K:t.den->List V->Cmd α}{S:Sm}{ok:Nat->Ty->Prop}{vs:c5x}(R:Rel X cl ch S m ok a w)(hT:Tk X S m ok w T)
  (hL:fU ⟨w.heap,ok,m⟩ cs vs)
  (hK:∀S' ok' x r us us',Rel X cl ch S' m ok' a w->Tk X S' m ok' w T->(∀b t,ok b t->ok' b t)->ay S S' ->vs=us++us' ->kZ w.heap ok' t x us->fU ⟨w.heap,ok',m⟩ r us' ->(K x r).post S' Q):
  (mD zu t cs K).post S Q:=
 BO zu t R hT hL λS' ok' x r us us' R' T' k g s e h l=>hK S' ok' x r us us' R' T' k s e (by simp_all [a3n]) l
theorem Loc.blks_nodup(l:Loc):l.blks.Nodup:=by cases l<;>simp[Loc.blks]
theorem a1E(t:Ty){K:t.den->Cmd α}{S:Sm}{ok:Nat->Ty->Prop}(R:Rel X cl ch S m ok a w)(hT:Tk X S m ok w T)
  (hv:rP ⟨w.heap,ok,m⟩ c v)
  (hK:∀S' ok' x,Rel X cl ch S' m ok' a w->Tk X S' m ok' w T->(∀b t,ok b t->ok' b t)->ay S S' ->Zl w.heap ok' t x 0 v->(K x).post S' Q):(rpC t c K).post S Q:=by
 unfold rpC;split
 .refine Dy λe=>?_;subst e;exact hK _ _ _ R hT (λ_ _ h=>h) (ay.refl _) hv
 .rename_i bx;obtain⟨blk,hm,rfl⟩:=hv;show Cmd.post (match S (U4+bx)with| .bfc t' x=>_| .bcells bs=>_|_=>_) S Q;have hb:=R.box bx;split
  .rename_i t' x hS;rw[hS]at hb;obtain⟨blk',es,hm',hok,hc,hr⟩:=hb;rw[hm]at hm';cases hm';refine Dy λe=>?_;subst e;exact hK _ _ _ R hT (λ_ _ h=>h) (ay.refl _) ⟨blk,0,es,rfl,hok,hc,hr⟩
  .rename_i bs hS;rw[hS]at hb;obtain⟨blk',arr,Ty',hm',hh,hl⟩:=hb;rw[hm]at hm';cases hm';refine Bc t R hT hl λS1 ok1 x q us us' R1 T1 k1 s1 e1 h1 l1=>?_;cases q with
   |cons c q=>trivial|nil=>
    subst l1;show Cmd.post (match S1 (U4+bx)with| .bcells _=>_|_=>_) S1 Q;split
    .have hbs:∀b∈[blk],b∈N8 m bx (S1 (U4+bx)):=λb h=>by simp_all [N8]
     have hce:bW w.heap blk 0 t.size=some us:=by rw[jH hh 0 t.size (by have:=bV h1;grind)];rw[e1,←bV h1];simp
     have hr:=dm (Ef (bs:=[blk]) (Ts:=[t])) (λ_ _ _=>rfl) h1;refine hK _ (okW ok1 [blk] [t]) _ (R1.widen x8 rfl hbs ?_) (T1.widen rfl hbs) (λb t h=> .inl (k1 b t h)) (s1.trans (ay.box _ _ _)) ?_
     .exact⟨blk,us,hm,.inr ⟨x8,x8⟩,hce,hr⟩
     .exact⟨blk,0,us,rfl,.inr ⟨x8,x8⟩,hce,hr⟩
    .trivial
  .trivial
 .trivial
theorem a0W(ln:Ty->Bool)(t:Ty){K:t.den->Cmd α}{S:Sm}{ok:Nat->Ty->Prop}(R:Rel X cl ch S m ok a w)(hT:Tk X S m ok w T)
  (hv:rP ⟨w.heap,ok,m⟩ c v)
  (hK:∀S' ok' x,Rel X cl ch S' m ok' a w->Tk X S' m ok' w T->(∀b t,ok b t->ok' b t)->(∀b t,okL ln S m ok b t->okL ln S' m ok' b t)->ay S S' ->Zl w.heap (okL ln S' m ok') t x 0 v->(K x).post S' Q):(lpC ln t c K).post S Q:=by
 unfold lpC;split
 .refine Dy λe=>?_;subst e;exact hK _ _ _ R hT (λ_ _ h=>h) (λ_ _ h=>h) (ay.refl _) (CZ (λ_ _ h=> .inl h) (λ_ _ _=>rfl) hv)
 .rename_i bx;obtain⟨blk,hm,rfl⟩:=hv;show Cmd.post (match S (U4+bx)with| .bcells bs=>_|_=>_) S Q;have hb:=R.box bx;split
  .rename_i bs hS;rw[hS]at hb;obtain⟨blk',arr,Ty',hm',hh,hl⟩:=hb;rw[hm]at hm';cases hm';cases hlt:ln t
   .trivial
   refine BO ln t R hT hl λS1 ok1 x q us us' R1 T1 k1 g1 s1 e1 h1 l1=>?_;cases q with
   |cons c q=>trivial|nil=>
    subst l1;show Cmd.post (match S1 (U4+bx)with| .bcells _=>_|_=>_) S1 Q;split
    .rename_i bs' hS';have hce:bW w.heap blk 0 t.size=some us:=by
      rw[jH hh 0 t.size (by have:=bV h1;grind)];rw[e1,←bV h1];simp
     exact hK _ _ _ R1 T1 k1 g1 s1 ⟨blk,0,us,rfl,.inr ⟨hlt,bx,by simp_all [N8],by rw[hS'];trivial⟩,hce,h1⟩
    .trivial
  .trivial
 .trivial
theorem Jd{α:Type}{Q:α->Sm->Prop}{h:Array Obj}{ok:Nat->Ty->Prop} :∀(ts:List Ty) {cs:List ((t:Ty)×t.den)} {vs:c5x} {K:Rf ts->Cmd α} {S:Sm}
  (hc:Dx h ok cs vs) (hK:∀x,Dx h ok (QZ ts x) vs->(K x).post S Q),(MR ts cs K).post S Q
 |[],cs,vs,K,S,hc,hK=>by
  unfold MR;split
  .exact hK _ hc
  .trivial
 |[t],cs,vs,K,S,hc,hK=>by
  unfold MR;split
  .refine Dy λe=>?_;subst e;exact hK _ hc
  .trivial
 |t::t' ::r,cs,vs,K,S,hc,hK=>by
  unfold MR;split
  .obtain⟨v,vs',rfl,h1,h2⟩:=hc;refine Dy λe=>?_;subst e;exact Jd (t' ::r) h2 λy hy=>hK _ ⟨v,vs',rfl,h1,hy⟩
  .trivial
theorem b0S{te:Nat}{K:c5v->Cmd α}{S:Sm}{ok:Nat->Ty->Prop}{T:c5y}(R:Rel X cl ch S m ok a w)(hT:Tk X S m ok w T)(hv:rP ⟨w.heap,ok,m⟩ c v)
  (hK:∀S' ys l,Rel X cl ch S' m ok a w->Tk X S' m ok w (T++l.blks)->ay S S' ->(∀n,(∀t xs,S (U4+n)≠.brow t xs)->S' (U4+n)=S (U4+n))->l.view none v->sH w.heap te ys l->(K ys).post S' Q):(sbC te c K).post S Q:=by
 unfold sbC;split
 .exact hK S [] .nil R (by simp_all [Loc.blks]) (ay.refl _) (λ_ _=>rfl) hv rfl
 .rename_i b;obtain⟨l,hm,hvw⟩:=hv;show Cmd.post (match S (U4+b)with| .brow te' xs=>_|_=>_) S Q;have hb:=R.box b;split
  .rename_i t' xs hS;rw[hS]at hb;obtain⟨l',hm',ha⟩:=hb;rw[hm]at hm';cases hm';cases he:Nat.beq t' te
   .trivial
   have e:=fZ he;subst e;refine hK _ xs l (R.kill b) (hT.kill R b (λb' hb' =>?_) (Loc.blks_nodup l)) (ay.box _ _ _) (λn hn=>?_) hvw ha
   .cases l with
    |nil=>simp_all [Loc.blks]|st _=>cases ha|arr blk off len cap sz=>simp_all [Loc.blks,N8]|mp blk=>cases ha
   grind [aW]
  .trivial
 .trivial
theorem DN{α:Type}{Q:α->Sm->Prop} :∀(md:M) {cs:List V} {K:md.den->List V->Cmd α} {S:Sm} {ok:Nat->Ty->Prop} {vs:c5x} {T:c5y} (R:Rel X cl ch S m ok a w) (hT:Tk X S m ok w T)
  (hL:fU ⟨w.heap,ok,m⟩ cs vs)
  (hK:∀S' ok' x r us us' O,Rel X cl ch S' m ok' a w->Tk X S' m ok' w (T++O)->(∀b t,ok b t->ok' b t)->ay S S' ->vs=us++us' ->lS w.heap ok' md none x us O->fU ⟨w.heap,ok',m⟩ r us' ->(K x r).post S' Q),
  (exM zu md cs K).post S Q
 | .dat t,cs,K,S,ok,vs,T,R,hT,hL,hK=>by unfold exM;exact Bc t R hT hL λS' ok' x r us us' R' T' k s e h l=>hK S' ok' x r us us' [] R' (by simpa using T') k s e ⟨h,rfl⟩ l| .own t,cs,K,S,ok,vs,T,R,hT,hL,hK=>by
  unfold exM;split
  .obtain⟨v,r,rfl,h1,_,h3⟩:=hL;simp only[rP]at h1;subst h1;cases ht:t.isEnt
   .exact hK _ _ _ _ [_] r [] R (by simpa using hT) (λ_ _ h=>h) (ay.refl _) rfl (xX.2 ⟨.nil,_,rfl,rfl,⟨rfl,ht⟩,rfl⟩) h3
   .trivial
  .rename_i bx vw r0;obtain⟨v,r,rfl,h1,_,h3⟩:=hL;obtain⟨l,hm,hv⟩:=h1;show Cmd.post (match S (U4+bx)with| .barr t' xs=>_|_=>_) S Q;have hb:=R.box bx;split
   .rename_i t' xs hS;rw[hS]at hb;obtain⟨l',hm',ha⟩:=hb;simp only at hm hm';rw[hm]at hm';cases hm';refine eH λe=>?_;subst e;obtain⟨a1,a2,a3⟩:=GI (C:=⟨w.heap,ok,m⟩) ha hv;show Cmd.post _ (upd S (U4+bx) .dead) Q;refine hK _ ok _ _ [v] r (IA l vw).blks (R.kill bx) ?_ (λ_ _ h=>h) (ay.box _ _ _) rfl (xX.2 ⟨_,v,rfl,a2,oL (λ_ _ h=>h) (λ_ _ _=>rfl) (λ_ _=>rfl) a1,rfl⟩) h3;rw[a3];refine hT.kill R bx (λb hb=>?_) (Loc.blks_nodup l);cases l with
    |nil=>simp[Loc.blks]at hb|st _=>cases ha|arr blk off len cap sz=>simp[Loc.blks]at hb;subst hb;simp[N8,hS,hm]|mp blk=>simp[Loc.blks]at hb;subst hb;simp[N8,hS,hm]
   .trivial
  .trivial
 | .ownb t,cs,K,S,ok,vs,T,R,hT,hL,hK=>by
  unfold exM;split
  .obtain⟨v,r,rfl,h1,_,h3⟩:=hL;simp only[rP]at h1;subst h1;cases ht:t.isEnt
   .exact hK _ _ _ _ [_] r [] R (by simpa using hT) (λ_ _ h=>h) (ay.refl _) rfl ⟨.nil,_,rfl,rfl,⟨rfl,ht⟩,rfl⟩ h3
   .trivial
  .rename_i bx r0;obtain⟨v,r,rfl,h1,_,h3⟩:=hL;obtain⟨l,hm,hv⟩:=h1;show Cmd.post (match S (U4+bx)with| .barr t' xs=>_|_=>_) S Q;have hb:=R.box bx;split
   .rename_i t' xs hS;rw[hS]at hb;obtain⟨l',hm',ha⟩:=hb;simp only at hm hm';rw[hm]at hm';cases hm';refine eH λe=>?_;subst e;show Cmd.post _ (upd S (U4+bx) (.gone t')) Q;refine hK _ ok _ _ [v] r l.blks (R.killV bx x8 rfl ⟨l,hm,λblk off len cap sz e=>by subst e;exact ha.2.1⟩) ?_ (λ_ _ h=>h) (ay.box _ _ _) rfl ⟨l,v,rfl,hv,oL (λ_ _ h=>h) (λ_ _ _=>rfl) (λ_ _=>rfl) ha,rfl⟩ h3;refine hT.killV R bx rfl (λb hb=>?_) (Loc.blks_nodup l);cases l with
    |nil=>simp[Loc.blks]at hb|st _=>cases ha|arr blk off len cap sz=>simp[Loc.blks]at hb;subst hb;simp[N8,hS,hm]|mp blk=>simp[Loc.blks]at hb;subst hb;simp[N8,hS,hm]
   .trivial
  .trivial
 | .owns md,cs,K,S,ok,vs,T,R,hT,hL,hK=>by
  unfold exM;split
  .obtain⟨v,r,rfl,h1,_,h3⟩:=hL;simp only[rP]at h1;subst h1;refine U5 λhe=>?_;exact hK _ _ _ _ [_] r [] R (by simpa using hT) (λ_ _ h=>h) (ay.refl _) rfl (xG.2 ⟨he,.nil,_,[],rfl,rfl,⟨rfl,rfl⟩,rfl⟩) h3
  .rename_i bx r0;obtain⟨v,r,rfl,h1,_,h3⟩:=hL;obtain⟨l,hm,hv⟩:=h1;show Cmd.post (match S (U4+bx)with| .barrs m' xs none=>_| .barrp m' xs n _=>_|_=>_) S Q;have hb:=R.box bx;split
   .rename_i md' xs hS;rw[hS]at hb;obtain⟨hel,l',Os,hm',⟨ha,hho⟩,hk⟩:=hb;simp only at hm hm' hk;rw[hm]at hm';cases hm';refine GL λe=>?_;subst e;have hob:N8 m bx (S (U4+bx))=l.blks++Os.flatten:=by
     rw[hS];simp only[N8];rw[hk];cases l<;>first|(simp[hm,Loc.blks];done)|cases ha
    show Cmd.post _ (upd S (U4+bx) .dead) Q;refine hK _ ok _ _ [v] r (l.blks++Os.flatten) (R.kill bx) ?_ (λ_ _ h=>h) (ay.box _ _ _) rfl (xG.2 ⟨hel,l,v,Os,rfl,hv,ha,rfl⟩) h3;refine hT.kill R bx (λb hb=>by rw[hob];exact hb) (by rw[←hob];exact R.nd bx)
   .rename_i md' xs n o hS;rw[hS]at hb;obtain⟨hel,h0,l',Os,hm',ha,hk⟩:=hb;simp only at hm hm' hk;rw[hm]at hm';cases hm';refine GL λe=>⟨λhn=>?_,λ_=>trivial⟩;subst e;have hob:N8 m bx (S (U4+bx))=l.blks++Os.flatten:=by
     rw[hS];simp only[N8];rw[hk];cases l<;>first|(simp[hm,Loc.blks];done)|cases ha
    have hn' :(xs.length:Int)<=n:=of_decide_eq_true hn;have ha' :uB w.heap md'.size (λ_ x es O=>lS w.heap ok md' none x es O) xs Os l:=a2r (λi x es O hi hr=>by simp only at hr;rw[a0L hi (show xs.length<=n.toNat by omega)]at hr;exact hr) ha
    show Cmd.post _ (upd S (U4+bx) .dead) Q;refine hK _ ok _ _ [v] r (l.blks++Os.flatten) (R.kill bx) ?_ (λ_ _ h=>h) (ay.box _ _ _) rfl (xG.2 ⟨hel,l,v,Os,rfl,hv,ha',rfl⟩) h3;refine hT.kill R bx (λb hb=>by rw[hob];exact hb) (by rw[←hob];exact R.nd bx)
   .trivial
  .trivial
 | .ownr md o,cs,K,S,ok,vs,T,R,hT,hL,hK=>by
  unfold exM;split
  .rename_i bx r0;obtain⟨v,r,rfl,h1,_,h3⟩:=hL;obtain⟨l,hm,hv⟩:=h1;show Cmd.post (match S (U4+bx)with| .barrp m' xs n o' =>_| .barr t xs=>_|_=>_) S Q;have hb:=R.box bx;split
   .rename_i md' xs n o' hS;rw[hS]at hb;obtain⟨hel,h0,l',Os,hm',ha,hk⟩:=hb;simp only at hm hm' hk;rw[hm]at hm';cases hm';refine U5 λho=>GL λe=>?_;have ho:=fZ ho;subst ho;subst e;have hob:N8 m bx (S (U4+bx))=l.blks++Os.flatten:=by
     rw[hS];simp only[N8];rw[hk];cases l<;>first|(simp[hm,Loc.blks];done)|cases ha
    show Cmd.post _ (upd S (U4+bx) .dead) Q;refine hK _ ok _ _ [v] r (l.blks++Os.flatten) (R.kill bx) ?_ (λ_ _ h=>h) (ay.box _ _ _) rfl ⟨v,rfl,kW hv,hel,h0,l,Os,hv,ha,rfl⟩ h3;refine hT.kill R bx (λb hb=>by rw[hob];exact hb) (by rw[←hob];exact R.nd bx)
   .rename_i t xs hS;rw[hS]at hb;obtain⟨l',hm',ha⟩:=hb;simp only at hm hm';rw[hm]at hm';cases hm';refine U5 λho1=>Xz λe e' =>?_;subst e';have hob:N8 m bx (S (U4+bx))=l.blks:=by
     rw[hS];cases l<;>first|(simp[N8,hm,Loc.blks];done)|cases ha
    have ha2:=a0i (R:=λi y es O=>lS w.heap ok md (vU o (0:Int).toNat i) y es O) (M.denEq md e).symm (congrArg List (M.denEq md e)).symm (M.ty_size e) (b3g ho1) (M.ty_ent e)
     (λi x es hr=>by
       have:vU o (0:Int).toNat i=some o:=by simp[vU]
       rw[this];exact Wi e ho1 hr) ha
    show Cmd.post _ (upd S (U4+bx) .dead) Q;refine hK _ ok _ _ [v] r l.blks (R.kill bx) ?_ (λ_ _ h=>h) (ay.box _ _ _) rfl ⟨v,rfl,kW hv,e,xy 0,l,_,hv,ha2,x8⟩ h3;exact hT.kill R bx (λb hb=>by rw[hob];exact hb) (Loc.blks_nodup l)
   .trivial
  .trivial
 | .unit,cs,K,S,ok,vs,T,R,hT,hL,hK=>by unfold exM;exact hK _ _ _ _ [] vs [] R (by simpa using hT) (λ_ _ h=>h) (ay.refl _) rfl ⟨rfl,rfl⟩ hL
 | .pair p q,cs,K,S,ok,vs,T,R,hT,hL,hK=>by unfold exM;refine DN p R hT hL λS1 ok1 x r us us' O1 R1 T1 k1 s1 e1 h1 l1=>?_;refine DN q R1 T1 l1 λS2 ok2 y r' vs2 vs2' O2 R2 T2 k2 s2 e2 h2 l2=>?_;subst e1;subst e2;exact hK _ _ _ _ (us++vs2) vs2' (O1++O2) R2 (by simpa using T2) (λb t h=>k2 b t (k1 b t h)) (s1.trans s2) x8 ⟨us,vs2,O1,O2,rfl,rfl,gZ k2 (λ_ _ _=>rfl) (λ_ _=>rfl) h1,h2⟩ l2| .box md,cs,K,S,ok,vs,T,R,hT,hL,hK=>by
  unfold exM;split
  .rename_i bx r0;obtain⟨v,r,rfl,h1,_,h3⟩:=hL;obtain⟨blk,hm,hv⟩:=h1;show Cmd.post (match S (U4+bx)with| .bcells bs=>_|_=>_) S Q;have hb:=R.box bx;split
   .rename_i bs hS;rw[hS]at hb;obtain⟨blk',arr,Ty',hm',hh,hl⟩:=hb;simp only at hm hm' hv;rw[hm]at hm';cases hm';subst hv;show Cmd.post _ (upd S (U4+bx) .dead) Q;have hT1:Tk X (upd S (U4+bx) .dead) m ok w (T++[blk]):=hT.kill R bx (λb hb=>by simp at hb;subst hb;simp[N8,hS,hm]) x8;refine DN md (R.kill bx) hT1 hl λS1 ok1 x q us us' O R1 T1 k1 s1 e1 h1 l1=>?_;cases q with
    |nil=>simp only[fU]at l1;subst l1;simp only[E9]at e1;refine hK _ _ _ _ [_] r (blk::O) R1 (by simpa using T1) k1 ((ay.box _ _ _).trans s1) rfl ⟨blk,arr,Ty',O,rfl,hh,by rw[e1];exact h1,rfl⟩ (EM k1 h3)|cons c q=>trivial
   .trivial
  .trivial
 | .rp t,cs,K,S,ok,vs,T,R,hT,hL,hK=>by
  unfold exM;split
  .obtain⟨v,r,rfl,h1,_,h3⟩:=hL;refine a1E t R hT h1 λS1 ok1 x R1 T1 k1 s1 h1=>?_;exact hK _ _ _ _ [v] r [] R1 (by simpa using T1) k1 s1 rfl ⟨v,rfl,h1,rfl⟩ (EM k1 h3)
  .trivial
 | .fn f ts,cs,K,S,ok,vs,T,R,hT,hL,hK=>by
  unfold exM;split
  .rename_i g caps r0;obtain⟨v,r,rfl,⟨us,rfl,hc⟩,_,h3⟩:=hL;cases hb:Nat.beq g f
   .trivial
   .simp only[cond_true];have e:=fZ hb;subst e;exact Jd ts hc λx hx=>hK _ _ _ _ [_] r [] R (by simpa using hT) (λ_ _ h=>h) (ay.refl _) rfl ⟨us,rfl,hx,rfl⟩ h3
  .rename_i g r0;obtain⟨v,r,rfl,h1,_,h3⟩:=hL;have h1:v= .func (.func g) #[] #[]:=h1;subst h1;cases hb:Nat.beq g f
   .trivial
   .simp only[cond_true];have e:=fZ hb;subst e;exact Jd (cs:=[]) (vs:=[]) ts rfl λx hx=>hK _ _ _ _ [_] r [] R (by simpa using hT) (λ_ _ h=>h) (ay.refl _) rfl ⟨#[],rfl,hx,rfl⟩ h3
  .trivial
 | .ifc t md,cs,K,S,ok,vs,T,R,hT,hL,hK=>by
  unfold exM;split
  .rename_i t' c r0;obtain⟨v,r,rfl,⟨u,rfl,hu,hc⟩,_,h3⟩:=hL;cases hb:Nat.beq t' t
   .trivial
   .simp only[cond_true];have e:=fZ hb;subst e;refine DN md (vs:=[u]) R hT ⟨u,[],rfl,hc,hu,rfl⟩ λS1 ok1 x q us us' O R1 T1 k1 s1 e1 h1 l1=>?_;cases q with
    |cons c q=>trivial|nil=>simp only[fU]at l1;subst l1;simp only[E9]at e1;subst e1;exact hK _ _ _ _ [_] r O R1 T1 k1 s1 rfl ⟨u,rfl,h1⟩ (EM k1 h3)
  .trivial
 | .cell (some none),cs,K,S,ok,vs,T,R,hT,hL,hK=>by
  unfold exM;split
  .obtain⟨v,r,rfl,h1,h2,h3⟩:=hL;exact hK _ _ _ _ [v] r [] R (by simpa using hT) (λ_ _ h=>h) (ay.refl _) rfl ⟨v,rfl,h2,λ_=>h1,(λ_ h=>nomatch h),rfl⟩ h3
  .trivial
 | .cell (some (some b)),cs,K,S,ok,vs,T,R,hT,hL,hK=>by
  unfold exM;split
  .obtain⟨v,r,rfl,h1,h2,h3⟩:=hL;cases b
   .trivial
   .exact hK _ _ _ _ [v] r [] R (by simpa using hT) (λ_ _ h=>h) (ay.refl _) rfl ⟨v,rfl,h2,(λh=>nomatch h),(λb' h=>by cases h;exact h1),rfl⟩ h3
  .obtain⟨v,r,rfl,h1,h2,h3⟩:=hL;cases b
   .exact hK _ _ _ _ [v] r [] R (by simpa using hT) (λ_ _ h=>h) (ay.refl _) rfl ⟨v,rfl,h2,(λh=>nomatch h),(λb' h=>by cases h;exact h1),rfl⟩ h3
   .trivial
  .trivial
 | .cell none,cs,K,S,ok,vs,T,R,hT,hL,hK=>by
  unfold exM;split
  .obtain⟨v,r,rfl,h1,h2,h3⟩:=hL;exact hK _ _ _ _ [v] r [] R (by simpa using hT) (λ_ _ h=>h) (ay.refl _) rfl ⟨v,rfl,h2,(λh=>nomatch h),(λ_ h=>nomatch h),rfl⟩ h3
  .trivial
 | .fr t,cs,K,S,ok,vs,T,R,hT,hL,hK=>by
  unfold exM;split
  .obtain⟨v,r,rfl,h1,_,h3⟩:=hL;simp only[rP]at h1;subst h1;cases ht:t.isEnt
   .exact hK _ _ _ _ [_] r [] R (by simpa using hT) (λ_ _ h=>h) (ay.refl _) rfl ⟨.nil,_,rfl,rfl,⟨rfl,ht⟩,(λb h=>by cases h),rfl⟩ h3
   .trivial
  .rename_i bx r0;obtain⟨v,r,rfl,h1,_,h3⟩:=hL;obtain⟨l,hm,hv⟩:=h1;show Cmd.post (match S (U4+bx)with| .barr t' xs=>_| .bfrz t' xs=>_|_=>_) S Q;have hb:=R.box bx;split
   .rename_i t' xs hS;rw[hS]at hb;obtain⟨l',hm',ha⟩:=hb;simp only at hm hm';rw[hm]at hm';cases hm';refine eH λe=>?_;subst e;have hob:N8 m bx (S (U4+bx))=l.blks:=by
     rw[hS];cases l<;>first|(simp[N8,hm,Loc.blks];done)|cases ha
    show Cmd.post _ (upd S (U4+bx) (.bfrz t' xs)) Q;have hbs:∀b∈l.blks,b∈N8 m bx (S (U4+bx)):=λb h=>by rw[hob];exact h
    have ha' :arrOk ⟨w.heap,okW ok l.blks [t'],nom⟩ t' xs l:=oL (m:=m) Ef (λ_ _ _=>rfl) (λ_ _=>rfl) ha;exact hK _ (okW ok l.blks [t']) _ _ [v] r [] (R.widen x8 rfl hbs ⟨l,hm,oL Ef (λ_ _ _=>rfl) (λ_ _=>rfl) ha,λblk hb=> .inr ⟨hb,x8⟩⟩) (by simpa using hT.widen rfl hbs) Ef (ay.box _ _ _) rfl ⟨l,v,rfl,hv,ha',λb hb=> .inr ⟨hb,x8⟩,rfl⟩ (EM Ef h3)
   .rename_i t' xs hS;rw[hS]at hb;obtain⟨l',hm',ha,hk⟩:=hb;simp only at hm hm';rw[hm]at hm';cases hm';refine eH λe=>?_;subst e;exact hK _ ok _ _ [v] r [] R (by simpa using hT) (λ_ _ h=>h) (ay.refl _) rfl ⟨l,v,rfl,hv,oL (m:=m) (λ_ _ h=>h) (λ_ _ _=>rfl) (λ_ _=>rfl) ha,hk,rfl⟩ h3
   .trivial
  .trivial
 | .lp t,cs,K,S,ok,vs,T,R,hT,hL,hK=>by
  unfold exM;split
  .obtain⟨v,r,rfl,h1,_,h3⟩:=hL;refine a0W zu t R hT h1 λS1 ok1 x R1 T1 k1 g1 s1 h1=>?_;rw[a3n]at h1;exact hK _ _ _ _ [v] r [] R1 (by simpa using T1) k1 s1 rfl ⟨v,rfl,h1,rfl⟩ (EM k1 h3)
  .trivial
 | .dv ..,cs,K,S,ok,vs,T,R,hT,hL,hK=>by
  unfold exM;split
  .obtain⟨v,r,rfl,h1,h2,h3⟩:=hL;exact hK _ _ _ _ [v] r [] R (by simpa using hT) (λ_ _ h=>h) (ay.refl _) rfl ⟨v,rfl,h2,rfl⟩ h3
  .trivial
 | .sit,cs,K,S,ok,vs,T,R,hT,hL,hK=>by
  unfold exM;split
  .rename_i bx r0;obtain⟨v,r,rfl,h1,_,h3⟩:=hL;obtain⟨blk,hm,rfl⟩:=h1;have hb:=R.box bx;show Cmd.post (match S (U4+bx)with| .biter l p=>_|_=>_) S Q;split
   .rename_i l p hS;rw[hS]at hb;obtain⟨blk',s,q,hm',hh,g1,g2⟩:=hb;simp only at hm hm';rw[hm]at hm';cases hm';show Cmd.post _ (upd S (U4+bx) .dead) Q;have T2:=hT.kill R bx (bs:=[blk]) (λb hb=>by rw[hS];simpa[N8,hm]using hb) x8;exact hK _ ok (l,p) _ _ r [blk] (R.kill bx) T2 (λ_ _ h=>h) (ay.box _ _ _) rfl ⟨blk,s,q,rfl,hh,g1,g2,rfl⟩ h3
   .trivial
  .trivial
 | .mbx t tb te o,cs,K,S,ok,vs,T,R,hT,hL,hK=>by
  unfold exM;split
  .rename_i bx o' r0;obtain⟨v,r,rfl,h1,_,h3⟩:=hL;obtain⟨blk,hm,rfl⟩:=h1;have hb:=R.box bx;show Cmd.post (match S (U4+bx)with| .bsb tb' bs c=>_|_=>_) S Q;split
   .rename_i tb' bs c hS;rw[hS]at hb;obtain⟨blk',arr,es,a0,v0,hm',hh,he,hl,hs,g2⟩:=hb;simp only at hm hm';rw[hm]at hm';cases hm';refine U5 λhbo=>?_;simp only[D5]at hbo;have e:=fZ hbo.1;have e' :=fZ hbo.2;subst e;subst e';refine b0S R hT g2 λS1 ys l R1 T1 s1 n1 hv1 ha1=>?_;show Cmd.post _ (upd S1 (U4+bx) .dead) Q;have T2:=T1.kill R1 bx (bs:=[blk]) (λb hb=>by rw[n1 bx (λ_ _=>by rw[hS];simp),hS];simpa[N8,hm]using hb) x8;refine Bc t (R1.kill bx) T2 hl λS2 ok2 x q us us' R2 T3 k2 s2 e2 h2 l2=>?_;cases q with
    |nil=>simp only[fU]at l2;subst l2;simp only[E9]at e2;subst e2;refine hK _ ok2 (mbM t x ys) _ [_] r (blk::l.blks) R2 (T3.perm ?_) k2 (s1.trans ((ay.box _ _ _).trans s2)) rfl ⟨blk,arr,es,a0,v0,l,rfl,hh,he,by rw[a9i];exact h2,hs,hv1,by rw[a9h];exact ha1,rfl⟩ (EM k2 h3);rw[E8];exact wR _ lI|cons c q=>trivial
   .trivial
  .trivial
end
end Go.GP
namespace Go.GP
def jk(C:Cx):List V->c5x->Prop
 |[],vs=>vs=[]|c::cs,vs=>∃v r,vs=v::r/\kU C c v/\jk C cs r
theorem JU{h:Array Obj}{ok ok' :Nat->Ty->Prop}{m:Mp}(k:∀b t,ok b t->ok' b t):∀{cs:List V} {vs:c5x},jk ⟨h,ok,m⟩ cs vs->jk ⟨h,ok',m⟩ cs vs
 |[],_,e=>e|_::_,_,⟨v,r,e,h1,h2⟩=>⟨v,r,e,Lp k h1,JU k h2⟩
theorem j_{h:Array Obj}{ok:Nat->Ty->Prop}{m m' :Mp}(k:∀n l,m n=some l->m' n=some l):∀{cs:List V} {vs:c5x},jk ⟨h,ok,m⟩ cs vs->jk ⟨h,ok,m'⟩ cs vs
 |[],_,e=>e|_::_,_,⟨v,r,e,h1,h2⟩=>⟨v,r,e,Ij (C:=⟨h,ok,m⟩) (D:=⟨h,ok,m'⟩) ⟨λ_ _ h=>h,λ_ _ _=>rfl,k⟩ h1,j_ k h2⟩
theorem zY{h:Array Obj}{ok:Nat->Ty->Prop}{m m' :Mp}(k:∀n l,m n=some l->m' n=some l){cs:List V}{vs:c5x}(hr:fU ⟨h,ok,m⟩ cs vs):fU ⟨h,ok,m'⟩ cs vs:=
 Bo (C:=⟨h,ok,m⟩) (D:=⟨h,ok,m'⟩) ⟨λ_ _ h=>h,λ_ _ _=>rfl,k⟩ hr
variable {C:Cx}
theorem a1v{c:V}{v:Value}(h1:c≠.undef)(h2:c≠.un)(h:rP C c v):v.oneCell' =true:=by
 cases c<;>simp only[rP]at h<;>try (subst h;first|rfl|exact Vg _)
 case ne=>obtain⟨_,_,rfl,_⟩:=h;rfl
 .exact absurd rfl h1
 .exact absurd rfl h2
 .rcases h with⟨_,a,cap,e,_⟩|⟨_,mv,e,_⟩<;>(simp at e;subst e;rfl)
 .obtain⟨l,_,hv⟩:=h;exact kW hv
 .obtain⟨b,_,rfl⟩:=h;rfl
 .obtain⟨_,_,_,_,_,_,_,rfl⟩:=h;rfl
 .exact Jk h
 all_goals first|exact h.elim|(obtain⟨_,rfl,_⟩:=h;rfl)|(obtain⟨_,_,rfl⟩:=h;rfl)
theorem CS{c:V}{v:Value}(h:rP C c v):kU C c v:=by cases c<;>simp only[rP]at h<;>try exact h
variable {α:Type}{v:V}{Q:α->Sm->Prop}{x:Value}{ln:Ty->Bool}
section
variable {X:Fx} {cl ch:Nat} {S:Sm} {m:Mp} {ok:Nat->Ty->Prop} {a:Act} {w:World} {T:c5y}
theorem BA{ag:Bool}{K:List V->Cmd α}{S:Sm}(hv:kU C v x)
  (hK:∀cs us,Xr ag x us->fU C cs us->(K cs).post S Q):(UB ag v K).post S Q:=by
 unfold UB;split<;>try trivial
 .obtain⟨arr,rfl,hl⟩:=hv;exact hK _ _ ⟨arr,rfl,rfl⟩ hl
 .rename_i h1 h2 h3 h4;have hc:rP C v x:=by cases v<;>first|exact hv|exact absurd rfl (h1 _)|simp_all
  exact hK [v] [x] rfl ⟨x,[],rfl,hc,a1v (λe=>h3 e) (λe=>h4 e) hc,rfl⟩
theorem rq{K:List V->Cmd α}{S:Sm}(hv:kU C v x)
  (hK:∀cs,fU C cs x.cells.toList->(K cs).post S Q):(Dz v K).post S Q:=by
 unfold Dz;split<;>try trivial
 .obtain⟨arr,rfl,hl⟩:=hv;exact hK _ hl
 .rename_i h1 h2 h3 h4;have hc:rP C v x:=by cases v<;>first|exact hv|exact absurd rfl (h1 _)|simp_all
  have h1' :=a1v (λe=>h3 e) (λe=>h4 e) hc;have e:x.cells.toList=[x]:=by cases x<;>simp[Value.cells]<;>simp[Value.oneCell']at h1'
  refine hK [v] ?_;rw[e];exact⟨x,[],rfl,hc,h1',rfl⟩
theorem a0C{md:MG}{K:md.2.den->Cmd α}(R:Rel X cl ch S m ok a w)(hT:Tk X S m ok w T)(hv:kU ⟨w.heap,ok,m⟩ v x)
  (hK:∀S' ok' y cs O,Rel X cl ch S' m ok' a w->Tk X S' m ok' w (T++O)->(∀b t,ok b t->ok' b t)->ay S S' ->Xr md.1 x cs->lS w.heap ok' md.2 none y cs O->(K y).post S' Q):
  (UQ zu md v K).post S Q:=by
 refine BA hv λcs us hg hl=>?_;refine DN md.2 R hT hl λS1 ok1 y r us1 us' O R1 T1 k1 s1 e1 h1 l1=>?_;cases r with
 |cons c q=>trivial|nil=>
  grind [fU]
theorem a8H{md:M}(hd:md.isDat=false)(cs:List V)(K:md.den->List V->Cmd α):exM ln md cs K=exM zu md cs K:=by cases md<;>first|rfl|(simp[M.isDat]at hd;done)|(rename_i b;cases b<;>first|rfl|(rename_i b;cases b<;>rfl))
theorem XU{md:MG}(hd:md.2.isDat=true){K:md.2.den->Cmd α}(R:Rel X cl ch S m ok a w)(hT:Tk X S m ok w T)(hv:kU ⟨w.heap,ok,m⟩ v x)
  (hK:∀S' ok' y cs,Rel X cl ch S' m ok' a w->Tk X S' m ok' w T->(∀b t,ok b t->ok' b t)->(∀b t,okL ln S m ok b t->okL ln S' m ok' b t)->ay S S' ->Xr md.1 x cs->lS w.heap (okL ln S' m ok') md.2 none y cs []->(K y).post S' Q):
  (UQ ln md v K).post S Q:=by
 obtain⟨ag,mm⟩:=md;cases mm<;>simp[M.isDat]at hd
 case dat t=>
  refine BA hv λcs us hg hl=>?_;refine BO ln _ R hT hl λS1 ok1 y r us1 us' R1 T1 k1 g1 s1 e1 h1 l1=>?_;cases r with
  |cons c q=>trivial|nil=>subst l1;simp at e1;subst e1;exact hK _ _ _ _ R1 T1 k1 g1 s1 hg ⟨h1,rfl⟩
 case lp t=>
  refine BA hv λcs us hg hl=>?_;cases cs with
  |nil=>trivial|cons c q=>
   obtain⟨u,r',rfl,h1,h2,h3⟩:=hl;refine a0W ln t R hT h1 λS1 ok1 y R1 T1 k1 g1 s1 d1=>?_;cases q with
   |cons c q=>trivial|nil=>subst h3;exact hK _ _ _ _ R1 T1 k1 g1 s1 hg ⟨u,rfl,d1,rfl⟩
theorem b6E :∀b t,ok b t->okL ln S m ok b t:=λ_ _ h=> .inl h
theorem DL{α:Type}{Q:α->Sm->Prop}{ln:Ty->Bool} :∀(ms:List MG) {vs:List V} {xs:c5x} {K:Y3 ms->Cmd α} {S:Sm} {ok:Nat->Ty->Prop} {T:c5y} (R:Rel X cl ch S m ok a w) (hT:Tk X S m ok w T)
  (hv:jk ⟨w.heap,ok,m⟩ vs xs)
  (hK:∀S' ok' y O,Rel X cl ch S' m ok' a w->Tk X S' m ok' w (T++O)->(∀b t,ok b t->ok' b t)->ay S S' ->nI w.heap (okL ln S' m ok') ms y xs O->(K y).post S' Q),
  (Jm ln ms vs K).post S Q
 |[],vs,xs,K,S,ok,T,R,hT,hv,hK=>by
  unfold Jm;split
  .subst hv;exact hK _ _ _ [] R (by simp_all) (λ_ _ h=>h) (ay.refl _) ⟨rfl,rfl⟩
  .trivial
 |[md],vs,xs,K,S,ok,T,R,hT,hv,hK=>by
  unfold Jm;split
  .obtain⟨x,r,rfl,h1,h2⟩:=hv;subst h2;cases hd:md.2.isDat
   .unfold UQ;simp[a8H hd];exact a0C R hT h1 λS' ok' y cs O R' T' k s g h=>hK _ _ _ O R' T' k s ⟨x,cs,rfl,g,gZ b6E (λ_ _ _=>rfl) (λ_ _=>rfl) h⟩
   .exact XU hd R hT h1 λS' ok' y cs R' T' k g s hg h=>hK _ _ _ [] R' (by simp_all) k s ⟨x,cs,rfl,hg,h⟩
  .trivial
 |md::md' ::r,vs,xs,K,S,ok,T,R,hT,hv,hK=>by
  unfold Jm;split
  .obtain⟨x,xr,rfl,h1,h2⟩:=hv;cases hd:md.2.isDat
   .unfold UQ;simp[a8H hd];refine a0C R hT h1 λS1 ok1 y cs O R1 T1 k1 s1 g1 h1' =>?_;refine DL (md' ::r) R1 T1 (JU k1 h2) λS2 ok2 z O2 R2 T2 k2 s2 h2' =>?_;exact hK _ _ _ (O++O2) R2 (by simp_all) (λb t h=>k2 b t (k1 b t h)) (s1.trans s2) ⟨x,cs,xr,O,O2,rfl,rfl,g1,gZ (λb t h=> .inl (k2 b t h)) (λ_ _ _=>rfl) (λ_ _=>rfl) h1',h2'⟩
   .refine DL (md' ::r) R hT h2 λS2 ok2 z O2 R2 T2 k2 s2 h2' =>?_;refine XU hd R2 T2 (Lp k2 h1) λS1 ok1 y cs R1 T1 k1 g1 s1 hg h1' =>?_;exact hK _ _ _ ([]++O2) R1 (by simp_all) (λb t h=>k1 b t (k2 b t h)) (s2.trans s1) ⟨x,cs,xr,[],O2,rfl,rfl,hg,h1',Su g1 (λ_ _ _=>rfl) (λ_ _=>rfl) h2'⟩
  .trivial
theorem a0B(ms:List MG){vs:List V}{xs:c5x}{K:Y3 ms->Cmd α}{S:Sm}{ok:Nat->Ty->Prop}{T:c5y}(R:Rel X cl ch S m ok a w)(hT:Tk X S m ok w T)
  (hv:jk ⟨w.heap,ok,m⟩ vs xs)
  (hK:∀S' ok' y O,Rel X cl ch S' m ok' a w->Tk X S' m ok' w (T++O)->(∀b t,ok b t->ok' b t)->ay S S' ->nI w.heap ok' ms y xs O->(K y).post S' Q):
  (Jm zu ms vs K).post S Q:=
 DL ms R hT hv λS' ok' y O R' T' k s h=>hK S' ok' y O R' T' k s (by simp_all [a3n])
theorem Rw{α:Type}{Q:α->Sm->Prop}{tmps:Array Value}{C:Cx} :∀(ns:c5y) {K:List V->Cmd α} {S:Sm} (hs:∀n,n<U4->kU C (S n) (tmps.getD n Go.undef))
  (hK:∀vs,jk C vs (ns.map λn=>tmps.getD n Go.undef)->(K vs).post S Q),(Zv ns K).post S Q
 |[],K,S,hs,hK=>hK [] rfl|n::ns,K,S,hs,hK=>by
  unfold Zv;cases hb:Nat.blt n U4
  .trivial
  .refine Rw ns hs λvs hvs=>?_;exact hK _ ⟨_,_,rfl,hs n (by simp_all),hvs⟩
def atV(h:Array Obj)(c:Nat)(u v:Value):Prop:=u=v\/∃b arr T f,u= .pointer (some ⟨b,0,none⟩)/\h[b]? =some (.cells arr T f)/\arr.toList[c]? =some v
def alR(h:Array Obj)(tmps:Array Value)(p:Nat×Nat×Option (Nat×Nat×Nat×Nat)):Prop:=match p with
 |(n,k,none)=>tmps.getD n Go.undef=tmps.getD k Go.undef|(n,k,some (c,j,o,sz))=>∃blk off len cap q y,atV h c (tmps.getD k Go.undef) (.slice (some ⟨blk,off,none⟩) len cap)/\tmps.getD j Go.undef= .int q y/\y.toNat<len/\tmps.getD n Go.undef= .pointer (some ⟨blk,off+y.toNat*sz+o,none⟩)
def a2o(h:Array Obj)(ok:Nat->Ty->Prop)(sg:Sig)(x:qJ sg)(tmps:Array Value)(O:c5y):Prop:=
 nI h ok (sg.ms.map (·.2)) x ((sg.ms.map (·.1)).map λn=>tmps.getD n Go.undef) O/\∀p∈sg.als,alR h tmps p
theorem b0R{v u:V}{x y:Value}(h:b5z v u=true)(hv:kU C v x)(hu:kU C u y):x=y:=by
 cases v<;>try (cases h)
 case own a vw=>
 cases u<;>try (cases vw<;>cases h)
 case own b vu=>
 cases vw<;>cases vu<;>try (cases h)
 have:=fZ (show Nat.beq a b=true from h);subst this;obtain⟨l,hm,h1⟩:=hv;obtain⟨l',hm',h2⟩:=hu;rw[hm]at hm';cases hm';cases l with
 |nil=>exact(show x=_ from h1).trans (show y=_ from h2).symm|st b=>cases h1|mp b=>exact(show x=_ from h1).trans (show y=_ from h2).symm|arr blk off len cap sz=>exact(show x=_ from h1).trans (show y=_ from h2).symm
theorem Rel.chmono(R:Rel X cl ch S m ok a w){ch' :Nat}(h:ch<=ch'):Rel X cl ch' S m ok a w:={ R with strict:=λn hn=>R.strict n l9 }
theorem oC{n:Nat}{K:Cmd α}(hK:S (U4+n)= .undef->K.post (upd S (U4+n) v) Q):(uP n v K).post S Q:=by
 show Cmd.post (match S (U4+n)with| .undef=>_|_=>_) S Q;split
 .rename_i h;exact hK h
 .trivial
theorem Rel.adopt(R:Rel X cl ch S m ok a w){n:Nat}{l:Loc}{ks:c5y}{O:c5y}(hn:S (U4+n)= .undef)(hcl:cl<=n)(hv:v≠.undef)
  (hT:Tk X S m ok w (O++T)) (ho:∀b∈N8 (nJ m n l ks) n v,b∈O) (hnd:(N8 (nJ m n l ks) n v).Nodup) (hB:AY ⟨w.heap,ok,nJ m n l ks⟩ n v):
  Rel X cl (max ch (n+1)) (upd S (U4+n) v) (nJ m n l ks) ok a w/\Tk X (upd S (U4+n) v) (nJ m n l ks) ok w T/\(∀k l',m k=some l' ->nJ m n l ks k=some l'):=by
 have hm:=R.fresh n hcl hn;refine⟨(R.chmono (bT ch (n+1))).lay hn hcl l9 hv rfl rfl rfl (E5 _) (λ_ _ _=>rfl) hnd (λb hb=>hT.free b (by simp_all)) hB,⟨?_,λb hb=>?_⟩,λk l' h=>?_⟩
 .exact(P5.1 hT.nodup).2.1
 .obtain⟨h1,h2,h3,h4⟩:=hT.free b (by grind);refine⟨h1,h2,h3,λk e=>?_⟩;by_cases ek:k=n
  .subst ek;rw[Eo]at e;exact(P5.1 hT.nodup).2.2 b (ho b e) b hb rfl
  grind [aW,Hy,jl,Rh]
 grind [jl]
theorem Dw{h:Array Obj}{ok:Nat->Ty->Prop}{m m' :Mp}{t:Ty}{xs:List t.den}{l:Loc}(hr:arrOk ⟨h,ok,m⟩ t xs l):arrOk ⟨h,ok,m'⟩ t xs l:=by cases l<;>exact hr
theorem a7L{S:Sm}{k:Nat}{c:Cmd α}(h:c.post (upd S k v) Q):(Cmd.set k v c).post S Q:=h
theorem FT{α:Type}{Q:α->Sm->Prop} :∀(md:M) {x:md.den} {n:Nat} {r:List V} {K:List V->Nat->Cmd α} {S:Sm} {m:Mp} {ch:Nat} {us us' :c5x} {O T:c5y}
  (R:Rel X cl ch S m ok a w) (hcl:cl<=n) (hT:Tk X S m ok w (O++T)) (h:lS w.heap ok md none x us O) (hL:fU ⟨w.heap,ok,m⟩ r us')
  (hK:∀S' m' cs n' ch',Rel X cl ch' S' m' ok a w->ch' <=max ch n' ->Tk X S' m' ok w T->(∀k l,m k=some l->m' k=some l)->ay S S' ->fU ⟨w.heap,ok,m'⟩ cs (us++us')->n<=n' ->(K cs n').post S' Q),
  (emM md x n r K).post S Q
 | .dat t,x,n,r,K,S,m,ch,us,us',O,T,R,hcl,hT,h,hL,hK=>by unfold emM;obtain⟨hr,rfl⟩:=h;refine hK S m _ n ch R (bT _ _) (by simpa using hT) (λ_ _ h=>h) (ay.refl _) ?_ (E5 _);rw[lZ];exact zf (oG (C:=⟨w.heap,ok,m⟩) hr) hL
 | .own t,x,n,r,K,S,m,ch,us,us',O,T,R,hcl,hT,h,hL,hK=>by
  unfold emM;obtain⟨l,v,rfl,hv,ha,rfl⟩:=xX.1 h;refine oC λhn=>?_;have hob:N8 (nJ m n l []) n (.barr t x)=l.blks:=by cases l<;>first|(simp[N8,Loc.blks];done)|cases ha
  obtain⟨R',T',k'⟩:=R.adopt (l:=l) (ks:=[]) (v:=.barr t x) hn hcl x8 hT (λb hb=>by rw[hob]at hb;exact hb) (by rw[hob];exact Loc.blks_nodup l) ⟨l,Y4 _ _ _ _,Dw ha⟩;exact hK _ _ _ _ _ R' l9 T' k' (ay.box _ _ _) ⟨v,us',rfl,⟨l,Y4 _ _ _ _,hv⟩,kW hv,zY k' hL⟩ l9
 | .ownb t,x,n,r,K,S,m,ch,us,us',O,T,R,hcl,hT,h,hL,hK=>by
  unfold emM;obtain⟨l,v,rfl,hv,ha,rfl⟩:=h;refine oC λhn=>?_;have hob:N8 (nJ m n l []) n (.barr t x)=l.blks:=by cases l<;>first|(simp[N8,Loc.blks];done)|cases ha
  obtain⟨R',T',k'⟩:=R.adopt (l:=l) (ks:=[]) (v:=.barr t x) hn hcl x8 hT (λb hb=>by rw[hob]at hb;exact hb) (by rw[hob];exact Loc.blks_nodup l) ⟨l,Y4 _ _ _ _,Dw ha⟩;exact hK _ _ _ _ _ R' l9 T' k' (ay.box _ _ _) ⟨v,us',rfl,⟨l,Y4 _ _ _ _,hv⟩,kW hv,zY k' hL⟩ l9
 | .owns md,x,n,r,K,S,m,ch,us,us',O,T,R,hcl,hT,h,hL,hK=>by
  unfold emM;obtain⟨hw,l,v,Os,rfl,hv,ha,rfl⟩:=xG.1 h;refine oC λhn=>?_;have hob:N8 (nJ m n l Os.flatten) n (.barrs md x none)=l.blks++Os.flatten:=by cases l<;>first|(simp[N8,Loc.blks];done)|cases ha
  obtain⟨R',T',k'⟩:=R.adopt (l:=l) (ks:=Os.flatten) (v:=.barrs md x none) hn hcl x8 hT (λb hb=>by rw[hob]at hb;exact hb) (by rw[hob];exact(P5.1 hT.nodup).1)
   ⟨hw,l,Os,Y4 _ _ _ _,⟨ha,trivial⟩,x8⟩
  refine a7L ?_;have T2:=T'.killV R' (MN+n) (v:=.blen (x9 x) md.size) rfl (bs:=[]) (λb h=>by cases h) dD;rw[E9]at T2;exact hK _ _ _ _ _ (R'.mark (Eo _ _ _)) l9 T2 k' ((ay.box _ _ _).trans (ay.box _ _ _)) ⟨v,us',rfl,⟨l,Y4 _ _ _ _,hv⟩,kW hv,zY k' hL⟩ l9
 | .pair p q,x,n,r,K,S,m,ch,us,us',O,T,R,hcl,hT,h,hL,hK=>by
  unfold emM;obtain⟨c,d,O1,O2,rfl,rfl,h1,h2⟩:=a7C.1 h;have hT1:Tk X S m ok w (O2++(O1++T)):=hT.perm (by rw[E8];exact(List.perm_append_comm_assoc _ _ _))
  refine FT q R hcl hT1 h2 hL λS1 m1 cs1 n1 ch1 R1 c1 T1 k1 s1 l1 e1=>?_;refine FT p R1 l9 T1 h1 l1 λS2 m2 cs2 n2 ch2 R2 c2 T2 k2 s2 l2 e2=>?_;exact hK _ _ _ _ _ R2 l9 T2 (λk l h=>k2 k l (k1 k l h)) (s1.trans s2) (by simpa using l2) l9
 | .unit,x,n,r,K,S,m,ch,us,us',O,T,R,hcl,hT,h,hL,hK=>by unfold emM;obtain⟨rfl,rfl⟩:=h;exact hK S m _ n ch R (bT _ _) (by simpa using hT) (λ_ _ h=>h) (ay.refl _) (by simpa using hL) (E5 _)
 | .box md,x,n,r,K,S,m,ch,us,us',O,T,R,hcl,hT,h,hL,hK=>by
  unfold emM;obtain⟨blk,arr,Tt,O',rfl,hh,hr,rfl⟩:=h;have hT1:Tk X S m ok w (O' ++([blk]++T)):=hT.perm (by simpa using List.perm_middle.symm);refine FT md (r:=[]) (us' :=[]) R l9 hT1 hr rfl λS1 m1 cs1 n1 ch1 R1 c1 T1 k1 s1 l1 e1=>?_;refine oC λhn=>?_;obtain⟨R',T',k'⟩:=R1.adopt (l:=.st blk) (ks:=[]) (v:=.bcells cs1) hn hcl x8 T1 (λb hb=>by
   simp only[N8,Y4]at hb;simp at hb;simp[hb]) (by simp[N8]) ⟨blk,arr,Tt,Y4 _ _ _ _,hh,zY (λk l (h:m1 k=some l)=>by
    by_cases ek:k=n
    .subst ek;have:=R1.fresh k hcl hn;rw[this]at h;cases h
    .rw[jl _ _ _ ek];exact h) (by simpa using l1)⟩
  refine hK _ _ _ _ _ R' l9 T' (λk l h=>k' k l (k1 k l h)) (s1.trans (ay.box _ _ _)) ⟨_,us',rfl,⟨blk,Y4 _ _ _ _,rfl⟩,rfl,zY k' (zY k1 hL)⟩ l9
 | .rp t,x,n,r,K,S,m,ch,us,us',O,T,R,hcl,hT,h,hL,hK=>by unfold emM;obtain⟨v,rfl,hv,rfl⟩:=h;exact hK S m _ n ch R (bT _ _) (by simpa using hT) (λ_ _ h=>h) (ay.refl _) ⟨v,us',rfl,hv,Jk hv,hL⟩ (E5 _)
 | .fn f ts,x,n,r,K,S,m,ch,us,us',O,T,R,hcl,hT,h,hL,hK=>by unfold emM;obtain⟨vs,rfl,hv,rfl⟩:=h;exact hK S m _ n ch R (bT _ _) (by simpa using hT) (λ_ _ h=>h) (ay.refl _) ⟨_,us',rfl,⟨vs,rfl,hv⟩,rfl,hL⟩ (E5 _)
 | .ifc t md,x,n,r,K,S,m,ch,us,us',O,T,R,hcl,hT,h,hL,hK=>by
  unfold emM;obtain⟨u,rfl,h1⟩:=h;refine FT md (r:=[]) (us' :=[]) R hcl hT h1 rfl λS1 m1 cs1 n1 ch1 R1 c1 T1 k1 s1 l1 e1=>?_;split
  .rename_i c;obtain⟨v',r',e,h1',h2',h3'⟩:=l1;simp only[E9,G9,G8,H8]at e;obtain⟨rfl,rfl⟩:=e;exact hK _ _ _ _ _ R1 c1 T1 k1 s1 ⟨_,us',rfl,⟨u,rfl,h2',h1'⟩,rfl,zY k1 hL⟩ e1
  .trivial
 | .cell (some none),x,n,r,K,S,m,ch,us,us',O,T,R,hcl,hT,h,hL,hK=>by unfold emM;obtain⟨v,rfl,hv,h2,h4,rfl⟩:=h;exact hK S m _ n ch R (bT _ _) (by simpa using hT) (λ_ _ h=>h) (ay.refl _) ⟨v,us',rfl,h2 rfl,hv,hL⟩ (E5 _)
 | .cell (some (some b)),x,n,r,K,S,m,ch,us,us',O,T,R,hcl,hT,h,hL,hK=>by unfold emM;obtain⟨v,rfl,hv,h2,h4,rfl⟩:=h;exact hK S m _ n ch R (bT _ _) (by simpa using hT) (λ_ _ h=>h) (ay.refl _) ⟨v,us',rfl,h4 _ rfl,hv,hL⟩ (E5 _)
 | .cell none,x,n,r,K,S,m,ch,us,us',O,T,R,hcl,hT,h,hL,hK=>by unfold emM;obtain⟨v,rfl,hv,h2,h4,rfl⟩:=h;exact hK S m _ n ch R (bT _ _) (by simpa using hT) (λ_ _ h=>h) (ay.refl _) ⟨v,us',rfl,trivial,hv,hL⟩ (E5 _)
 | .lp t,x,n,r,K,S,m,ch,us,us',O,T,R,hcl,hT,h,hL,hK=>by unfold emM;obtain⟨v,rfl,hv,rfl⟩:=h;exact hK S m _ n ch R (bT _ _) (by simpa using hT) (λ_ _ h=>h) (ay.refl _) ⟨v,us',rfl,hv,Jk hv,hL⟩ (E5 _)
 | .dv ..,x,n,r,K,S,m,ch,us,us',O,T,R,hcl,hT,h,hL,hK=>by unfold emM;obtain⟨v,rfl,hv,rfl⟩:=h;exact hK S m _ n ch R (bT _ _) (by simpa using hT) (λ_ _ h=>h) (ay.refl _) ⟨v,us',rfl,trivial,hv,hL⟩ (E5 _)
 | .ownr md o,x,n,r,K,S,m,ch,us,us',O,T,R,hcl,hT,h,hL,hK=>by
  unfold emM;obtain⟨v,rfl,hv1,hw,h0,l,Os,hv,ha,rfl⟩:=h;refine oC λhn=>?_;have hob:N8 (nJ m n l Os.flatten) n (.barrp md x.1 x.2 o)=l.blks++Os.flatten:=by cases l<;>first|(simp[N8,Loc.blks];done)|cases ha
  obtain⟨R',T',k'⟩:=R.adopt (l:=l) (ks:=Os.flatten) (v:=.barrp md x.1 x.2 o) hn hcl x8 hT (λb hb=>by rw[hob]at hb;exact hb) (by rw[hob];exact(P5.1 hT.nodup).1)
   ⟨hw,h0,l,Os,Y4 _ _ _ _,ha,x8⟩
  exact hK _ _ _ _ _ R' l9 T' k' (ay.box _ _ _) ⟨v,us',rfl,⟨l,Y4 _ _ _ _,hv⟩,kW hv,zY k' hL⟩ l9
 | .sit,x,n,r,K,S,m,ch,us,us',O,T,R,hcl,hT,h,hL,hK=>by
  unfold emM;obtain⟨blk,s,q,rfl,hh,h2,h3,rfl⟩:=h;refine oC λhn=>?_;obtain⟨R2,T2,k2⟩:=R.adopt (n:=n) (l:=.st blk) (ks:=[]) (v:=.biter x.1 x.2) hn hcl x8 hT (λb hb=>by simp only[N8,Y4]at hb;simp at hb;simp[hb]) (by simp[N8]) ⟨blk,s,q,Y4 _ _ _ _,hh,h2,h3⟩
  exact hK _ _ _ _ _ R2 l9 T2 k2 (ay.box _ _ _) ⟨_,us',rfl,⟨blk,Y4 _ _ _ _,rfl⟩,rfl,zY k2 hL⟩ l9
 | .mbx t tb te o,x,n,r,K,S,m,ch,us,us',O,T,R,hcl,hT,h,hL,hK=>by
  unfold emM;obtain⟨blk,arr,es,a0,v,l,rfl,hh,he,hr,hs,hv,ha,rfl⟩:=h;have hT1:Tk X S m ok w (l.blks++([blk]++T)):=hT.perm (by simpa using List.perm_middle.symm);refine oC λhn1=>?_;have hob:N8 (nJ m (n+1) l []) (n+1) (.brow te (mbT t x))=l.blks:=by cases l<;>first|(simp[N8,Loc.blks];done)|cases ha
  obtain⟨R1,T1,k1⟩:=R.adopt (n:=n+1) (l:=l) (ks:=[]) (v:=.brow te (mbT t x)) hn1 l9 x8 hT1 (λb hb=>by rw[hob]at hb;exact hb) (by rw[hob];exact Loc.blks_nodup l) ⟨l,Y4 _ _ _ _,ha⟩;refine oC λhn=>?_;obtain⟨R2,T2,k2⟩:=R1.adopt (n:=n) (l:=.st blk) (ks:=[]) (v:=.bsb tb (flat t (mbX t x) []) (.own (n+1) none)) hn hcl x8 T1 (λb hb=>by simp only[N8,Y4]at hb;simp at hb;simp[hb]) (by simp[N8]) ⟨blk,arr,es,a0,v,Y4 _ _ _ _,hh,he,zY (λ_ _ h=>h) (oG hr),hs,⟨l,(by rw[jl _ _ _ l9];exact Y4 _ _ _ _),hv⟩⟩
  refine hK _ _ _ _ _ R2 l9 T2 (λk l h=>k2 k l (k1 k l h)) ((ay.box _ _ _).trans (ay.box _ _ _)) ⟨_,us',rfl,⟨blk,Y4 _ _ _ _,rfl⟩,rfl,zY k2 (zY k1 hL)⟩ l9
 | .fr t,x,n,r,K,S,m,ch,us,us',O,T,R,hcl,hT,h,hL,hK=>by unfold emM;obtain⟨l,v,rfl,hv,ha,hk,rfl⟩:=h;refine oC λhn=>?_;obtain⟨R',T',k'⟩:=R.adopt (l:=l) (ks:=[]) (v:=.bfrz t x) hn hcl x8 hT (λb hb=>by cases hb) dD ⟨l,Y4 _ _ _ _,Dw ha,hk⟩;exact hK _ _ _ _ _ R' l9 T' k' (ay.box _ _ _) ⟨v,us',rfl,⟨l,Y4 _ _ _ _,hv⟩,kW hv,zY k' hL⟩ l9
theorem Pz{ag:Bool}{cs:List V}{us:c5x}(hg:Xr ag x us)(hl:fU C cs us):kU C (mkV ag cs) x:=by
 cases ag
 .subst hg;cases cs with
  |nil=>grind [fU]|cons c r=>
   obtain⟨v,r',e,h1,h2,h3⟩:=hl;obtain⟨rfl,rfl⟩:=e;cases r with
   |nil=>exact CS h1|cons d r=>obtain⟨_,_,e,_⟩:=h3;grind
 .obtain⟨arr,rfl,rfl⟩:=hg;exact⟨arr,rfl,hl⟩
theorem GY{α:Type}{Q:α->Sm->Prop} :∀(ms:List MG) {x:Y3 ms} {n:Nat} {K:List V->Nat->Cmd α} {S:Sm} {m:Mp} {ch:Nat} {xs:c5x} {O T:c5y}
  (R:Rel X cl ch S m ok a w) (hcl:cl<=n) (hT:Tk X S m ok w (O++T)) (h:nI w.heap ok ms x xs O)
  (hK:∀S' m' vs n' ch',Rel X cl ch' S' m' ok a w->ch' <=max ch n' ->Tk X S' m' ok w T->(∀k l,m k=some l->m' k=some l)->ay S S' ->jk ⟨w.heap,ok,m'⟩ vs xs->n<=n' ->(K vs n').post S' Q),
  (Jl ms x n K).post S Q
 |[],x,n,K,S,m,ch,xs,O,T,R,hcl,hT,h,hK=>by obtain⟨rfl,rfl⟩:=h;exact hK S m [] n ch R (bT _ _) (by simp_all) (λ_ _ h=>h) (ay.refl _) rfl (E5 _)
 |[md],x,n,K,S,m,ch,xs,O,T,R,hcl,hT,h,hK=>by obtain⟨v,cs,rfl,hg,hr⟩:=h;refine FT md.2 R hcl hT hr rfl λS1 m1 cs1 n1 ch1 R1 c1 T1 k1 s1 l1 e1=>?_;exact hK _ _ _ _ _ R1 c1 T1 k1 s1 ⟨v,[],rfl,Pz hg (by simp_all),rfl⟩ e1
 |md::md' ::r,x,n,K,S,m,ch,xs,O,T,R,hcl,hT,h,hK=>by obtain⟨v,cs,vs',O1,O2,rfl,rfl,hg,h1,h2⟩:=h;refine FT md.2 R hcl (by simpa using hT) h1 rfl λS1 m1 cs1 n1 ch1 R1 c1 T1 k1 s1 l1 e1=>?_;refine GY (md' ::r) R1 l9 T1 h2 λS2 m2 vs2 n2 ch2 R2 c2 T2 k2 s2 l2 e2=>?_;exact hK _ _ _ _ _ R2 l9 T2 (λk l h=>k2 k l (k1 k l h)) (s1.trans s2) ⟨v,vs',rfl,Pz hg (zY k2 (by simp_all)),l2⟩ l9
theorem Ip{Q:Unit->Sm->Prop} :∀(ns:c5y) {vs:List V} {S:Sm} {K:Cmd Unit} (R:Rel X cl ch S m ok a w) (hv:jk ⟨w.heap,ok,m⟩ vs (ns.map λn=>a.tmps.getD n Go.undef))
  (hK:∀S',Rel X cl ch S' m ok a w->K.post S' Q),(Ls ns vs K).post S Q
 |[],vs,S,K,R,hv,hK=>by
  cases vs with
  |nil=>exact hK S R|cons _ _=>obtain⟨_,_,e,_⟩:=hv;grind
 |n::ns,vs,S,K,R,hv,hK=>by
  cases vs with
  |nil=>trivial
  |cons v vs=>obtain⟨x,r,e,h1,h2⟩:=hv;obtain⟨rfl,rfl⟩:=e;refine U5 λhb=>?_;exact Ip ns (R.slotV (by simp_all) h1) h2 hK
end
end Go.GP
namespace Go.GP
def b1M(P:Program)(t:TypeId):TD->Prop
 | .bool=>P.underlying t=some .bool| .int k=>P.underlying t=some (.int k)| .str=>P.underlying t=some .string| .sl e=>P.underlying t=some (.slice e)| .ptr e=>P.underlying t=some (.pointer e)| .struct fs=>∃fields,P.underlying t=some (.struct fields)/\fields.toList.map (λf=>(f.type,f.offset))=fs| .arr n e=>P.underlying t=some (.array n e)| .map k e=>P.underlying t=some (.map k e)| .other=>∃d,P.underlying t=some d/\(match d with| .struct _| .array _ _=>False|_=>True)
structure TiOk (P:Program) (t:TypeId) (i:TI):Prop where
 info:∃inf,P.info? t=some inf/\inf.size=i.size/\inf.bytes=i.bytes/\
  (i.zero.length=i.size->∃z,inf.zero=some z/\fU ⟨#[],λ_ _=>False,nom⟩ i.zero z.cells.toList)/\
  (∀u,i.ty=some u->u.size=i.size/\∃z,inf.zero=some z/\kZ #[] (λ_ _=>False) u u.zero z.cells.toList)
 td:b1M P t i.td
 one:az i.td=false->i.size=1
 agg:∀inf z,P.info? t=some inf->inf.zero=some z->(az i.td=true->∃arr,z= .agg arr)/\(az i.td=false->z.oneCell' =true)
def SQ(n:Nat)(v:Value)(rs:c5x):Prop:=rs.length=n/\v=(match rs with|[x]=>x|l=> .tuple l.toArray)
def rV(h:Array Obj):List MG->c5x->c5x->c5y->Prop
 |[],[],os,B=>os=[]/\B=[]|(_,.box _)::ms,v::vs,os,B=>∃b arr T os' B',v= .pointer (some ⟨b,0,none⟩)/\h[b]? =some (.cells arr T (0,0))/\os= .agg arr::os' /\B=b::B' /\rV h ms vs os' B'|(_,.ifc _ (.box _))::ms,v::vs,os,B=>∃t b arr T os' B',v= .iface t (.pointer (some ⟨b,0,none⟩))/\h[b]? =some (.cells arr T (0,0))/\os= .agg arr::os' /\B=b::B' /\rV h ms vs os' B'|(_,.ownb _)::ms,v::vs,os,B=>∃os',os=v::os' /\rV h ms vs os' B|(_,.mbx ..)::ms,v::vs,os,B=>∃os',os=v::os' /\rV h ms vs os' B|_::ms,_::vs,os,B=>rV h ms vs os B|_,_,_,_=>False
def MO(h:Array Obj)(x:Value)(off sz fo:Nat)(y:Value):Prop:=∃blk o b bo n c,x= .pointer (some ⟨blk,o,none⟩)/\bW h blk (o+off) 1=some [.slice (some ⟨b,bo,none⟩) n c]/\
 0<=L6 .i64 (n:Int) 1/\L6 .i64 (n:Int) 1<(n:Int)/\y= .pointer (some ⟨b,bo+(L6 .i64 (n:Int) 1).toNat*sz+fo,none⟩)
theorem MO.det{h:Array Obj}{x y z:Value}{off sz fo:Nat}(h1:MO h x off sz fo y)(h2:MO h x off sz fo z):y=z:=by obtain⟨blk,o,b,bo,n,c,rfl,e,_,_,rfl⟩:=h1;obtain⟨blk',o',b',bo',n',c',e1,e',_,_,rfl⟩:=h2<;>simp_all
def U_(h:Array Obj)(all:c5x):List MG->c5x->Prop
 |(_,.dv k off sz fo)::ms,v::vs=>(∃p,all[k]? =some p/\MO h p off sz fo v)/\U_ h all ms vs|_::ms,_::vs=>U_ h all ms vs|_,_=>True
def YR(P:Program)(f:FuncId)(off sz:Nat):Prop:=(∃fn,P.funcs[f]? =some fn/\fn.body.isSome=true/\(fn.name== "runtime.NumGoroutine")=false)/\
 ∀(w:World) (x y:Value),MO w.heap x off sz 0 y->Calls P f #[x] w λe w' =>e= .returned y/\∃n,w' =w.drewN n
def PlP(P:Program)(f:FuncId)(off sz:Nat):Prop:=match sz with|0=>b9l P f off|_+1=>YR P f off sz
theorem PlP.snd{P:Program}{f:FuncId}{off sz:Nat}(h:PlP P f off sz)(hz:Nat.beq sz 0=false):YR P f off sz:=by
 cases sz with
 |zero=>cases hz|succ n=>exact h
class GlNe (gl:List (Nat×(t:Ty)×List t.den)):Prop where
 ne:gl≠[]
def dK(P:Program)(gl:List (Nat×(t:Ty)×List t.den))(f:FuncId)(s:FSpec):Prop:=
 ∀(w:World) (ok:Nat->Ty->Prop) (O:c5y) (vals:c5x) (x:Y3 s.ps) (r:Y3 (s.rs++s.outs)),
  (∀b t,ok b t->b<w.heap.size)->O.Nodup->(∀b∈O,(∀t,¬ok b t)/\b<w.heap.size)->(∀g u,bZ gl g=some u->GG ⟨w.heap,ok,nom⟩ g u.1 u.2)->
  nI w.heap ok s.ps x vals O->U_ w.heap vals s.ps vals->s.fn x=some r->
  Calls P f vals.toArray w λe w' =>∃v ok' O' rs os B,e= .returned v/\Frame' (gl=[]) w w' O/\(∀b t,ok b t->ok' b t)/\(∀b t,ok' b t->b<w'.heap.size/\(ok b t\/w.heap.size<=b\/b∈O))/\
   (O' ++B).Nodup/\(∀b∈O' ++B,(∀t,¬ok' b t)/\b<w'.heap.size/\(w.heap.size<=b\/b∈O))/\
   SQ s.rs.length v rs/\rV w'.heap s.ps vals os B/\nI w'.heap ok' (s.rs++s.outs) r (rs++os) O'
def b2A(P:Program):Nat:=P.types.toList.findIdx λi=>i.str== "amend.fault"
def xn(P:Program)(c:Int):List PanicEntry:=[{ v:=.iface (b2A P) (.agg #[.int .i64 c]),recovered:=false }]
def b2d(P:Program)(gl:List (Nat×(t:Ty)×List t.den))(f:FuncId)(ps rs outs:List MG)(fn:Y3 ps->Option (Y3 (cd::(rs++outs)))):Prop:=
 ∀(w:World) (ok:Nat->Ty->Prop) (O:c5y) (vals:c5x) (x:Y3 ps) (r:Y3 (cd::(rs++outs))),
  (∀b t,ok b t->b<w.heap.size)->O.Nodup->(∀b∈O,(∀t,¬ok b t)/\b<w.heap.size)->(∀g u,bZ gl g=some u->GG ⟨w.heap,ok,nom⟩ g u.1 u.2)->
  nI w.heap ok ps x vals O->U_ w.heap vals ps vals->fn x=some r->
  Calls P f vals.toArray w λe w' =>(a2Z (rs++outs) r=0/\∃v ok' O' rs' os B,e= .returned v/\Frame' (gl=[]) w w' O/\(∀b t,ok b t->ok' b t)/\(∀b t,ok' b t->b<w'.heap.size/\(ok b t\/w.heap.size<=b\/b∈O))/\
   (O' ++B).Nodup/\(∀b∈O' ++B,(∀t,¬ok' b t)/\b<w'.heap.size/\(w.heap.size<=b\/b∈O))/\
   SQ rs.length v rs' /\rV w'.heap ps vals os B/\nI w'.heap ok' (rs++outs) (tlT (rs++outs) r) (rs' ++os) O')\/
   (a2Z (rs++outs) r≠0/\e= .panicked (xn P (a2Z (rs++outs) r))/\Frame' (gl=[]) w w' O)
def b5Y(P:Program)(gl:List (Nat×(t:Ty)×List t.den))(f:FuncId):FSpec->Prop
 |⟨ps,rs,outs,fn⟩=>∃(rs0:List MG) (h:rs=cd::rs0),b2d P gl f ps rs0 outs (λx=>(h▸fn:Y3 ps->Option (Y3 ((cd::rs0)++outs))) x)
def a6s(P:Program)(gl:List (Nat×(t:Ty)×List t.den))(p:Nat×FSpec):Prop:=bif Nat.ble PB p.1 then b5Y P gl (p.1 -PB) p.2 else dK P gl p.1 p.2
def a6K(n:Nat):Nat:=bif Nat.ble PB n then n -PB else n
def lg:List Ty->c5x->Prop
 |[],vs=>vs=[]| .bool::ts,vs=>∃b r,vs= .bool b::r/\lg ts r| .int k::ts,vs=>∃b r,vs= .int k b::r/\lg ts r| .str::ts,vs=>∃b r,vs= .string b::r/\lg ts r|_::_,_=>False
def a7Z(P:Program)(t:TypeId)(sh:List Ty):Prop:=
 ∀(w:World) (C:Cx) (cs ds:List V) (xs ys:Array Value) (e:Bool) (op:BinOp) (x y:Operand),Ad sh cs=true->Ad sh ds=true->fU C cs xs.toList->fU C ds ys.toList->zB cs ds=some e->
  (op= .eql\/op= .neq)->(do eqGuard op t x y (.agg xs) (.agg ys);binOp op t (.agg xs) (.agg ys):Sem Value).run P w= .ok (.bool (if op= .eql then e else !e)) w
def Y_(P:Program)(t:TypeId)(sh:List Ty):Prop:=
 (∃fs,P.underlying t=some (.struct fs))/\∀(w:World) (xs:Array Value),lg sh xs.toList->(∀em,(Instr.checkKey em 10000 t (.agg xs)).run P w= .ok () w)/\
  ∀ys:Array Value,lg sh ys.toList->∃r,(Op.equal t (.agg xs) (.agg ys)).run P w= .ok r w/\(r=true↔xs.toList=ys.toList)
def KE(P:Program)(t:TypeId)(sh:List Ty):Prop:=a7Z P t sh/\Y_ P t sh
def YP(P:Program)(t:Nat)(n:String)(f:Nat)(d:Option Nat):Prop:=
 ∀(v:Value) (w:World),match d with
  |none=>(method (P.types.size+Made.depth) t v n).run P w= .ok (f,v) w
  |some e=>∀ad,v= .pointer (some ad)->(method (P.types.size+Made.depth) t v n).run P w=((loadVar e ad).run P w).andThen λu w' => .ok (f,u) w'
structure FxOk (X:Fx):Prop where
 nt:64*X.E.nt<=999936
 tt:∀t i,bZ X.E.tt t=some i->TiOk X.P t i
 fs:∀p∈X.E.fs,a6s X.P X.E.gl p
 eqs:∀t sh,bZ X.E.eqs t=some sh->KE X.P t sh
 ms:∀p∈X.E.ms,YP X.P p.1.1 p.1.2 p.2.1 p.2.2
 fn:∀p∈X.E.fs,∃fn,X.P.funcs[a6K p.1]? =some fn/\fn.body.isSome=true/\(fn.name== "runtime.NumGoroutine")=false
 pl:∀p∈X.E.pl,PlP X.P p.1 p.2.1 p.2.2
 df:∀l,X.df=some l->∀p∈X.E.pl,Nat.beq p.2.2 0=false
theorem FxOk.ntB{X:Fx}(H:FxOk X):X.E.nt<=U4:=by have:=H.nt;grind
def b4z(X:Fx)(cl ch:Nat)(o:Oper)(a:Act)(w:World)(m:Mp)(ok:Nat->Ty->Prop)(c:Int)(S' :Sm):Prop:=
 ∀(next:Act->World->Prop) (Q:Exit->Act->World->Prop),
  (∀m' ok' w',Rel X cl ch S' m' ok' a w' ->(∀k l,m k=some l->m' k=some l)->(∀b t,ok b t->ok' b t)->Q (.panic (xn X.P c)) a w')->o.wp X.P a w next Q
def gV(X:Fx)(cl ch:Nat)(o:Oper)(a:Act)(w:World)(m:Mp)(ok:Nat->Ty->Prop)(S' :Sm):Prop:=
 ∀(next:Act->World->Prop) (Q:Exit->Act->World->Prop),
  (∀m' ok' a' w',Rel X cl ch S' m' ok' a' w' ->(∀k l,m k=some l->m' k=some l)->(∀b t,ok b t->ok' b t)->next a' w')->o.wp X.P a w next Q
theorem Gp{α:Type}{ι:Sort _}{Q:ι->α->Sm->Prop} :∀{c:Cmd α} {S:Sm},(∀i,c.post S (Q i))->c.post S (λx S' =>∀i,Q i x S')
 | .ret x,S,h=>λi=>h i| .fail,S,h=>trivial| .get k c,S,h=>Gp (c:=c (S k)) h| .set k v c,S,h=>Gp (c:=c) h
 | .opt o c,S,h=>λx e=>Gp (c:=c x) λi=>h i x e| .br b c d,S,h=>⟨λe=>Gp (c:=c) λi=>(h i).1 e,λe=>Gp (c:=d) λi=>(h i).2 e⟩
variable {x:Operand}{k:IntKind}{y:Operand}{α:Type}{Q:α->Sm->Prop}{C:Cx}{v:Value}{op:BinOp}{t:TypeId}{yt:TypeId}
section
variable {X:Fx} {cl ch:Nat} {S:Sm} {m:Mp} {ok:Nat->Ty->Prop} {a:Act} {w:World} {o:Oper}
theorem aX{b:Bool}{c:Cmd α}{S:Sm}(h:b=true->c.post S Q):(bif b then c else Cmd.fail).post S Q:=by
 cases b
 .trivial
 simp_all
theorem EY{a b:Nat}(h:Nat.blt a b=true):a<b:=by simp_all
theorem sV(H:FxOk X){S:Sm}{m0 m:Mp}{ok0 ok:Nat->Ty->Prop}{w0 w:World}{a:Act}(R:Rel X cl ch S m ok a w)(hm:∀k l,m0 k=some l->m k=some l)(hok:∀b t,ok0 b t->ok b t)
  {v:V} {x:Value} (hv:kU ⟨w.heap,ok,m⟩ v x) (run:(execOp a.eval o).run X.P w0= .ok (.value x) w):
  (cu X.E o.dst v).post S (λ_ S' =>gV X cl ch o a w0 m0 ok0 S'):=by
 cases hd:o.dst with
 |none=>
  intro next Q hn
  unfold Oper.wp;rw[run,kS,hd];exact hn m ok a w R hm hok
 |some d=>
  refine aX λhb=>?_;intro next Q hn
  unfold Oper.wp;rw[run,kS,hd];exact hn m ok _ w (R.put H.ntB hb hv) hm hok
theorem a2H(C:Cx)(v:Value):kU C (a2G v) v:=by unfold a2G;split<;>first|exact rfl|trivial
theorem Z8(R:Rel X cl ch S m ok a w){K:V->Cmd α}(hK:∀v,kU ⟨w.heap,ok,m⟩ v (a.eval x)->(K v).post S Q):(qI x K).post S Q:=by
 cases x with
 |tmp t=>exact aX λhb=>hK (S t) (R.slot t (EY hb))|const v=>exact hK _ (a2H _ v)|global g=>exact hK _ rfl|func f=>exact hK _ rfl
theorem kM{α:Type}{Q:α->Sm->Prop}(R:Rel X cl ch S m ok a w):∀(xs:List Operand) {K:List V->Cmd α} (hK:∀vs,jk ⟨w.heap,ok,m⟩ vs (xs.map a.eval)->(K vs).post S Q),(OZ xs K).post S Q
 |[],K,hK=>hK [] rfl
 |x::r,K,hK=>by refine Z8 R λv hv=>?_;exact kM R r λvs hvs=>hK _ ⟨_,_,rfl,hv,hvs⟩
theorem Y5(H:FxOk X)(R:Rel X cl ch S m ok a w){v:V}{x:Value}(hv:kU ⟨w.heap,ok,m⟩ v x)(run:(execOp a.eval o).run X.P w= .ok (.value x) w):
  (cu X.E o.dst v).post S (λ_ S' =>gV X cl ch o a w m ok S'):=sV H R (λ_ _ h=>h) (λ_ _ h=>h) hv run
theorem QK{x:Bool}(h:kU C (.b x) v):v= .bool x:=h
theorem tZ{n:Int}(h:kU C (.i k n) v):v= .int k n:=h
theorem JS{l:c5v}(h:kU C (.s l) v):v= .string ⟨l.toArray⟩:=h
theorem a5x(H:FxOk X)(R:Rel X cl ch S m ok a w)(ho:o.op= .move x\/o.op= .assign x):(qI x λv=>cu X.E o.dst v).post S (λ_ S' =>gV X cl ch o a w m ok S'):=by refine Z8 R λv hv=>Y5 H R hv ?_;rcases ho with ho|ho<;>simp[execOp,ho]
theorem b3d(H:FxOk X)(R:Rel X cl ch S m ok a w){c x y:Operand}{q:Nat}(ho:o.op= .pick c x y):(aQ X.E q o).post S (λ_ S' =>gV X cl ch o a w m ok S'):=by
 unfold aQ;simp[ho];refine Z8 R λv hv=>?_;split<;>try trivial
 rename_i t;have hc:=QK hv;cases t
 .refine Z8 R λv hv=>Y5 H R hv ?_;simp_all [execOp,asBool]
 .refine Z8 R λv hv=>Y5 H R hv ?_;simp_all [execOp,asBool]
theorem bz{α β:Type}{Q:α->Sm->Prop}{x:Option β}{c:β->Cmd α}{S:Sm}(h:∀y,x=some y->(c y).post S Q):(Cmd.opt x c).post S Q:=h
theorem a6o{yc:Operand}{a:Act}{b:Int}(h:Di yc=false)(he:a.eval yc= .int k b):b≠0:=by unfold Di at h<;>grind [Act.eval]
theorem a9p{yc:Operand}{a:Act}{b:Int}(h:FY yc=false)(he:a.eval yc= .int k b):¬b<0:=by unfold FY at h<;>grind [Act.eval]
theorem a7m(H:FxOk X)(R:Rel X cl ch S m ok a w)(ho:o.op= .binOp op t x y yt){k k' :IntKind}{p q:Int}
  (hx:a.eval x= .int k p) (hy:a.eval y= .int k' q):(Za X.E t op y (.i k p) (.i k' q) λv=>cu X.E o.dst v).post S (λ_ S' =>gV X cl ch o a w m ok S'):=by
 have run:∀v,(binOp op t (.int k p) (.int k' q)).run X.P w= .ok v w->(execOp a.eval o).run X.P w= .ok (.value v) w:=λv h=>by simp_all [execOp,eqGuard_at_int]
 have fin:∀(v:V) (u:Value),kU ⟨w.heap,ok,m⟩ v u->(binOp op t (.int k p) (.int k' q)).run X.P w= .ok u w->(cu X.E o.dst v).post S (λ_ S' =>gV X cl ch o a w m ok S'):=
  λv u hv h=>Y5 H R hv (run u h)
 unfold Za;cases op<;>simp
 case shl=>
  cases hn:FY y
  .have h0:=a9p hn hy;exact fin _ _ rfl (by simp[binOp,Op.shift,h0,b2K])
  .refine bz λr hr=>?_;unfold b4R at hr;split at hr
   .grind
   .rename_i h0;cases hr;exact fin _ _ rfl (by simp[binOp,Op.shift,h0,b2K])
 case shr=>
  cases hn:FY y
  .have h0:=a9p hn hy;exact fin _ _ rfl (by simp[binOp,Op.shift,h0,b2L])
  .refine bz λr hr=>?_;unfold b4S at hr;split at hr
   .grind
   .rename_i h0;cases hr;exact fin _ _ rfl (by simp[binOp,Op.shift,h0,b2L])
 all_goals
  refine aX λhk=>?_;have hk' :=of_decide_eq_true hk;subst hk'
 case quo=>
  cases hz:Di y
  .have h0:=a6o hz hy;exact fin _ _ rfl (by simp[binOp,Op.intDiv,h0,dh])
  .refine bz λr hr=>?_;unfold b4P at hr;split at hr
   .grind
   .rename_i h0;cases hr;exact fin _ _ rfl (by simp[binOp,Op.intDiv,h0])
 case rem=>
  cases hz:Di y
  .have h0:=a6o hz hy;exact fin _ _ rfl (by simp[binOp,Op.intDiv,h0,iE])
  .refine bz λr hr=>?_;unfold b4Q at hr;split at hr
   .grind
   .rename_i h0;cases hr;exact fin _ _ rfl (by simp[binOp,Op.intDiv,h0])
 case add=>exact fin _ _ rfl (by simp[binOp,Op.intArith,I8])
 case sub=>exact fin _ _ rfl (by simp[binOp,Op.intArith,L6])
 case mul=>exact fin _ _ rfl (by simp[binOp,Op.intArith,Qw])
 case and=>exact fin _ _ rfl (by simp[binOp,Op.intBits,b9I])
 case or=>exact fin _ _ rfl (by simp[binOp,Op.intBits,ior])
 case xor=>exact fin _ _ rfl (by simp[binOp,Op.intBits,b2P])
 case andNot=>exact fin _ _ rfl (by simp[binOp,Op.intBits,a5f])
 case eql=>exact fin _ _ rfl (by simp[binOp,Op.intCmp,D8];rfl)
 case neq=>exact fin _ _ rfl (by simp[binOp,Op.intCmp,D8,I5];rfl)
 case lss=>exact fin _ _ rfl (by simp[binOp,Op.intCmp,J4])
 case leq=>exact fin _ _ rfl (by simp[binOp,Op.intCmp,U7])
 case gtr=>exact fin _ _ rfl (by simp[binOp,Op.intCmp,J4])
 case geq=>exact fin _ _ rfl (by simp[binOp,Op.intCmp,U7])
theorem a7n(H:FxOk X)(R:Rel X cl ch S m ok a w)(ho:o.op= .binOp op t x y yt){p q:c5v}
  (hx:a.eval x= .string ⟨p.toArray⟩) (hy:a.eval y= .string ⟨q.toArray⟩):(Za X.E t op y (.s p) (.s q) λv=>cu X.E o.dst v).post S (λ_ S' =>gV X cl ch o a w m ok S'):=by
 have run:∀v,(Op.stringOp op ⟨p.toArray⟩ ⟨q.toArray⟩).run X.P w= .ok v w->(execOp a.eval o).run X.P w= .ok (.value v) w:=λv h=>by simp_all [execOp,eqGuard_at_string,binOp]
 have fin:∀(v:V) (u:Value),kU ⟨w.heap,ok,m⟩ v u->(Op.stringOp op ⟨p.toArray⟩ ⟨q.toArray⟩).run X.P w= .ok u w->(cu X.E o.dst v).post S (λ_ S' =>gV X cl ch o a w m ok S'):=
  λv u hv h=>Y5 H R hv (run u h)
 unfold Za;cases op<;>simp<;>try trivial
 case add=>
  refine bz λr hr=>?_;unfold ak at hr;split at hr
  .cases hr;have e:(⟨p.toArray⟩:ByteArray)++⟨q.toArray⟩=⟨(p++q).toArray⟩:=by
    apply ByteArray.ext<;>simp_all
   refine fin _ (.string ⟨(p++q).toArray⟩) rfl ?_;have hs:¬((9223372036854775807:Int)<(p.length:Int)+(q.length:Int)):=l9;simp[Op.stringOp,e,ByteArray.size,hs]
  grind
 case eql=>exact fin _ _ rfl (by grind [Op.stringOp,ByteArray.toList_mk,seq,Sem.run_pure])
 case neq=>exact fin _ _ rfl (by grind [Op.stringOp,ByteArray.toList_mk,seq,I5,Sem.run_pure])
 case lss=>exact fin _ _ rfl (by simp[Op.stringOp,slt])
theorem a3o(H:FxOk X)(R:Rel X cl ch S m ok a w)(ho:o.op= .binOp op t x y yt){p q:Bool}
  (hx:a.eval x= .bool p) (hy:a.eval y= .bool q):(Za X.E t op y (.b p) (.b q) λv=>cu X.E o.dst v).post S (λ_ S' =>gV X cl ch o a w m ok S'):=by
 unfold Za;cases hi:bZ X.E.tt t with
 |none=>trivial|some i=>
 have ht' :=(H.tt t i hi).td;simp;cases hd:i.td<;>try trivial
 rw[hd]at ht';have ht:=ht';have he' :∀d,(Op.equalIn (d+1) t (.bool p) (.bool q)).run X.P w= .ok (p==q) w:=λd=>by simp[Op.equalIn,run_underlying ht]
 have he:(Op.equal t (.bool p) (.bool q)).run X.P w= .ok (p==q) w:=he' 9999;have run:∀v,(binOp op t (.bool p) (.bool q)).run X.P w= .ok v w->(execOp a.eval o).run X.P w= .ok (.value v) w:=λv h=>by simp_all [execOp,eqGuard_at_bool]
 have fin:∀(v:V) (u:Value),kU ⟨w.heap,ok,m⟩ v u->(binOp op t (.bool p) (.bool q)).run X.P w= .ok u w->(cu X.E o.dst v).post S (λ_ S' =>gV X cl ch o a w m ok S'):=
  λv u hv h=>Y5 H R hv (run u h)
 cases op<;>try trivial
 case eql=>exact fin _ _ rfl (by simp[binOp,he,WZ])
 case neq=>exact fin _ _ rfl (by simp[binOp,he,WZ,I5])
end
end Go.GP
namespace Go.GP
variable {x:Operand}{t:TypeId}{q:Nat}
section
variable {X:Fx} {cl ch:Nat} {S:Sm} {m:Mp} {ok:Nat->Ty->Prop} {a:Act} {w:World} {o:Oper}
theorem jG{α:Type}{Q:α->Sm->Prop}(H:FxOk X){t:Nat}{K:TI->Cmd α}(hK:∀i,TiOk X.P t i->(K i).post S Q):(tiC X.E t K).post S Q:=by
 unfold tiC;cases hi:bZ X.E.tt t with
 |none=>trivial|some i=>exact hK i (H.tt t i hi)
theorem a7Q{P:Program} :∀{d:TD},b1M P t d->∃e,P.underlying t=some e
 | .bool,h=>⟨_,h⟩| .int _,h=>⟨_,h⟩| .str,h=>⟨_,h⟩| .sl _,h=>⟨_,h⟩| .ptr _,h=>⟨_,h⟩| .struct _,⟨_,h,_⟩=>⟨_,h⟩| .arr _ _,h=>⟨_,h⟩| .map _ _,h=>⟨_,h⟩| .other,⟨_,h,_⟩=>⟨_,h⟩
theorem ZT(H:FxOk X)(R:Rel X cl ch S m ok a w){op:BinOp}{x y:Operand}{yt:TypeId}(ho:o.op= .binOp op t x y yt){ad:Option Addr}{n c:Nat}
  (hx:a.eval x= .slice ad n c) (hy:a.eval y= .slice none 0 0):(a9q X.E t op ad.isNone λv=>cu X.E o.dst v).post S (λ_ S' =>gV X cl ch o a w m ok S'):=by
 unfold a9q;cases hi:bZ X.E.tt t with
 |none=>trivial|some i=>
 have ht' :=(H.tt t i hi).td;simp;cases hd:i.td<;>try trivial
 rw[hd]at ht';have ht:=ht';have he' :∀d,(Op.equalIn (d+1) t (.slice ad n c) (.slice none 0 0)).run X.P w= .ok ad.isNone w:=λd=>by cases ad<;>simp[Op.equalIn,run_underlying ht]
 have he:(Op.equal t (.slice ad n c) (.slice none 0 0)).run X.P w= .ok ad.isNone w:=he' 9999;have run:∀v,(binOp op t (.slice ad n c) (.slice none 0 0)).run X.P w= .ok v w->(execOp a.eval o).run X.P w= .ok (.value v) w:=λv h=>by simp_all [execOp,eqGuard_at_slice]
 cases op<;>try trivial
 case eql=>exact Y5 H R rfl (run _ (by simp[binOp,he]))
 case neq=>exact Y5 H R (x:=.bool (!ad.isNone)) rfl (run _ (by simp[binOp,he]))
theorem a9z(H:FxOk X)(R:Rel X cl ch S m ok a w){op:BinOp}{x y:Operand}{yt:TypeId}(ho:o.op= .binOp op t x y yt):
  (aQ X.E q o).post S (λ_ S' =>gV X cl ch o a w m ok S'):=by
 unfold aQ;simp[ho];refine Z8 R λu hu=>Z8 R λv hv=>?_;cases u<;>try (trivial)
 case b p=>
  cases v<;>try (trivial)
  exact a3o H R ho (QK hu) (QK hv)
 case i k p=>
  cases v<;>try (trivial)
  exact a7m H R ho (tZ hu) (tZ hv)
 case s p=>
  cases v<;>try (trivial)
  exact a7n H R ho (JS hu) (JS hv)
 case nl=>
  cases v<;>try (trivial)
  exact ZT H R ho (show a.eval x= .slice none 0 0 from hu) hv
 case ne=>
  cases v<;>try (trivial)
  obtain⟨ad,c,hx,hb⟩:=hu;subst hb;exact ZT H R ho hx hv
 case sl t' xs=>
  cases v<;>try (trivial)
  unfold Za;simp;cases ht:t'.isEnt
  .obtain⟨ad,c,hx,hle,hx'⟩:=(yL ht).1 (show kZ w.heap ok (.sl t') xs [a.eval x]from hu);cases xs with
   |nil=>exact⟨λ_=>trivial,λh=>by grind [D8,x9]⟩|cons z zs=>obtain⟨blk,off,es,rfl,_⟩:=hx' 0 z rfl;exact⟨λ_=>trivial,λ_=>ZT H R ho (ad:=some _) (by simpa using hx) hv⟩
  .trivial
 case agg cs=>
  cases v<;>try (trivial)
  case agg ds=>
  obtain⟨xs,hx,hl⟩:=hu;obtain⟨ys,hy,hl'⟩:=hv;unfold Za;cases hq:bZ X.E.eqs t with
  |none=>trivial|some sh=>
  refine aX λhm=>?_;simp at hm;have hE:=(H.eqs t sh hq).1;cases he:zB cs ds with
  |none=>cases op<;>trivial|some e=>
   cases op<;>try trivial
   case eql=>refine Y5 H R rfl ?_;have h:=hE w _ cs ds xs ys e .eql x y hm.1 hm.2 hl hl' he (.inl rfl);simp only[execOp,ho,hx,hy];rw[J9,h];rfl
   case neq=>refine Y5 H R rfl ?_;have h:=hE w _ cs ds xs ys e .neq x y hm.1 hm.2 hl hl' he (.inr rfl);simp only[execOp,ho,hx,hy];rw[J9,h];rfl
theorem b3f(H:FxOk X)(R:Rel X cl ch S m ok a w){op:UnOp}(ho:o.op= .unOp op t x):
  (aQ X.E q o).post S (λ_ S' =>gV X cl ch o a w m ok S'):=by
 unfold aQ;simp[ho];refine Z8 R λu hu=>?_;cases u<;>cases op<;>try (trivial)
 case b.not p=>exact Y5 H R (x:=.bool (!p)) rfl (by simp[execOp,ho,QK hu,Op.unary])
 case i.neg k p=>exact Y5 H R (x:=.int k (k.wrap (0 -p))) rfl (by simp[execOp,ho,tZ hu,Op.unary,Op.intArith])
 case i.xor k p=>exact Y5 H R rfl (by simp[execOp,ho,tZ hu,Op.unary,Op.intBits,b2P];cases k.signed<;>simp)
theorem a9N{α:Type}{Q:α->Sm->Prop}(R:Rel X cl ch S m ok a w){u:Ty}{y:V}{vy:Value}{K:List u.den->Cmd α}(hy:kU ⟨w.heap,ok,m⟩ y vy)
  (hK:∀xs,kZ w.heap (λ_ _=>True) (.sl u) xs [vy]->(K xs).post S Q):(a7v u y K).post S Q:=by
 unfold a7v;split<;>try trivial
 .have hv:=hy;subst hv;cases ht:u.isEnt
  .exact hK [] (.inl ⟨ht,none,0,rfl,E5 _,λi x hi=>by simp_all⟩)
  .trivial
 .obtain⟨ad,c,rfl,_⟩:=(show ∃a c,vy=Value.slice a 0 c/\a.isNone=_ from hy);cases ht:u.isEnt
  .exact hK [] (.inl ⟨ht,ad,c,rfl,iF _,λi x hi=>by simp_all⟩)
  .trivial
 .refine eH λe=>?_;subst e;exact hK _ (dm (λ_ _ _=>trivial) (λ_ _ _=>rfl) (show kZ w.heap ok (.sl _) _ [vy]from hy))
 .rename_i bx vw;obtain⟨l,hm,hv⟩:=hy;show Cmd.post (match S (U4+bx)with| .barr t' xs=>_| .bfrz t' xs=>_|_=>_) S Q;have hb:=R.box bx;split<;>try trivial
  .rename_i t' xs hS;rw[hS]at hb;obtain⟨l',hm',ha⟩:=hb;rw[hm]at hm';cases hm';refine eH λe=>?_;subst e;exact hK _ (oP ha hv (λ_ _ _=>trivial) (λ_ _=>trivial))
  .rename_i t' xs hS;rw[hS]at hb;obtain⟨l',hm',ha,hok⟩:=hb;rw[hm]at hm';cases hm';refine eH λe=>?_;subst e;exact hK _ (oP ha hv (λ_ _ _=>trivial) (λ_ _=>trivial))
theorem a1i(H:FxOk X)(R:Rel X cl ch S m ok a w){src t:TypeId}(ho:o.op= .convert src t x)
  (hB:∀l,a.eval x= .string ⟨l.toArray⟩->X.P.underlying src=some .string->(a8s X.E (J7 q o.dst) t l λv=>cu X.E o.dst v).post S (λ_ S' =>gV X cl ch o a w m ok S')):
  (aQ X.E q o).post S (λ_ S' =>gV X cl ch o a w m ok S'):=by
 unfold aQ;simp[ho];refine Z8 R λu hu=>jG H λj hj=>jG H λi hi=>?_;obtain⟨e,he⟩:=a7Q hj.td;have hd:=hi.td;split<;>try trivial
 .rename_i k' n k htd;rw[htd]at hd;exact Y5 H R (x:=.int k (k.wrap n)) rfl (by simp[execOp,ho,tZ hu,convert,run_underlying he,run_underlying (show X.P.underlying t=some (.int k)from hd),Conv.intToInt])
 .rename_i l htd;rw[htd]at hd;refine Y5 H R rfl ?_;simp only[execOp,ho,JS hu,convert,J9,run_underlying he,run_underlying (show X.P.underlying t=some .string from hd),L8];simp
 .split<;>try trivial
  rename_i l _ _ _ hjd;have hjs:=hj.td;rw[hjd]at hjs;exact hB l (JS hu) hjs
 .rename_i hns htd;rw[htd]at hd;split<;>try trivial
  rename_i el hjd;have hjs:=hj.td;rw[hjd]at hjs;refine jG H λk hk=>?_;have hkd:=hk.td;split<;>try trivial
  rename_i hke;rw[hke]at hkd;refine a9N R hu λxs hr=>?_;obtain⟨ad,cap,hv,hcap,hcells⟩:=(yL rfl).1 hr;have hv:=(Y8 hv).1;refine Y5 H R rfl ?_;have hh:(convert src t (a.eval x)).run X.P w= .ok (.string ⟨(a8m xs).toArray⟩) w:=by
   rw[hv];cases xs with
   |nil=>
    have:=run_convert_bytes_nil w src el hjs hkd 0 cap t hd;cases ad with
    |none=>exact this|some ad=>rw[run_convert_bytes_string w src t el _ _ cap hjs hkd hd];rfl
   |cons y ys=>
    obtain⟨blk,off,es,rfl,_,_,_⟩:=hcells 0 y rfl;have:=run_convert_bytes_arg w src el hjs hkd blk off (y::ys).length cap (y::ys) rfl (λi hi=>?_) t hd
    .exact this
    .obtain⟨blk2,off2,es2,e2,_,hc,hr2⟩:=hcells i _ (qC hi);obtain⟨rfl,rfl,_⟩:=e2;obtain⟨c,T,f,hb,hn,rfl⟩:=qw hc;have hr3:((c.toList.drop (off+i*1)).take 1)=[.int .u8 (y::ys)[i]]:=hr2
     grind [List.getElem?_cons_zero,World.cell?]
  simp_all [execOp]
theorem a3q(H:FxOk X)(R:Rel X cl ch S m ok a w){n:Nat}(ho:o.op= .extract x n):
  (aQ X.E q o).post S (λ_ S' =>gV X cl ch o a w m ok S'):=by
 unfold aQ;simp[ho];refine Z8 R λu hu=>?_;cases u<;>try trivial
 case tup vs=>
 obtain⟨arr,hx,hl⟩:=hu;have key:∀(vs:List V) (us:c5x) (n:Nat) (v:V),h_ ⟨w.heap,ok,m⟩ vs us->vs[n]? =some v->∃u,us[n]? =some u/\kU ⟨w.heap,ok,m⟩ v u:=by
  intro vs;induction vs with
  |nil=>simp|cons c cs ih=>
   rintro us n v ⟨u,r,rfl,h1,h2⟩ h;cases n with
   |zero=>simp at h;subst h;refine⟨u,rfl,?_⟩;cases c<;>first|exact h1|exact h1.elim
   |succ n=>simp_all
 simp;split
 .rename_i v hv;obtain⟨u,hu,hr⟩:=key vs arr.toList n v hl hv;refine Y5 H R hr ?_<;>simp_all [execOp,Instr.extract]
 .trivial
theorem a9E(H:FxOk X)(R:Rel X cl ch S m ok a w){x ix:Operand}(ho:o.op= .index t x ix):
  (aQ X.E q o).post S (λ_ S' =>gV X cl ch o a w m ok S'):=by
 unfold aQ;simp[ho];refine Z8 R λu hu=>Z8 R λv hv=>jG H λi hi=>?_;have hd:=hi.td;split<;>try trivial
 rename_i l k n htd;rw[htd]at hd;refine bz λc hc=>?_;unfold sat at hc;split at hc
 .rename_i h0;cases hl:l[n.toNat]? with
  |none=>simp_all|some b=>
   simp[hl]at hc;subst hc;refine Y5 H R rfl ?_;have e:(⟨l.toArray⟩:ByteArray)[n.toNat]? =some b:=by
    obtain⟨h1,h2⟩:=aJ.1 hl;have hs:n.toNat<(⟨l.toArray⟩:ByteArray).size:=by simp_all [ByteArray.size]
    show decidableGetElem? _ _=_;unfold decidableGetElem?;rw[dif_pos hs,←h2];rfl
   simp[execOp,ho,JS hu,tZ hv,Instr.index,asIntOf,run_underlying (show X.P.underlying t=some .string from hd),h0,e]
 grind
theorem a1k(H:FxOk X)(R:Rel X cl ch S m ok a w)(ho:o.op= .nilCheck x):
  (aQ X.E q o).post S (λ_ S' =>gV X cl ch o a w m ok S'):=by
 unfold aQ;simp[ho];refine Z8 R λu hu=>?_;cases u<;>try trivial
 case ptr bx f=>obtain⟨b,h1,h2⟩:=hu;exact Y5 H R ⟨b,h1,h2⟩ (by simp_all [execOp])
 case ep bx ix f=>obtain⟨_,_,_,_,_,h1,h2,h3⟩:=hu;exact Y5 H R ⟨_,_,_,_,_,h1,h2,h3⟩ (by simp_all [execOp])
 case dp u y f=>obtain⟨_,_,_,h1,h2⟩:=hu;exact Y5 H R ⟨_,_,_,h1,h2⟩ (by simp_all [execOp])
 case glob g=>exact Y5 H R hu (by have hu:a.eval x=_:=hu;simp_all [execOp])
end
end Go.GP
namespace Go.GP
variable {n:Nat}{off:Nat}{blk:Nat}{es:c5x}
theorem xZ{w:World}(e:bW w.heap blk off n=some es){j:Nat}{v:Value}(h:es[j]? =some v):w.cell? ⟨blk,off+j,none⟩=some v:=by obtain⟨c,T,f,hb,hn,rfl⟩:=qw e<;>grind [cell_of_row]
variable {t:TypeId}{P:Program}
theorem Dp{d:TD}(h:b1M P t d)(w:World):(isAgg t).run P w= .ok (az d) w:=by
 unfold isAgg;cases d<;>simp[b1M]at h
 case struct fs=>obtain⟨fields,hu,_⟩:=h;rw[J9,run_underlying hu];rfl
 case other=>obtain⟨e,hu,hn⟩:=h;rw[J9,run_underlying hu];cases e<;>first|rfl|exact hn.elim
 all_goals (rw[J9,run_underlying h];rfl)
variable {i:TI}
theorem sD(h:TiOk P t i)(w:World):(sizeOf t).run P w= .ok i.size w:=by obtain⟨inf,h1,h2,_⟩:=h.info;simp_all [sizeOf,typeInfo]
def PV(ag:Bool)(es:c5x):Value:=match ag with|true=> .agg es.toArray|false=>es.headD Go.undef
theorem qh(hi:TiOk P t i)(w:World)(e:bW w.heap blk off i.size=some es):
  (loadVar t ⟨blk,off,none⟩).run P w= .ok (PV (az i.td) es) w:=by
 have hl:=lC e;unfold loadVar;rw[J9,Dp hi.td];cases ha:az i.td
 .have h1:=hi.one ha;obtain⟨v,rfl⟩:∃v,es=[v]:=by
   cases es<;>simp_all
  have hc:=xZ e (j:=0) rfl;simp_all [PV]
 .have hc:=run_loadCells_list (P:=P) w ⟨blk,off,none⟩ es (λj v h=>by rw[jL];exact xZ e h);rw[hl]at hc;simp[sD hi,hc,PV]
variable {cs:List V}{C:Cx}
theorem yK{ag:Bool}(h:fU C cs es)(h1:ag=false->es.length=1):kU C (mkV ag cs) (PV ag es):=by
 refine Pz ?_ h;cases ag
 .obtain⟨v,rfl⟩:∃v,es=[v]:=by
   cases es<;>simp_all
  rfl
 .exact⟨es.toArray,rfl,x8⟩
theorem UL:∀(n:Nat) (cs r:List V),UK n cs=some r->n<=cs.length/\r=cs.drop n
 |0,cs,r,h=>by simp_all [UK]|n+1,[],r,h=>by grind [UK]|n+1,c::cs,r,h=>by obtain⟨h1,h2⟩:=UL n cs r (by simpa[UK]using h)<;>simp_all
theorem WJ{α:Type}{Q:α->Sm->Prop}{S:Sm} :∀(n:Nat) (cs:List V) {K:List V->Cmd α} (hK:n<=cs.length->(K (cs.take n)).post S Q),(a2c n cs K .fail).post S Q
 |0,cs,K,hK=>by simp_all [a2c]|n+1,[],K,hK=>trivial|n+1,c::cs,K,hK=>by simp_all [a2c,WJ]
variable {α:Type}{Q:α->Sm->Prop}
theorem vP{S:Sm}{K:List V->Cmd α}(hK:off+n<=cs.length->(K ((cs.drop off).take n)).post S Q):(PR off n cs K .fail).post S Q:=by
 unfold PR;split
 .rename_i r hr;obtain⟨h1,rfl⟩:=UL _ _ _ hr<;>grind [WJ]
 .trivial
def aU(off:Nat)(vs cs:List α):List α:=cs.take off++vs++cs.drop (off+vs.length)
theorem yZ{α:Type}{Q:α->Sm->Prop}{S:Sm} :∀(off:Nat) (vs cs:List V) {K:List V->Cmd α} (hK:off+vs.length<=cs.length->(K (aU off vs cs)).post S Q),(QH off vs cs K .fail).post S Q
 |0,[],cs,K,hK=>by simp_all [QH,aU]|0,v::vs,[],K,hK=>by trivial
 |0,v::vs,c::cs,K,hK=>by exact yZ 0 vs cs λh=>by simpa[aU]using hK (by simp at h ⊢;omega)|n+1,vs,[],K,hK=>by cases vs<;>simp[QH]<;>trivial|n+1,vs,c::cs,K,hK=>by
  have e:QH (n+1) vs (c::cs) K Cmd.fail=QH n vs cs (λr=>K (c::r)) Cmd.fail:=by cases vs<;>rfl
  refine yZ n vs cs λh=>?_;have:=hK H7;have e2:n+1+vs.length=(n+vs.length)+1:=l9;simpa[aU,e2]using this
theorem zg{vs cs:List V}{us xs:c5x}(hv:fU C vs us)(hc:fU C cs xs):fU C (aU off vs cs) (aU off us xs):=by
 grind [aU,gX,zf,rf,qp]
theorem AZ{P:Program}(g o:Nat)(t:TypeId):∀(vs:c5x) (i:Nat) (cur:Array Value) (f:Nat×Nat) (w:World),w.heap[g]? =some (.cells cur t f)->(f=(0,0)\/f=(cur.size,cur.size+1))->o+i+vs.length<=cur.size->(∀v∈vs,v.oneCell' =true)->
  (storeCells ⟨g,o,none⟩ vs i).run P w= .ok () (w.setRow g (cur.toList.take (o+i)++vs++cur.toList.drop (o+i+vs.length)).toArray)
 |[],i,cur,f,w,hg,_,_,_=>by simp only[storeCells,E9,F6,jO,gB,Array.toArray_toList];rw[setRow_self w g cur t f hg];rfl|v::rest,i,cur,f,w,hg,hf,hl,h1=>by
  have hi:o+i<cur.size:=by grind
  have hadd:(⟨g,o,none⟩:Addr).add i=⟨g,o+i,none⟩:=by simp[Addr.add]
  have hcell:w.cell? ⟨g,o+i,none⟩=some cur[o+i]:=by simp_all [World.cell?]
  have hfro:w.frozen? ⟨g,o+i,none⟩=false:=by
   grind [World.frozen?]
  have hst:(store ((⟨g,o,none⟩:Addr).add i) v).run P w= .ok () (w.setRow g (cur.setIfInBounds (o+i) v)):=by
   rw[hadd,run_store P w _ v _ (h1 v x8),hcell]
   grind [setCell_eq_setRow]
  have ih:=AZ (P:=P) g o t rest (i+1) (cur.setIfInBounds (o+i) v) f (w.setRow g (cur.setIfInBounds (o+i) v)) (setRow_heap w g cur _ t _ hg) (by simp_all) (by grind) (λx hx=>h1 x (by grind));simp only[storeCells,J9,hst,L8,ih,setRow_setRow];congr 3;have e:=list_seg_step cur.toList (o+i) v rest l9
  grind
theorem xH(hi:TiOk P t i)(w:World){c:Array Value}{T:TypeId}{f:Nat×Nat}(hb:w.heap[blk]? =some (.cells c T f))(hf:f=(0,0)\/f=(c.size,c.size+1)){v:Value}
  (hs:v.cells.size=i.size) (ho:off+i.size<=c.size) (h1:∀u∈v.cells.toList,u.oneCell' =true):
  (storeVar t ⟨blk,off,none⟩ v).run P w= .ok () (w.setRow blk (aU off v.cells.toList c.toList).toArray):=by
 have h:=AZ (P:=P) blk off T v.cells.toList 0 c f w hb hf (by simp_all) h1;unfold storeVar;simp[sD hi,hs,h,aU]
variable {v:V}{l:Loc}{obj:Obj}{q:Nat}{ks:c5y}
section
variable {X:Fx} {cl ch:Nat} {S:Sm} {m:Mp} {ok:Nat->Ty->Prop} {a:Act} {w:World} {o:Oper}
theorem Rel.own_cells(R:Rel X cl ch S m ok a w)(h:S (U4+n)= .bcells cs):∃blk arr T,m n=some (.st blk)/\w.heap[blk]? =some (.cells arr T (0,0))/\fU ⟨w.heap,ok,m⟩ cs arr.toList:=by have:=R.box n;rw[h]at this;exact this
theorem Rel.own_bsb(R:Rel X cl ch S m ok a w){n tb:Nat}{c:V}(h:S (U4+n)= .bsb tb cs c):∃blk arr es a0 v0,m n=some (.st blk)/\w.heap[blk]? =some (.cells arr tb (0,0))/\arr.toList=es++[a0,v0]/\fU ⟨w.heap,ok,m⟩ cs es/\
  (a0= .pointer none\/a0= .pointer (some ⟨blk,es.length,none⟩))/\rP ⟨w.heap,ok,m⟩ c v0:=by
 have:=R.box n;rw[h]at this;exact this
theorem Rel.own_arr(R:Rel X cl ch S m ok a w){t:Ty}{xs:List t.den}(h:S (U4+n)= .barr t xs):∃l,m n=some l/\arrOk ⟨w.heap,ok,m⟩ t xs l:=by have:=R.box n;rw[h]at this;exact this
theorem Rel.own_frz(R:Rel X cl ch S m ok a w){t:Ty}{xs:List t.den}(h:S (U4+n)= .bfrz t xs):∃l,m n=some l/\arrOk ⟨w.heap,ok,m⟩ t xs l/\(∀blk,blk∈l.blks->ok blk t):=by have:=R.box n;rw[h]at this;exact this
theorem Rel.own_barrs(R:Rel X cl ch S m ok a w){md:M}{xs:List md.den}{hole:Option (Nat×Nat×Option Nat)}(h:S (U4+n)= .barrs md xs hole):md.el=true/\∃l Os,m n=some l/\a4J ⟨w.heap,ok,m⟩ md xs hole Os l/\m.kid n=Os.flatten:=by have:=R.box n;rw[h]at this;exact this
theorem Rel.own_barrp(R:Rel X cl ch S m ok a w){md:M}{xs:List md.den}{k:Int}{o:Nat}(h:S (U4+n)= .barrp md xs k o):md.el=true/\0<=k/\∃l Os,m n=some l/\uB w.heap md.size (λi x es O=>lS w.heap ok md (vU o k.toNat i) x es O) xs Os l/\m.kid n=Os.flatten:=by have:=R.box n;rw[h]at this;exact this
theorem Rel.own_fc(R:Rel X cl ch S m ok a w){t:Ty}{x:t.den}(h:S (U4+n)= .bfc t x):∃blk es,m n=some (.st blk)/\ok blk t/\bW w.heap blk 0 t.size=some es/\kZ w.heap ok t x es:=by have:=R.box n;rw[h]at this;exact this
theorem zF:∀(m:M) (x:m.den) (r:List V),IE m x r=IE m x []++r
 | .dat t,x,r=>lZ t x r| .pair a b,x,r=>by simp only[IE];rw[zF a x.1 (IE b x.2 r),zF b x.2 r,zF a x.1 (IE b x.2 [])];simp| .unit,_,_=>rfl| .own _,_,_=>rfl| .owns _,_,_=>rfl| .box _,_,_=>rfl| .ownb _,_,_=>rfl| .rp _,_,_=>rfl| .fn _ _,_,_=>rfl| .ifc _ _,_,_=>rfl| .cell _,_,_=>rfl| .fr _,_,_=>rfl| .mbx ..,_,_=>rfl| .lp _,_,_=>rfl| .dv ..,_,_=>rfl| .ownr ..,_,_=>rfl| .sit,_,_=>rfl
theorem Ha:∀(m:M) (x:m.den),(IE m x []).length=m.size
 | .dat t,x=>nU t x| .pair a b,x=>by simp only[IE,M.size];rw[zF a,A7,Ha a x.1,Ha b x.2]| .unit,_=>rfl| .own _,_=>rfl| .owns _,_=>rfl| .box _,_=>rfl| .ownb _,_=>rfl| .rp _,_=>rfl| .fn _ _,_=>rfl| .ifc _ _,_=>rfl| .cell _,_=>rfl| .fr _,_=>rfl| .mbx ..,_=>rfl| .lp _,_=>rfl| .dv ..,_=>rfl| .ownr ..,_=>rfl| .sit,_=>rfl
theorem lQ{cs:c5x}(h:cs.length=1)(h1:∀v∈cs,v.oneCell' =true):fU C [.undef] cs:=by
 match cs,h with
 |[v],_=>exact⟨v,[],rfl,trivial,h1 v x8,rfl⟩
theorem NK{C:Cx} :∀{m:M} {ho:Option Nat} {x:m.den} {cs:c5x} {O:c5y},lS C.h C.ok m ho x cs O->fU C (IE m x []) cs
 | .dat t,_,_,_,_,h=>oG h.1| .pair a b,_,x,_,_,h=>by obtain⟨c,d,O1,O2,rfl,rfl,h1,h2⟩:=h;simp only[IE];rw[zF a];exact zf (NK h1) (NK h2)
 | .unit,_,_,_,_,h=>by obtain⟨rfl,_⟩:=h;rfl
 | .own _,_,_,_,_,h=>lQ (aG h) (nX h)| .owns _,_,_,_,_,h=>lQ (aG h) (nX h)| .box _,_,_,_,_,h=>lQ (aG h) (nX h)| .ownb _,_,_,_,_,h=>lQ (aG h) (nX h)| .rp _,_,_,_,_,h=>lQ (aG h) (nX h)| .fn _ _,_,_,_,_,h=>lQ (aG h) (nX h)| .ifc _ _,_,_,_,_,h=>lQ (aG h) (nX h)| .cell _,_,_,_,_,h=>lQ (aG h) (nX h)| .fr _,_,_,_,_,h=>lQ (aG h) (nX h)| .mbx ..,_,_,_,_,h=>lQ (aG h) (nX h)| .lp _,_,_,_,_,h=>lQ (aG h) (nX h)| .dv ..,_,_,_,_,h=>lQ (aG h) (nX h)| .ownr ..,_,_,_,_,h=>lQ (aG h) (nX h)| .sit,_,_,_,_,h=>lQ (aG h) (nX h)
theorem X3{S:Sm}{k:Nat}{c:V->Cmd α}(h:(c (S k)).post S Q):(Cmd.get k c).post S Q:=h
theorem ed{S:Sm}{k:Nat}{c:Cmd α}(h:c.post (upd S k v) Q):(Cmd.set k v c).post S Q:=h
theorem AQ(H:FxOk X)(R:Rel X cl ch S m ok a w){t:Nat}{p:V}{x:Value}(hp:kU ⟨w.heap,ok,m⟩ p x){K:V->Cmd α}
  (hK:∀v u ad,kU ⟨w.heap,ok,m⟩ v u->x= .pointer (some ad)->(loadVar t ad).run X.P w= .ok u w->(K v).post S Q):(EH X.E t p K).post S Q:=by
 unfold EH;refine jG H λi hi=>?_;cases p<;>try trivial
 case ptr bx off=>
  obtain⟨blk,hm,rfl⟩:=hp;refine X3 ?_;split<;>try trivial
  .rename_i cs hS;obtain⟨blk',arr,T,hm',hh,hl⟩:=R.own_cells hS;simp only at hm;rw[hm]at hm';cases hm';refine vP λhle=>?_;have hlen:=gX hl;have e:=jH hh off i.size (by simp at hlen;omega);refine hK _ _ _ (yK (rf _ (qp _ hl)) (λha=>by have:=lC e;rw[hi.one ha]at this;rw[hi.one ha];exact this)) rfl ?_;exact qh hi w e
  .rename_i tb cs c hS;obtain⟨blk',arr,es,a0,v0,hm',hh,he,hl,_,_⟩:=R.own_bsb hS;simp only at hm;rw[hm]at hm';cases hm';refine vP λhle=>?_;have hlen:=gX hl;have hlen2:=congrArg List.length he;simp only[P7,A7,A8,F6]at hlen2;have e:=jH hh off i.size l9;rw[he,List.drop_append_of_le_length l9,ik (by rw[mM];omega)]at e;refine hK _ _ _ (yK (rf _ (qp _ hl)) (λha=>by have:=lC e;rw[hi.one ha]at this;rw[hi.one ha];exact this)) rfl ?_;exact qh hi w e
  .rename_i u y hS;obtain⟨blk',es,hm',hok,he,hr⟩:=R.own_fc hS;simp only at hm;rw[hm]at hm';cases hm';refine vP λhle=>?_;rw[nU]at hle;have e:=pU he off i.size hle;rw[bC]at e;refine hK _ _ _ (yK (rf _ (qp _ (oG (C:=⟨w.heap,ok,m⟩) hr))) (λha=>by have:=lC e;rw[hi.one ha]at this;rw[hi.one ha];exact this)) rfl ?_;exact qh hi w e
 case ep bx ix off=>
  obtain⟨blk,o',len,cap,sz,hm,hlt,rfl⟩:=hp;refine X3 ?_;have key:∀{u:Ty} {xs:List u.den},arrOk ⟨w.heap,ok,m⟩ u xs (.arr blk o' len cap sz)->(Cmd.opt (jg xs ix) λx=>PR off i.size (flat u x []) (λr=>K (mkV (az i.td) r)) Cmd.fail).post S Q:=by intro u xs ha;obtain⟨_,rfl,rfl,h3,c,T,f,hh,hz,hs,hx⟩:=ha;refine bz λy hy=>?_;obtain⟨es,he,hr⟩:=hx ix y hy;refine vP λhle=>?_;rw[nU]at hle;have e:=pU he off i.size hle;refine hK _ _ _ (yK (rf _ (qp _ (oG (C:=⟨w.heap,ok,m⟩) hr))) (λha=>by have:=lC e;rw[hi.one ha]at this;rw[hi.one ha];exact this)) rfl ?_;exact qh hi w e
  split<;>try trivial
  .rename_i u xs hS;obtain⟨l,hm',ha⟩:=R.own_arr hS;simp only at hm;rw[hm]at hm';cases hm';exact key ha
  .rename_i u xs hS;obtain⟨l,hm',ha,_⟩:=R.own_frz hS;simp only at hm;rw[hm]at hm';cases hm';exact key ha
  .rename_i md xs hole hS;obtain⟨_,l,Os,hm',⟨ha,hho⟩,_⟩:=R.own_barrs hS;simp only at hm;rw[hm]at hm';cases hm';obtain⟨rfl,rfl,h3,h7,c,T,hh,hs,hx⟩:=ha;refine bz λy hy=>?_;obtain⟨es,O,hO,he,hr⟩:=hx ix y hy;refine vP λhle=>?_;rw[Ha]at hle;have e:=pU he off i.size hle;refine hK _ _ _ (yK (rf _ (qp _ (NK (C:=⟨w.heap,ok,m⟩) hr))) (λha=>by have:=lC e;rw[hi.one ha]at this;rw[hi.one ha];exact this)) rfl ?_;exact qh hi w e
 case dp u y off=>obtain⟨blk,o',es,rfl,hb,he,hr⟩:=hp;refine vP λhle=>?_;rw[nU]at hle;have e:=pU he off i.size hle;refine hK _ _ _ (yK (rf _ (qp _ (oG (C:=⟨w.heap,ok,m⟩) hr))) (λha=>by have:=lC e;rw[hi.one ha]at this;rw[hi.one ha];exact this)) rfl ?_;exact qh hi w e
theorem Fg(h:Array Obj)(o:Obj){b:Nat}(hb:b<h.size):(h.push o)[b]? =h[b]?:=by grind
theorem Rel.new(R:Rel X cl ch S m ok a w)(hn:S (U4+n)= .undef)(hcl:cl<=n)(hch:n<ch)(hv:v≠.undef)
  (hb:N8 (nJ m n l ks) n v=[w.heap.size]) (hB:AY ⟨(w.alloc obj).heap,ok,nJ m n l ks⟩ n v):
  Rel X cl ch (upd S (U4+n) v) (nJ m n l ks) ok a (w.alloc obj):=by
 refine R.lay hn hcl hch hv rfl rfl rfl x8 (λb hb' _=>Fg _ _ hb') (by simp_all) (λb h=>?_) hB;rw[hb]at h;simp at h;subst h;refine⟨λt h' =>qG _ (R.okLt _ t h'),x8,.inl R.frame.size,λk h' =>qG _ (R.sep k _ h').2.1⟩
theorem Rel.newK(R:Rel X cl ch S m ok a w){T:c5y}(hT:Tk X S m ok w T)(hn:S (U4+n)= .undef)(hcl:cl<=n)(hch:n<ch)(hv:v≠.undef)
  (hb:N8 (nJ m n l ks) n v=w.heap.size::ks) (hnd:ks.Nodup) (hks:∀b∈ks,b∈T) (hB:AY ⟨(w.alloc obj).heap,ok,nJ m n l ks⟩ n v):
  Rel X cl ch (upd S (U4+n) v) (nJ m n l ks) ok a (w.alloc obj):=by
 refine R.lay hn hcl hch hv rfl rfl rfl x8 (λb hb' _=>Fg _ _ hb') (by rw[hb];exact Y9.2 ⟨λh=>qG _ (hT.free _ (hks _ h)).2.1,hnd⟩) (λb h=>?_) hB;rw[hb]at h;rcases D7.1 h with rfl|h
 .exact⟨λt h' =>qG _ (R.okLt _ t h'),x8,.inl R.frame.size,λk h' =>qG _ (R.sep k _ h').2.1⟩
 .obtain⟨h1,h2,h3,h4⟩:=hT.free b (hks b h);exact⟨h1,by simp;omega,h3,h4⟩
theorem Rel.le_new(R:Rel X cl ch S m ok a w)(hn:S (U4+n)= .undef)(hcl:cl<=n):Cx.le ⟨w.heap,ok,m⟩ ⟨(w.alloc obj).heap,ok,nJ m n l ks⟩:=
 ⟨λ_ _ h=>h,λb t hb=>Fg _ _ (R.okLt b t hb),λk x h=>by
  by_cases e:k=n
  .subst e;have:=R.fresh k hcl hn;simp_all
  simp_all [jl]⟩
theorem uC(H:FxOk X)(d:Option Tmp)(hd:∀t,d=some t->t<X.E.nt):CB*q<=J7 q d/\J7 q d+64<=CB*q+CB:=by have:=H.nt;cases d<;>grind [J7]
theorem Dk(H:FxOk X)(R:Rel X (CB*q) (CB*q+CB) S m ok a w){vv:V}{x:Value}(hv:v≠.undef)
  (hb:N8 (nJ m (J7 q o.dst) l []) (J7 q o.dst) v=[w.heap.size]) (hB:S (U4+J7 q o.dst)= .undef->CB*q<=J7 q o.dst->AY ⟨(w.alloc obj).heap,ok,nJ m (J7 q o.dst) l []⟩ (J7 q o.dst) v)
  (hx:kU ⟨(w.alloc obj).heap,ok,nJ m (J7 q o.dst) l []⟩ vv x) (run:(execOp a.eval o).run X.P w= .ok (.value x) (w.alloc obj)):
  (uP (J7 q o.dst) v (cu X.E o.dst vv)).post S (λ_ S' =>gV X (CB*q) (CB*q+CB) o a w m ok S'):=by
 refine oC λhn=>?_;cases hd:o.dst with
 |none=>have hin:=uC H (q:=q) none (λt h=>by grind);rw[hd]at hn hB hb hx;have R' :=R.new hn hin.1 l9 hv hb (hB hn hin.1);have:=sV H R' (λk l' h=>(R.le_new (obj:=obj) hn hin.1).m k l' h) (λ_ _ h=>h) hx run;simp_all
 |some t=>refine aX λhb' =>?_;have hin:=uC H (q:=q) (some t) (λt' h=>by simp_all [yH]);rw[hd]at hn hB hb hx;have R' :=R.new hn hin.1 l9 hv hb (hB hn hin.1);have:=sV H R' (λk l' h=>(R.le_new (obj:=obj) hn hin.1).m k l' h) (λ_ _ h=>h) hx run;simp_all [cu]
theorem Ii :∀{cs:List V} {vs:c5x},fU ⟨#[],λ_ _=>False,nom⟩ cs vs->fU C cs vs:=by intro cs vs h;exact Bo (C:=⟨#[],λ_ _=>False,nom⟩) ⟨λ_ _ h=>h.elim,λ_ _ h=>h.elim,λ_ _ h=>by cases h⟩ h
theorem Qd:∀{zs s:List V},b2i zs=some s->zs=s++[.npt,.nl]
 |[],s,h=>by cases h|v::r,s,h=>by
  unfold b2i at h;split at h
  .cases h;simp_all
  .cases h
  .rename_i heq;simp only[H8]at heq;obtain⟨rfl,rfl⟩:=heq;split at h
   .rename_i s' hs;cases h;rw[Qd hs];rfl
   .cases h
theorem Wh{C:Cx} :∀{s:List V} {vs:c5x},fU C (s++[.npt,.nl]) vs->∃es a0 v0,vs=es++[a0,v0]/\fU C s es/\a0= .pointer none/\rP C .nl v0
 |[],vs,⟨a0,r1,e1,g1,_,v0,r2,e2,g2,_,g3⟩=>by simp only[fU]at g3;subst g3;subst e2;subst e1;exact⟨[],a0,v0,rfl,rfl,g1,g2⟩|c::s,vs,⟨v,r,e,h1,h2,h3⟩=>by obtain⟨es,a0,v0,rfl,h4,h5,h6⟩:=Wh (s:=s) h3;exact⟨v::es,a0,v0,e,⟨v,es,rfl,h1,h2,h4⟩,h5,h6⟩
theorem a9x(H:FxOk X)(R:Rel X (CB*q) (CB*q+CB) S m ok a w)(ho:o.op= .alloc t):(aQ X.E q o).post S (λ_ S' =>gV X (CB*q) (CB*q+CB) o a w m ok S'):=by
 unfold aQ;simp only[ho];refine jG H λi hi=>aX λhz=>?_;obtain⟨inf,h1,h2,h3,h4,h5⟩:=hi.info;obtain⟨z,hz1,hz2⟩:=h4 (fZ hz);have hex:(execOp a.eval o).run X.P w= .ok (.value (.pointer (some ⟨w.heap.size,0,none⟩))) (w.alloc (.cells z.cells t)):=by simp[execOp,ho,Instr.alloc,zeroValue,typeInfo,h1,hz1,newVar,newRow]
 unfold b2j;split
 .rename_i s0 hz0;rw[Qd hz0]at hz2;obtain⟨es,a0,v0,e1,g0,g1,g2⟩:=Wh hz2;refine Dk (l:=.st w.heap.size) (obj:=.cells z.cells t) H R x8 (by simp[N8]) (λhn hc=>?_) ⟨w.heap.size,x8,rfl⟩ hex;exact⟨w.heap.size,z.cells,es,a0,v0,x8,heap_alloc_new w _,e1,Ii g0,.inl g1,g2⟩
 .refine Dk (l:=.st w.heap.size) (obj:=.cells z.cells t) H R x8 (by simp[N8]) (λhn hc=>?_) ⟨w.heap.size,x8,rfl⟩ hex;exact⟨w.heap.size,z.cells,t,x8,heap_alloc_new w _,Ii hz2⟩
theorem b6I(H:FxOk X)(R:Rel X (CB*q) (CB*q+CB) S m ok a w){x:Operand}(ho:o.op= .box t x):(aQ X.E q o).post S (λ_ S' =>gV X (CB*q) (CB*q+CB) o a w m ok S'):=by
 unfold aQ;simp only[ho];refine Z8 R λu hu=>rq hu λcs hcs=>?_;have hex:(execOp a.eval o).run X.P w= .ok (.value (.pointer (some ⟨w.heap.size,0,none⟩))) (w.alloc (.cells (a.eval x).cells t)):=by simp[execOp,ho,Instr.box,newVar,newRow]
 unfold b2j;split
 .rename_i s0 hz0;rw[Qd hz0]at hcs;obtain⟨es,a0,v0,e1,g0,g1,g2⟩:=Wh hcs;refine Dk (l:=.st w.heap.size) (obj:=.cells (a.eval x).cells t) H R x8 (by simp[N8]) (λhn hc=>?_) ⟨w.heap.size,x8,rfl⟩ hex;exact⟨w.heap.size,(a.eval x).cells,es,a0,v0,x8,heap_alloc_new w _,e1,Bo (R.le_new hn hc) g0,.inl g1,g2⟩
 .refine Dk (l:=.st w.heap.size) (obj:=.cells (a.eval x).cells t) H R x8 (by simp[N8]) (λhn hc=>?_) ⟨w.heap.size,x8,rfl⟩ hex;exact⟨w.heap.size,(a.eval x).cells,t,x8,heap_alloc_new w _,Bo (R.le_new hn hc) hcs⟩
end
end Go.GP
