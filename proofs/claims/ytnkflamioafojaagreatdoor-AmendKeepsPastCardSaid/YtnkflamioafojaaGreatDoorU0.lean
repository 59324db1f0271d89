import Derived.ProofKit
import Derived.Below
import Derived.Defers
import Derived.Laws.CopyRow
import Derived.Laws.BytesArg
import Derived.Laws.Cells
import Derived.Laws.Append
import Derived.Laws.Strings
import Derived.Lib.SmallJoins
set_option linter.all false
namespace Go.GP
abbrev d4H:Type:=List UInt8
abbrev d4I:Type:=List Int
abbrev d4J:Type:=List Value
abbrev d4K:Type:=List Nat
abbrev d4L:Type:=Option Bool
abbrev d4M:Type:=Option Int
variable {p:Prop}
theorem o5(h:p:=by omega):p:=h
theorem A7(h:p:=by simp):p:=h
theorem F8(h:p:=by decide):p:=h
theorem aH(h:p:=by simp;omega):p:=h
theorem F7:True:=trivial
def U1:=@List.take_succ_eq_append_getElem
def O0:=@Int.mul_le_mul_of_nonneg_right
def Y5:=@List.take_append_of_le_length
def lZ:=@Array.getElem?_setIfInBounds
def aC:=@Array.getD_eq_getD_getElem?
def bV:=@Int.add_mul_emod_self_right
def J6:=@Array.getElem?_eq_some_iff
def nG:=@Array.toList_setIfInBounds
def H5:=@List.getElem?_append_right
def jJ:=@Array.getElem?_append_left
def fK:=@Int.tmod_eq_emod_of_nonneg
def aK:=@List.findSome?_eq_none_iff
def N8:=@List.getElem?_append_left
def gm:=@List.drop_eq_getElem_cons
def oh:=@List.extract_eq_take_drop
def V8:=@Array.getElem?_eq_getElem
def iO:=@Classical.byContradiction
def dM:=@List.pairwise_iff_getElem
def oq:=@List.mem_take_iff_getElem
def kC:=@List.getElem?_eq_none_iff
def bK:=@List.mem_or_eq_of_mem_set
def eG:=@List.getElem?_take_of_lt
def pR:=@Option.isSome_iff_exists
def ji:=@List.getElem?_cons_zero
def O7:=@List.length_eq_zero_iff
def lC:=@List.getElem?_replicate
def iF:=@Option.map_eq_some_iff
def iD:=@List.drop_eq_nil_of_le
def Y6:=@List.take_of_length_le
def qQ:=@List.pairwise_lt_range
def iE:=@List.getElem?_set_self
def lX:=@List.filter_eq_nil_iff
def aY:=@Int.add_mul_ediv_right
def lW:=@Int.ediv_eq_zero_of_lt
def iQ:=@List.mem_append_right
def rU:=@List.Perm.append_left
def jQ:=@List.perm_append_comm
def Y9:=@Nat.le_of_ble_eq_true
def aP:=@Array.getElem?_toList
def iT:=@List.take_append_drop
def iR:=@List.set_append_right
def rP:=@Array.getElem?_modify
def U5:=@List.getElem?_eq_none
def bz:=@List.length_filter_le
def yw:=@List.findSome?_append
def rQ:=@Int.le_ediv_of_mul_le
def X3:=@Int.ediv_mul_add_emod
def mO:=@Int.ediv_lt_of_lt_mul
def gB:=@List.length_singleton
def rV:=@List.length_replicate
def aF:=@List.mem_append_left
def X9:=@List.mem_cons_of_mem
def J3:=@Nat.mul_le_mul_right
def zu:=@List.replicate_succ'
def nJ:=@List.getElem?_set_ne
def oM:=@Value.pointer.injEq
def jl:=@List.replicate_succ
def lg:=@List.flatten_append
def oK:=@Array.toList_append
def Z9:=@List.getElem_of_mem
def bT:=@Array.length_toList
def aT:=@List.map_congr_left
def X6:=@Int.toNat_of_nonneg
def oL:=@List.getElem?_range
def I9:=@List.length_append
def P9:=@List.getElem?_drop
def aG:=@List.getElem?_take
def jG:=@List.mem_cons_self
def X5:=@List.mem_singleton
def qh:=@List.set_cons_zero
def gJ:=@Bool.false_eq_true
def jH:=@Nat.eq_zero_or_pos
def iU:=@List.zip_cons_cons
def gK:=@Nat.lt_of_lt_of_le
def Y4:=@List.pairwise_cons
def lT:=@List.filter_append
def N7:=@Int.emod_lt_of_pos
def jF:=@Int.mul_right_comm
def L6:=@List.nodup_append
def dW:=@Bool.not_eq_true'
def G5:=@List.append_assoc
def H7:=@Option.some.injEq
def qU:=@Value.slice.injEq
def J5:=@Result.andThen_ok
def ai:=@List.ext_getElem?
def U0:=@List.getElem?_set
def bC:=@List.size_toArray
def S9:=@List.getElem?_map
def qR:=@List.zip_nil_left
def qP:=@Function.comp_def
def qO:=@Array.size_append
def ik:=@List.length_range
def Y3:=@Int.toNat_natCast
def ig:=@List.any_eq_false
def LM:=@Bool.not_eq_false
def wG:=@List.getElem_take
def fC:=@List.mem_flatten
def D5:=@Bool.and_eq_true
def bg:=@List.cons_append
def H8:=@List.length_cons
def nK:=@Array.toList_map
def nP:=@List.ext_getElem
def nR:=@List.range'_succ
def fB:=@List.length_take
def bM:=@List.take_length
def kX:=@List.length_drop
def jv:=@Nat.le_add_right
def nN:=@List.all_eq_true
def O5:=@List.getElem_mem
def sU:=@Option.bind_some
def fD:=@Option.getD_some
def sS:=@List.not_mem_nil
def Y7:=@List.filter_cons
def Dw:=@List.drop_length
def sQ:=@Bool.not_eq_true
def nO:=@List.any_eq_true
def fA:=@Int.ediv_le_self
def E9:=@List.mem_append
def G7:=@List.append_nil
def eQ:=@Nat.le_max_left
def J9:=@List.nil_append
def H6:=@List.cons.injEq
def pO:=@Oper.upon_value
def pK:=@Bool.eq_iff_iff
def fQ:=@List.length_nil
def az:=@List.nodup_cons
def aQ:=@Option.some.inj
def ja:=@Nat.min_eq_left
def bJ:=@List.map_append
def ui:=@Int.natCast_mul
def dA:=@List.foldl_cons
def eH:=@List.length_set
def H9:=@List.length_map
def jR:=@Option.map_some
def eP:=@List.range_succ
def pM:=@Bool.or_eq_true
def Y8:=@List.mem_filter
def yu:=@List.any_append
def uj:=@Int.natCast_pow
def P5:=@Int.emod_nonneg
def Y2:=@Int.ediv_nonneg
def kL:=@List.drop_take
def jo:=@List.take_take
def aN:=@List.drop_drop
def fJ:=@List.nodup_nil
def mY:=@List.drop_zero
def X7:=@List.mem_range
def P7:=@Int.mul_nonneg
def kK:=@Int.mul_le_mul
def D6:=@List.mem_cons
def ou:=@Nat.add_assoc
def bW:=@List.map_cons
def jf:=@Addr.mk.injEq
def X4:=@List.cons.inj
def rW:=@Nat.lt_irrefl
def lI:=@Prod.mk.injEq
def AU:=@Bool.true_and
def og:=@Bool.not_true
def Si:=@Bool.false_or
def bI:=@Nat.sub_self
def jy:=@List.map_nil
def au:=@Sem.run_pure
def I4:=@Sem.run_bind
def dL:=@Nat.add_zero
def jw:=@Addr.add_lit
def iq:=@Nat.zero_add
def xJ:=@List.map_map
def O9:=@List.mem_map
def aU:=@Nat.le_trans
def E8:=@Nat.le_refl
def L8:=@Nat.add_mul
def gX:=@Nat.zero_le
def bY:=@Nat.mul_one
def bZ:=@Nat.one_mul
def fV:=@Int.le_refl
def iP:=@Int.add_mul
def fZ:=@Int.one_mul
def lS:=@Int.sub_mul
def kz:=@Int.neg_mul
def gq:=@Nat.blt_eq
def lu:=@Array.ext'
def gW:=@Int.not_lt
def lw:=@Int.not_le
def fE:=@Prod.ext
variable {i:Nat}
theorem aO{α:Type _}{l:List α}{a:α} :l[i]? =some a↔∃h:i<l.length,l[i]=a:=List.getElem?_eq_some_iff
theorem fO{α:Type _}{l:List α}(h:i<l.length):l[i]? =some l[i]:=List.getElem?_eq_getElem h
theorem iI{n m:Nat}(h:Nat.beq n m=true):n=m:=Nat.eq_of_beq_eq_true h
theorem mM{α:Type _}{l:List α}{a:α}(h:l[i]? =some a):a∈l:=List.mem_of_getElem? h
theorem zM{α:Type _}{l:List α}{a:α} :l.getD i a=l[i]?.getD a:=List.getD_eq_getElem?_getD
universe u
set_option linter.unusedVariables false
inductive Ty where
 |bool|int (k:IntKind)|str|sl (t:Ty)|prod (a b:Ty)|unit|ent (ka va:Bool) (k v:Ty)|any (o:Option IntKind)
def tbb(a b:Bool):Bool:=bif a then b else !b
theorem a7X:∀{a b:Bool},tbb a b=true->a=b:=by decide
theorem a5A:∀(a:Bool),tbb a a=true:=by decide
def Ty.beq:Ty->Ty->Bool
 | .bool,b=>match b with| .bool=>true|_=>false
 | .int k,b=>match b with| .int k' =>decide (k=k')|_=>false
 | .str,b=>match b with| .str=>true|_=>false
 | .sl t,b=>match b with| .sl u=>Ty.beq t u|_=>false
 | .prod p q,b=>match b with| .prod p' q' =>bif Ty.beq p p' then Ty.beq q q' else false|_=>false
 | .unit,b=>match b with| .unit=>true|_=>false
 | .any o,b=>match b with| .any o' =>decide (o=o')|_=>false
 | .ent x y p q,b=>match b with| .ent x' y' p' q' =>bif tbb x x' &&tbb y y' then(bif Ty.beq p p' then Ty.beq q q' else false)else false|_=>false
theorem Ty.beq_eq:∀{a b:Ty},Ty.beq a b=true->a=b
 | .bool,b,h=>by cases b<;>first|rfl|cases h
 | .int k,b,h=>by cases b<;>first|(cases h;done)|(rename_i k';have:=of_decide_eq_true (show decide (k=k')=true from h);subst this;rfl)
 | .str,b,h=>by cases b<;>first|rfl|cases h
 | .sl t,b,h=>by cases b<;>first|(cases h;done)|(rename_i u;have:=Ty.beq_eq (show Ty.beq t u=true from h);subst this;rfl)
 | .prod p q,b,h=>by
  cases b<;>try (cases h;done)
  rename_i p' q';cases hp:Ty.beq p p'
  .have h' :(bif Ty.beq p p' then Ty.beq q q' else false)=true:=h;rw[hp]at h';cases h'
  .have h' :(bif Ty.beq p p' then Ty.beq q q' else false)=true:=h;rw[hp]at h';rw[Ty.beq_eq hp,Ty.beq_eq (show Ty.beq q q' =true from h')]
 | .unit,b,h=>by cases b<;>first|rfl|cases h
 | .any o,b,h=>by cases b<;>first|(cases h;done)|(rename_i o';have:=of_decide_eq_true (show decide (o=o')=true from h);subst this;rfl)
 | .ent x y p q,b,h=>by
  cases b<;>try (cases h;done)
  rename_i x' y' p' q';have h0:(bif tbb x x' &&tbb y y' then(bif Ty.beq p p' then Ty.beq q q' else false)else false)=true:=h;cases hx:tbb x x'<;>cases hy:tbb y y'<;>rw[hx,hy]at h0<;>try (cases h0;done)
  cases hp:Ty.beq p p'<;>rw[hp]at h0
  .cases h0
  .rw[a7X hx,a7X hy,Ty.beq_eq hp,Ty.beq_eq (show Ty.beq q q' =true from h0)]
theorem Ty.beq_refl:∀(a:Ty),Ty.beq a a=true
 | .bool=>rfl| .int k=>by show decide (k=k)=true;simp| .str=>rfl| .sl t=>Ty.beq_refl t| .prod p q=>by show(bif Ty.beq p p then Ty.beq q q else false)=true;rw[Ty.beq_refl p,Ty.beq_refl q];rfl| .unit=>rfl| .any o=>by show decide (o=o)=true;simp| .ent x y p q=>by show(bif tbb x x&&tbb y y then(bif Ty.beq p p then Ty.beq q q else false)else false)=true;rw[a5A,a5A,Ty.beq_refl p,Ty.beq_refl q];rfl
instance:DecidableEq Ty:=λa b=>match h:Ty.beq a b with
 |true=> .isTrue (Ty.beq_eq h)|false=> .isFalse (λe=>by subst e;rw[Ty.beq_refl]at h;cases h)
@[reducible] def Ty.den:Ty->Type
 | .bool=>Bool| .int _=>Int| .str=>d4H| .sl t=>List t.den| .prod a b=>a.den×b.den| .unit=>Unit| .any _=>Unit| .ent _ _ a b=>a.den×b.den
def Ty.isEnt:Ty->Bool| .ent ..=>true|_=>false
def Ty.size:Ty->Nat
 | .bool| .int _| .str| .sl _=>1| .prod a b=>a.size+b.size| .unit=>0| .any _=>1| .ent _ _ a b=>a.size+b.size
def Ty.flat:Ty->Bool
 | .bool| .int _| .str| .unit=>true| .sl _=>false| .prod a b=>a.flat&&b.flat
 | .ent ..=>false| .any _=>false
def Ty.zero:(t:Ty)->t.den
 | .bool=>false| .int _=>(0:Int)| .str=>[]| .sl _=>[]| .prod a b=>(a.zero,b.zero)| .unit=>()| .any _=>()| .ent _ _ a b=>(a.zero,b.zero)
inductive M where
 |dat (t:Ty)|own (t:Ty)|pair (a b:M)|unit|box (m:M)
 |owns (el:M)|ownb (t:Ty)|rp (t:Ty)|fn (f:Nat) (ts:List Ty)|ifc (t:Nat) (m:M)|cell (n:Option d4L)|fr (t:Ty)|sbx (tb te:Nat)|sit|lp (t:Ty)|dv (k off sz fo:Nat)
def M.beq:M->M->Bool
 | .dat t,b=>match b with| .dat u=>Ty.beq t u|_=>false
 | .own t,b=>match b with| .own u=>Ty.beq t u|_=>false
 | .pair p q,b=>match b with| .pair p' q' =>bif M.beq p p' then M.beq q q' else false|_=>false
 | .unit,b=>match b with| .unit=>true|_=>false
 | .owns m,b=>match b with| .owns m' =>M.beq m m'|_=>false
 |_,_=>false
theorem M.beq_eq:∀{a b:M},M.beq a b=true->a=b
 | .dat t,b,h=>by cases b<;>first|(cases h;done)|(rename_i u;have:=Ty.beq_eq (show Ty.beq t u=true from h);subst this;rfl)
 | .own t,b,h=>by cases b<;>first|(cases h;done)|(rename_i u;have:=Ty.beq_eq (show Ty.beq t u=true from h);subst this;rfl)
 | .pair p q,b,h=>by
  cases b<;>try (cases h;done)
  rename_i p' q';cases hp:M.beq p p'
  .have h' :(bif M.beq p p' then M.beq q q' else false)=true:=h;rw[hp]at h';cases h'
  .have h' :(bif M.beq p p' then M.beq q q' else false)=true:=h;rw[hp]at h';rw[M.beq_eq hp,M.beq_eq (show M.beq q q' =true from h')]
 | .unit,b,h=>by cases b<;>first|rfl|cases h
 | .owns m,b,h=>by cases b<;>first|(cases h;done)|(rename_i u;have:=M.beq_eq (show M.beq m u=true from h);subst this;rfl)
 | .box _,b,h=>by cases h| .ownb _,b,h=>by cases h| .rp _,b,h=>by cases h| .fn _ _,b,h=>by cases h| .ifc _ _,b,h=>by cases h| .cell _,b,h=>by cases h| .fr _,b,h=>by cases h| .sbx _ _,b,h=>by cases h| .lp _,b,h=>by cases h| .dv ..,b,h=>by cases h| .sit,b,h=>by cases h
@[reducible] def Wl:List Ty->Type
 |[]=>Unit|[t]=>t.den|t::t' ::r=>t.den×Wl (t' ::r)
@[reducible] def M.den:M->Type
 | .dat t=>t.den| .own t=>List t.den| .pair a b=>a.den×b.den| .unit=>Unit| .box m=>m.den| .owns el=>List el.den| .ownb t=>List t.den| .rp t=>t.den| .fn _ ts=>Wl ts| .ifc _ m=>m.den| .cell _=>Unit| .fr t=>List t.den| .sbx _ _=>d4H| .sit=>d4H×Int| .lp t=>t.den| .dv ..=>Unit
def M.size:M->Nat
 | .dat t=>t.size| .own _=>1| .pair a b=>a.size+b.size| .unit=>0| .box _=>1| .owns _| .ownb _| .rp _| .fn _ _| .ifc _ _| .cell _| .fr _| .sbx _ _| .sit| .lp _| .dv ..=>1
def M.el:M->Bool
 | .unit=>true| .dat t| .own t=> !t.isEnt| .owns m=>m.el| .pair a b=>a.el&&b.el|_=>false
def M.ty:M->Ty
 | .dat t=>t| .own t=> .sl t| .owns m=> .sl m.ty| .pair a b=> .prod a.ty b.ty|_=> .unit
theorem M.denEq:∀(m:M),m.el=true->m.den=m.ty.den
 | .dat _,_=>rfl| .own _,_=>rfl| .unit,_=>rfl| .owns m,h=>congrArg List (M.denEq m h)| .pair a b,h=>by
  have h' :a.el=true/\b.el=true:=by simpa[M.el]using h
  show(a.den×b.den)=(a.ty.den×b.ty.den);rw[M.denEq a h'.1,M.denEq b h'.2]
 | .box _,h=>by simp[M.el]at h| .ownb _,h=>by simp[M.el]at h| .rp _,h=>by simp[M.el]at h| .fn _ _,h=>by simp[M.el]at h| .ifc _ _,h=>by simp[M.el]at h| .cell _,h=>by simp[M.el]at h| .fr _,h=>by simp[M.el]at h| .sbx _ _,h=>by simp[M.el]at h| .lp _,h=>by simp[M.el]at h| .dv ..,h=>by simp[M.el]at h| .sit,h=>by simp[M.el]at h
def M.zero:(m:M)->m.el=true->m.den
 |m,h=>cast (M.denEq m h).symm m.ty.zero
abbrev MG:=Bool×M
@[reducible] def ay:List MG->Type
 |[]=>Unit|[m]=>m.2.den|m::m' ::r=>m.2.den×ay (m' ::r)
inductive V where
 |undef
 |un
 |b (x:Bool)|i (k:IntKind) (n:Int)|s (l:d4H)
 |nl
 |sl (t:Ty) (xs:List t.den)
 |own (bx:Nat) (vw:Option (Nat×Nat))
 |ptr (bx off:Nat)
 |ep (bx idx off:Nat)
 |dp (t:Ty) (x:t.den) (off:Nat)
 |agg (cs:List V)|tup (cs:List V)
 |glob (g:Nat)|fnv (f:Nat)|idl (f n:Nat)|clos (f:Nat) (caps:List ((t:Ty)×t.den))|ifc (t:Nat) (v:V)
 |bcells (cs:List V)|barr (t:Ty) (xs:List t.den)|bfrz (t:Ty) (xs:List t.den)|biter (l:d4H) (pos:Int)
 |barrs (el:M) (xs:List el.den) (hole:Option (Nat×Nat×Option Nat))|bfc (t:Ty) (x:t.den)
 |dead|gone (t:Ty)|blen (n:Int) (sz:Nat)
 |ne (b:Bool)
 |npt|bsb (tb:Nat) (c:V)|brow (te:Nat) (xs:d4H)
def l9{α β:Type}(o:Option α)(f:α->Option β):Option β:=match o with|some x=>f x|none=>none
variable {α:Type}
def l7(b:Bool)(x y:α):α:=match b with|true=>x|false=>y
def E5(a b:Int):Bool:=decide (a<b)
def J8(a b:Int):Bool:=decide (a<=b)
def o9(a b:Int):Bool:=decide (a=b)
def jY(a b:Bool):Bool:=a==b
def D9(a:Bool):Bool:=!a
def fG(a b:Bool):Bool:=a&&b
def seq(a b:d4H):Bool:=decide (a=b)
def slt(a b:d4H):Bool:=Op.bytesLess a b
def wrap(k:IntKind)(n:Int):Int:=k.wrap n
def C9(k:IntKind)(a b:Int):Int:=k.wrap (a+b)
def G8(k:IntKind)(a b:Int):Int:=k.wrap (a -b)
def Z7(k:IntKind)(a b:Int):Int:=k.wrap (a*b)
def cZ(k:IntKind)(a b:Int):Int:=k.wrap (a.tdiv b)
def dG(a b:Int):Int:=a.tmod b
def qH(k:IntKind)(a b:Int):d4M:=if b=0 then none else some (k.wrap (a.tdiv b))
def zt(a b:Int):d4M:=if b=0 then none else some (a.tmod b)
def a3V(k:IntKind)(a b:Int):Int:=k.wrap (BitVec.ofInt k.bits a&&& BitVec.ofInt k.bits b).toNat
def ior(k:IntKind)(a b:Int):Int:=k.wrap (BitVec.ofInt k.bits a ||| BitVec.ofInt k.bits b).toNat
def b2q(k:IntKind)(a b:Int):Int:=k.wrap (BitVec.ofInt k.bits a^^^BitVec.ofInt k.bits b).toNat
def a8G(k:IntKind)(a b:Int):Int:=k.wrap (BitVec.ofInt k.bits a&&& ~~~(BitVec.ofInt k.bits b)).toNat
def b2o(k:IntKind)(a b:Int):Int:=k.wrap (a*2^(min b.toNat k.bits))
def uG(k:IntKind)(a b:Int):Int:=a.fdiv (2^(min b.toNat k.bits))
def Zb(k:IntKind)(a b:Int):d4M:=if b<0 then none else some (b2o k a b)
def Zc(k:IntKind)(a b:Int):d4M:=if b<0 then none else some (uG k a b)
def qG(a b:Int):Int:=if b<a then b else a
def mZ(a b:Int):Int:=if a<b then b else a
def o8(l:List α):Int:=l.length
def V9(a b:d4H):Option d4H:=if a.length+b.length<=4611686018427387904 then some (a++b)else none
def Fh(a b:Nat):Bool:=Nat.beq a b
def inb(i n:Int):Bool:=decide (0<=i/\i<n)
def G9(l:List α)(i:Int):Option α:=if 0<=i then l[i.toNat]? else none
def KX(l:d4H)(p:Int):Int:=((Utf8.decode ⟨l.toArray⟩ p.toNat).1:Int)
def PP(l:d4H)(p:Int):Int:=p+((Utf8.decode ⟨l.toArray⟩ p.toNat).2:Int)
def sat(l:d4H)(i:Int):d4M:=if 0<=i then(l[i.toNat]?).map (λc=>(c.toNat:Int))else none
def X8(l:List α)(i:Nat):Option α:=l[i]?
def aW(l:List α)(i:Nat)(x:α):List α:=l.set i x
def nH(l:List α)(lo hi:Int):Option (List α):=if 0<=lo/\lo<=hi/\hi<=l.length then some ((l.take hi.toNat).drop lo.toNat)else none
def mP(l:List α)(lo hi:Nat):List α:=(l.take hi).drop lo
def pX(lo hi n:Int):Bool:=decide (0<=lo/\lo<=hi/\hi<=n)
def dB(xs ys:List α):Option (List α):=if xs.length+ys.length<=1073741824 then some (xs++ys)else none
def tq(n:Int)(x:α):Option (List α):=if 0<=n/\n<=1073741824 then some (List.replicate n.toNat x)else none
def U8(i:Int):Nat:=i.toNat
def d4E(n:Int):UInt8:=UInt8.ofNat n.toNat
def a5Z(l:d4I):d4H:=l.map d4E
def Q_(l:d4H):d4I:=l.map λc=>(c.toNat:Int)
def b6W{α:Type}(eq:α->α->Bool):List α->List α->Bool
 |[],[]=>true|a::r,b::q=>eq a b&&b6W eq r q|_,_=>false
def YA:(t:Ty)->t.den->t.den->Bool
 | .bool=>λa b=>tbb a b
 | .int _=>λa b=>decide (a=b)
 | .str=>λa b=>decide (a=b)
 | .sl t=>λa b=>b6W (YA t) a b
 | .prod p q=>λa b=>YA p a.1 b.1&&YA q a.2 b.2
 | .unit=>λ_ _=>true
 | .any _=>λ_ _=>true
 | .ent _ _ p q=>λa b=>YA p a.1 b.1&&YA q a.2 b.2
def deq(t:Ty)(a b:t.den):Bool:=YA t a b
inductive Out (σ ε ρ:Type) where
 |nx (s:σ)|ex (e:ε)|rt (r:ρ)
variable {σ:Type}{ε:Type}
def U4(o:σ⊕ε)(f:σ->α)(g:ε->α):α:=match o with| .inl s=>f s| .inr e=>g e
def rX{σ ε ρ:Type}(f:σ->Option (Out σ ε ρ)):Nat->σ->Option (ε⊕ρ)
 |0,_=>none
 |n+1,s=>match f s with
  |some (.nx s')=>rX f n s'|some (.ex e)=>some (.inl e)|some (.rt r)=>some (.inr r)|none=>none
def sZ{σ ε:Type}(f:σ->Option (σ⊕ε)):Nat->σ->Option ε
 |0,_=>none
 |n+1,s=>match f s with
  |some (.inl s')=>sZ f n s'|some (.inr e)=>some e|none=>none
def lH:Nat:=18446744073709551616
variable {ρ:Type}
def U3(f:σ->Option (Out σ ε ρ))(s:σ):Option (ε⊕ρ):=rX f lH s
def aX(f:σ->Option (σ⊕ε))(s:σ):Option ε:=sZ f lH s
inductive Cmd (α:Type):Type 1 where
 |ret (x:α)
 |fail
 |get (k:Nat) (c:V->Cmd α)
 |set (k:Nat) (v:V) (c:Cmd α)
 |opt {β:Type} (o:Option β) (c:β->Cmd α)
 |br (b:Bool) (c d:Cmd α)
inductive Ent where
 |kv (k:Nat) (v:V)|mask (lo hi:Nat)
abbrev St:=List Ent
def gI:St->Nat->V
 |[],_=> .undef| .kv k v::r,n=>bif Nat.beq k n then v else gI r n| .mask lo hi::r,n=>bif Nat.ble lo n&&Nat.blt n hi then .undef else gI r n
abbrev Tr:=d4K×d4K
variable {R:Type}
def V.force(v:V)(K:V->R):R:=
 match v with
 | .undef=>K .undef| .un=>K .un| .b x=>K (.b x)
 | .i k n=>match k with
  | .i8=>K (.i .i8 n)| .i16=>K (.i .i16 n)| .i32=>K (.i .i32 n)| .i64=>K (.i .i64 n)| .u8=>K (.i .u8 n)| .u16=>K (.i .u16 n)| .u32=>K (.i .u32 n)| .u64=>K (.i .u64 n)
 | .s l=>K (.s l)| .nl=>K .nl| .ne z=>K (.ne z)| .sl t xs=>K (.sl t xs)
 | .own bx vw=>match vw with|none=>K (.own bx none)|some p=>K (.own bx (some p))
 | .ptr bx off=>K (.ptr bx off)| .ep bx idx off=>K (.ep bx idx off)| .dp t x off=>K (.dp t x off)| .agg cs=>K (.agg cs)| .tup cs=>K (.tup cs)| .glob g=>K (.glob g)| .fnv f=>K (.fnv f)| .idl f n=>K (.idl f n)| .clos f bs=>K (.clos f bs)
 | .ifc t v=>v.force λv=>K (.ifc t v)
 | .barrs t xs h=>match h with|none=>K (.barrs t xs none)|some (p1,p2,p3)=>match p3 with|none=>K (.barrs t xs (some (p1,p2,none)))|some p3=>K (.barrs t xs (some (p1,p2,some p3)))
 | .bfc t x=>K (.bfc t x)| .bcells cs=>K (.bcells cs)| .barr t xs=>K (.barr t xs)| .bfrz t xs=>K (.bfrz t xs)| .biter l p=>K (.biter l p)| .dead=>K .dead| .gone t=>K (.gone t)| .blen n sz=>K (.blen n sz)| .npt=>K .npt
 | .bsb tb c=>c.force λc=>K (.bsb tb c)| .brow te xs=>K (.brow te xs)
def Vw{R:Type} :List V->(List V->R)->R
 |[],K=>K []
 |v::r,K=>v.force λv' =>Vw r λr' =>K (v' ::r')
def V.force2(v:V)(K:V->R):R:=
 v.force λv=>match v with
  | .agg cs=>Vw cs λcs=>K (.agg cs)
  | .bcells cs=>Vw cs λcs=>K (.bcells cs)
  | .tup cs=>Vw cs λcs=>K (.tup cs)|v=>K v
def Cmd.runK :Cmd α->St->Tr->(α->St->Tr->Option R)->Option R
 | .ret x,s,t,K=>K x s t| .fail,_,_,_=>none
 | .get k c,s,t,K=>(gI s k).force λv=>(c v).runK s (k::t.1,t.2) K
 | .set k v c,s,t,K=>v.force2 λv=>c.runK (.kv k v::s) (t.1,k::t.2) K
 | .opt o c,s,t,K=>l9 o λx=>(c x).runK s t K| .br b c d,s,t,K=>l7 b (c.runK s t K) (d.runK s t K)
def Cmd.bind{α β:Type} :Cmd α->(α->Cmd β)->Cmd β
 | .ret x,f=>f x| .fail,_=> .fail
 | .get k c,f=> .get k λv=>(c v).bind f| .set k v c,f=> .set k v (c.bind f)
 | .opt o c,f=> .opt o λx=>(c x).bind f| .br b c d,f=> .br b (c.bind f) (d.bind f)
inductive TD where
 |bool|int (k:IntKind)|str
 |sl (elem:Nat)|ptr (elem:Nat)
 |struct (fs:List (Nat×Nat))
 |arr (n elem:Nat)
 |map (key elem:Nat)
 |other
structure TI where
 size:Nat
 bytes:Nat
 td:TD
 ty:Option Ty
 zero:List V
def fP{α:Type} :List (Nat×α)->Nat->Option α
 |[],_=>none|(k,v)::r,n=>bif Nat.beq k n then some v else fP r n
structure FSpec where
 ps:List MG
 rs:List MG
 outs:List MG
 fn:ay ps->Option (ay (rs++outs))
structure Env where
 nt:Nat
 eqs:List (Nat×List Ty)
 tt:List (Nat×TI)
 gl:List (Nat×(t:Ty)×List t.den)
 fs:List (Nat×FSpec)
 om:List (Nat×M):=[]
 tk:d4K:=[]
 ms:List ((Nat×String)×Nat×Option Nat):=[]
 kp:d4K:=[]
 rc:d4K:=[]
 pl:List (Nat×Nat×Nat):=[]
abbrev aS:Nat:=1000000
abbrev CB:Nat:=1000000
abbrev RH:Nat:=1000000000000
def Ty.castL{R:Type u}(a b:Ty)(xs:List a.den)(k:List b.den->R)(f:R):R:=if h:a=b then k (h▸xs)else f
def Yp{R:Type u}(a b:Ty)(x:a.den)(k:b.den->R)(f:R):R:=if h:a=b then k (h▸x)else f
def flat:(t:Ty)->t.den->List V->List V
 | .bool,x,r=> .b x::r| .int k,n,r=> .i k n::r| .str,l,r=> .s l::r| .sl t,xs,r=> .sl t xs::r| .prod a b,x,r=>flat a x.1 (flat b x.2 r)| .unit,_,r=>r| .any _,_,r=> .undef::r| .ent _ _ a b,x,r=>flat a x.1 (flat b x.2 r)
def jW(vw:Option (Nat×Nat))(xs:List α):List α:=match vw with|none=>xs|some (lo,hi)=>mP xs lo hi
def Ny:(m:M)->m.den->List V->List V
 | .dat t,x,r=>flat t x r| .pair a b,x,r=>Ny a x.1 (Ny b x.2 r)| .unit,_,r=>r|_,_,r=> .undef::r
def a8z{R:Type u}(a b:M)(xs:List a.den)(k:List b.den->R)(f:R):R:=match h:M.beq a b with
 |true=>k (M.beq_eq h▸xs)|false=>f
def a6r{R:Type u}(m:M)(t:Ty)(xs:List m.den)(k:List t.den->R)(f:R):R:=
 if h:m.el=true/\m.ty=t then k (cast (congrArg List ((M.denEq m h.1).trans (congrArg Ty.den h.2))) xs)else f
def M.owned:M->List Ty
 | .own t=>[t]| .owns m=>m.ty::m.owned| .pair a b=>a.owned++b.owned|_=>[]
def a3e(ln:Ty->Bool):List Ty->Bool|[]=>true|t::r=>bif ln t then a3e ln r else false
def oD{α:Type}(ln:Ty->Bool):(t:Ty)->List V->(t.den->List V->Cmd α)->Cmd α
 | .bool,cs,K=>match cs with| .b x::r=>K x r|_=> .fail
 | .int k,cs,K=>match cs with| .i k' n::r=>(bif decide (k=k')then K n r else Cmd.fail)|_=> .fail
 | .str,cs,K=>match cs with| .s l::r=>K l r|_=> .fail
 | .prod a b,cs,K=>oD ln a cs λx r=>oD ln b r λy r' =>K (x,y) r'| .unit,cs,K=>K () cs
 | .any none,cs,K=>match cs with|_::r=>K () r|_=> .fail
 | .any (some k),cs,K=>match cs with| .i k' _::r=>bif decide (k=k')then K () r else Cmd.fail|_=> .fail
 | .ent ..,_,_=> .fail
 | .sl t,cs,K=>match cs with
  | .nl::r=>bif t.isEnt then .fail else K [] r| .sl t' xs::r=>Ty.castL t' t xs (λys=>K ys r) Cmd.fail
  | .own bx vw::r=> .get (aS+bx) λ
   | .barr t' xs=>Ty.castL t' t xs (λys=>bif ln t then K (jW vw ys) r else Cmd.set (aS+bx) (.bfrz t ys) (K (jW vw ys) r)) Cmd.fail| .bfrz t' xs=>Ty.castL t' t xs (λys=>K (jW vw ys) r) Cmd.fail| .barrs el xs none=>a6r el t xs (λys=>bif ln t&&a3e ln el.owned then K (jW vw ys) r else Cmd.set (aS+bx) (.bfrz t ys) (K (jW vw ys) r)) Cmd.fail|_=> .fail
  |_=> .fail
def Du:Ty->Bool:=λ_=>false
def b0K(t:Ty)(v:V)(K:List t.den->Cmd α):Cmd α:=match v with
 | .nl=>bif t.isEnt then .fail else K []| .ne _=>bif t.isEnt then .fail else K []| .sl t' xs=>Ty.castL t' t xs K Cmd.fail
 | .own bx vw=> .get (aS+bx) λ
  | .barr t' xs=>Ty.castL t' t xs (λys=>K (jW vw ys)) Cmd.fail| .bfrz t' xs=>Ty.castL t' t xs (λys=>K (jW vw ys)) Cmd.fail|_=> .fail
 |_=> .fail
def rpC(t:Ty)(v:V)(K:t.den->Cmd α):Cmd α:=match v with
 | .dp t' x 0=>Yp t' t x K .fail
 | .ptr bx 0=> .get (aS+bx) λ
  | .bfc t' x=>Yp t' t x K .fail
  | .bcells bs=>oD Du t bs λx q=>(match q with
   |[]=> .get (aS+bx) λ
    | .bcells _=>Cmd.set (aS+bx) (.bfc t x) (K x)|_=> .fail
   |_=> .fail)
  |_=> .fail
 |_=> .fail
def lpC(ln:Ty->Bool)(t:Ty)(v:V)(K:t.den->Cmd α):Cmd α:=match v with
 | .dp t' x 0=>Yp t' t x K .fail
 | .ptr bx 0=> .get (aS+bx) λ
  | .bcells bs=>bif ln t then oD ln t bs λx q=>(match q with
   |[]=> .get (aS+bx) λ
    | .bcells _=>K x|_=> .fail
   |_=> .fail)else .fail
  |_=> .fail
 |_=> .fail
def RN{α:Type} :(ts:List Ty)->List ((t:Ty)×t.den)->(Wl ts->Cmd α)->Cmd α
 |[],cs,K=>match cs with|[]=>K ()|_=> .fail
 |[t],cs,K=>match cs with|[⟨t',x⟩]=>Yp t' t x K .fail|_=> .fail
 |t::t' ::r,cs,K=>match cs with
  |⟨u,x⟩::cs=>Yp u t x (λx=>RN (t' ::r) cs λy=>K (x,y)) .fail|[]=> .fail
def Wi:(ts:List Ty)->Wl ts->List ((t:Ty)×t.den)
 |[],_=>[]|[t],x=>[⟨t,x⟩]|t::t' ::r,x=>⟨t,x.1⟩::Wi (t' ::r) x.2
def sbC(te:Nat)(c:V)(K:d4H->Cmd α):Cmd α:=match c with
 | .nl=>K []
 | .own b none=> .get (aS+b) λ
  | .brow te' xs=>bif Nat.beq te' te then Cmd.set (aS+b) .dead (K xs)else .fail|_=> .fail
 |_=> .fail
def exM{α:Type}(ln:Ty->Bool):(m:M)->List V->(m.den->List V->Cmd α)->Cmd α
 | .dat t,cs,K=>oD ln t cs K
 | .own t,cs,K=>match cs with
  | .nl::r=>bif t.isEnt then .fail else K [] r
  | .own bx vw::r=> .get (aS+bx) λ
   | .barr t' xs=>Ty.castL t' t xs (λys=>Cmd.set (aS+bx) .dead (K (jW vw ys) r)) Cmd.fail|_=> .fail
  |_=> .fail
 | .pair a b,cs,K=>exM Du a cs λx r=>exM Du b r λy r' =>K (x,y) r'| .unit,cs,K=>K () cs
 | .box m,cs,K=>match cs with
  | .ptr bx 0::r=> .get (aS+bx) λ
   | .bcells bs=>Cmd.set (aS+bx) .dead (exM Du m bs λx q=>match q with|[]=>K x r|_=> .fail)|_=> .fail
  |_=> .fail
 | .owns m,cs,K=>match cs with
  | .nl::r=>bif m.el then K [] r else .fail
  | .own bx none::r=> .get (aS+bx) λ
   | .barrs m' xs none=>a8z m' m xs (λys=>Cmd.set (aS+bx) .dead (K ys r)) Cmd.fail|_=> .fail
  |_=> .fail
 | .ownb t,cs,K=>match cs with
  | .nl::r=>bif t.isEnt then .fail else K [] r
  | .own bx none::r=> .get (aS+bx) λ
   | .barr t' xs=>Ty.castL t' t xs (λys=>Cmd.set (aS+bx) (.gone t) (K ys r)) Cmd.fail|_=> .fail
  |_=> .fail
 | .rp t,cs,K=>match cs with
  |v::r=>rpC t v λx=>K x r|_=> .fail
 | .fn f ts,cs,K=>match cs with
  | .clos g caps::r=>bif Nat.beq g f then RN ts caps λx=>K x r else .fail
  | .fnv g::r=>bif Nat.beq g f then RN ts [] λx=>K x r else .fail|_=> .fail
 | .ifc t m,cs,K=>match cs with
  | .ifc t' v::r=>bif Nat.beq t' t then exM Du m [v] λx q=>(match q with|[]=>K x r|_=> .fail)else .fail|_=> .fail
 | .cell (some none),cs,K=>match cs with
  | .nl::r=>K () r|_=> .fail
 | .cell (some (some b)),cs,K=>match cs with
  | .ne true::r=>bif b then K () r else .fail| .ne false::r=>bif b then .fail else K () r|_=> .fail
 | .cell none,cs,K=>match cs with
  |_::r=>K () r|_=> .fail
 | .fr t,cs,K=>match cs with
  | .nl::r=>bif t.isEnt then .fail else K [] r
  | .own bx none::r=> .get (aS+bx) λ
   | .barr t' xs=>Ty.castL t' t xs (λys=>Cmd.set (aS+bx) (.bfrz t ys) (K ys r)) Cmd.fail| .bfrz t' xs=>Ty.castL t' t xs (λys=>K ys r) Cmd.fail|_=> .fail
  |_=> .fail
 | .sit,cs,K=>match cs with
  | .ptr bx 0::r=> .get (aS+bx) λ
   | .biter l p=>Cmd.set (aS+bx) .dead (K (l,p) r)|_=> .fail
  |_=> .fail
 | .lp t,cs,K=>match cs with
  |v::r=>lpC ln t v λx=>K x r|_=> .fail
 | .dv ..,cs,K=>match cs with
  |_::r=>K () r|_=> .fail
 | .sbx tb te,cs,K=>match cs with
  | .ptr bx 0::r=> .get (aS+bx) λ
   | .bsb tb' c=>bif Nat.beq tb' tb then(sbC te c λys=>Cmd.set (aS+bx) .dead (K ys r))else .fail|_=> .fail
  |_=> .fail
def cellsOf(v:V):List V:=match v with| .agg cs=>cs|v=>[v]
def xQ(n:Nat)(v:V)(K:Cmd α):Cmd α:=.get (aS+n) λ
 | .undef=> .set (aS+n) v K|_=> .fail
def emM{α:Type} :(m:M)->m.den->Nat->List V->(List V->Nat->Cmd α)->Cmd α
 | .dat t,x,n,r,K=>K (flat t x r) n| .own t,xs,n,r,K=>xQ n (.barr t xs) (K (.own n none::r) (n+1))
 | .pair a b,x,n,r,K=>emM b x.2 n r λr' n' =>emM a x.1 n' r' K| .unit,_,n,r,K=>K r n
 | .box m,x,n,r,K=>emM m x (n+1) [] λcs n' =>xQ n (.bcells cs) (K (.ptr n 0::r) n')| .owns m,xs,n,r,K=>xQ n (.barrs m xs none) (.set (aS+(RH+n)) (.blen (o8 xs) m.size) (K (.own n none::r) (n+1)))| .ownb t,xs,n,r,K=>xQ n (.barr t xs) (K (.own n none::r) (n+1))| .rp t,x,n,r,K=>K (.dp t x 0::r) n| .fn f ts,x,n,r,K=>K (.clos f (Wi ts x)::r) n
 | .ifc t m,x,n,r,K=>emM m x n [] λcs n' =>match cs with|[c]=>K (.ifc t c::r) n'|_=> .fail
 | .cell (some none),_,n,r,K=>K (.nl::r) n| .cell (some (some b)),_,n,r,K=>K (.ne b::r) n| .cell none,_,n,r,K=>K (.undef::r) n| .fr t,xs,n,r,K=>xQ n (.bfrz t xs) (K (.own n none::r) (n+1))| .sit,x,n,r,K=>xQ n (.biter x.1 x.2) (K (.ptr n 0::r) (n+1))| .lp t,x,n,r,K=>K (.dp t x 0::r) n| .dv ..,_,n,r,K=>K (.undef::r) n| .sbx tb te,xs,n,r,K=>xQ (n+1) (.brow te xs) (xQ n (.bsb tb (.own (n+1) none)) (K (.ptr n 0::r) (n+2)))
structure Sig where
 ms:List (Nat×MG)
 als:List (Nat×Nat)
@[reducible] def sD (s:Sig):Type:=ay (s.ms.map (·.2))
def a1z(ag:Bool)(v:V)(K:List V->Cmd α):Cmd α:=match ag,v with
 |true,.agg cs=>K cs|true,_=> .fail|false,.agg _=> .fail|false,.tup _=> .fail|false,.undef=> .fail|false,.un=> .fail|false,v=>K [v]
def JB(v:V)(K:List V->Cmd α):Cmd α:=match v with
 | .agg cs=>K cs| .tup _=> .fail| .undef=> .fail| .un=> .fail|v=>K [v]
def M.isDat:M->Bool| .dat _=>true| .lp _=>true|_=>false
def YL(ln:Ty->Bool)(m:MG)(v:V)(K:m.2.den->Cmd α):Cmd α:=
 a1z m.1 v λcs=>exM ln m.2 cs λx q=>match q with|[]=>K x|_=> .fail
def QX{α:Type}(ln:Ty->Bool):(ms:List MG)->List V->(ay ms->Cmd α)->Cmd α
 |[],vs,K=>match vs with|[]=>K ()|_=> .fail
 |[m],vs,K=>match vs with
  |[v]=>YL ln m v K|_=> .fail
 |m::m' ::r,vs,K=>match vs with
  |v::vs=>bif m.2.isDat then QX ln (m' ::r) vs λy=>YL ln m v λx=>K (x,y)
   else YL ln m v λx=>QX ln (m' ::r) vs λy=>K (x,y)
  |[]=> .fail
def a1L{α:Type} :d4K->(List V->Cmd α)->Cmd α
 |[],K=>K []
 |s::r,K=>bif Nat.blt s aS then .get s λv=>a1L r λvs=>K (v::vs)else .fail
def b8M:V->V->Bool
 | .own a none,.own b none=>Nat.beq a b|_,_=>false
def b6N{α:Type} :List (Nat×Nat)->Cmd α->Cmd α
 |[],K=>K
 |(n,k)::r,K=>bif Nat.blt n aS&&Nat.blt k aS then .get n λv=> .get k λu=>bif b8M v u then b6N r K else .fail else .fail
def b2d(s:Sig):Cmd (sD s):=b6N s.als (a1L (s.ms.map (·.1)) λvs=>QX Du (s.ms.map (·.2)) vs .ret)
def mkV(ag:Bool)(cs:List V):V:=match ag,cs with|true,cs=> .agg cs|false,[v]=>v|false,_=> .undef
def QV{α:Type} :(ms:List MG)->ay ms->Nat->(List V->Nat->Cmd α)->Cmd α
 |[],_,n,K=>K [] n
 |[m],x,n,K=>emM m.2 x n [] λcs n' =>K [mkV m.1 cs] n'
 |m::m' ::r,x,n,K=>emM m.2 x.1 n [] λcs n' =>QV (m' ::r) x.2 n' λvs n'' =>K (mkV m.1 cs::vs) n''
def QI:d4K->List V->Cmd Unit->Cmd Unit
 |[],[],K=>K|n::ns,v::vs,K=>bif Nat.blt n aS then .set n v (QI ns vs K)else .fail|_,_,_=> .fail
def a2z:List (Nat×Nat)->Cmd Unit
 |[]=> .ret ()
 |(n,k)::r=>bif Nat.blt n aS&&Nat.blt k aS then .get k λv=> .set n v (a2z r)else .fail
def b1Z(s:Sig)(x:sD s)(nb lim:Nat):Cmd Unit:=
 QV (s.ms.map (·.2)) x nb λvs n=>bif Nat.ble n lim then QI (s.ms.map (·.1)) vs (a2z s.als)else .fail
def a6h:Value->V
 | .bool b=> .b b| .int k n=> .i k n| .string s=> .s s.data.toList| .slice none 0 0=> .nl|_=> .undef
def wI(x:Operand)(K:V->Cmd α):Cmd α:=
 match x with
 | .tmp t=>bif Nat.blt t aS then .get t K else .fail| .const v=>K (a6h v)| .global g=>K (.glob g)| .func f=>K (.fnv f)
def Ui{α:Type} :List Operand->(List V->Cmd α)->Cmd α
 |[],K=>K []
 |x::r,K=>wI x λv=>Ui r λvs=>K (v::vs)
def YF(n:Nat)(cs:List V):Option (List V):=match n,cs with
 |0,cs=>some cs|n+1,_::cs=>YF n cs|_+1,[]=>none
def a5y{R:Type u}(n:Nat)(cs:List V)(K:List V->R)(f:R):R:=match n,cs with
 |0,_=>K []|n+1,c::cs=>a5y n cs (λr=>K (c::r)) f|_+1,[]=>f
def Xw{R:Type u}(off n:Nat)(cs:List V)(K:List V->R)(f:R):R:=match YF off cs with|some r=>a5y n r K f|none=>f
def Um{R:Type u}(off:Nat)(vs cs:List V)(K:List V->R)(f:R):R:=match off,vs,cs with
 |0,[],cs=>K cs|0,v::vs,_::cs=>Um 0 vs cs (λr=>K (v::r)) f|n+1,vs,c::cs=>Um n vs cs (λr=>K (c::r)) f|_,_,[]=>f
def GK:Operand->Bool
 | .const (.int _ n)=>decide (n=0)|_=>true
def Ku:Operand->Bool
 | .const (.int _ n)=>decide (n<0)|_=>true
def eq1:V->V->d4L
 | .b x,.b y=>some (jY x y)| .i j x,.i k y=>bif decide (j=k)then some (o9 x y)else none| .s x,.s y=>some (seq x y)|_,_=>none
def BX:List V->List V->d4L
 |[],[]=>some true
 |a::r,b::q=>match eq1 a b with
  |none=>none
  |some e=>match r,q with
   |[],[]=>some e|_,_=>(match BX r q with|some e' =>some (fG e e')|none=>none)
 |_,_=>none
def Di:List Ty->List V->Bool
 |[],[]=>true| .bool::ts,.b _::cs=>Di ts cs| .int k::ts,.i k' _::cs=>decide (k=k')&&Di ts cs| .str::ts,.s _::cs=>Di ts cs|_,_=>false
def Ia(n:Nat):d4K->Bool|[]=>false|k::r=>bif Nat.beq k n then true else Ia n r
def b2N(E:Env)(t:Nat)(op:BinOp)(b:Bool)(K:V->Cmd α):Cmd α:=
 match fP E.tt t with
 |some i=>match i.td,op with
  | .sl _,.eql=>K (.b b)| .sl _,.neq=>K (.b (D9 b))|_,_=> .fail
 |none=> .fail
def Oi(E:Env)(t:Nat)(op:BinOp)(yc:Operand)(x y:V)(K:V->Cmd α):Cmd α:=
 match x,y with
 | .i k a,.i k' b=>
  match op with
  | .shl=>bif Ku yc then Cmd.opt (Zb k a b) λr=>K (.i k r)else K (.i k (b2o k a b))
  | .shr=>bif Ku yc then Cmd.opt (Zc k a b) λr=>K (.i k r)else K (.i k (uG k a b))|_=>
  bif decide (k=k')then
   match op with
   | .add=>K (.i k (C9 k a b))| .sub=>K (.i k (G8 k a b))| .mul=>K (.i k (Z7 k a b))
   | .quo=>bif GK yc then Cmd.opt (qH k a b) λr=>K (.i k r)else K (.i k (cZ k a b))
   | .rem=>bif GK yc then Cmd.opt (zt a b) λr=>K (.i k r)else K (.i k (dG a b))| .and=>K (.i k (a3V k a b))| .or=>K (.i k (ior k a b))| .xor=>K (.i k (b2q k a b))| .andNot=>K (.i k (a8G k a b))| .eql=>K (.b (o9 a b))| .neq=>K (.b (D9 (o9 a b)))| .lss=>K (.b (E5 a b))| .leq=>K (.b (J8 a b))| .gtr=>K (.b (E5 b a))| .geq=>K (.b (J8 b a))|_=> .fail
  else .fail
 | .s a,.s b=>
  match op with
  | .add=>Cmd.opt (V9 a b) λr=>K (.s r)| .eql=>K (.b (seq a b))| .neq=>K (.b (D9 (seq a b)))| .lss=>K (.b (slt a b))|_=> .fail
 | .b a,.b b=>
  match fP E.tt t with
  |some i=>match i.td,op with
   | .bool,.eql=>K (.b (jY a b))| .bool,.neq=>K (.b (D9 (jY a b)))|_,_=> .fail
  |none=> .fail
 | .agg xs,.agg ys=>
  match fP E.eqs t with
  |some sh=>bif Di sh xs&&Di sh ys then(match op,BX xs ys with
   | .eql,some e=>K (.b e)| .neq,some e=>K (.b (D9 e))
   |_,_=> .fail)else .fail
  |none=> .fail
 | .nl,.nl=>b2N E t op true K| .ne b,.nl=>b2N E t op b K| .sl u xs,.nl=>bif u.isEnt then .fail else .br (o9 (o8 xs) 0) .fail (b2N E t op false K)|_,_=> .fail
def unC(op:UnOp)(x:V)(K:V->Cmd α):Cmd α:=
 match op,x with
 | .neg,.i k a=>K (.i k (G8 k 0 a))| .xor,.i k a=>K (.i k (b2q k (bif k.signed then -1 else k.max) a))| .not,.b a=>K (.b (D9 a))|_,_=> .fail
def a0S(E:Env)(t:Nat):Bool:=bif Nat.blt t E.nt then !(Ia t E.kp)else false
def gu(E:Env)(d:Option Tmp)(v:V):Cmd Unit:=match d with|some t=>bif a0S E t then .set t v (.ret ())else .fail|none=> .ret ()
def O8(q:Nat)(d:Option Tmp):Nat:=match d with|some t=>CB*q+64*t|none=>CB*q+999936
def tiC(E:Env)(t:Nat)(K:TI->Cmd α):Cmd α:=match fP E.tt t with|some i=>K i|none=> .fail
def kw:TD->Bool| .struct _| .arr _ _=>true|_=>false
def QZ(E:Env)(t:Nat)(p:V)(K:V->Cmd α):Cmd α:=
 tiC E t λi=>match p with
 | .ptr bx off=> .get (aS+bx) λ
  | .bcells cs=>Xw off i.size cs (λr=>K (mkV (kw i.td) r)) Cmd.fail| .bfc u x=>Xw off i.size (flat u x []) (λr=>K (mkV (kw i.td) r)) Cmd.fail|_=> .fail
 | .ep bx idx off=> .get (aS+bx) λ
  | .barr u xs=>Cmd.opt (X8 xs idx) λx=>Xw off i.size (flat u x []) (λr=>K (mkV (kw i.td) r)) Cmd.fail
  | .bfrz u xs=>Cmd.opt (X8 xs idx) λx=>Xw off i.size (flat u x []) (λr=>K (mkV (kw i.td) r)) Cmd.fail
  | .barrs m xs _=>Cmd.opt (X8 xs idx) λx=>Xw off i.size (Ny m x []) (λr=>K (mkV (kw i.td) r)) Cmd.fail|_=> .fail
 | .dp u x off=>Xw off i.size (flat u x []) (λr=>K (mkV (kw i.td) r)) Cmd.fail|_=> .fail
def ZC{R:Type u} :(m:M)->Nat->m.den->(V->R)->R->R
 | .own t,off,xs,K,f=>bif Nat.beq off 0 then K (.barr t xs)else f| .owns m,off,xs,K,f=>bif Nat.beq off 0 then K (.barrs m xs none)else f| .pair a b,off,x,K,f=>bif Nat.blt off a.size then ZC a off x.1 K f else ZC b (off -a.size) x.2 K f|_,_,_,_,f=>f
def a1S{R:Type u} :(m:M)->Nat->V->m.den->(m.den->R)->R->R
 | .own t,off,v,_,K,f=>bif Nat.beq off 0 then(match v with| .barr t' ys=>Ty.castL t' t ys K f| .nl=>bif t.isEnt then f else K []|_=>f)else f| .owns m,off,v,_,K,f=>bif Nat.beq off 0 then(match v with| .barrs m' ys none=>a8z m' m ys K f| .nl=>K []|_=>f)else f| .pair a b,off,v,x,K,f=>bif Nat.blt off a.size then a1S a off v x.1 (λy=>K (y,x.2)) f else a1S b (off -a.size) v x.2 (λy=>K (x.1,y)) f|_,_,_,_,_,f=>f
def a9U{α:Type} :(m:M)->Nat->List V->m.den->(m.den->Cmd α)->Cmd α
 | .dat t,off,vs,x,K=>bif t.flat then Um off vs (flat t x []) (λr=>oD Du t r λy q=>match q with|[]=>K y|_=> .fail) .fail else .fail| .pair a b,off,vs,x,K=>bif Nat.blt off a.size then a9U a off vs x.1 (λy=>K (y,x.2))else a9U b (off -a.size) vs x.2 (λy=>K (x.1,y))|_,_,_,_,_=> .fail
def M.ownAt:M->Nat->Bool
 | .own _,off=>Nat.beq off 0| .owns _,off=>Nat.beq off 0| .pair a b,off=>bif Nat.blt off a.size then a.ownAt off else b.ownAt (off -a.size)|_,_=>false
def a1N(h:Option (Nat×Nat×Option Nat))(idx off:Nat):Bool:=match h with|none=>true|some (i,o,_)=>bif Nat.beq o off then Fh i idx else false
def b8D(E:Env)(d:Option Tmp)(nm t:Nat)(p:V)(K:V->Cmd α):Cmd α:=
 match p with
 | .ep bx idx off=> .get (aS+bx) λ
  | .barrs m xs none=>bif m.ownAt off then tiC E t λi=>(bif Nat.beq i.size 1&&!kw i.td then
     (bif Ia (match d with|some d=>d|none=>aS) E.tk then
      Cmd.opt (X8 xs idx) λx=>ZC m off x (λv=>Cmd.set (aS+bx) (.barrs m xs (some (idx,off,none))) (xQ nm v (Cmd.set (aS+bx) (.barrs m xs (some (idx,off,some nm))) (K (.own nm none))))) .fail
     else oD Du (.sl m.ty) [.own bx none] λ_ _=>QZ E t p K)else .fail)
    else QZ E t p K
  | .barrs m xs (some (i,o,some n))=>bif m.ownAt off then tiC E t λj=>(bif Nat.beq j.size 1&&!kw j.td then
     .br (a1N (some (i,o,some n)) idx off) (K (.own n none)) .fail else .fail)
    else QZ E t p K
  |_=>QZ E t p K
 |_=>QZ E t p K
def b8C:V->Bool| .barr ..=>true| .barrs _ _ none=>true|_=>false
def a1C(bx:Nat)(K:Cmd α):Cmd α:=.get (aS+bx) λ
 | .barrs _ _ (some (_,_,some n))=> .get (aS+n) λw=>bif b8C w then Cmd.set (aS+n) .dead (.get (aS+bx) λ
  | .barrs m xs (some (i,o,some _))=>Cmd.opt (X8 xs i) λx=>a1S m o w x (λy=>Cmd.set (aS+bx) (.barrs m (aW xs i y) none) K) .fail
  |_=> .fail)else .fail
 |_=>K
def Vj{α:Type} :List V->Cmd α->Cmd α
 |[],K=>K
 |v::r,K=>match v with
  | .own bx none=>a1C bx (Vj r K)|_=>Vj r K
def Oq{α:Type} :List V->Cmd α->Cmd α
 |[],K=>K
 |v::r,K=>match v with
  | .own bx none=>a1C bx (Oq r K)
  | .ptr bx 0=> .get (aS+bx) λ
   | .bcells cs=>Vj cs (Oq r K)|_=>Oq r K
  | .agg cs=>Vj cs (Oq r K)|_=>Oq r K
def a2Q(bx idx off:Nat)(m:M)(xs:List m.den)(hole:Option (Nat×Nat×Option Nat))(v:V)(K:Cmd Unit):Cmd Unit:=
 .br (a1N hole idx off) (Cmd.opt (X8 xs idx) λx=>a1S m off v x (λy=>Cmd.set (aS+bx) (.barrs m (aW xs idx y) none) K) .fail) .fail
def b6n(E:Env)(t:Nat)(p v:V):Cmd Unit:=
 tiC E t λi=>match p with
 | .ptr bx off=> .get (aS+bx) λ
  | .bcells cs=>JB v λvs=>bif Nat.beq vs.length i.size then Um off vs cs (λr=>Cmd.set (aS+bx) (.bcells r) (.ret ())) Cmd.fail else .fail|_=> .fail
 | .ep bx idx off=> .get (aS+bx) λ
  | .barr u xs=>Cmd.opt (X8 xs idx) λx=>JB v λvs=>bif Nat.beq vs.length i.size then Um off vs (flat u x []) (λr=>
    oD Du u r λy q=>match q with
     |[]=> .get (aS+bx) λ
      | .barr u' xs' =>Ty.castL u' u xs' (λxs' =>Cmd.set (aS+bx) (.barr u (aW xs' idx y)) (.ret ())) Cmd.fail|_=> .fail
     |_=> .fail) Cmd.fail else .fail
  | .barrs m xs hole=>bif m.ownAt off&&Nat.beq i.size 1&&!kw i.td then(match v with
    | .nl=>a2Q bx idx off m xs hole .nl (.ret ())
    | .own b2 none=> .get (aS+b2) λw=>bif b8C w then Cmd.set (aS+b2) .dead (.get (aS+bx) λ
     | .barrs m xs hole=>a2Q bx idx off m xs hole w (.ret ())
     |_=> .fail)else .fail
    |_=> .fail)
   else match hole with
    |none=>JB v λvs=>bif Nat.beq vs.length i.size then Cmd.opt (X8 xs idx) λx=>a9U m off vs x λy=>Cmd.set (aS+bx) (.barrs m (aW xs idx y) none) (.ret ())else .fail|some _=> .fail
  |_=> .fail
 |_=> .fail
def szB(sz:Nat)(u:Ty):Bool:=bif u.isEnt then false else Nat.beq sz u.size
def OD(E:Env)(t f:Nat):Option (Nat×Nat×Bool):=
 match fP E.tt t with
 |some i=>match i.td with
  | .struct fs=>match fs[f]? with
   |some (ft,off)=>match fP E.tt ft with|some j=>bif Nat.beq j.size 0 then none else some (off,j.size,kw j.td)|none=>none
   |none=>none
  |_=>none
 |none=>none
def a4f(vw:Option (Nat×Nat)):Nat:=match vw with|none=>0|some (lo,_)=>lo
def b9G(vw:Option (Nat×Nat))(n:Nat):Nat:=match vw with|none=>n|some (lo,_)=>lo+n
theorem b7e(vw:Option (Nat×Nat))(n:Nat):b9G vw n=a4f vw+n:=by cases vw<;>simp[b9G,a4f]
def Lr(E:Env)(t:Nat):Option (Bool×Nat×Nat):=
 match fP E.tt t with
 |some i=>match i.td with
  | .sl e=>match fP E.tt e with|some j=>some (false,0,j.size)|none=>none
  | .arr n e=>match fP E.tt e with|some j=>some (true,n,j.size)|none=>none
  |_=>none
 |none=>none
def YX(E:Env)(t:Nat)(x ix:V)(K:V->Cmd α):Cmd α:=
 match ix,Lr E t with
 | .i _ n,some (false,_,sz)=>match x with
  | .sl u xs=>bif szB sz u then Cmd.opt (G9 xs n) λy=>K (.dp u y 0)else .fail
  | .own bx vw=> .get (aS+(RH+bx)) λ
   | .blen ln sz' =>(match vw with|none=>bif Nat.beq sz sz' then .br (inb n ln) (K (.ep bx (U8 n) 0)) .fail else .fail|_=> .fail)
   |_=> .get (aS+bx) λ
   | .barr u xs=>bif szB sz u then Cmd.opt (G9 (jW vw xs) n) λ_=>K (.ep bx (b9G vw (U8 n)) 0)else .fail
   | .bfrz u xs=>bif szB sz u then Cmd.opt (G9 (jW vw xs) n) λy=>K (.dp u y 0)else .fail| .barrs m xs _=>(match vw with|none=>bif Nat.beq sz m.size then Cmd.opt (G9 xs n) λ_=>K (.ep bx (U8 n) 0)else .fail|_=> .fail)|_=> .fail
  |_=> .fail
 | .i _ n,some (true,l,sz)=>match x with
  | .glob g=>match fP E.gl g with
   |some ⟨u,xs⟩=>bif Nat.beq sz u.size&&Nat.beq l xs.length then Cmd.opt (G9 xs n) λy=>K (.dp u y 0)else .fail|none=> .fail
  | .ptr bx off=> .br (inb n l) (K (.ptr bx (off+U8 n*sz))) .fail|_=> .fail
 |_,_=> .fail
def c3V(td:TD)(x:V)(K:V->Cmd α):Cmd α:=
 match td,x with
 | .str,.s l=>K (.i .i64 (o8 l))| .sl _,.sl t xs=>bif t.isEnt then .fail else K (.i .i64 (o8 xs))| .map ..,.sl t xs=>bif t.isEnt then K (.i .i64 (o8 xs))else .fail
 | .map ..,.own bx none=> .get (aS+bx) λ
  | .barr t xs=>bif t.isEnt then K (.i .i64 (o8 xs))else .fail| .bfrz t xs=>bif t.isEnt then K (.i .i64 (o8 xs))else .fail|_=> .fail
 | .sl _,.nl=>K (.i .i64 0)
 | .sl _,.own bx vw=> .get (aS+(RH+bx)) λ
  | .blen ln _=>(match vw with|none=>K (.i .i64 ln)|_=> .fail)
  |_=> .get (aS+bx) λ
  | .barr t xs=>bif t.isEnt then .fail else K (.i .i64 (o8 (jW vw xs)))| .bfrz t xs=>bif t.isEnt then .fail else K (.i .i64 (o8 (jW vw xs)))| .barrs _ xs _=>(match vw with|none=>K (.i .i64 (o8 xs))|_=> .fail)|_=> .fail
 |_,_=> .fail
def DF(d:Int):Option V->d4M
 |none=>some d|some (.i _ n)=>some n|some _=>none
def VU(E:Env)(t:Nat)(x:V)(lo hi:Option V)(K:V->Cmd α):Cmd α:=
 match x with
 | .s l=>tiC E t λi=>match i.td,DF 0 lo,DF (o8 l) hi with
  | .str,some a,some b=>Cmd.opt (nH l a b) λr=>K (.s r)|_,_,_=> .fail
 | .sl u l=>match Lr E t,DF 0 lo,DF (o8 l) hi with
  |some (false,_,sz),some a,some b=>bif szB sz u then Cmd.opt (nH l a b) λr=>K (.sl u r)else .fail|_,_,_=> .fail
 | .own bx none=> .get (aS+bx) λ
  | .barr u xs=>match Lr E t,DF 0 lo,DF (o8 xs) hi with
   |some (false,_,sz),some a,some b=>bif szB sz u then .br (pX a b (o8 xs)) (K (.own bx (some (U8 a,U8 b)))) .fail else .fail|_,_,_=> .fail
  | .bfrz u xs=>match Lr E t,DF 0 lo,DF (o8 xs) hi with
   |some (false,_,sz),some a,some b=>bif szB sz u then .br (pX a b (o8 xs)) (K (.own bx (some (U8 a,U8 b)))) .fail else .fail|_,_,_=> .fail
  |_=> .fail
 |_=> .fail
def a5B{α:Type}(u:Ty):Nat->List V->(List u.den->Cmd α)->Cmd α
 |0,cs,K=>match cs with|[]=>K []|_=> .fail
 |n+1,cs,K=>oD Du u cs λx r=>a5B u n r λxs=>K (x::xs)
def m_(E:Env)(nm t bx:Nat)(K:V->Cmd Unit):Cmd Unit:=tiC E t λi=>match i.td with
 | .arr n e=>tiC E e λj=>(match j.ty with
  |some u=>bif u.flat then .get (aS+bx) λ
   | .bcells cs=>a5B u n cs λxs=>Cmd.set (aS+bx) .dead (xQ nm (.barr u xs) (K (.own nm none)))|_=> .fail
   else .fail
  |none=> .fail)
 |_=> .fail
def Hg(E:Env)(t:Nat):Option (Nat×Ty):=
 match fP E.tt t with
 |some i=>match i.td with
  | .sl e=>match fP E.tt e with
   |some j=>match j.ty with|some u=>bif (Nat.beq u.size j.size&&Nat.ble j.bytes 65536&&!u.isEnt)then some (e,u)else none|none=>none
   |none=>none
  |_=>none
 |none=>none
def Xz(nm:Nat)(u:Ty)(x:V)(ys:List u.den)(K:V->Cmd Unit):Cmd Unit:=
 match x with
 | .nl=>Cmd.opt (dB [] ys) λzs=>xQ nm (.barr u zs) (K (.own nm none))
 | .own bx vw=> .get (aS+bx) λ
  | .barr u' xs=>Ty.castL u' u xs (λxs=>Cmd.opt (dB (jW vw xs) ys) λzs=>Cmd.set (aS+bx) .dead (xQ nm (.barr u zs) (K (.own nm none)))) Cmd.fail|_=> .fail
 |_=> .fail
def a8u(E:Env)(nm:Nat)(t:Nat)(x:V)(l:d4H)(K:V->Cmd Unit):Cmd Unit:=
 match Hg E t with
 |some (_,.int .u8)=>(match fP E.om t with|none=>Xz nm (.int .u8) x (Q_ l) K|some _=> .fail)|_=> .fail
def b1R(E:Env)(nm:Nat)(t:Nat)(l:d4H)(K:V->Cmd Unit):Cmd Unit:=
 match Hg E t with
 |some (e,.int .u8)=>tiC E e λk=>(match k.td with
  | .int .u8=>xQ nm (.barr (.int .u8) (Q_ l)) (K (.own nm none))
  |_=> .fail)
 |_=> .fail
def a8t(E:Env)(nm:Nat)(t:Nat)(x y:V)(K:V->Cmd Unit):Cmd Unit:=
 match Hg E t with
 |none=> .fail
 |some (_,u)=>match fP E.om t with
  |none=>b0K u y λys=>Xz nm u x ys K
  |some m=>bif Nat.beq m.size u.size then exM Du (.owns m) [y] λys _=>exM Du (.owns m) [x] λxs _=>Cmd.opt (dB xs ys) λzs=>xQ nm (.barrs m zs none) (K (.own nm none))else .fail
def AC{α:Type}(u:Ty):List (Nat×V)->Nat->Nat->(List u.den->Cmd α)->Cmd α
 |[],_,0,K=>K []
 |(i,v)::r,n,m+1,K=>bif Nat.beq i n then JB v λcs=>oD Du u cs λx q=>match q with|[]=>AC u r (n+1) m λxs=>K (x::xs)|_=> .fail else .fail
 |_,_,_,_=> .fail
def xX{α:Type}(m:M):List (Nat×V)->Nat->Nat->(List m.den->Cmd α)->Cmd α
 |[],_,0,K=>K []
 |(i,v)::r,n,k+1,K=>bif Nat.beq i n then JB v λcs=>exM Du m cs λx q=>match q with|[]=>xX m r (n+1) k λxs=>K (x::xs)|_=> .fail else .fail
 |_,_,_,_=> .fail
def a8n(E:Env):List (Nat×Nat)->Bool
 |[]=>true
 |(t,_)::r=>match fP E.tt t with|some _=>a8n E r|none=>false
def ER{α:Type}(E:Env)(t:Nat):List (Nat×V)->List V->(List V->Cmd α)->Cmd α
 |[],cs,K=>K cs
 |(f,v)::r,cs,K=>match OD E t f with
  |some (off,n,_)=>JB v λvs=>bif Nat.beq vs.length n then Um off vs cs (λcs' =>ER E t r cs' K) .fail else .fail|none=> .fail
def Og{α:Type}(sz:Nat):List (Nat×V)->List V->(List V->Cmd α)->Cmd α
 |[],cs,K=>K cs
 |(i,v)::r,cs,K=>JB v λvs=>bif Nat.beq vs.length sz then Um (i*sz) vs cs (λcs' =>Og sz r cs' K) .fail else .fail
def aV{α:Type} :List MG->List V->List V->Cmd α->Cmd α
 |(_,.box _)::ms,.ptr bx _::vs,.agg cs::os,K=> .get (aS+bx) λ
  | .dead=>Cmd.set (aS+bx) (.bcells cs) (aV ms vs os K)|_=> .fail
 |(_,.box _)::_,_,_,_=> .fail
 |(_,.ifc _ (.box _))::ms,.ifc _ (.ptr bx _)::vs,.agg cs::os,K=> .get (aS+bx) λ
  | .dead=>Cmd.set (aS+bx) (.bcells cs) (aV ms vs os K)|_=> .fail
 |(_,.ifc _ (.box _))::_,_,_,_=> .fail
 |(_,.ownb _)::ms,.own bx none::vs,.own nm none::os,K=> .get (aS+nm) λ
  | .barr u xs=>Cmd.set (aS+nm) .dead (.get (aS+bx) λ
   | .gone t=>Ty.castL u t xs (λxs=>Cmd.set (aS+bx) (.barr t xs) (aV ms vs os K)) .fail
   |_=> .fail)
  |_=> .fail
 |(_,.ownb _)::ms,.nl::vs,.own nm none::os,K=>Cmd.set (aS+nm) .dead (aV ms vs os K)|(_,.ownb _)::_,_,_,_=> .fail
 |(_,.sbx _ _)::ms,.ptr bx _::vs,.ptr nm _::os,K=> .get (aS+nm) λ
  | .bsb tb c=>Cmd.set (aS+nm) .dead (.get (aS+bx) λ
   | .dead=>Cmd.set (aS+bx) (.bsb tb c) (aV ms vs os K)
   |_=> .fail)
  |_=> .fail
 |(_,.sbx _ _)::_,_,_,_=> .fail|(_,.sit)::_,_,_,_=> .fail|_::ms,_::vs,os,K=>aV ms vs os K|[],[],[],K=>K|_,_,_,_=> .fail
def Ty.occ(t:Ty):Ty->Bool
 | .sl u=>decide (t=u) || Ty.occ t u| .prod a b=>Ty.occ t a || Ty.occ t b| .ent _ _ a b=>Ty.occ t a || Ty.occ t b|_=>false
def WL(t:Ty):List Ty->Bool|[]=>false|u::r=>decide (t=u) || Ty.occ t u || WL t r
def M.occ(t:Ty):M->Bool
 | .dat u=>Ty.occ t u| .own u=>Ty.occ t u| .pair a b=>a.occ t || b.occ t| .unit=>false| .box m=>m.occ t| .owns m=>m.occ t| .ownb u=>Ty.occ t u| .rp u=>decide (t=u) || Ty.occ t u| .fn _ ts=>WL t ts| .ifc _ m=>m.occ t| .cell _=>false| .fr u=>decide (t=u) || Ty.occ t u| .sbx _ _=>false| .sit=>false| .lp u=>decide (t=u) || Ty.occ t u| .dv ..=>false
def OZ(t:Ty):List MG->Bool|[]=>false|m::r=>m.2.occ t || OZ t r
def a1T(s:FSpec):Ty->Bool:=λt=> !(OZ t s.rs || OZ t s.outs)
def MR:Nat->List V->Option (List V×List V)
 |0,vs=>some ([],vs)
 |n+1,v::vs=>match MR n vs with|some (a,b)=>some (v::a,b)|none=>none
 |_+1,[]=>none
def JA:List V->Bool|[]=>false| .tup _::_=>true|_::r=>JA r
def b7D:List V->V|[v]=>v|vs=> .tup vs
def RV:List MG->List V->Bool
 |(_,.fn g _)::ms,.clos f _::vs=>Nat.beq f g&&RV ms vs|(_,.fn g _)::ms,.fnv f::vs=>Nat.beq f g&&RV ms vs|(_,.ifc t _)::ms,.ifc t' _::vs=>Nat.beq t t' &&RV ms vs|(_,.dv _ _ _ fo)::ms,v::vs=>(match v with| .ep _ _ o=>Nat.beq o fo|_=>false)&&RV ms vs|_::ms,_::vs=>RV ms vs|_,_=>true
def a4L:List (Nat×FSpec)->Nat->List V->Option FSpec
 |[],_,_=>none|(g,s)::r,f,vs=>bif Nat.beq g f&&RV s.ps vs then some s else a4L r f vs
def a8L(sz fo:Nat)(c:V)(K:V->Cmd α):Cmd α:=match c with
 | .sl u xs=>bif szB sz u then Cmd.opt (G9 xs (G8 .i64 (o8 xs) 1)) λy=>K (.dp u y fo)else .fail
 | .own bx none=> .get (aS+(RH+bx)) λ
  | .blen ln sz' =>bif Nat.beq sz sz' then .br (inb (G8 .i64 ln 1) ln) (K (.ep bx (U8 (G8 .i64 ln 1)) fo)) .fail else .fail
  |_=> .get (aS+bx) λ
   | .barr u xs=>bif szB sz u then Cmd.opt (G9 xs (G8 .i64 (o8 xs) 1)) λ_=>K (.ep bx (U8 (G8 .i64 (o8 xs) 1)) fo)else .fail
   | .bfrz u xs=>bif szB sz u then Cmd.opt (G9 xs (G8 .i64 (o8 xs) 1)) λy=>K (.dp u y fo)else .fail
   | .barrs m xs _=>bif Nat.beq sz m.size then Cmd.opt (G9 xs (G8 .i64 (o8 xs) 1)) λ_=>K (.ep bx (U8 (G8 .i64 (o8 xs) 1)) fo)else .fail|_=> .fail
 |_=> .fail
def a4K(off sz fo:Nat)(v:V)(K:V->Cmd α):Cmd α:=match v with
 | .ptr bx o=> .get (aS+bx) λ
  | .bcells cs=>Xw (o+off) 1 cs (λr=>match r with|[c]=>a8L sz fo c K|_=> .fail) .fail|_=> .fail
 | .dp u x o=>Xw (o+off) 1 (flat u x []) (λr=>match r with|[c]=>a8L sz fo c K|_=> .fail) .fail|_=> .fail
def c3S(a b:V)(K:Cmd α):Cmd α:=match a,b with
 | .ep n i o,.ep n' i' o' =>bif Nat.beq n n' &&Nat.beq o o' then .br (Fh i i') K .fail else .fail|_,_=> .fail
def b7o:List V->Nat->V
 |[],_=> .un|v::_,0=>v|_::r,n+1=>b7o r n
def dvC{α:Type}(all:List V):List MG->List V->Cmd α->Cmd α
 |(_,.dv k off sz fo)::ms,v::vs,K=>a4K off sz fo (b7o all k) λr=>c3S r v (dvC all ms vs K)|_::ms,_::vs,K=>dvC all ms vs K|[],[],K=>K|_,_,_=> .fail
def a0t(E:Env)(q:Nat)(d:Option Tmp)(f:Nat)(vs:List V):Cmd Unit:=
 match a4L E.fs f vs with
 |none=> .fail|some s=>dvC vs s.ps vs<|
  QX (a1T s) s.ps vs λx=>Cmd.opt (s.fn x) λr=>
   QV (s.rs++s.outs) r (O8 q d) λws n' =>bif Nat.ble n' (O8 q d+64)then(match MR s.rs.length ws with
    |some (a,o)=>bif JA a then .fail else aV s.ps vs o (gu E d (b7D a))
    |none=> .fail)else .fail
def xY{α:Type} :List MG->List V->(List ((t:Ty)×t.den)->Cmd α)->Cmd α
 |(_,.rp t)::ms,v::vs,K=>rpC t v λx=>xY ms vs λcs=>K (⟨t,x⟩::cs)|[],[],K=>K []|_,_,_=> .fail
def c3R(c:(t:Ty)×t.den):V:=.dp c.1 c.2 0
def Zp:List ((Nat×String)×Nat×Option Nat)->Nat->String->Option (Nat×Option Nat)
 |[],_,_=>none|((t,n),r)::l,u,m=>bif Nat.beq t u&&(n==m)then some r else Zp l u m
structure MT where
 ke:Nat
 el:Nat
 ka:Bool
 va:Bool
 k:Ty
 v:Ty
abbrev MT.ent(m:MT):Ty:=.ent m.ka m.va m.k m.v
def WJ:M->List V->Bool
 | .dat _,_=>true| .unit,_=>true
 | .own t,cs=>match cs with| .nl::_=> !t.isEnt|_=>false
 | .owns _,cs=>match cs with| .nl::_=>true|_=>false
 | .pair a b,cs=>match YF a.size cs with|some r=>bif WJ a cs then WJ b r else false|none=>false
 |_,_=>false
def a9D(E:Env)(t:Nat)(m:M):Bool:=
 match Hg E t with
 |some (e,_)=>match fP E.tt e with|some j=>bif Nat.beq j.zero.length j.size then WJ m j.zero else false|none=>false
 |none=>false
def g_:Operand->Operand->Bool
 | .tmp a,.tmp b=>Nat.beq a b|_,_=>false
def c3Q(t:Nat)(zs:List V):V:=match zs with
 |[.npt,.nl]=> .bsb t .nl|zs=> .bcells zs
def dZ(E:Env)(q:Nat)(o:Oper):Cmd Unit:=
 match o.op with
 | .move x| .assign x=>wI x λv=>gu E o.dst v
 | .pick c a b=>wI c λ
  | .b t=>bif t then wI a λva=>gu E o.dst va else wI b λvb=>gu E o.dst vb|_=> .fail
 | .alloc t=>tiC E t λi=>bif Nat.beq i.zero.length i.size then xQ (O8 q o.dst) (c3Q t i.zero) (gu E o.dst (.ptr (O8 q o.dst) 0))else .fail
 | .box _ x=>wI x λv=>JB v λcs=>xQ (O8 q o.dst) (.bcells cs) (gu E o.dst (.ptr (O8 q o.dst) 0))
 | .build t ps=>tiC E t λi=>match i.td with
  | .struct fs=>bif a8n E fs&&Nat.beq i.zero.length i.size then(Ui (ps.toList.map (·.2)) λvs=>
    ER E t ((ps.toList.map (·.1)).zip vs) i.zero (λcs=>gu E o.dst (.agg cs)))else .fail
  | .arr _ e=>tiC E e λj=>bif Nat.beq i.zero.length i.size then(Ui (ps.toList.map (·.2)) λvs=>
    Og j.size ((ps.toList.map (·.1)).zip vs) i.zero (λcs=>gu E o.dst (.agg cs)))else .fail
  |_=> .fail
 | .buildSlice t n ps=>match Hg E t with
  |some (_,u)=>bif Nat.ble (n*u.size) 16777216 then(Ui (ps.toList.map (·.2)) λvs=>match fP E.om t with
    |none=>AC u ((ps.toList.map (·.1)).zip vs) 0 n λxs=>xQ (O8 q o.dst) (.barr u xs) (gu E o.dst (.own (O8 q o.dst) none))
    |some m=>bif Nat.beq m.size u.size&&m.el then xX m ((ps.toList.map (·.1)).zip vs) 0 n λxs=>xQ (O8 q o.dst) (.barrs m xs none) (gu E o.dst (.own (O8 q o.dst) none))else .fail)else .fail
  |none=> .fail
 | .load t x=>wI x λp=>b8D E o.dst (O8 q o.dst) t p λv=>gu E o.dst v
 | .store t x y=>match o.dst with|none=>wI x λp=>wI y λv=>b6n E t p v|some _=> .fail
 | .binOp op t x y _=>wI x λa=>wI y λb=>Oi E t op y a b λv=>gu E o.dst v
 | .unOp op _ x=>wI x λa=>unC op a λv=>gu E o.dst v
 | .convert src t x=>wI x λa=>tiC E src λj=>tiC E t λi=>match a,i.td with
  | .i _ n,.int k=>gu E o.dst (.i k (wrap k n))| .s l,.str=>gu E o.dst (.s l)| .s l,.sl _=>(match j.td with| .str=>b1R E (O8 q o.dst) t l λv=>gu E o.dst v|_=> .fail)
  |_,.str=>(match j.td with
   | .sl e=>tiC E e λk=>(match k.td with
    | .int .u8=>b0K (.int .u8) a λxs=>gu E o.dst (.s (a5Z xs))
    |_=> .fail)
   |_=> .fail)
  |_,_=> .fail
 | .makeSlice t l c=>match fP E.om t with
  |some m=>(match Hg E t with
   |some (_,u)=>wI l λ
    | .i _ n=>bif g_ l c&&Nat.beq m.size u.size&&a9D E t m then(if h:m.el=true/\m.ty=u then Cmd.opt (tq n (m.zero h.1)) λxs=>xQ (O8 q o.dst) (.barrs m xs none) (.set (aS+(RH+O8 q o.dst)) (.blen (o8 xs) m.size) (gu E o.dst (.own (O8 q o.dst) none)))else .fail)else .fail|_=> .fail
   |none=> .fail)
  |none=>match Hg E t with
  |some (_,u)=>wI l λ
   | .i _ n=>bif g_ l c then
     Cmd.opt (tq n u.zero) λxs=>xQ (O8 q o.dst) (.barr u xs) (gu E o.dst (.own (O8 q o.dst) none))
    else wI c λ
     | .i _ k=>Cmd.br (pX n k 1073741824) (Cmd.opt (tq n u.zero) λxs=>xQ (O8 q o.dst) (.barr u xs) (gu E o.dst (.own (O8 q o.dst) none))) .fail|_=> .fail
   |_=> .fail
  |none=> .fail
 | .slice t x lo hi none=>wI x λv=>Ui (lo.toList++hi.toList) λbs=>
   match lo,hi,bs with
   |none,none,[]=>(match v with
    | .ptr bx 0=>m_ E (O8 q o.dst) t bx λr=>gu E o.dst r
    |_=>VU E t v none none λr=>gu E o.dst r)
   |some _,none,[a]=>VU E t v (some a) none λr=>gu E o.dst r
   |none,some _,[b]=>VU E t v none (some b) λr=>gu E o.dst r
   |some _,some _,[a,b]=>VU E t v (some a) (some b) λr=>gu E o.dst r|_,_,_=> .fail
 | .fieldAddr t x f=>wI x λp=>match OD E t f with
  |some (off,_,_)=>match p with
   | .ptr bx o' =>gu E o.dst (.ptr bx (o' +off))| .ep bx ix o' =>gu E o.dst (.ep bx ix (o' +off))| .dp u y o' =>gu E o.dst (.dp u y (o' +off))|_=> .fail
  |none=> .fail
 | .field t x f=>wI x λp=>match OD E t f with
  |some (off,n,ag)=>a1z true p λps=>Xw off n ps (λcs=>gu E o.dst (mkV ag cs)) Cmd.fail|none=> .fail
 | .indexAddr t x ix=>wI x λv=>wI ix λn=>YX E t v n λr=>gu E o.dst r
 | .index t x ix=>wI x λv=>wI ix λn=>tiC E t λi=>match i.td,v,n with
  | .str,.s l,.i _ k=>Cmd.opt (sat l k) λc=>gu E o.dst (.i .u8 c)|_,_,_=> .fail
 | .extract x n=>wI x λ
  | .tup vs=>match vs[n]? with|some v=>gu E o.dst v|none=> .fail
  |_=> .fail
 | .nilCheck x=>wI x λv=>match v with
  | .ptr ..| .ep ..| .dp ..| .glob _=>gu E o.dst v|_=> .fail
 | .call c=>Ui c.args.toList λvs=>match c.callee with
  | .builtin .len=>(match c.argTypes.toList,vs with
   |t::_,[x]=>tiC E t λi=>c3V i.td x λv=>gu E o.dst v
   |_,_=> .fail)
  | .builtin .append=>(match c.argTypes.toList,vs with
   |[t,t'],[x,y]=>bif Nat.beq t t' then a8t E (O8 q o.dst) t x y λv=>gu E o.dst v else(match y with
    | .s l=>tiC E t' λi=>(match i.td with| .str=>a8u E (O8 q o.dst) t x l λv=>gu E o.dst v|_=> .fail)
    |_=> .fail)
   |_,_=> .fail)
  | .builtin .min=>(match vs with|[.i k a,.i k' b]=>bif decide (k=k')then gu E o.dst (.i k (qG a b))else .fail|_=> .fail)| .builtin .max=>(match vs with|[.i k a,.i k' b]=>bif decide (k=k')then gu E o.dst (.i k (mZ a b))else .fail|_=> .fail)
  | .value (.func f)=>(match fP E.pl f with
   |some (off,sz)=>bif Nat.beq sz 0 then .fail else(match vs with|[v]=>a4K off sz 0 v λr=>gu E o.dst r|_=> .fail)
   |none=>a0t E q o.dst f vs)
  | .value x=>wI x λ
   | .clos f caps=>a0t E q o.dst f (vs++caps.map c3R)|_=> .fail
  | .invoke x n=>wI x λ
   | .ifc t v=>(match Zp E.ms t n with
    |some (f,none)=>a0t E q o.dst f (v::vs)
    |some (f,some e)=>QZ E e v λr=>a0t E q o.dst f (r::vs)
    |none=> .fail)
   |_=> .fail
  |_=> .fail
 | .makeFunc (.func f) first caps=>bif Nat.beq first.size 0 then(match fP E.pl f with
  |some (n,z)=>bif Nat.beq z 0&&Nat.beq caps.size n then gu E o.dst (.idl f n)else .fail
  |none=>(match fP E.fs f with
   |some s=>Ui caps.toList λvs=>xY (s.ps.drop (s.ps.length -vs.length)) vs λcs=>gu E o.dst (.clos f cs)
   |none=> .fail))else .fail
 | .defer c=>bif Nat.beq c.args.size 0 then(match o.dst,c.callee with
  |none,.value x=>wI x λ
   | .idl f n=>(match fP E.pl f with
    |some (k,z)=>bif Nat.beq z 0&&Nat.beq n k then gu E none .undef else .fail
    |none=> .fail)
   |_=> .fail
  |_,_=> .fail)else .fail
 | .makeInterface t x=>tiC E t λi=>(match i.td with
  | .bool| .int _| .str| .ptr _=>wI x λv=>(match v with
   | .b ..| .i ..| .s ..| .ptr ..=>gu E o.dst (.ifc t v)
   |_=> .fail)
  |_=> .fail)
 | .typeAssert x _ t ok=>tiC E t λi=>(match i.td with
  | .other=> .fail
  |_=>wI x λ
   | .ifc t' v=>bif Nat.beq t' t then gu E o.dst (bif ok then .tup [v,.b true]else v)else .fail
   |_=> .fail)
 | .range t x=>wI x λv=>tiC E t λi=>match i.td,v with
  | .str,.s l=>xQ (O8 q o.dst) (.biter l 0) (gu E o.dst (.ptr (O8 q o.dst) 0))|_,_=> .fail
 | .next x isS=>bif isS then(wI x λ
   | .ptr bx 0=> .get (aS+bx) λ
    | .biter l p=> .br (E5 p (o8 l)) (Cmd.set (aS+bx) (.biter l (PP l p)) (gu E o.dst (.tup [.b true,.i .i64 p,.i .i32 (KX l p)]))) (gu E o.dst (.tup [.b false]))|_=> .fail
   |_=> .fail)else .fail
 |_=> .fail
def ql(E:Env)(q:Nat)(ops:List Oper)(o:Oper):Cmd Unit:=
 match o.guard with
 |none=>dZ E q o
 |some (j,want)=>match ops[j]? with
  |some p=>match p.dst with
   |some t=>bif Nat.blt t aS then(.get t λ
    | .b y=>bif (bif want then y else !y)then dZ E q o else gu E o.dst .un| .un=>gu E o.dst .un
    |_=> .fail)else .fail
   |none=> .fail
  |none=> .fail
def XJ(t:Nat)(s:St)(K:St->Option R):Option R:=
 (gI s t).force λ
  | .b y=>l7 y (K (.kv t (.b true)::s)) (K (.kv t (.b false)::s))| .un=>K s|_=>none
def b8y(ops:List Oper)(o:Oper):Option Nat:=
 match o.guard with
 |some (j,_)=>match ops[j]? with|some p=>p.dst|none=>none
 |none=>match o.op with| .pick (.tmp t) _ _=>some t|_=>none
abbrev Trs:=List Tr
def SQ{R:Type}(E:Env)(q:Nat)(all:List Oper):List Oper->St->Trs->(St->Trs->Option R)->Option R
 |[],s,t,K=>K s t
 |o::r,s,t,K=>match b8y all o with
  |none=>(ql E q all o).runK s ([],[]) λ_ s' tr=>SQ E q all r s' (tr::t) K
  |some p=>XJ p s λs=>(ql E q all o).runK s ([],[]) λ_ s' tr=>SQ E q all r s' (tr::t) K
def PL:d4K->d4K->Bool
 |[],[]=>true|a::r,b::q=>bif Nat.beq a b then PL r q else false|_,_=>false
def qI(o:Oper):Bool:=match o.op with| .call ..=>true|_=>false
def a1J(E:Env)(o:Oper):Bool:=!qI o&&(match o.dst with|some d=>Ia d E.rc|none=>false)
def b2b(E:Env)(all:List Oper)(i:Nat):Bool:=match all[i]? with|some o=>a1J E o|none=>false
def a1y(all:List Oper)(i:Nat):Bool:=match all[i]? with|some o=>qI o|none=>false
def b6H(a b:V)(K:Option R):Option R:=
 a.force λa=>b.force λb=>match a with
  | .i k n=>(match b with| .i k' n' =>bif decide (k=k')then l7 (o9 n n') K none else none|_=>none)| .sl t xs=>(match b with| .sl u ys=>Ty.castL u t ys (λys=>l7 (deq (.sl t) xs ys) K none) none|_=>none)| .b x=>(match b with| .b y=>l7 (jY x y) K none|_=>none)| .s x=>(match b with| .s y=>l7 (seq x y) K none|_=>none)|_=>none
abbrev a9G:=List (Oper×Tr×V)
def a1e{R:Type}(E:Env)(q:Nat)(all:List Oper)(s:St):a9G->Option R->Option R
 |[],K=>K
 |(o,tr,v)::p,K=>(ql E q all o).runK s ([],[]) λ_ s2 tr2=>match o.dst with
  |some d=>bif PL tr.1 tr2.1&&PL tr.2 tr2.2&&PL tr2.2 [d]then b6H v (gI s2 d) (a1e E q all s p K)else none|none=>none
def ZF(E:Env)(o:Oper)(s:St)(tr:Tr)(p:a9G):a9G:=
 bif a1J E o then(match o.dst with|some d=>(o,tr,gI s d)::p|none=>p)else p
def Df{R:Type}(E:Env)(q:Nat)(all:List Oper):List Oper->St->Trs->a9G->(St->Trs->Option R)->Option R
 |[],s,t,_,K=>K s t
 |o::r,s,t,p,K=>match b8y all o with
  |none=>(ql E q all o).runK s ([],[]) λ_ s' tr=>bif qI o then a1e E q all s' p (Df E q all r s' (tr::t) p K)else Df E q all r s' (tr::t) (ZF E o s' tr p) K
  |some g=>XJ g s λs=>(ql E q all o).runK s ([],[]) λ_ s' tr=>bif qI o then a1e E q all s' p (Df E q all r s' (tr::t) p K)else Df E q all r s' (tr::t) (ZF E o s' tr p) K
def Xo(a b:d4K):Bool:=match a with|[]=>true|k::r=>bif Ia k b then false else Xo r b
def a6O(ordered:Bool)(x y:Tr):Bool:=bif ordered then true else(Xo x.2 y.1&&Xo x.2 y.2&&Xo x.1 y.2)
def XH(mask:Nat)(y:Tr):Trs->Nat->Bool
 |[],_=>true|x::r,i=>a6O (Nat.testBit mask (i -1)) x y&&XH mask y r (i -1)
def Zy:d4K->Trs->Bool
 |m::ms,y::r=>XH m y r r.length&&Zy ms r|[],[]=>true|_,_=>false
def a8U(mask:Nat)(x:Tr):List (Nat×Tr)->Bool
 |[]=>true|(m,z)::r=>(Nat.testBit mask m || Xo x.1 z.2)&&a8U mask x r
def a9b(ordered ex:Bool)(mask:Nat)(x y:Tr)(mids:List (Nat×Tr)):Bool:=
 bif ordered then true else(Xo x.2 y.1&&Xo x.2 y.2&&(bif Xo x.1 y.2 then true else(ex&&Xo x.2 x.1&&a8U mask x mids)))
def Ue(E:Env)(all:List Oper)(mask:Nat)(y:Tr)(cy:Bool):Trs->Nat->List (Nat×Tr)->Bool
 |[],_,_=>true|x::r,i,mids=>a9b (Nat.testBit mask (i -1)) (cy&&b2b E all (i -1)) mask x y mids&&Ue E all mask y cy r (i -1) ((i -1,x)::mids)
def Ug(E:Env)(all:List Oper):d4K->Trs->Bool
 |m::ms,y::r=>Ue E all m y (a1y all r.length) r r.length []&&Ug E all ms r|[],[]=>true|_,_=>false
inductive Flow (ρ:Type) where
 |nm|ex (id:Nat)|rt (r:ρ)
def QU(acc:d4K)(n:Nat):List Edge->Nat->Option Nat
 |[],m=>some m
 |e::r,m=>match e.ground with
  | .textOnly _=>QU acc n r m| .gcOnly _=>QU acc n r m|_=>bif Nat.blt e.on n then QU acc n r (m ||| 2^e.on ||| acc.getD (n -1 -e.on) 0)else none
def a2i:List Oper->Nat->d4K->Option d4K
 |[],_,acc=>some acc
 |o::r,n,acc=>match QU acc n o.after.toList 0 with
  |some m=>a2i r (n+1) (m::acc)|none=>none
def SH(md:Region.Mode)(done:d4K):List Edge->Bool
 |[]=>true|e::r=>bif (!Region.binds md e || Ia e.on done)then SH md done r else false
def yl(md:Region.Mode)(done:d4K):List Oper->Nat->Option Nat
 |[],_=>none|o::r,n=>bif Ia n done then yl md done r (n+1)else bif SH md done o.after.toList then some n else yl md done r (n+1)
def a8m:Nat->d4K->Bool
 |0,_=>true|n+1,d=>Ia n d&&a8m n d
def a2S(md:Region.Mode)(ops:List Oper):Nat->d4K->Bool
 |0,d=>a8m ops.length d
 |k+1,done=>match yl md done ops 0 with|some n=>a2S md ops k (n::done)|none=>false
def VI:List Edge->Bool
 |[]=>true
 |e::r=>match e.ground with| .textOnly _=>false| .gcOnly _=>false|_=>VI r
def Ii:List Oper->Bool|[]=>true|o::r=>bif VI o.after.toList then Ii r else false
def b1X(ops:List Oper)(t:Trs):Bool:=
 match a2i ops 0 []with
 |some ms=>bif Zy ms t then(bif Ii ops then true else a2S .text ops ops.length []&&a2S .gc ops ops.length [])else false|none=>false
def a8D(E:Env)(ops:List Oper)(t:Trs):Bool:=
 match a2i ops 0 []with
 |some ms=>bif Ug E ops ms t then(bif Ii ops then true else a2S .text ops ops.length []&&a2S .gc ops ops.length [])else false|none=>false
abbrev Rgs:=List (Nat×Nat)
inductive Ann where
 |leaf
 |seq (a b:Ann)|cond (a b:Ann)|blk (a:Ann)
 |loop (rs:Rgs) (hd:Sig) (xid:Nat) (xs:Sig) (body:Ann)
 |loopR (rs:Rgs) (hd:Sig) (xid:Nat) (xs:Sig) (body:Ann)
 |join (rs:Rgs) (nm:Sig) (inner:Ann)
 |joinR (rs:Rgs) (nm:Sig) (inner:Ann)
structure Ret where
 rs:List (ResultVar×MG)
 outs:List (Nat×MG)
@[reducible] def Ret.den (r:Ret):Type:=ay (r.rs.map (·.2)++r.outs.map (·.2))
def VO{α:Type}(E:Env):List ResultVar->(List V->Cmd α)->Cmd α
 |[],K=>K []| .tmp t::r,K=>bif Nat.blt t aS then(.get t λv=>VO E r λvs=>K (v::vs))else .fail| .cell a t::r,K=>bif Nat.blt a aS then(.get a λp=>QZ E t p λv=>VO E r λvs=>K (v::vs))else .fail
def VH{α:Type} :d4K->(List V->Cmd α)->Cmd α
 |[],K=>K []
 |n::r,K=>bif Nat.blt n aS then .get n λv=>(match v with
  | .ptr bx 0=> .get (aS+bx) λ
   | .bcells cs=>Cmd.set (aS+bx) .dead (VH r λvs=>K (.agg cs::vs))|_=> .fail
  | .ifc _ u=>(match u with
   | .ptr bx 0=> .get (aS+bx) λ
    | .bcells cs=>Cmd.set (aS+bx) .dead (VH r λvs=>K (.agg cs::vs))|_=> .fail
   |_=> .fail)
  | .own bx none=>VH r λvs=>K (.own bx none::vs)
  |_=> .fail)else .fail
def b7G(E:Env)(r:Ret):Cmd r.den:=
 VO E (r.rs.map (·.1)) λvs=>VH (r.outs.map (·.1)) λws=>Oq (vs++ws) (QX Du (r.rs.map (·.2)++r.outs.map (·.2)) (vs++ws) .ret)
def Ann.l:Ann->Ann| .seq a _=>a| .cond a _=>a| .blk a=>a|_=> .leaf
def Ann.r:Ann->Ann| .seq _ b=>b| .cond _ b=>b|_=> .leaf
def AX:Code->Nat
 | .region ..=>2| .seq x y=>1+AX x+AX y| .cond _ x y=>1+AX x+AX y| .block _ x=>1+AX x| .loop x=>3+AX x|_=>1
abbrev Den(ρ:Type):=Nat->Ann->St->Rgs->(R:Type)->(Flow ρ->St->Rgs->Option R)->Option R
def b0i(lo hi:Nat):Rgs->Bool|[]=>false|(a,b)::r=>bif Nat.ble a lo&&Nat.ble hi b then true else b0i lo hi r
def Yx(lim:Nat)(rs:Rgs):Rgs->Bool|[]=>true|(a,b)::w=>bif Nat.ble lim a || b0i a b rs then Yx lim rs w else false
def TP(ks:d4K)(w:Rgs):Rgs:=match ks with|[]=>w|k::r=>(k,k+1)::TP r w
def HY(rs:Rgs)(s:St):St:=match rs with|[]=>s|(a,b)::r=> .mask a b::HY r s
def QY(q:Nat)(sg:Sig)(rs:Rgs)(s:St)(w:Rgs)(K:sD sg->Option R):Option R:=
 (b2d sg).runK s ([],[]) λx _ tr=>bif Yx (aS+CB*q) rs (TP tr.2 w)then K x else none
def enter(q:Nat)(sg:Sig)(rs:Rgs)(s:St)(x:sD sg)(K:St->Rgs->Option R):Option R:=
 (b1Z sg x (CB*q) (CB*q+CB)).runK (HY rs s) ([],[]) λ_ s' tr=>K s' (TP tr.2 rs)
def Yc(a b:Rgs):Rgs:=match a with|[]=>b|x::r=>x::Yc r b
def NS(core:Den ρ):Den ρ:=λq a s w R K=>
 match a with
 | .join rs nm a=>l9 (core (q+1) a s [] (sD nm) λfl s' w' =>match fl with
   | .nm=>QY q nm rs s' w' some
   |_=>none) λx=>enter q nm rs s x λs' w' =>K .nm s' (Yc w' w)
 | .joinR rs nm a=>l9 (core (q+1) a s [] (sD nm⊕ρ) λfl s' w' =>match fl with
   | .nm=>QY q nm rs s' w' λx=>some (Sum.inl x)| .rt r=>some (Sum.inr r)
   |_=>none) λo=>U4 o (λx=>enter q nm rs s x λs' w' =>K .nm s' (Yc w' w)) (λr=>K (.rt r) [] [])
 |a=>core (q+1) a s w R K
def b4j(core:Den ρ)(q:Nat)(rs:Rgs)(hd:Sig)(xid:Nat)(xs:Sig)(a:Ann)(s:St)(x:sD hd):Option (sD hd⊕sD xs):=
 enter q hd rs s x λs w=>core (q+2) a s w (sD hd⊕sD xs) λfl s' w' =>match fl with
  | .nm=>QY q hd rs s' w' λx=>some (Sum.inl x)
  | .ex id=>bif Nat.beq id xid then QY q xs rs s' w' λy=>some (Sum.inr y)else none| .rt _=>none
def b4k(core:Den ρ)(q:Nat)(rs:Rgs)(hd:Sig)(xid:Nat)(xs:Sig)(a:Ann)(s:St)(x:sD hd):Option (Out (sD hd) (sD xs) ρ):=
 enter q hd rs s x λs w=>core (q+2) a s w (Out (sD hd) (sD xs) ρ) λfl s' w' =>match fl with
  | .nm=>QY q hd rs s' w' λx=>some (.nx x)
  | .ex id=>bif Nat.beq id xid then QY q xs rs s' w' λy=>some (.ex y)else none| .rt r=>some (.rt r)
def a4i(core:Den ρ):Den ρ:=λq a s w R K=>
 match a with
 | .loop rs hd xid xs a=>QY q hd rs s [] λx0=>
  l9 (aX (λx=>b4j core q rs hd xid xs a s x) x0) λy=>enter (q+1) xs rs s y λs' w' =>K (.ex xid) s' (Yc w' w)
 | .loopR rs hd xid xs a=>QY q hd rs s [] λx0=>
  l9 (U3 (λx=>b4k core q rs hd xid xs a s x) x0) λo=>U4 o (λy=>enter (q+1) xs rs s y λs' w' =>K (.ex xid) s' (Yc w' w)) (λr=>K (.rt r) [] [])
 |_=>none
def Fq(t:Trs)(w:Rgs):Rgs:=match t with|[]=>w|x::r=>TP x.2 (Fq r w)
def a2n(E:Env)(q:Nat)(ops:Array Oper)(draw:Bool)(s:St)(w:Rgs)(K:St->Rgs->Option R):Option R:=
 match E.rc with
 |[]=>SQ E q ops.toList ops.toList s [] λs' t=>
  bif draw then(bif b1X ops.toList t then K s' (Fq t w)else none)else K s' (Fq t w)
 |_::_=>Df E q ops.toList ops.toList s [] [] λs' t=>
  bif draw then(bif a8D E ops.toList t then K s' (Fq t w)else none)else K s' (Fq t w)
def den(E:Env)(rt:Ret):Code->Den rt.den
 | .skip=>NS λ_ _ s w _ K=>K .nm s w
 | .label _=>NS λ_ _ s w _ K=>K .nm s w
 | .region _ ops draw=>NS λq _ s w _ K=>a2n E q ops draw s w λs' w' =>K .nm s' w'
 | .seq x y=>NS λq a s w R K=>den E rt x q a.l s w R λfl s' w' =>match fl with
   | .nm=>den E rt y (q+AX x) a.r s' w' R K| .ex id=>K (.ex id) s' w'| .rt r=>K (.rt r) s' w'
 | .cond c x y=>NS λq a s w R K=>(wI c λv=>Cmd.ret v:Cmd V).runK s ([],[]) λv s' _=>match v with
   | .b t=>l7 t (den E rt x q a.l s' w R K) (den E rt y (q+AX x) a.r s' w R K)|_=>none
 | .block id x=>NS λq a s w R K=>den E rt x q a.l s w R λfl s' w' =>match fl with
   | .nm=>K .nm s' w'| .ex j=>bif Nat.beq j id then K .nm s' w' else K (.ex j) s' w'| .rt r=>K (.rt r) s' w'
 | .loop x=>NS (a4i λq a s w R K=>den E rt x q a s w R K)
 | .exit id=>NS λ_ _ s w _ K=>K (.ex id) s w
 | .ret=>NS λ_ _ s _ _ K=>(b7G E rt).runK s ([],[]) λr _ _=>K (.rt r) [] []
 |_=>λ_ _ _ _ _ _=>none
def mQ:List MG->Nat->d4K
 |[],_=>[]|(_,.box _)::ms,n=>n::mQ ms (n+1)|(_,.ifc _ (.box _))::ms,n=>n::mQ ms (n+1)|(_,.ownb _)::ms,n=>n::mQ ms (n+1)|_::ms,n=>mQ ms (n+1)
def b6q:d4K->d4K->Bool
 |[],_=>true|a::r,b=>bif Ia a b then b6q r b else false
def b7k:List MG->Bool
 |[]=>true|(_,.sbx _ _)::_=>false|(_,.sit)::_=>false|_::r=>b7k r
def a6k:List MG->Nat->Cmd Unit->Cmd Unit
 |[],_,K=>K
 |(_,.dv k off sz fo)::ms,n,K=>bif Nat.blt k aS&&Nat.blt n aS then .get k λv=>a4K off sz fo v λr=> .set n r (a6k ms (n+1) K)else .fail|_::ms,n,K=>a6k ms (n+1) K
def a9V(E:Env)(ps:List MG)(rt:Ret)(body:Code)(a:Ann)(x:ay ps):Option rt.den:=
 bif Nat.ble ps.length E.nt&&PL (rt.outs.map (·.1)) (mQ ps 0)&&b6q (rt.outs.map (·.1)) E.kp&&b7k ps then
 (QV ps x 0 λvs n=>bif Nat.ble n CB then QI (List.range vs.length) vs (a6k ps 0 (.ret ()))else .fail).runK [] ([],[]) λ_ s _=>
  den E rt body 1 a s [] rt.den λfl s' _=>match fl with
   | .rt r=>some r
   | .nm=>(b7G E rt).runK s' ([],[]) λr _ _=>some r| .ex _=>none
 else none
end Go.GP
namespace Go.GP
open RowKit
def fH(h:Array Obj)(blk off n:Nat):Option d4J:=
 match h[blk]? with
 |some (.cells c _ _)=>if off+n<=c.size then some ((c.toList.drop off).take n)else none|_=>none
variable {h:Array Obj}{h':Array Obj}{blk:Nat}
theorem uA(e:h'[blk]? =h[blk]?)(off n:Nat):fH h' blk off n=fH h blk off n:=by simp[fH,e]
variable {n:Nat}{off:Nat}{es:d4J}
theorem rE(e:fH h blk off n=some es):es.length=n:=by
 unfold fH at e;split at e
 .split at e
  .cases e;simp;omega
  .cases e
 .cases e
theorem jM{c:Array Value}{T:TypeId}{f:Nat×Nat}(hb:h[blk]? =some (.cells c T f))(off n:Nat)(hn:off+n<=c.size):
  fH h blk off n=some ((c.toList.drop off).take n):=by simp[fH,hb,hn]
theorem rF(e:fH h blk off n=some es):
  ∃c T f,h[blk]? =some (.cells c T f)/\off+n<=c.size/\es=(c.toList.drop off).take n:=by
 unfold fH at e;split at e
 .rename_i c T f hb;split at e
  .cases e;exact⟨c,T,f,hb,by assumption,rfl⟩
  .cases e
 .cases e
theorem Be(e:fH h blk off n=some es)(a k:Nat)(hk:a+k<=n):
  fH h blk (off+a) k=some ((es.drop a).take k):=by
 obtain⟨c,T,f,hb,hn,rfl⟩:=rF e;rw[jM hb _ _ o5];congr 1;rw[kL,jo,aN];congr 1;omega
def RX(ag:Bool)(v:Value):d4J:=match ag with
 |true=>v.cells.toList|false=>[v]
def gok(ag:Bool)(v:Value):Prop:=match ag with
 |true=>∃arr,v= .agg arr|false=>v.oneCell' =true
def YI(t:Ty)(e:MapEntry):d4J:=match t with
 | .ent ka va _ _=>RX ka e.key++RX va e.val|_=>[]
def b2a(t:Ty)(e:MapEntry):Prop:=match t with
 | .ent ka va k v=>gok ka e.key/\gok va e.val/\(RX ka e.key).length=k.size|_=>False
def c3I:Option IntKind->Value->Prop
 |none,_=>True|some k,v=>∃n,v= .int k n
def rep(h:Array Obj)(ok:Nat->Ty->Prop):(t:Ty)->t.den->d4J->Prop
 | .ent _ _ a b,x,cs=>∃c d,cs=c++d/\rep h ok a x.1 c/\rep h ok b x.2 d| .bool,x,cs=>cs=[.bool x]| .int k,n,cs=>cs=[.int k n]| .str,l,cs=>cs=[.string ⟨l.toArray⟩]| .prod a b,x,cs=>∃c d,cs=c++d/\rep h ok a x.1 c/\rep h ok b x.2 d| .unit,_,cs=>cs=[]| .any o,_,cs=>∃v,cs=[v]/\v.oneCell' =true/\c3I o v
 | .sl t,xs,cs=>(t.isEnt=false/\∃a cap,cs=[.slice a xs.length cap]/\xs.length<=cap/\
   ∀i x,xs[i]? =some x->∃blk off es,a=some ⟨blk,off,none⟩/\ok blk t/\fH h blk (off+i*t.size) t.size=some es/\rep h ok t x es)\/
   (t.isEnt=true/\∃mv,cs=[.map mv]/\(mv=none->xs=[])/\∀blk,mv=some blk->ok blk t/\∃(es:Array MapEntry) (ck:Nat),h[blk]? =some (.map es ck)/\es.size=(xs:List t.den).length/\
    ∀(i:Nat) (x:t.den),(xs:List t.den)[i]? =some x->∃e:MapEntry,es[i]? =some e/\b2a t e/\rep h ok t x (YI t e))
variable {t:Ty}{xs:List t.den}{ok:Nat->Ty->Prop}
theorem AZ{cs:d4J}(ht:t.isEnt=false):rep h ok (.sl t) xs cs↔∃a cap,cs=[.slice a xs.length cap]/\xs.length<=cap/\
   ∀i x,xs[i]? =some x->∃blk off es,a=some ⟨blk,off,none⟩/\ok blk t/\fH h blk (off+i*t.size) t.size=some es/\rep h ok t x es:=by
 constructor
 .rintro(h|h)
  .exact h.2
  .rw[ht]at h;cases h.1
 .exact λh=> .inl ⟨ht,h⟩
theorem b4g{cs:d4J}(ht:t.isEnt=true):rep h ok (.sl t) xs cs↔∃mv,cs=[.map mv]/\(mv=none->xs=[])/\∀blk,mv=some blk->ok blk t/\∃(es:Array MapEntry) (ck:Nat),h[blk]? =some (.map es ck)/\es.size=(xs:List t.den).length/\
    ∀(i:Nat) (x:t.den),(xs:List t.den)[i]? =some x->∃e:MapEntry,es[i]? =some e/\b2a t e/\rep h ok t x (YI t e):=by
 constructor
 .rintro(h|h)
  .rw[ht]at h;cases h.1
  .exact h.2
 .exact λh=> .inr ⟨ht,h⟩
theorem jh{h:Array Obj}{ok:Nat->Ty->Prop} :∀{t:Ty} {x:t.den} {cs:d4J},rep h ok t x cs->cs.length=t.size
 | .bool,_,_,e=>by simp[rep]at e;simp[e,Ty.size]| .int _,_,_,e=>by simp[rep]at e;simp[e,Ty.size]| .str,_,_,e=>by simp[rep]at e;simp[e,Ty.size]| .unit,_,_,e=>by simp[rep]at e;simp[e,Ty.size]| .any _,_,_,e=>by obtain⟨v,rfl,_⟩:=e;rfl
 | .prod a b,_,_,e=>by obtain⟨c,d,rfl,h1,h2⟩:=e;simp[jh h1,jh h2,Ty.size]
 | .ent _ _ a b,_,_,e=>by obtain⟨c,d,rfl,h1,h2⟩:=e;simp[jh h1,jh h2,Ty.size]
 | .sl t,_,_,e=>by rcases e with⟨_,a,cap,rfl,_⟩|⟨_,mv,rfl,_⟩<;>simp[Ty.size]
theorem iV{h h' :Array Obj}{ok ok' :Nat->Ty->Prop}(hok:∀b t,ok b t->ok' b t)(hh:∀b t,ok b t->h'[b]? =h[b]?):
  ∀{t:Ty} {x:t.den} {cs:d4J},rep h ok t x cs->rep h' ok' t x cs
 | .bool,_,_,e=>e| .int _,_,_,e=>e| .str,_,_,e=>e| .unit,_,_,e=>e| .any _,_,_,e=>e| .prod a b,_,_,e=>by obtain⟨c,d,rfl,h1,h2⟩:=e;exact⟨c,d,rfl,iV hok hh h1,iV hok hh h2⟩
 | .ent _ _ a b,_,_,e=>by obtain⟨c,d,rfl,h1,h2⟩:=e;exact⟨c,d,rfl,iV hok hh h1,iV hok hh h2⟩
 | .sl t,xs,_,e=>by
  rcases e with⟨ht,a,cap,rfl,hc,hx⟩|⟨ht,mv,rfl,hn,hx⟩
  .refine .inl ⟨ht,a,cap,rfl,hc,λi x hi=>?_⟩;obtain⟨blk,off,es,ha,hb,he,hr⟩:=hx i x hi;exact⟨blk,off,es,ha,hok _ _ hb,by rw[uA (hh _ _ hb)];exact he,iV hok hh hr⟩
  .refine .inr ⟨ht,mv,rfl,hn,λblk hb=>?_⟩;obtain⟨ho,es,ck,he,hs,hi⟩:=hx blk hb;refine⟨hok _ _ ho,es,ck,by rw[hh _ _ ho];exact he,hs,λi x hx=>?_⟩;obtain⟨e,h1,h2,h3⟩:=hi i x hx;exact⟨e,h1,h2,iV hok hh h3⟩
theorem BJ{h:Array Obj}{ok:Nat->Ty->Prop} :∀{t:Ty} {x:t.den} {cs:d4J},rep h ok t x cs->∀v∈cs,v.oneCell' =true
 | .bool,_,_,e=>by simp[rep]at e;subst e;simp[Value.oneCell']| .int _,_,_,e=>by simp[rep]at e;subst e;simp[Value.oneCell']| .str,_,_,e=>by simp[rep]at e;subst e;simp[Value.oneCell']| .unit,_,_,e=>by simp[rep]at e;subst e;simp| .any _,_,_,e=>by obtain⟨v,rfl,h,_⟩:=e;simp[h]
 | .prod a b,_,_,e=>by
  obtain⟨c,d,rfl,h1,h2⟩:=e;intro v hv;rcases E9.1 hv with hv|hv
  .exact BJ h1 v hv
  .exact BJ h2 v hv
 | .ent _ _ a b,_,_,e=>by
  obtain⟨c,d,rfl,h1,h2⟩:=e;intro v hv;rcases E9.1 hv with hv|hv
  .exact BJ h1 v hv
  .exact BJ h2 v hv
 | .sl t,xs,_,e=>by rcases e with⟨_,a,cap,rfl,_⟩|⟨_,mv,rfl,_⟩<;>simp[Value.oneCell']
theorem zl{h:Array Obj}{ok ok' :Nat->Ty->Prop} :∀{t:Ty} {x:t.den} {cs:d4J},(∀b u,ok b u->Ty.occ u t=true->ok' b u)->rep h ok t x cs->rep h ok' t x cs
 | .bool,_,_,_,e=>e| .int _,_,_,_,e=>e| .str,_,_,_,e=>e| .unit,_,_,_,e=>e| .any _,_,_,_,e=>e| .prod a b,_,_,f,e=>by obtain⟨c,d,rfl,h1,h2⟩:=e;exact⟨c,d,rfl,zl (λb u h k=>f b u h (by simp[Ty.occ,k])) h1,zl (λb u h k=>f b u h (by simp[Ty.occ,k])) h2⟩
 | .ent _ _ a b,_,_,f,e=>by obtain⟨c,d,rfl,h1,h2⟩:=e;exact⟨c,d,rfl,zl (λb u h k=>f b u h (by simp[Ty.occ,k])) h1,zl (λb u h k=>f b u h (by simp[Ty.occ,k])) h2⟩
 | .sl t,xs,_,f,e=>by
  rcases e with⟨ht,a,cap,rfl,hc,hx⟩|⟨ht,mv,rfl,hn,hx⟩
  .refine .inl ⟨ht,a,cap,rfl,hc,λi x hi=>?_⟩;obtain⟨blk,off,es,ha,hb,he,hr⟩:=hx i x hi;exact⟨blk,off,es,ha,f _ _ hb (by simp[Ty.occ]),he,zl (λb u h k=>f b u h (by simp[Ty.occ,k])) hr⟩
  .refine .inr ⟨ht,mv,rfl,hn,λblk hb=>?_⟩;obtain⟨ho,es,ck,he,hs,hi⟩:=hx blk hb;refine⟨f _ _ ho (by simp[Ty.occ]),es,ck,he,hs,λi x hx=>?_⟩;obtain⟨e,h1,h2,h3⟩:=hi i x hx;exact⟨e,h1,h2,zl (λb u h k=>f b u h (by simp[Ty.occ,k])) h3⟩
inductive Loc where
 |nil|arr (blk off len cap sz:Nat)|st (blk:Nat)|mp (blk:Nat)
structure Mp where
 loc:Nat->Option Loc
 kid:Nat->d4K
instance:CoeFun Mp (λ_=>Nat->Option Loc):=⟨Mp.loc⟩
def nom:Mp:=⟨λ_=>none,λ_=>[]⟩
structure Cx where
 h:Array Obj
 ok:Nat->Ty->Prop
 m:Mp
def Loc.view:Loc->Option (Nat×Nat)->Value->Prop
 | .nil,none,v=>v= .slice none 0 0| .nil,some (lo,hi),v=>lo=0/\hi=0/\v= .slice none 0 0| .arr blk off len cap _,none,v=>v= .slice (some ⟨blk,off,none⟩) len cap| .arr blk off len cap sz,some (lo,hi),v=>lo<=hi/\hi<=len/\v= .slice (some (if cap=lo then⟨blk,off,none⟩else⟨blk,off+lo*sz,none⟩)) (hi -lo) (cap -lo)| .st _,_,_=>False| .mp b,none,v=>v= .map (some b)| .mp _,some _,_=>False
def Loc.blks:Loc->d4K
 | .nil=>[]| .arr b _ _ _ _=>[b]| .st b=>[b]| .mp b=>[b]
def a1G(h:Array Obj)(ok:Nat->Ty->Prop)(t:Ty)(x:t.den)(o:Nat)(v:Value):Prop:=
 ∃blk off es,v= .pointer (some ⟨blk,off+o,none⟩)/\ok blk t/\fH h blk off t.size=some es/\rep h ok t x es
def Ha(h:Array Obj)(ok:Nat->Ty->Prop):List ((t:Ty)×t.den)->d4J->Prop
 |[],vs=>vs=[]|c::cs,vs=>∃v r,vs=v::r/\a1G h ok c.1 c.2 0 v/\Ha h ok cs r
def xR(C:Cx):V->Value->Prop
 | .undef,_=>True| .un,v=>v=Go.undef| .b x,v=>v= .bool x| .i k n,v=>v= .int k n| .s l,v=>v= .string ⟨l.toArray⟩| .nl,v=>v= .slice none 0 0| .npt,v=>v= .pointer none| .ne b,v=>∃a c,v= .slice a 0 c/\a.isNone=b| .sl t xs,v=>rep C.h C.ok (.sl t) xs [v]| .own bx vw,v=>∃loc,C.m bx=some loc/\loc.view vw v| .ptr bx o,v=>∃blk,C.m bx=some (.st blk)/\v= .pointer (some ⟨blk,o,none⟩)| .ep bx ix o,v=>∃blk off len cap sz,C.m bx=some (.arr blk off len cap sz)/\ix<len/\v= .pointer (some ⟨blk,off+ix*sz+o,none⟩)| .dp t x o,v=>a1G C.h C.ok t x o v| .glob g,v=>v= .pointer (some ⟨g,0,none⟩)| .fnv f,v=>v= .func (.func f) #[] #[]| .idl f n,v=>∃cap:Array Value,v= .func (.func f) #[] cap/\cap.size=n| .clos f caps,v=>∃vs,v= .func (.func f) #[] vs/\Ha C.h C.ok caps vs.toList| .ifc t c,v=>∃u,v= .iface t u/\u.oneCell' =true/\xR C c u|_,_=>False
def iJ(C:Cx):List V->d4J->Prop
 |[],vs=>vs=[]|c::cs,vs=>∃v r,vs=v::r/\xR C c v/\v.oneCell' =true/\iJ C cs r
def a2p(C:Cx):V->Value->Prop
 | .agg cs,v=>∃arr,v= .agg arr/\iJ C cs arr.toList|c,v=>xR C c v
def a2s(C:Cx):List V->d4J->Prop
 |[],vs=>vs=[]|c::cs,vs=>∃v r,vs=v::r/\a2p C c v/\a2s C cs r
def nI(C:Cx):V->Value->Prop
 | .tup cs,v=>∃arr,v= .tuple arr/\a2s C cs arr.toList|c,v=>a2p C c v
def fzo(t:Ty)(n:Nat)(f:Nat×Nat):Prop:=f=(0,0)\/(t= .int .u8/\f=(n,n+1))
theorem fzo.of{f:Nat×Nat}(h:fzo t n f):f=(0,0)\/f=(n,n+1):=h.elim .inl λh=> .inr h.2
def arrOk(C:Cx)(t:Ty)(xs:List t.den):Loc->Prop
 | .nil=>xs=[]/\t.isEnt=false| .arr blk off len cap sz=>t.isEnt=false/\sz=t.size/\len=xs.length/\len<=cap/\∃c T f,C.h[blk]? =some (.cells c T f)/\fzo t c.size f/\off+cap*sz<=c.size/\
   ∀i x,xs[i]? =some x->∃es,fH C.h blk (off+i*sz) sz=some es/\rep C.h C.ok t x es
 | .st _=>False| .mp blk=>t.isEnt=true/\∃(es:Array MapEntry) (ck:Nat),C.h[blk]? =some (.map es ck)/\es.size=xs.length/\
   ∀(i:Nat) (x:t.den),(xs:List t.den)[i]? =some x->∃e:MapEntry,es[i]? =some e/\b2a t e/\rep C.h C.ok t x (YI t e)
def EX{α:Type}(h:Array Obj)(sz:Nat)(R:Nat->α->d4J->d4K->Prop)(xs:List α)(Os:List d4K):Loc->Prop
 | .nil=>xs=[]/\Os=[]| .arr blk off len cap sz' =>sz' =sz/\len=xs.length/\len<=cap/\Os.length=xs.length/\∃c T,h[blk]? =some (.cells c T (0,0))/\off+cap*sz<=c.size/\
   ∀i x,xs[i]? =some x->∃es O,Os[i]? =some O/\fH h blk (off+i*sz) sz=some es/\R i x es O
 | .st _=>False| .mp _=>False
def vV(h:Array Obj)(te:Nat)(xs:d4H):Loc->Prop
 | .nil=>xs=[]
 | .arr g off len cap sz=>off=0/\sz=1/\len=xs.length/\len<=cap/\cap<=maxLen/\∃cur fz,h[g]? =some (.cells cur te fz)/\fz.2<=len/\cur.size=cap/\cur.toList.take len=xs.map λc=>Value.int .u8 (c.toNat:Int)| .st _=>False| .mp _=>False
variable {l:Loc}
theorem yL{te:Nat}{xs:d4H}(hh:∀b∈l.blks,h'[b]? =h[b]?)(hr:vV h te xs l):vV h' te xs l:=by
 cases l with
 |nil=>exact hr|st b=>exact hr|mp b=>exact hr|arr g off len cap sz=>obtain⟨h1,h2,h3,h4,h5,cur,fz,h6,h7⟩:=hr;exact⟨h1,h2,h3,h4,h5,cur,fz,by rw[hh g (by simp[Loc.blks])];exact h6,h7⟩
def qY(h:Array Obj)(ok:Nat->Ty->Prop):(m:M)->Option Nat->m.den->d4J->d4K->Prop
 | .dat t,_,x,cs,O=>rep h ok t x cs/\O=[]| .own t,ho,xs,cs,O=>∃v,cs=[v]/\v.oneCell' =true/\(match ho with|some 0=>O=[]|_=>∃l,l.view none v/\arrOk ⟨h,ok,nom⟩ t xs l/\O=l.blks)| .pair a b,ho,x,cs,O=>∃c d O1 O2,cs=c++d/\O=O1++O2/\qY h ok a (match ho with|some o=>if o<a.size then some o else none|none=>none) x.1 c O1/\
   qY h ok b (match ho with|some o=>if o<a.size then none else some (o -a.size)|none=>none) x.2 d O2
 | .unit,_,_,cs,O=>cs=[]/\O=[]| .box m,_,x,cs,O=>∃blk arr T O',cs=[.pointer (some ⟨blk,0,none⟩)]/\h[blk]? =some (.cells arr T (0,0))/\qY h ok m none x arr.toList O' /\O=blk::O'| .owns m,ho,xs,cs,O=>∃v,cs=[v]/\v.oneCell' =true/\(match ho with|some 0=>O=[]|_=>m.el=true/\∃l Os,l.view none v/\EX h m.size (λ_ x es O=>qY h ok m none x es O) xs Os l/\O=l.blks++Os.flatten)| .ownb t,_,xs,cs,O=>∃l v,cs=[v]/\l.view none v/\arrOk ⟨h,ok,nom⟩ t xs l/\O=l.blks| .rp t,_,x,cs,O=>∃v,cs=[v]/\a1G h ok t x 0 v/\O=[]| .fn f ts,_,x,cs,O=>∃vs,cs=[.func (.func f) #[] vs]/\Ha h ok (Wi ts x) vs.toList/\O=[]| .ifc t m,_,x,cs,O=>∃u,cs=[.iface t u]/\qY h ok m none x [u] O| .lp t,_,x,cs,O=>∃v,cs=[v]/\a1G h ok t x 0 v/\O=[]| .dv ..,_,x,cs,O=>∃v,cs=[v]/\v.oneCell' =true/\O=[]| .cell b,_,x,cs,O=>∃v,cs=[v]/\v.oneCell' =true/\(b=some none->v= .slice none 0 0)/\(∀b',b=some (some b')->∃a c,v= .slice a 0 c/\a.isNone=b')/\O=[]| .fr t,_,xs,cs,O=>∃l v,cs=[v]/\l.view none v/\arrOk ⟨h,ok,nom⟩ t xs l/\(∀b∈l.blks,ok b t)/\O=[]| .sit,_,x,cs,O=>∃blk s q,cs=[.pointer (some ⟨blk,0,none⟩)]/\h[blk]? =some (.stringIter s q)/\s.data.toList=x.1/\x.2=((q:Nat):Int)/\O=[blk]| .sbx tb te,_,xs,cs,O=>∃blk a v l,cs=[.pointer (some ⟨blk,0,none⟩)]/\h[blk]? =some (.cells #[a,v] tb (0,0))/\(a= .pointer none\/a= .pointer (some ⟨blk,0,none⟩))/\l.view none v/\vV h te xs l/\O=blk::l.blks
def N_(hole:Option (Nat×Nat×Option Nat))(i:Nat):Option Nat:=match hole with|some (j,o,_)=>if i=j then some o else none|none=>none
def YV(C:Cx)(sz:Nat)(l:Loc):Option (Nat×Nat×Option Nat)->Prop
 |none=>True|some (_,_,none)=>True|some (i,o,some n)=>∃blk off len cap u l',l= .arr blk off len cap sz/\fH C.h blk (off+i*sz+o) 1=some [u]/\C.m n=some l' /\l'.view none u
def a8w(C:Cx)(m:M)(xs:List m.den)(hole:Option (Nat×Nat×Option Nat))(Os:List d4K)(l:Loc):Prop:=
 EX C.h m.size (λi x es O=>qY C.h C.ok m (N_ hole i) x es O) xs Os l/\YV C m.size l hole
def Gm(C:Cx)(n:Nat):V->Prop
 | .bcells cs=>∃blk arr T,C.m n=some (.st blk)/\C.h[blk]? =some (.cells arr T (0,0))/\iJ C cs arr.toList| .biter l p=>∃blk s q,C.m n=some (.st blk)/\C.h[blk]? =some (.stringIter s q)/\s.data.toList=l/\p=((q:Nat):Int)| .bsb tb c=>∃blk a v,C.m n=some (.st blk)/\C.h[blk]? =some (.cells #[a,v] tb (0,0))/\(a= .pointer none\/a= .pointer (some ⟨blk,0,none⟩))/\xR C c v| .brow te xs=>∃loc,C.m n=some loc/\vV C.h te xs loc| .barr t xs=>∃loc,C.m n=some loc/\arrOk C t xs loc| .bfrz t xs=>∃loc,C.m n=some loc/\arrOk C t xs loc/\(∀blk,blk∈loc.blks->C.ok blk t)| .barrs m xs hole=>m.el=true/\∃loc Os,C.m n=some loc/\a8w C m xs hole Os loc/\C.m.kid n=Os.flatten| .bfc t x=>∃blk es,C.m n=some (.st blk)/\C.ok blk t/\fH C.h blk 0 t.size=some es/\rep C.h C.ok t x es| .gone t=>∃l,C.m n=some l/\∀blk off len cap sz,l= .arr blk off len cap sz->sz=t.size| .blen ln sz=>∃k l,n=RH+k/\C.m k=some l/\(match l with| .arr _ _ len _ sz' =>ln=(len:Int)/\sz=sz'| .nil=>ln=0| .st _=>False| .mp _=>False)|_=>True
def Y1(m:Mp)(n:Nat):V->d4K
 | .bcells _=>match m n with|some (.st blk)=>[blk]|_=>[]
 | .biter _ _=>match m n with|some (.st blk)=>[blk]|_=>[]
 | .bsb _ _=>match m n with|some (.st blk)=>[blk]|_=>[]
 | .brow _ _=>match m n with|some (.arr blk _ _ _ _)=>[blk]|_=>[]
 | .barr _ _=>match m n with|some (.arr blk _ _ _ _)=>[blk]|some (.mp blk)=>[blk]|_=>[]
 | .barrs _ _ _=>(match m n with|some (.arr blk _ _ _ _)=>[blk]|_=>[])++m.kid n|_=>[]
def b7u:V->List Ty
 | .barr t _=>[t]| .barrs m _ _=>m.ty::m.owned|_=>[]
def b3k(v:V)(t:Ty):Prop:=match v with
 | .bcells _=>True|v=>t∈b7u v
structure Cx.le (C D:Cx):Prop where
 ok:∀b t,C.ok b t->D.ok b t
 h:∀b t,C.ok b t->D.h[b]? =C.h[b]?
 m:∀n l,C.m n=some l->D.m n=some l
theorem Cx.le.refl(C:Cx):C.le C:=⟨λ_ _ h=>h,λ_ _ _=>rfl,λ_ _ h=>h⟩
theorem Cx.le.trans{A B C:Cx}(h:A.le B)(k:B.le C):A.le C:=
 ⟨λb t x=>k.ok _ _ (h.ok _ _ x),λb t x=>(k.h _ _ (h.ok _ _ x)).trans (h.h _ _ x),λn l x=>k.m _ _ (h.m _ _ x)⟩
variable {v:Value}{ok':Nat->Ty->Prop}
theorem GG(hok:∀b t,ok b t->ok' b t)(hh:∀b t,ok b t->h'[b]? =h[b]?){x:t.den}{o:Nat}(hr:a1G h ok t x o v):a1G h' ok' t x o v:=by obtain⟨b,o',es,hv,hb,hc,hp⟩:=hr;exact⟨b,o',es,hv,hok _ _ hb,by rw[uA (hh _ _ hb)];exact hc,iV hok hh hp⟩
theorem Ol{h h' :Array Obj}{ok ok' :Nat->Ty->Prop}(hok:∀b t,ok b t->ok' b t)(hh:∀b t,ok b t->h'[b]? =h[b]?):∀{cs:List ((t:Ty)×t.den)} {vs:d4J},Ha h ok cs vs->Ha h' ok' cs vs
 |[],_,hr=>hr|_::_,_,⟨v,r,e,h1,h2⟩=>⟨v,r,e,GG hok hh h1,Ol hok hh h2⟩
variable {C:Cx}{D:Cx}
theorem a2q(h:C.le D):∀{c:V} {v:Value},xR C c v->xR D c v:=by
 intro c;induction c using V.rec (motive_2:=λ_=>True)<;>try trivial
 all_goals
  intro v hr;simp only[xR]at hr ⊢
  try exact hr
 case sl t xs=>exact iV h.ok h.h hr
 case own bx vw=>obtain⟨l,hm,hv⟩:=hr;exact⟨l,h.m _ _ hm,hv⟩
 case ptr bx o=>obtain⟨b,hm,hv⟩:=hr;exact⟨b,h.m _ _ hm,hv⟩
 case ep bx ix o=>obtain⟨b,o',l,c,s,hm,hv⟩:=hr;exact⟨b,o',l,c,s,h.m _ _ hm,hv⟩
 case dp t x o=>exact GG h.ok h.h hr
 case clos f caps=>obtain⟨vs,e,hc⟩:=hr;exact⟨vs,e,Ol h.ok h.h hc⟩
 case ifc t c ih=>obtain⟨u,e,h1,hc⟩:=hr;exact⟨u,e,h1,ih hc⟩
theorem Jk{C D:Cx}(h:C.le D):∀{cs:List V} {vs:d4J},iJ C cs vs->iJ D cs vs
 |[],_,hr=>hr|_::_,_,⟨v,r,e,h1,h2,h3⟩=>⟨v,r,e,a2q h h1,h2,Jk h h3⟩
theorem a9k(h:C.le D){c:V}(hr:a2p C c v):a2p D c v:=by
 cases c<;>simp only[a2p]at hr ⊢<;>try exact a2q h hr
 case agg cs=>obtain⟨arr,e,hl⟩:=hr;exact⟨arr,e,Jk h hl⟩
theorem a9l{C D:Cx}(h:C.le D):∀{cs:List V} {vs:d4J},a2s C cs vs->a2s D cs vs
 |[],_,hr=>hr|_::_,_,⟨v,r,e,h1,h3⟩=>⟨v,r,e,a9k h h1,a9l h h3⟩
theorem QE(h:C.le D){c:V}(hr:nI C c v):nI D c v:=by
 cases c<;>simp only[nI]at hr ⊢<;>try exact a9k h hr
 case tup cs=>obtain⟨arr,e,hl⟩:=hr;exact⟨arr,e,a9l h hl⟩
theorem qw{m m' :Mp}(hok:∀b t,ok b t->ok' b t)(hh:∀b t,ok b t->h'[b]? =h[b]?)
  (hb:∀b∈l.blks,h'[b]? =h[b]?) (hr:arrOk ⟨h,ok,m⟩ t xs l):arrOk ⟨h',ok',m'⟩ t xs l:=by
 cases l with
 |nil=>exact hr|st b=>exact hr|mp blk=>have e:=hb blk (by simp[Loc.blks]);obtain⟨h1,es,ck,h2,h3,h4⟩:=hr;refine⟨h1,es,ck,by show h'[blk]? =_;rw[e];exact h2,h3,λi x hi=>?_⟩;obtain⟨en,a1,a2,a3⟩:=h4 i x hi;exact⟨en,a1,a2,iV hok hh a3⟩
 |arr blk off len cap sz=>have e:=hb blk (by simp[Loc.blks]);obtain⟨h0,h1,h2,h3,c,T,f,h4,hz,h5,h6⟩:=hr;refine⟨h0,h1,h2,h3,c,T,f,by show h'[blk]? =_;rw[e];exact h4,hz,h5,λi x hi=>?_⟩;obtain⟨es,he,hp⟩:=h6 i x hi;exact⟨es,by show fH h' _ _ _=_;rw[uA e];exact he,iV hok hh hp⟩
theorem a3i(h:C.le D)(hb:∀b∈l.blks,D.h[b]? =C.h[b]?)(hr:arrOk C t xs l):arrOk D t xs l:=
 qw h.ok h.h hb hr
theorem IL{α:Type}{sz:Nat}{R R' :Nat->α->d4J->d4K->Prop}{xs:List α}{Os:List d4K}(hb:∀b∈l.blks,h'[b]? =h[b]?)
  (hR:∀i x es O,O∈Os->R i x es O->R' i x es O) (hr:EX h sz R xs Os l):EX h' sz R' xs Os l:=by
 cases l with
 |nil=>exact hr|st b=>exact hr|mp b=>exact hr|arr blk off len cap sz=>have e:=hb blk (by simp[Loc.blks]);obtain⟨h1,h2,h3,h7,c,T,h4,h5,h6⟩:=hr;refine⟨h1,h2,h3,h7,c,T,by rw[e];exact h4,h5,λi x hi=>?_⟩;obtain⟨es,O,hO,he,hp⟩:=h6 i x hi;exact⟨es,O,hO,by rw[uA e];exact he,hR _ _ _ _ (mM hO) hp⟩
theorem kY{h h' :Array Obj}{ok ok' :Nat->Ty->Prop}(hok:∀b t,ok b t->ok' b t)(hh:∀b t,ok b t->h'[b]? =h[b]?):
  ∀{m:M} {ho:Option Nat} {x:m.den} {cs:d4J} {O:d4K},(∀b∈O,h'[b]? =h[b]?)->qY h ok m ho x cs O->qY h' ok' m ho x cs O
 | .dat t,_,_,_,_,_,e=>⟨iV hok hh e.1,e.2⟩| .own t,ho,_,_,O,hb,⟨v,e,h1,ha⟩=>by
  refine⟨v,e,h1,?_⟩;split at ha
  .exact ha
  .obtain⟨l,hv,ha,ho⟩:=ha;exact⟨l,hv,qw hok hh (by subst ho;exact hb) ha,ho⟩
 | .pair a b,_,_,_,_,hb,⟨c,d,O1,O2,e,eo,h1,h2⟩=>by subst eo;exact⟨c,d,O1,O2,e,rfl,kY hok hh (λb h=>hb b (by simp[h])) h1,kY hok hh (λb h=>hb b (by simp[h])) h2⟩| .unit,_,_,_,_,_,e=>e| .box m,_,_,_,_,hb,⟨blk,arr,T,O',e,hh',hr,eo⟩=>by subst eo;exact⟨blk,arr,T,O',e,by rw[hb blk A7];exact hh',kY hok hh (λb h=>hb b (by simp[h])) hr,rfl⟩| .owns m,ho,_,_,O,hb,⟨v,e,h1,ha⟩=>by
  refine⟨v,e,h1,?_⟩;split at ha
  .exact ha
  .obtain⟨he,l,Os,hv,ha,ho⟩:=ha;subst ho;exact⟨he,l,Os,hv,IL (λb h=>hb b (by simp[h])) (λi x es O hO hr=>kY hok hh (λb h=>hb b (by simp only[E9,fC];exact .inr ⟨O,hO,h⟩)) hr) ha,rfl⟩
 | .ownb t,_,_,_,_,hb,⟨l,v,e,hv,ha,ho⟩=>⟨l,v,e,hv,qw hok hh (by subst ho;exact hb) ha,ho⟩| .rp t,_,_,_,_,_,⟨v,e,h1,h2⟩=>⟨v,e,GG hok hh h1,h2⟩| .fn f ts,_,_,_,_,_,⟨vs,e,h1,h2⟩=>⟨vs,e,Ol hok hh h1,h2⟩| .lp t,_,_,_,_,_,⟨v,e,h1,h2⟩=>⟨v,e,GG hok hh h1,h2⟩| .dv ..,_,_,_,_,_,h=>h| .ifc t m,_,_,_,_,hb,⟨u,e,h1⟩=>⟨u,e,kY hok hh hb h1⟩| .cell b,_,_,_,_,_,h=>h| .fr t,_,_,_,_,_,⟨l,v,e,hv,ha,hk,ho⟩=>⟨l,v,e,hv,qw hok hh (λb h=>hh _ _ (hk b h)) ha,λb h=>hok _ _ (hk b h),ho⟩| .sit,_,_,_,_,hb,⟨blk,s,q,e,hh',h2,h3,eo⟩=>by subst eo;exact⟨blk,s,q,e,by rw[hb blk A7];exact hh',h2,h3,rfl⟩| .sbx tb te,_,_,_,_,hb,⟨blk,a,v,l,e,hh',h2,h3,h4,eo⟩=>by subst eo;exact⟨blk,a,v,l,e,by rw[hb blk A7];exact hh',h2,h3,yL (λb h=>hb b (by simp[h])) h4,rfl⟩
theorem XK(h:C.le D){v:V}(hk:D.m.kid n=C.m.kid n)(hb:∀b∈Y1 C.m n v,D.h[b]? =C.h[b]?)(hr:Gm C n v):Gm D n v:=by
 cases v<;>simp only[Gm]at hr ⊢
 case bcells cs=>obtain⟨blk,arr,T,hm,hh,hl⟩:=hr;exact⟨blk,arr,T,h.m _ _ hm,by rw[hb blk (by simp[Y1,hm])];exact hh,Jk h hl⟩
 case biter l p=>obtain⟨blk,s,q,hm,hh,h2,h3⟩:=hr;exact⟨blk,s,q,h.m _ _ hm,by rw[hb blk (by simp[Y1,hm])];exact hh,h2,h3⟩
 case bsb tb c=>obtain⟨blk,a,v,hm,hh,h2,h3⟩:=hr;exact⟨blk,a,v,h.m _ _ hm,by rw[hb blk (by simp[Y1,hm])];exact hh,h2,a2q h h3⟩
 case brow te xs=>
  obtain⟨l,hm,ha⟩:=hr;refine⟨l,h.m _ _ hm,yL (λb hbl=>hb b ?_) ha⟩;cases l<;>simp[Loc.blks]at hbl
  .subst hbl;simp[Y1,hm]
  .cases ha
  .cases ha
 case barr t xs=>
  obtain⟨l,hm,ha⟩:=hr;refine⟨l,h.m _ _ hm,a3i h ?_ ha⟩;intro b hbl;refine hb b ?_;cases l<;>simp[Loc.blks]at hbl
  .subst hbl;simp[Y1,hm]
  .cases ha
  .subst hbl;simp[Y1,hm]
 case bfrz t xs=>obtain⟨l,hm,ha,hok⟩:=hr;refine⟨l,h.m _ _ hm,a3i h ?_ ha,λblk e=>h.ok _ _ (hok _ e)⟩;intro b hbl;exact h.h _ _ (hok _ hbl)
 case barrs m xs hole=>
  obtain⟨he,l,Os,hm,ha,ho⟩:=hr;obtain⟨ha,hh⟩:=ha;refine⟨he,l,Os,h.m _ _ hm,⟨IL ?_ ?_ ha,?_⟩,hk.trans ho⟩
  .intro b hbl;refine hb b ?_;cases l<;>simp[Loc.blks]at hbl
   .subst hbl;simp[Y1,hm]
   .cases ha
   .cases ha
  .intro i x es O hO hr;refine kY h.ok h.h (λb hbO=>hb b ?_) hr;simp only[Y1,E9];right;rw[ho];exact fC.2 ⟨O,hO,hbO⟩
  .rcases hole with _|⟨i,o,_|k⟩
   .trivial
   .trivial
   .obtain⟨blk,off,len,cap,u,l',rfl,h1,h2,h3⟩:=hh;exact⟨blk,off,len,cap,u,l',rfl,by rw[uA (hb blk (by simp[Y1,hm]))];exact h1,h.m _ _ h2,h3⟩
 case bfc t x=>obtain⟨blk,es,hm,hok,he,hr⟩:=hr;exact⟨blk,es,h.m _ _ hm,h.ok _ _ hok,by rw[uA (h.h _ _ hok)];exact he,iV h.ok h.h hr⟩
 case gone t=>obtain⟨l,hm,hs⟩:=hr;exact⟨l,h.m _ _ hm,hs⟩
 case blen ln sz=>obtain⟨k,l,e,hm,hs⟩:=hr;exact⟨k,l,e,h.m _ _ hm,hs⟩
theorem kU{C:Cx} :∀{cs:List V} {vs:d4J},iJ C cs vs->cs.length=vs.length
 |[],_,h=>by simp[iJ]at h;simp[h]|_::_,_,⟨v,r,e,_,_,h3⟩=>by subst e;simp[kU h3]
theorem yJ{C:Cx} :∀{a:List V} {va:d4J} {b:List V} {vb:d4J},iJ C a va->iJ C b vb->iJ C (a++b) (va++vb)
 |[],_,_,_,h,k=>by simp[iJ]at h;subst h;exact k|_::_,_,_,_,⟨v,r,e,h1,h2,h3⟩,k=>by subst e;exact⟨v,r++_,rfl,h1,h2,yJ h3 k⟩
theorem UA{C:Cx} :∀{cs:List V} {vs:d4J},iJ C cs vs->∀v∈vs,v.oneCell' =true
 |[],_,h=>by simp[iJ]at h;simp[h]|_::_,_,⟨v,r,e,_,h2,h3⟩=>by
  subst e;intro u hu;rcases D6.1 hu with rfl|hu
  .exact h2
  .exact UA h3 u hu
theorem vT{C:Cx} :∀(n:Nat) {cs:List V} {vs:d4J},iJ C cs vs->iJ C (cs.drop n) (vs.drop n)
 |0,_,_,h=>by simpa using h|n+1,[],_,h=>by simp[iJ]at h;subst h;simp[iJ]|n+1,_::_,_,⟨v,r,e,_,_,h3⟩=>by subst e;simpa using vT n h3
theorem xn{C:Cx} :∀(n:Nat) {cs:List V} {vs:d4J},iJ C cs vs->iJ C (cs.take n) (vs.take n)
 |0,_,_,h=>by simp[iJ]|n+1,[],_,h=>by simp[iJ]at h;subst h;simp[iJ]|n+1,_::_,_,⟨v,r,e,h1,h2,h3⟩=>by subst e;exact⟨v,r.take n,A7,h1,h2,xn n h3⟩
theorem ng:∀(t:Ty) (x:t.den) (r:List V),flat t x r=flat t x []++r
 | .bool,_,_=>rfl| .int _,_,_=>rfl| .str,_,_=>rfl| .sl _,_,_=>rfl| .unit,_,_=>rfl| .any _,_,_=>rfl| .prod a b,x,r=>by simp only[flat];rw[ng a x.1 (flat b x.2 r),ng b x.2 r,ng a x.1 (flat b x.2 [])];simp| .ent _ _ a b,x,r=>by simp only[flat];rw[ng a x.1 (flat b x.2 r),ng b x.2 r,ng a x.1 (flat b x.2 [])];simp
theorem tV{C:Cx} :∀{t:Ty} {x:t.den} {cs:d4J},rep C.h C.ok t x cs->iJ C (flat t x []) cs
 | .bool,x,_,h=>by simp[rep]at h;subst h;exact⟨_,_,rfl,rfl,rfl,rfl⟩| .int _,x,_,h=>by simp[rep]at h;subst h;exact⟨_,_,rfl,rfl,rfl,rfl⟩| .str,x,_,h=>by simp[rep]at h;subst h;exact⟨_,_,rfl,rfl,rfl,rfl⟩| .unit,_,_,h=>by simp[rep]at h;subst h;rfl| .any _,_,_,h=>by obtain⟨v,rfl,h1,_⟩:=h;exact⟨v,[],rfl,trivial,h1,rfl⟩
 | .sl t,xs,_,h=>by have h' :=h;rcases h with⟨_,a,cap,rfl,_⟩|⟨_,mv,rfl,_⟩<;>exact⟨_,_,rfl,h',rfl,rfl⟩
 | .ent _ _ a b,x,_,h=>by obtain⟨c,d,rfl,h1,h2⟩:=h;simp only[flat];rw[ng a];exact yJ (tV h1) (tV h2)
 | .prod a b,x,_,h=>by obtain⟨c,d,rfl,h1,h2⟩:=h;simp only[flat];rw[ng a];exact yJ (tV h1) (tV h2)
theorem pI:∀(t:Ty) (x:t.den),(flat t x []).length=t.size
 | .bool,_=>rfl| .int _,_=>rfl| .str,_=>rfl| .sl _,_=>rfl| .unit,_=>rfl| .any _,_=>rfl| .prod a b,x=>by simp only[flat,Ty.size];rw[ng a,I9,pI a x.1,pI b x.2]| .ent _ _ a b,x=>by simp only[flat,Ty.size];rw[ng a,I9,pI a x.1,pI b x.2]
theorem qF{vw:Option (Nat×Nat)}(ha:arrOk C t xs l)(hv:l.view vw v)
  (hok:∀b t,C.ok b t->ok' b t) (hb:∀blk,blk∈l.blks->ok' blk t):rep C.h ok' (.sl t) (jW vw xs) [v]:=by
 cases l with
 |st b=>cases ha|mp b=>
  obtain⟨h0,es,ck,h1,h2,h3⟩:=ha;cases vw with
  |some p=>cases hv|none=>simp only[Loc.view]at hv;subst hv;refine .inr ⟨h0,some b,rfl,(λh=>nomatch h),λblk e=>?_⟩;cases e;refine⟨hb b (by simp[Loc.blks]),es,ck,h1,h2,λi x hi=>?_⟩;obtain⟨en,a1,a2,a3⟩:=h3 i x hi;exact⟨en,a1,a2,iV hok (λ_ _ _=>rfl) a3⟩
 |nil=>
  obtain⟨ha,h0⟩:=ha;subst ha;cases vw with
  |none=>simp only[Loc.view]at hv;subst hv;exact .inl ⟨h0,none,0,rfl,E8 _,λi x hi=>by simp[jW]at hi⟩|some p=>obtain⟨lo,hi⟩:=p;obtain⟨rfl,rfl,rfl⟩:=hv;exact .inl ⟨h0,none,0,by simp[jW,mP],by simp[jW,mP],λi x hi=>by simp[jW,mP]at hi⟩
 |arr blk off len cap sz=>
  obtain⟨h0,rfl,rfl,hc,c,T,f,hh,hz,hs,hx⟩:=ha;have hbk:=hb blk (by simp[Loc.blks]);cases vw with
  |none=>simp only[Loc.view]at hv;subst hv;refine .inl ⟨h0,_,cap,rfl,hc,λi x hi=>?_⟩;obtain⟨es,he,hr⟩:=hx i x hi;exact⟨blk,off,es,rfl,hbk,he,iV hok (λ_ _ _=>rfl) hr⟩
  |some p=>
   obtain⟨lo,hi⟩:=p;obtain⟨h1,h2,rfl⟩:=hv;have hl:(jW (some (lo,hi)) xs).length=hi -lo:=by simp[jW,mP];omega
   refine .inl ⟨h0,_,cap -lo,by rw[hl],by rw[hl];omega,λi x hix=>?_⟩;have hi' :i<hi -lo:=by rw[←hl];exact(aO.1 hix).1
   have hx' :xs[lo+i]? =some x:=by
    simp only[jW,mP,P9,aG]at hix;split at hix
    .exact hix
    .cases hix
   obtain⟨es,he,hr⟩:=hx _ x hx';have hne:cap≠lo:=o5;refine⟨blk,off+lo*t.size,es,by simp[hne],hbk,?_,iV hok (λ_ _ _=>rfl) hr⟩;rw[←he];congr 1;rw[L8];omega
end Go.GP
namespace Go.GP
abbrev Sm:=Nat->V
def upd(S:Sm)(k:Nat)(v:V):Sm:=λn=>if n=k then v else S n
@[simp] theorem lV (S:Sm) (k:Nat) (v:V):upd S k v k=v:=by simp[upd]
theorem cO(S:Sm){k n:Nat}(v:V)(h:n≠k):upd S k v n=S n:=by simp[upd,h]
variable {α:Type}
def Cmd.eval :Cmd α->Sm->Tr->Option (α×Sm×Tr)
 | .ret x,S,t=>some (x,S,t)| .fail,_,_=>none| .get k c,S,t=>(c (S k)).eval S (k::t.1,t.2)| .set k v c,S,t=>c.eval (upd S k v) (t.1,k::t.2)
 | .opt o c,S,t=>match o with|some x=>(c x).eval S t|none=>none
 | .br b c d,S,t=>if b=true then c.eval S t else d.eval S t
def Cmd.post :Cmd α->Sm->(α->Sm->Prop)->Prop
 | .ret x,S,Q=>Q x S| .fail,_,_=>True| .get k c,S,Q=>(c (S k)).post S Q| .set k v c,S,Q=>c.post (upd S k v) Q| .opt o c,S,Q=>∀x,o=some x->(c x).post S Q| .br b c d,S,Q=>(b=true->c.post S Q)/\(b=false->d.post S Q)
theorem vP{α:Type}{Q:α->Sm->Prop} :∀{c:Cmd α} {S S' :Sm} {t t' :Tr} {x:α},c.post S Q->c.eval S t=some (x,S',t')->Q x S'
 | .ret x,_,_,_,_,_,h,e=>by simp[Cmd.eval]at e;obtain⟨rfl,rfl,rfl⟩:=e;exact h
 | .fail,_,_,_,_,_,h,e=>by simp[Cmd.eval]at e| .get k c,_,_,_,_,_,h,e=>vP (c:=c _) h e| .set k v c,_,_,_,_,_,h,e=>vP (c:=c) h e| .opt o c,_,_,_,_,_,h,e=>by
  cases o with
  |none=>simp[Cmd.eval]at e|some x=>exact vP (c:=c x) (h x rfl) e
 | .br b c d,_,_,_,_,_,h,e=>by
  cases b
  .exact vP (c:=d) (h.2 rfl) (by simpa[Cmd.eval]using e)
  .exact vP (c:=c) (h.1 rfl) (by simpa[Cmd.eval]using e)
theorem Eb{α:Type}{Q Q' :α->Sm->Prop}(hq:∀x S,Q x S->Q' x S):∀{c:Cmd α} {S:Sm},c.post S Q->c.post S Q'
 | .ret x,_,h=>hq _ _ h| .fail,_,_=>trivial| .get k c,_,h=>Eb hq (c:=c _) h| .set k v c,_,h=>Eb hq (c:=c) h
 | .opt o c,_,h=>λx e=>Eb hq (c:=c x) (h x e)| .br b c d,_,h=>⟨λe=>Eb hq (c:=c) (h.1 e),λe=>Eb hq (c:=d) (h.2 e)⟩
theorem Kr{R:Type} :∀(v:V) (K:V->R),v.force K=K v:=by
 intro v;induction v using V.rec (motive_2:=λ_=>True)<;>try trivial
 all_goals intro K
 all_goals try rfl
 case i k n=>cases k<;>rfl
 case own bx vw=>cases vw<;>rfl
 case barrs m xs h=>rcases h with _|⟨p,q,_|r⟩<;>rfl
 case ifc t v ih=>simp only[V.force];rw[ih]
 case bsb tb c ih=>simp only[V.force];rw[ih]
theorem a0D{R:Type} :∀(l:List V) (K:List V->R),Vw l K=K l
 |[],_=>rfl|v::r,K=>by simp[Vw,Kr,a0D r]
theorem b0b{R:Type}(v:V)(K:V->R):v.force2 K=K v:=by unfold V.force2;rw[Kr];cases v<;>simp[a0D]
theorem a8P(k:Nat)(v:V)(s:St):gI (.kv k v::s)=upd (gI s) k v:=by
 funext n;simp only[gI,upd];by_cases h:n=k
 .subst h;simp
 .have:Nat.beq k n=false:=by
   cases hb:Nat.beq k n with
   |false=>rfl|true=>exact absurd (iI hb).symm h
  simp[h,this]
theorem Ie{α β:Type}{o:Option α}{f:α->Option β}{r:β}(h:l9 o f=some r):∃x,o=some x/\f x=some r:=by
 cases o with
 |none=>simp[l9]at h|some x=>exact⟨x,rfl,h⟩
theorem ru{α R:Type} :∀{c:Cmd α} {s:St} {t:Tr} {K:α->St->Tr->Option R} {r:R},c.runK s t K=some r->
  ∃x s' t',c.eval (gI s) t=some (x,gI s',t')/\K x s' t' =some r
 | .ret x,s,t,K,r,h=>⟨x,s,t,rfl,h⟩| .fail,_,_,_,_,h=>by simp[Cmd.runK]at h| .get k c,s,t,K,r,h=>by simp only[Cmd.runK,Kr]at h;exact ru (c:=c _) h| .set k v c,s,t,K,r,h=>by simp only[Cmd.runK,b0b]at h;obtain⟨x,s',t',e,hk⟩:=ru (c:=c) h;exact⟨x,s',t',by simpa[Cmd.eval,a8P]using e,hk⟩
 | .opt o c,s,t,K,r,h=>by simp only[Cmd.runK]at h;obtain⟨y,rfl,h⟩:=Ie h;exact ru (c:=c y) h
 | .br b c d,s,t,K,r,h=>by
  simp only[Cmd.runK]at h;cases b
  .obtain⟨x,s',t',e,hk⟩:=ru (c:=d) (show d.runK s t K=some r from h);exact⟨x,s',t',by simpa[Cmd.eval]using e,hk⟩
  .obtain⟨x,s',t',e,hk⟩:=ru (c:=c) (show c.runK s t K=some r from h);exact⟨x,s',t',by simpa[Cmd.eval]using e,hk⟩
theorem DN{α:Type} :∀{c:Cmd α} {S S' :Sm} {t t' :Tr} {x:α},c.eval S t=some (x,S',t')->(∀k∈t.1,k∈t'.1)/\(∀k∈t.2,k∈t'.2)
 | .ret x,_,_,_,_,_,e=>by simp[Cmd.eval]at e;obtain⟨rfl,rfl,rfl⟩:=e;exact⟨λ_ h=>h,λ_ h=>h⟩
 | .fail,_,_,_,_,_,e=>by simp[Cmd.eval]at e| .get k c,_,_,_,_,_,e=>by have h:=DN (c:=c _) e;exact⟨λn hn=>h.1 n (by simp[hn]),h.2⟩| .set k v c,_,_,_,_,_,e=>by have h:=DN (c:=c) e;exact⟨h.1,λn hn=>h.2 n (by simp[hn])⟩| .opt o c,_,_,_,_,_,e=>by
  cases o with
  |none=>simp[Cmd.eval]at e|some x=>exact DN (c:=c x) e
 | .br b c d,_,_,_,_,_,e=>by
  cases b
  .exact DN (c:=d) (by simpa[Cmd.eval]using e)
  .exact DN (c:=c) (by simpa[Cmd.eval]using e)
theorem AO{α:Type} :∀{c:Cmd α} {S S' :Sm} {t t' :Tr} {x:α},c.eval S t=some (x,S',t')->∀T:Sm,(∀k∈t'.1,T k=S k)->
  ∃T',c.eval T t=some (x,T',t')/\(∀k,T k=S k->T' k=S' k)/\(∀k,k∉t'.2->T' k=T k)/\(∀k,k∈t'.2->k∉t.2->T' k=S' k)
 | .ret x,_,_,_,_,_,e,T,hT=>by simp[Cmd.eval]at e;obtain⟨rfl,rfl,rfl⟩:=e;exact⟨T,rfl,λk h=>h,λ_ _=>rfl,λk h1 h2=>absurd h1 h2⟩
 | .fail,_,_,_,_,_,e,_,_=>by simp[Cmd.eval]at e| .get k c,S,_,t,t',_,e,T,hT=>by have hk:T k=S k:=hT k ((DN (c:=c _) e).1 k A7);obtain⟨T',h1,h2,h3,h4⟩:=AO (c:=c _) e T hT;exact⟨T',by simpa[Cmd.eval,hk]using h1,h2,h3,h4⟩
 | .set k v c,S,_,t,t',_,e,T,hT=>by
  obtain⟨T',h1,h2,h3,h4⟩:=AO (c:=c) e (upd T k v) (λn hn=>by
   by_cases h:n=k
   .subst h;simp
   .rw[cO _ _ h,cO _ _ h];exact hT n hn)
  have hkin:k∈t'.2:=(DN (c:=c) e).2 k A7;refine⟨T',h1,λn hn=>h2 n ?_,λn hn=>?_,λn hn hn' =>?_⟩
  .by_cases h:n=k
   .subst h;simp
   .rw[cO _ _ h,cO _ _ h];exact hn
  .have:n≠k:=λh=>hn (h▸hkin);rw[h3 n hn,cO _ _ this]
  .by_cases h:n=k
   .subst h;exact h2 n A7
   .exact h4 n hn (by simp[h,hn'])
 | .opt o c,_,_,_,_,_,e,T,hT=>by
  cases o with
  |none=>simp[Cmd.eval]at e|some x=>exact AO (c:=c x) e T hT
 | .br b c d,_,_,_,_,_,e,T,hT=>by
  cases b
  .obtain⟨T',h1,h2⟩:=AO (c:=d) (by simpa[Cmd.eval]using e) T hT;exact⟨T',by simpa[Cmd.eval]using h1,h2⟩
  .obtain⟨T',h1,h2⟩:=AO (c:=c) (by simpa[Cmd.eval]using e) T hT;exact⟨T',by simpa[Cmd.eval]using h1,h2⟩
theorem LG{c:Cmd α}{S S' :Sm}{t t' :Tr}{x:α}(e:c.eval S t=some (x,S',t'))(k:Nat)(h:k∉t'.2):S' k=S k:=by obtain⟨T',h1,_,h3,_⟩:=AO e S (λ_ _=>rfl);rw[e]at h1;simp at h1;rw[h1];exact h3 k h
section draws
variable {n:Nat} {c:Nat->Cmd Unit} {S:Nat->Sm} {T:Nat->Tr}
def SD(S:Nat->Sm)(T:Nat->Tr)(D:d4K):Nat->Sm
 |0=>S 0
 |m+1=>λk=>if m∈D/\k∈(T m).2 then S (m+1) k else SD S T D m k
theorem Qc(hs:∀i,i<n->(c i).eval (S i) ([],[])=some ((),S (i+1),T i))(D:d4K)(k:Nat):
  ∀m,m<=n->(∀j,j<m->k∈(T j).2->j∈D)->SD S T D m k=S m k
 |0,_,_=>rfl|m+1,hm,h=>by
  have ih:=Qc hs D k m o5 (λj hj=>h j o5);simp only[SD];by_cases hk:k∈(T m).2
  .rw[if_pos ⟨h m o5 hk,hk⟩]
  .rw[if_neg (λx=>hk x.2),ih,LG (hs m o5) k hk]
theorem XW(D:d4K)(k i:Nat):∀m,i<=m->(∀j,i<=j->j<m->k∈(T j).2->j∉D)->SD S T D m k=SD S T D i k
 |m,hm,h=>by
  induction m with
  |zero=>have:i=0:=o5;subst this;rfl|succ m ih=>
   by_cases e:i=m+1
   .subst e;rfl
   .simp only[SD];rw[if_neg (λx=>h m o5 o5 x.2 x.1)];exact ih o5 (λj h1 h2=>h j h1 o5)
theorem a8k(D:d4K)(i k:Nat)(hk:k∉(T i).2):∀m,SD S T (i::D) m k=SD S T D m k
 |0=>rfl|m+1=>by
  simp only[SD,a8k D i k hk m];by_cases e:m=i
  .subst e;simp[hk]
  .simp[D6,e]
theorem b1w(hs:∀i,i<n->(c i).eval (S i) ([],[])=some ((),S (i+1),T i)){D:d4K}(hD:∀i,i<n->i∈D):SD S T D n=S n:=by funext k;exact Qc hs D k n o5 (λj hj _=>hD j hj)
theorem b9d(n:Nat):SD S T [] n=S 0:=by
 induction n with
 |zero=>rfl|succ m ih=>funext k;simp[SD,ih]
end draws
end Go.GP
namespace Go.GP
def a2Z(P:Program)(d:Deferred):Prop:=∃fv cap f args,d.target= .fn fv cap/\(∀w:World,(invoke d.target d.args).run P w= .ok (.enter f args) w)/\
 ∀w,CallsD P f args .returning w λe u' w' =>(∃v,e= .returned v)/\u' = .returning/\w' =w
def c3x(P:Program)(f n:Nat):Prop:=∀cap:Array Value,cap.size=n->a2Z P { target:=.fn (.func f) cap,args:=#[] }
theorem OO{P:Program}{fn:Func}{tmps:Array Value}{R:Ending->World->Prop}{w:World}(h:∃v,(results fn tmps).run P w= .ok v w/\R (.returned v) w):∀(ds:List Deferred),(∀d∈ds,a2Z P d)->Leaves P fn tmps R ds .returning w
 |[],_=>h
 |d::ds,hd=>by obtain⟨fv,cap,f,args,ht,hi,hc⟩:=hd d A7;refine⟨A7,fv,cap,f,args,ht,hi w,(hc w).mono ?_⟩;rintro e u' w' ⟨⟨v,rfl⟩,rfl,rfl⟩;exact OO h ds λx hx=>hd x (by simp[hx])
structure Fx where
 P:Program
 E:Env
 w0:World
 O:d4K
 ok0:Nat->Ty->Prop
 tm0:Array Value
structure Frame' (w0 w:World) (O:d4K):Prop where
 os:w.os=w0.os
 tape:w.tape=w0.tape
 output:w.output=w0.output
 size:w0.heap.size<=w.heap.size
 block:∀b,b<w0.heap.size->b∉O->w.heap[b]? =w0.heap[b]?
theorem Frame'.refl(w:World)(O:d4K):Frame' w w O:=⟨rfl,rfl,rfl,E8 _,λ_ _ _=>rfl⟩
def b8v(h:Array Obj)(g n:Nat):Prop:=∃c T f,h[g]? =some (.cells c T f)/\c.size=n
def NY(C:Cx)(g:Nat)(t:Ty)(xs:List t.den):Prop:=
 C.ok g t/\b8v C.h g (xs.length*t.size)/\∀i x,xs[i]? =some x->∃es,fH C.h g (i*t.size) t.size=some es/\rep C.h C.ok t x es
theorem NY.le{C D:Cx}(h:C.le D){g:Nat}{t:Ty}{xs:List t.den}(k:NY C g t xs):NY D g t xs:=by obtain⟨h1,h3,h2⟩:=k;refine⟨h.ok _ _ h1,by unfold b8v at h3 ⊢;rw[h.h _ _ h1];exact h3,λi x hi=>?_⟩;obtain⟨es,he,hr⟩:=h2 i x hi;exact⟨es,by rw[uA (h.h _ _ h1)];exact he,iV h.ok h.h hr⟩
structure Rel (X:Fx) (cl ch:Nat) (S:Sm) (m:Mp) (ok:Nat->Ty->Prop) (a:Act) (w:World):Prop where
 size:a.tmps.size=X.E.nt
 nodef:∀d∈a.defers,a2Z X.P d
 slot:∀n,n<aS->nI ⟨w.heap,ok,m⟩ (S n) (a.tmps.getD n Go.undef)
 box:∀n,Gm ⟨w.heap,ok,m⟩ n (S (aS+n))
 inj:∀n n' b,b∈Y1 m n (S (aS+n))->b∈Y1 m n' (S (aS+n'))->n=n'
 nd:∀n,(Y1 m n (S (aS+n))).Nodup
 sep:∀n b,b∈Y1 m n (S (aS+n))->(∀t,¬ok b t)/\b<w.heap.size/\(X.w0.heap.size<=b\/b∈X.O)
 okLt:∀b t,ok b t->b<w.heap.size
 okIn:∀b t,X.ok0 b t->ok b t
 okOut:∀b t,ok b t->X.ok0 b t\/X.w0.heap.size<=b\/b∈X.O
 frame:Frame' X.w0 w X.O
 fresh:∀n,cl<=n->S (aS+n)= .undef->m n=none
 strict:∀n,ch<=n->m n=none
 gl:∀g u,fP X.E.gl g=some u->NY ⟨w.heap,ok,m⟩ g u.1 u.2
 kept:∀n∈X.E.kp,a.tmps.getD n Go.undef=X.tm0.getD n Go.undef
def oG(m:Mp)(n:Nat)(l:Loc)(ks:d4K):Mp:=⟨λk=>if k=n then some l else m k,λk=>if k=n then ks else m.kid k⟩
@[simp] theorem bi (m:Mp) (n:Nat) (l:Loc) (ks:d4K):oG m n l ks n=some l:=by simp[oG]
variable {n:Nat}{k:Nat}
theorem jV(m:Mp)(l:Loc)(ks:d4K)(h:k≠n):oG m n l ks k=m k:=by simp[oG,h]
@[simp] theorem d1L (m:Mp) (n:Nat) (l:Loc) (ks:d4K):(oG m n l ks).kid n=ks:=by simp[oG]
theorem Wn(m:Mp)(l:Loc)(ks:d4K)(h:k≠n):(oG m n l ks).kid k=m.kid k:=by simp[oG,h]
def Gs(m:Mp)(n:Nat)(ks:d4K):Mp:=⟨m.loc,λk=>if k=n then ks else m.kid k⟩
@[simp] theorem d0G (m:Mp) (n k:Nat) (ks:d4K):Gs m n ks k=m k:=rfl
@[simp] theorem d0F (m:Mp) (n:Nat) (ks:d4K):(Gs m n ks).kid n=ks:=by simp[Gs]
theorem a1j(m:Mp)(ks:d4K)(h:k≠n):(Gs m n ks).kid k=m.kid k:=by simp[Gs,h]
theorem zo(m:Mp)(n:Nat):Gs m n (m.kid n)=m:=by
 cases m with|mk l k=>
 simp only[Gs,Mp.mk.injEq,true_and];funext j;split
 .rename_i e;rw[e]
 .rfl
variable {v:V}
theorem LU{m m' :Mp}(h:m' n=m n)(k:m'.kid n=m.kid n):Y1 m' n v=Y1 m n v:=by cases v<;>simp only[Y1,h,k]
variable {d:Nat}
theorem M_{tmps:Array Value}(h:d<tmps.size)(x e:Value):(tmps.setIfInBounds d x).getD d e=x:=by simp[Array.getD,h]
theorem OI{tmps:Array Value}(h:n≠d)(x e:Value):(tmps.setIfInBounds d x).getD n e=tmps.getD n e:=by simp only[aC];rw[lZ];simp[Ne.symm h]
structure Tk (X:Fx) (S:Sm) (m:Mp) (ok:Nat->Ty->Prop) (w:World) (T:d4K):Prop where
 nodup:T.Nodup
 free:∀b∈T,(∀t,¬ok b t)/\b<w.heap.size/\(X.w0.heap.size<=b\/b∈X.O)/\∀n,b∉Y1 m n (S (aS+n))
theorem Tk.nil{X:Fx}{S:Sm}{m:Mp}{ok:Nat->Ty->Prop}{w:World} :Tk X S m ok w []:=⟨fJ,λb h=>by cases h⟩
def okW(ok:Nat->Ty->Prop)(bs:d4K)(Ts:List Ty):Nat->Ty->Prop:=λb t=>ok b t\/(b∈bs/\t∈Ts)
variable {w':World}{bs:d4K}
section
variable {X:Fx} {cl ch:Nat} {S:Sm} {m:Mp} {ok:Nat->Ty->Prop} {a:Act} {w:World} {T:d4K}
theorem Tk.perm{T T' :d4K}(h:Tk X S m ok w T)(p:T.Perm T'):Tk X S m ok w T' :=
 ⟨p.nodup_iff.1 h.nodup,λb hb=>h.free b (p.mem_iff.2 hb)⟩
theorem Zm{n:Nat} :∀{l:d4K},Ia n l=false->n∉l
 |[],_,h=>by cases h|k::r,hb,h=>by
  unfold Ia at hb;cases hk:Nat.beq k n<;>rw[hk]at hb
  .rcases D6.1 h with e|h
   .subst e;rw[show Nat.beq n n=true from Nat.beq_refl n]at hk;cases hk
   .exact Zm hb h
  .cases hb
theorem a0Q{n:Nat} :∀{l:d4K},Ia n l=true->n∈l
 |[],h=>by cases h|k::r,hb=>by
  unfold Ia at hb;cases hk:Nat.beq k n<;>rw[hk]at hb
  .exact X9 _ (a0Q hb)
  .have:=iI hk;subst this;exact jG
theorem Ea{E:Env}{t:Nat}(h:a0S E t=true):t<E.nt/\t∉E.kp:=by
 unfold a0S at h;cases hb:Nat.blt t E.nt<;>rw[hb]at h
 .cases h
 .simp only[cond_true,dW]at h;exact⟨by rw[gq]at hb;exact hb,Zm h⟩
theorem Rel.put(R:Rel X cl ch S m ok a w)(hnt:X.E.nt<=aS){x:Value}(hd:a0S X.E d=true)(hv:nI ⟨w.heap,ok,m⟩ v x):
  Rel X cl ch (upd S d v) m ok (a.put (some d) x) w:=by
 obtain⟨hd,hkp⟩:=Ea hd;have hb:∀n,upd S d v (aS+n)=S (aS+n):=λn=>cO _ _ o5;have hkept:∀n∈X.E.kp,(a.put (some d) x).tmps.getD n Go.undef=X.tm0.getD n Go.undef:=λn hn=>by have e:n≠d:=λe=>hkp (e▸hn);simp only[Act.put];rw[OI e];exact R.kept n hn
 refine { R with size:=(by simp[Act.put,R.size]),nodef:=(by simpa[Act.put]using R.nodef),slot:=λn hn=>?_,box:=λn=>(by rw[hb];exact R.box n),inj:=λn n' b=>(by rw[hb,hb];exact R.inj n n' b),nd:=λn=>(by rw[hb];exact R.nd n),sep:=λn b=>(by rw[hb];exact R.sep n b),fresh:=λn h1 h2=>R.fresh n h1 (by rwa[hb]at h2),kept:=hkept };by_cases e:n=d
 .subst e;simp only[lV,Act.put];rw[M_ (by rw[R.size];exact hd)];exact hv
 .rw[cO _ _ e];simp only[Act.put];rw[OI e];exact R.slot n hn
theorem Rel.slotV(R:Rel X cl ch S m ok a w)(hd:d<aS)(hv:nI ⟨w.heap,ok,m⟩ v (a.tmps.getD d Go.undef)):
  Rel X cl ch (upd S d v) m ok a w:=by
 have hb:∀n,upd S d v (aS+n)=S (aS+n):=λn=>cO _ _ o5;refine { R with slot:=λn hn=>?_,box:=λn=>(by rw[hb];exact R.box n),inj:=λn n' b=>(by rw[hb,hb];exact R.inj n n' b),nd:=λn=>(by rw[hb];exact R.nd n),sep:=λn b=>(by rw[hb];exact R.sep n b),fresh:=λn h1 h2=>R.fresh n h1 (by rwa[hb]at h2) };by_cases e:n=d
 .subst e;simp only[lV];exact hv
 .rw[cO _ _ e];exact R.slot n hn
theorem Rel.world(R:Rel X cl ch S m ok a w){ok' :Nat->Ty->Prop}(hos:w'.os=w.os)(htp:w'.tape=w.tape)(hout:w'.output=w.output)(hsz:w.heap.size<=w'.heap.size)
  (hkeep:∀b,b<w.heap.size->((∃t,ok b t)\/(∃n,b∈Y1 m n (S (aS+n)))\/¬(X.w0.heap.size<=b\/b∈X.O))->w'.heap[b]? =w.heap[b]?)
  (hok:∀b t,ok b t->ok' b t) (hok' :∀b t,ok' b t->b<w'.heap.size/\(ok b t\/((X.w0.heap.size<=b\/b∈X.O)/\∀n,b∉Y1 m n (S (aS+n))))):
  Rel X cl ch S m ok' a w' :=by
 have hle:Cx.le ⟨w.heap,ok,m⟩ ⟨w'.heap,ok',m⟩:=⟨hok,λb t hb=>hkeep b (R.okLt b t hb) (.inl ⟨t,hb⟩),λ_ _ h=>h⟩;refine { kept:=R.kept,size:=R.size,nodef:=R.nodef,inj:=R.inj,nd:=R.nd,fresh:=R.fresh,strict:=R.strict,slot:=λn hn=>QE hle (R.slot n hn),box:=λn=>XK hle rfl (λb hb=>hkeep b (R.sep n b hb).2.1 (.inr (.inl ⟨n,hb⟩))) (R.box n),sep:=λn b hb=>?_,okLt:=λb t hb=>(hok' b t hb).1,okIn:=λb t hb=>hok b t (R.okIn b t hb),okOut:=λb t hb=>?_,frame:=?_,gl:=λg u hg=>NY.le hle (R.gl g u hg) }
 .obtain⟨h1,h2,h3⟩:=R.sep n b hb;refine⟨λt h=>?_,o5,h3⟩;rcases(hok' b t h).2 with h|⟨_,h⟩
  .exact h1 t h
  .exact h n hb
 .rcases(hok' b t hb).2 with h|⟨h,_⟩
  .exact R.okOut b t h
  .exact .inr h
 .obtain⟨f1,f2,f3,f4,f5⟩:=R.frame;refine⟨hos.trans f1,htp.trans f2,hout.trans f3,o5,λb hb hO=>?_⟩;rw[hkeep b o5 (.inr (.inr (by simp[hO];omega)))];exact f5 b hb hO
theorem Rel.same(R:Rel X cl ch S m ok a w)(hos:w'.os=w.os)(htp:w'.tape=w.tape)(hout:w'.output=w.output)(hh:w'.heap=w.heap):Rel X cl ch S m ok a w' :=by refine R.world hos htp hout (by rw[hh];exact E8 _) (λb _ _=>by rw[hh]) (λ_ _ h=>h) (λb t h=>⟨by rw[hh];exact R.okLt b t h,.inl h⟩)
theorem BC{n k b:Nat}(hv:Y1 m n v=[])(h:b∈Y1 m k (upd S (aS+n) v (aS+k))):k≠n/\b∈Y1 m k (S (aS+k)):=by
 by_cases e:k=n
 .subst e;rw[lV,hv]at h;cases h
 .rw[cO _ _ o5]at h;exact⟨e,h⟩
theorem Rel.killV(R:Rel X cl ch S m ok a w)(n:Nat)(hv:v≠.undef)(hw:Y1 m n v=[])(hB:Gm ⟨w.heap,ok,m⟩ n v):Rel X cl ch (upd S (aS+n) v) m ok a w:=by
 have ho:∀k b,b∈Y1 m k (upd S (aS+n) v (aS+k))->k≠n/\b∈Y1 m k (S (aS+k)):=λk b h=>BC hw h;refine { R with slot:=λk hk=>(by rw[cO _ _ o5];exact R.slot k hk),box:=λk=>?_,inj:=λk k' b h h' =>R.inj k k' b (ho _ _ h).2 (ho _ _ h').2,nd:=λk=>?_,sep:=λk b h=>R.sep k b (ho _ _ h).2,fresh:=λk h1 h2=>?_ }
 .by_cases e:k=n
  .subst e;rw[lV];exact hB
  .rw[cO _ _ o5];exact R.box k
 .by_cases e:k=n
  .subst e;rw[lV,hw];exact fJ
  .rw[cO _ _ o5];exact R.nd k
 .by_cases e:k=n
  .subst e;rw[lV]at h2;exact absurd h2 hv
  .rw[cO _ _ o5]at h2;exact R.fresh k h1 h2
theorem Rel.kill(R:Rel X cl ch S m ok a w)(n:Nat):Rel X cl ch (upd S (aS+n) .dead) m ok a w:=R.killV n A7 rfl trivial
theorem Tk.killV(R:Rel X cl ch S m ok a w)(h:Tk X S m ok w T)(n:Nat)(hw:Y1 m n v=[])(hbs:∀b,b∈bs->b∈Y1 m n (S (aS+n)))(hnd:bs.Nodup):
  Tk X (upd S (aS+n) v) m ok w (T++bs):=by
 refine⟨L6.2 ⟨h.nodup,hnd,λx hx y hy e=>?_⟩,λb hb=>?_⟩
 .subst e;exact(h.free x hx).2.2.2 n (hbs x hy)
 .rcases E9.1 hb with hb|hb
  .obtain⟨h1,h2,h3,h4⟩:=h.free b hb;exact⟨h1,h2,h3,λk e=>h4 k (BC hw e).2⟩
  .obtain⟨h1,h2,h3⟩:=R.sep n b (hbs b hb);exact⟨h1,h2,h3,λk e=>(BC hw e).1 (R.inj k n b (BC hw e).2 (hbs b hb))⟩
theorem Rel.mark(R:Rel X cl ch S m ok a w){md:M}{xs:List md.den}(hS:S (aS+n)= .barrs md xs none):Rel X cl ch (upd S (aS+(RH+n)) (.blen (o8 xs) md.size)) m ok a w:=by
 refine R.killV (RH+n) A7 rfl ?_;have hb:=R.box n;rw[hS]at hb;obtain⟨_,l,Os,hm,⟨ha,hho⟩,_⟩:=hb;refine⟨n,l,rfl,hm,?_⟩;cases l with
 |nil=>obtain⟨rfl,_⟩:=ha;rfl
 |st b=>cases ha|mp b=>cases ha|arr blk off len cap sz=>exact⟨by rw[ha.2.1];rfl,ha.1.symm⟩
theorem Tk.kill(R:Rel X cl ch S m ok a w)(h:Tk X S m ok w T)(n:Nat)(hbs:∀b,b∈bs->b∈Y1 m n (S (aS+n)))(hnd:bs.Nodup):
  Tk X (upd S (aS+n) .dead) m ok w (T++bs):=h.killV R n rfl hbs hnd
theorem Rel.lay(R:Rel X cl ch S m ok a w){l:Loc}{ks:d4K}(hn:S (aS+n)= .undef)(hcl:cl<=n)(hch:n<ch)(hv:v≠.undef)
  (hos:w'.os=w.os) (htp:w'.tape=w.tape) (hout:w'.output=w.output) (hsz:w.heap.size<=w'.heap.size)
  (hkeep:∀b,b<w.heap.size->b∉Y1 (oG m n l ks) n v->w'.heap[b]? =w.heap[b]?)
  (hnd:(Y1 (oG m n l ks) n v).Nodup)
  (hfree:∀b∈Y1 (oG m n l ks) n v,(∀t,¬ok b t)/\b<w'.heap.size/\(X.w0.heap.size<=b\/b∈X.O)/\∀k,b∉Y1 m k (S (aS+k)))
  (hB:Gm ⟨w'.heap,ok,oG m n l ks⟩ n v):Rel X cl ch (upd S (aS+n) v) (oG m n l ks) ok a w' :=by
 have hm:m n=none:=R.fresh n hcl hn;have hR:Rel X cl ch S m ok a w' :=by
  refine R.world hos htp hout hsz (λb hb h=>?_) (λ_ _ h=>h) (λb t h=>⟨by have:=R.okLt b t h;omega,.inl h⟩);refine hkeep b hb (λe=>?_);obtain⟨h1,h2,h3,h4⟩:=hfree b e;rcases h with⟨t,h⟩|⟨k,h⟩|h
  .exact h1 t h
  .exact h4 k h
  .exact h h3
 have hle:Cx.le ⟨w'.heap,ok,m⟩ ⟨w'.heap,ok,oG m n l ks⟩:=⟨λ_ _ h=>h,λ_ _ _=>rfl,λk x h=>by
  by_cases e:k=n
  .subst e;simp[hm]at h
  .show oG m n l ks k=some x;rw[jV _ _ _ e];exact h⟩
 have hob:∀k,k≠n->Y1 (oG m n l ks) k (upd S (aS+n) v (aS+k))=Y1 m k (S (aS+k)):=λk e=>by rw[cO _ _ o5];exact LU (jV _ _ _ e) (Wn _ _ _ e)
 have hobn:Y1 (oG m n l ks) n (upd S (aS+n) v (aS+n))=Y1 (oG m n l ks) n v:=by rw[lV]
 refine { kept:=hR.kept,size:=hR.size,nodef:=hR.nodef,okLt:=hR.okLt,okIn:=hR.okIn,okOut:=hR.okOut,frame:=hR.frame,slot:=λk hk=>(by rw[cO _ _ o5];exact QE hle (hR.slot k hk)),box:=λk=>?_,inj:=λk k' b h h' =>?_,nd:=λk=>?_,sep:=λk b h=>?_,fresh:=λk h1 h2=>?_,strict:=λk h=>?_,gl:=λg u hg=>NY.le hle (hR.gl g u hg) }
 .by_cases e:k=n
  .subst e;rw[lV];exact hB
  .rw[cO _ _ o5];refine XK hle (Wn _ _ _ e) (λb hb=>rfl) (hR.box k)
 .by_cases e:k=n
  .by_cases e' :k' =n
   .rw[e,e']
   .subst e;rw[hobn]at h;rw[hob k' e']at h';exact absurd h' ((hfree b h).2.2.2 k')
  .by_cases e' :k' =n
   .subst e';rw[hobn]at h';rw[hob k e]at h;exact absurd h ((hfree b h').2.2.2 k)
   .rw[hob k e]at h;rw[hob k' e']at h';exact R.inj k k' b h h'
 .by_cases e:k=n
  .subst e;rw[hobn];exact hnd
  .rw[hob k e];exact R.nd k
 .by_cases e:k=n
  .subst e;rw[hobn]at h;obtain⟨h1,h2,h3,_⟩:=hfree b h;exact⟨h1,h2,h3⟩
  .rw[hob k e]at h;exact hR.sep k b h
 .by_cases e:k=n
  .subst e;rw[lV]at h2;exact absurd h2 hv
  .rw[cO _ _ o5]at h2;rw[jV _ _ _ e];exact R.fresh k h1 h2
 .have e:k≠n:=o5;rw[jV _ _ _ e];exact R.strict k h
theorem Rel.modK(R:Rel X cl ch S m ok a w)(hT:Tk X S m ok w T){ks:d4K}(hv:v≠.undef)
  (hnd:(Y1 (Gs m n ks) n v).Nodup) (hsub:∀b∈Y1 (Gs m n ks) n v,b∈Y1 m n (S (aS+n))\/b∈T)
  (hos:w'.os=w.os) (htp:w'.tape=w.tape) (hout:w'.output=w.output) (hsz:w'.heap.size=w.heap.size)
  (hkeep:∀b,b∉Y1 m n (S (aS+n))->w'.heap[b]? =w.heap[b]?) (hB:Gm ⟨w'.heap,ok,Gs m n ks⟩ n v)
  {T' :d4K} (hnd' :T'.Nodup) (hT' :∀b∈T',(b∈Y1 m n (S (aS+n))\/b∈T)/\b∉Y1 (Gs m n ks) n v):
  Rel X cl ch (upd S (aS+n) v) (Gs m n ks) ok a w' /\Tk X (upd S (aS+n) v) (Gs m n ks) ok w' T' :=by
 have hsep:∀b,b∈Y1 m n (S (aS+n))\/b∈T->(∀t,¬ok b t)/\b<w.heap.size/\(X.w0.heap.size<=b\/b∈X.O)/\∀k,k≠n->b∉Y1 m k (S (aS+k)):=λb h=>by
  rcases h with h|h
  .obtain⟨h1,h2,h3⟩:=R.sep n b h;exact⟨h1,h2,h3,λk e h' =>e (R.inj k n b h' h)⟩
  .obtain⟨h1,h2,h3,h4⟩:=hT.free b h;exact⟨h1,h2,h3,λk _=>h4 k⟩
 have hle:Cx.le ⟨w.heap,ok,m⟩ ⟨w'.heap,ok,Gs m n ks⟩:=⟨λ_ _ h=>h,λb t hb=>hkeep b (λe=>(R.sep n b e).1 t hb),λ_ _ h=>h⟩;have hob:∀k,k≠n->Y1 (Gs m n ks) k (upd S (aS+n) v (aS+k))=Y1 m k (S (aS+k)):=λk e=>by rw[cO _ _ o5];exact LU rfl (a1j _ _ e)
 have hobn:Y1 (Gs m n ks) n (upd S (aS+n) v (aS+n))=Y1 (Gs m n ks) n v:=by rw[lV]
 refine⟨?_,hnd',λb hb=>?_⟩
 .refine { kept:=R.kept,size:=R.size,nodef:=R.nodef,okLt:=λb t hb=>(by rw[hsz];exact R.okLt b t hb),okIn:=R.okIn,okOut:=R.okOut,strict:=R.strict,slot:=λk hk=>(by rw[cO _ _ o5];exact QE hle (R.slot k hk)),box:=λk=>?_,inj:=λk k' b h h' =>?_,nd:=λk=>?_,sep:=λk b h=>?_,fresh:=λk h1 h2=>?_,frame:=?_,gl:=λg u hg=>NY.le hle (R.gl g u hg) }
  .by_cases e:k=n
   .subst e;rw[lV];exact hB
   .rw[cO _ _ o5];refine XK hle (a1j _ _ e) (λb hb=>hkeep b (λe' =>e (R.inj k n b hb e'))) (R.box k)
  .by_cases e:k=n
   .by_cases e' :k' =n
    .rw[e,e']
    .subst e;rw[hobn]at h;rw[hob k' e']at h';exact absurd h' ((hsep b (hsub b h)).2.2.2 k' e')
   .by_cases e' :k' =n
    .subst e';rw[hobn]at h';rw[hob k e]at h;exact absurd h ((hsep b (hsub b h')).2.2.2 k e)
    .rw[hob k e]at h;rw[hob k' e']at h';exact R.inj k k' b h h'
  .by_cases e:k=n
   .subst e;rw[hobn];exact hnd
   .rw[hob k e];exact R.nd k
  .by_cases e:k=n
   .subst e;rw[hobn]at h;obtain⟨h1,h2,h3,_⟩:=hsep b (hsub b h);exact⟨h1,by rw[hsz];exact h2,h3⟩
   .rw[hob k e]at h;obtain⟨h1,h2,h3⟩:=R.sep k b h;exact⟨h1,by rw[hsz];exact h2,h3⟩
  .obtain⟨f1,f2,f3,f4,f5⟩:=R.frame;refine⟨hos.trans f1,htp.trans f2,hout.trans f3,by rw[hsz];exact f4,λb hb hO=>?_⟩;rw[hkeep b (λe=>?_)]
   .exact f5 b hb hO
   .rcases(R.sep n b e).2.2 with h|h
    .omega
    .exact hO h
  .by_cases e:k=n
   .subst e;rw[lV]at h2;exact absurd h2 hv
   .rw[cO _ _ o5]at h2;exact R.fresh k h1 h2
 .obtain⟨h0,h0'⟩:=hT' b hb;obtain⟨h1,h2,h3,h4⟩:=hsep b h0;refine⟨h1,by rw[hsz];exact h2,h3,λk h=>?_⟩;by_cases e:k=n
  .subst e;rw[hobn]at h;exact h0' h
  .rw[hob k e]at h;exact h4 k e h
theorem Rel.mod(R:Rel X cl ch S m ok a w)(ho:Y1 m n v=Y1 m n (S (aS+n)))(hv:v≠.undef)
  (hos:w'.os=w.os) (htp:w'.tape=w.tape) (hout:w'.output=w.output) (hsz:w'.heap.size=w.heap.size)
  (hkeep:∀b,b∉Y1 m n (S (aS+n))->w'.heap[b]? =w.heap[b]?) (hB:Gm ⟨w'.heap,ok,m⟩ n v):Rel X cl ch (upd S (aS+n) v) m ok a w' :=by
 have h:=R.modK (T:=[]) Tk.nil (n:=n) (v:=v) (ks:=m.kid n) (w' :=w') (T' :=[]) hv (by rw[zo,ho];exact R.nd n) (by rw[zo,ho];exact λb h=> .inl h) hos htp hout hsz hkeep (by rw[zo];exact hB) fJ (λb h=>by cases h);rw[zo]at h;exact h.1
theorem Rel.widen(R:Rel X cl ch S m ok a w)(hv:v≠.undef)(ho:Y1 m n v=[]){Ts:List Ty}(hbs:∀b∈bs,b∈Y1 m n (S (aS+n)))
  (hB:Gm ⟨w.heap,okW ok bs Ts,m⟩ n v):Rel X cl ch (upd S (aS+n) v) m (okW ok bs Ts) a w:=by
 have hmono:∀b t,ok b t->okW ok bs Ts b t:=λb t h=> .inl h;have hob:∀k b,b∈Y1 m k (upd S (aS+n) v (aS+k))->k≠n/\b∈Y1 m k (S (aS+k)):=λk b h=>BC ho h;have hle:Cx.le ⟨w.heap,ok,m⟩ ⟨w.heap,okW ok bs Ts,m⟩:=⟨hmono,λ_ _ _=>rfl,λ_ _ h=>h⟩;refine { kept:=R.kept,size:=R.size,nodef:=R.nodef,strict:=R.strict,frame:=R.frame,okIn:=λb t h=>hmono b t (R.okIn b t h),slot:=λk hk=>(by rw[cO _ _ o5];exact QE hle (R.slot k hk)),box:=λk=>?_,inj:=λk k' b h h' =>R.inj k k' b (hob _ _ h).2 (hob _ _ h').2,nd:=λk=>?_,sep:=λk b h=>?_,okLt:=λb t h=>?_,okOut:=λb t h=>?_,fresh:=λk h1 h2=>?_,gl:=λg u hg=>NY.le hle (R.gl g u hg) }
 .by_cases e:k=n
  .subst e;rw[lV];exact hB
  .rw[cO _ _ o5];exact XK hle rfl (λb hb=>rfl) (R.box k)
 .by_cases e:k=n
  .subst e;rw[lV,ho];exact fJ
  .rw[cO _ _ o5];exact R.nd k
 .obtain⟨e,h⟩:=hob k b h;obtain⟨h1,h2,h3⟩:=R.sep k b h;refine⟨λt h' =>?_,h2,h3⟩;rcases h' with h'|⟨h',_⟩
  .exact h1 t h'
  .exact e (R.inj k n b h (hbs b h'))
 .rcases h with h|⟨h,_⟩
  .exact R.okLt b t h
  .exact(R.sep n b (hbs b h)).2.1
 .rcases h with h|⟨h,_⟩
  .exact R.okOut b t h
  .exact .inr (R.sep n b (hbs b h)).2.2
 .by_cases e:k=n
  .subst e;rw[lV]at h2;exact absurd h2 hv
  .rw[cO _ _ o5]at h2;exact R.fresh k h1 h2
theorem Tk.widen(h:Tk X S m ok w T)(ho:Y1 m n v=[]){Ts:List Ty}(hbs:∀b∈bs,b∈Y1 m n (S (aS+n))):
  Tk X (upd S (aS+n) v) m (okW ok bs Ts) w T:=by
 refine⟨h.nodup,λb hb=>?_⟩;obtain⟨h1,h2,h3,h4⟩:=h.free b hb;refine⟨λt e=>?_,h2,h3,λk e=>h4 k (BC ho e).2⟩;rcases e with e|⟨e,_⟩
 .exact h1 t e
 .exact h4 n (hbs b e)
theorem Rel.backV(R:Rel X cl ch S m ok a w){O1 B:d4K}(hv:v≠.undef)(hT:Tk X S m ok w (O1++B))(ho:Y1 m n v=O1)(hB:Gm ⟨w.heap,ok,m⟩ n v):
  Rel X cl ch (upd S (aS+n) v) m ok a w/\Tk X (upd S (aS+n) v) m ok w B:=by
 have hnd:=L6.1 hT.nodup;have h:=R.modK hT (n:=n) (v:=v) (ks:=m.kid n) (w' :=w) (T' :=B) hv (by rw[zo,ho];exact hnd.1) (by rw[zo,ho];exact λb h=> .inr (by simp[h])) rfl rfl rfl rfl (λ_ _=>rfl) (by rw[zo];exact hB) hnd.2.1
  (λb hb=>⟨.inr (by simp[hb]),by rw[zo,ho];exact λh=>hnd.2.2 b h b hb rfl⟩)
 rw[zo]at h;exact h
end
end Go.GP
namespace Go.GP
def Nj:Loc->Option (Nat×Nat)->Loc
 | .arr blk off len cap sz,some (lo,hi)=>if cap=lo then .arr blk off 0 0 sz else .arr blk (off+lo*sz) (hi -lo) (cap -lo) sz|l,_=>l
variable {v:Value}{t:Ty}{l:Loc}
theorem Lj{C:Cx}{xs:List t.den}{vw:Option (Nat×Nat)}(ha:arrOk C t xs l)(hv:l.view vw v):
  arrOk C t (jW vw xs) (Nj l vw)/\(Nj l vw).view none v/\(Nj l vw).blks=l.blks:=by
 cases l with
 |st b=>cases ha|mp b=>
  cases vw with
  |none=>exact⟨ha,hv,rfl⟩|some p=>cases hv
 |nil=>
  obtain⟨ha,h0⟩:=ha;subst ha;cases vw with
  |none=>exact⟨⟨rfl,h0⟩,hv,rfl⟩|some p=>obtain⟨lo,hi⟩:=p;obtain⟨rfl,rfl,rfl⟩:=hv;exact⟨⟨rfl,h0⟩,rfl,rfl⟩
 |arr blk off len cap sz=>
  cases vw with
  |none=>exact⟨ha,hv,rfl⟩|some p=>
   obtain⟨lo,hi⟩:=p;obtain⟨h0,rfl,rfl,hc,c,T,f,hh,hz,hs,hx⟩:=ha;obtain⟨h1,h2,rfl⟩:=hv;have hl:(jW (some (lo,hi)) xs).length=hi -lo:=by simp[jW,mP];omega
   by_cases e:cap=lo
   .subst e;have e2:hi=cap:=o5;subst e2;simp only[Nj,if_true,Loc.view,bI];refine⟨⟨h0,rfl,by rw[hl];omega,E8 _,c,T,f,hh,hz,?_,λi x hi=>?_⟩,trivial,rfl⟩
    .have:=gX (hi*t.size);omega
    .have:i<0:=by
      have:=(aO.1 hi).1;rw[hl]at this;omega
     omega
   .simp only[Nj,e,if_false,Loc.view];refine⟨⟨h0,rfl,by rw[hl],o5,c,T,f,hh,hz,?_,λi x hix=>?_⟩,trivial,rfl⟩
    .have:off+lo*t.size+(cap -lo)*t.size=off+cap*t.size:=by
      rw[ou,←L8];congr 2;omega
     rw[this];exact hs
    .have hi' :i<hi -lo:=by rw[←hl];exact(aO.1 hix).1
     have hx' :xs[lo+i]? =some x:=by
      simp only[jW,mP,P9,aG]at hix;split at hix
      .exact hix
      .cases hix
     obtain⟨es,he,hr⟩:=hx _ x hx';refine⟨es,?_,hr⟩;rw[←he];congr 1;rw[L8];omega
def a2r(ag:Bool)(v:Value)(cs:d4J):Prop:=match ag with
 |true=>∃arr,v= .agg arr/\arr.toList=cs|false=>cs=[v]
def vU(h:Array Obj)(ok:Nat->Ty->Prop):(ms:List MG)->ay ms->d4J->d4K->Prop
 |[],_,vs,O=>vs=[]/\O=[]|[m],x,vs,O=>∃v cs,vs=[v]/\a2r m.1 v cs/\qY h ok m.2 none x cs O|m::m' ::r,x,vs,O=>∃v cs vs' O1 O2,vs=v::vs' /\O=O1++O2/\a2r m.1 v cs/\qY h ok m.2 none x.1 cs O1/\vU h ok (m' ::r) x.2 vs' O2
theorem nU{vw:Option (Nat×Nat)}(h:l.view vw v):v.oneCell' =true:=by
 cases l<;>rcases vw with _|⟨lo,hi⟩<;>simp only[Loc.view]at h
 .subst h;rfl
 .obtain⟨_,_,rfl⟩:=h;rfl
 .subst h;rfl
 .obtain⟨_,_,rfl⟩:=h;rfl
 .subst h;rfl
variable {h:Array Obj}
theorem Oz{ok:Nat->Ty->Prop}{x:t.den}{o:Nat}(k:a1G h ok t x o v):v.oneCell' =true:=by obtain⟨_,_,_,rfl,_⟩:=k;rfl
variable {α:Type}{ok':Nat->Ty->Prop}{cs:d4J}{O:d4K}
section
variable {h:Array Obj} {ok:Nat->Ty->Prop}
theorem yK{xs:List t.den} :qY h ok (.own t) none xs cs O↔∃l v,cs=[v]/\l.view none v/\arrOk ⟨h,ok,nom⟩ t xs l/\O=l.blks:=by
 constructor
 .rintro⟨v,e,_,l,hv,ha,ho⟩;exact⟨l,v,e,hv,ha,ho⟩
 .rintro⟨l,v,e,hv,ha,ho⟩;exact⟨v,e,nU hv,l,hv,ha,ho⟩
theorem BI{m:M}{xs:List m.den} :qY h ok (.owns m) none xs cs O↔m.el=true/\∃l v Os,cs=[v]/\l.view none v/\
  EX h m.size (λ_ x es O=>qY h ok m none x es O) xs Os l/\O=l.blks++Os.flatten:=by
 constructor
 .rintro⟨v,e,_,he,l,Os,hv,ha,ho⟩;exact⟨he,l,v,Os,e,hv,ha,ho⟩
 .rintro⟨he,l,v,Os,e,hv,ha,ho⟩;exact⟨v,e,nU hv,he,l,Os,hv,ha,ho⟩
theorem b0R{a b:M}{x:a.den×b.den} :qY h ok (.pair a b) none x cs O↔∃c d O1 O2,cs=c++d/\O=O1++O2/\qY h ok a none x.1 c O1/\qY h ok b none x.2 d O2:=Iff.rfl
theorem qJ:∀{m:M} {ho:Option Nat} {x:m.den} {cs:d4J} {O:d4K},qY h ok m ho x cs O->∀v∈cs,v.oneCell' =true
 | .dat t,_,_,_,_,e=>BJ e.1| .own t,_,_,_,_,⟨v,e,hv,_⟩=>by subst e;simp[hv]| .owns t,_,_,_,_,⟨v,e,hv,_⟩=>by subst e;simp[hv]| .ownb t,_,_,_,_,⟨l,v,e,hv,_⟩=>by subst e;simp[nU hv]| .pair a b,_,_,_,_,⟨c,d,_,_,e,_,h1,h2⟩=>by
  subst e;intro v hv;rcases E9.1 hv with hv|hv
  .exact qJ h1 v hv
  .exact qJ h2 v hv
 | .unit,_,_,_,_,⟨e,_⟩=>by subst e;simp| .box m,_,_,_,_,⟨_,_,_,_,e,_⟩=>by subst e;simp[Value.oneCell']| .rp t,_,_,_,_,⟨v,e,hv,_⟩=>by subst e;simp[Oz hv]| .fn f ts,_,_,_,_,⟨vs,e,_⟩=>by subst e;simp[Value.oneCell']| .ifc t m,_,_,_,_,⟨u,e,_⟩=>by subst e;simp[Value.oneCell']| .cell _,_,_,_,_,⟨v,e,h,_⟩=>by subst e;simp[h]| .fr t,_,_,_,_,⟨l,v,e,hv,_⟩=>by subst e;simp[nU hv]| .lp t,_,_,_,_,⟨v,e,hv,_⟩=>by subst e;simp[Oz hv]| .dv ..,_,_,_,_,⟨v,e,h,_⟩=>by subst e;simp[h]| .sit,_,_,_,_,⟨blk,a,v,e,_⟩=>by subst e;simp[Value.oneCell']| .sbx tb te,_,_,_,_,⟨blk,a,v,l,e,_⟩=>by subst e;simp[Value.oneCell']
theorem Vh{α β α' β' :Type}(ea:α=α')(eb:β=β')(e:(α×β)=(α' ×β'))(x:α×β):cast e x=(cast ea x.1,cast eb x.2):=by subst ea;subst eb;rfl
theorem M.ty_size:∀{m:M},m.el=true->m.ty.size=m.size
 | .dat _,_=>rfl| .own _,_=>rfl| .owns _,_=>rfl| .unit,_=>rfl| .pair a b,h=>by
  have h' :a.el=true/\b.el=true:=by simpa[M.el]using h
  simp[M.ty,Ty.size,M.size,M.ty_size h'.1,M.ty_size h'.2]
 | .box _,h=>by simp[M.el]at h| .ownb _,h=>by simp[M.el]at h| .rp _,h=>by simp[M.el]at h| .fn _ _,h=>by simp[M.el]at h| .ifc _ _,h=>by simp[M.el]at h| .cell _,h=>by simp[M.el]at h| .fr _,h=>by simp[M.el]at h| .sbx _ _,h=>by simp[M.el]at h| .lp _,h=>by simp[M.el]at h| .dv ..,h=>by simp[M.el]at h| .sit,h=>by simp[M.el]at h
theorem dC:∀{m:M} {ho:Option Nat} {x:m.den} {cs:d4J} {O:d4K},qY h ok m ho x cs O->cs.length=m.size
 | .dat t,_,_,_,_,e=>jh e.1| .own t,_,_,_,_,⟨v,e,hv,_⟩=>by subst e;rfl| .owns t,_,_,_,_,⟨v,e,hv,_⟩=>by subst e;rfl| .ownb t,_,_,_,_,⟨l,v,e,hv,_⟩=>by subst e;rfl| .pair a b,_,_,_,_,⟨c,d,_,_,e,_,h1,h2⟩=>by subst e;simp[dC h1,dC h2,M.size]| .unit,_,_,_,_,⟨e,_⟩=>by subst e;rfl| .box m,_,_,_,_,⟨_,_,_,_,e,_⟩=>by subst e;rfl| .rp t,_,_,_,_,⟨v,e,hv,_⟩=>by subst e;rfl| .fn f ts,_,_,_,_,⟨vs,e,_⟩=>by subst e;rfl| .ifc t m,_,_,_,_,⟨u,e,_⟩=>by subst e;rfl| .cell _,_,_,_,_,⟨v,e,_⟩=>by subst e;rfl| .fr t,_,_,_,_,⟨l,v,e,hv,_⟩=>by subst e;rfl| .lp t,_,_,_,_,⟨v,e,_⟩=>by subst e;rfl| .dv ..,_,_,_,_,⟨v,e,_⟩=>by subst e;rfl| .sit,_,_,_,_,⟨blk,a,v,e,_⟩=>by subst e;rfl| .sbx tb te,_,_,_,_,⟨blk,a,v,l,e,_⟩=>by subst e;rfl
theorem a3j{sz:Nat}{mp:Mp}(h0:t.isEnt=false)(e:α=t.den)(e' :List α=List t.den)(hs:t.size=sz){R:Nat->α->d4J->d4K->Prop}{xs:List α}{Os:List d4K}
  (hR:∀i x es O,O∈Os->R i x es O->rep h ok' t (cast e x) es) (ha:EX h sz R xs Os l):arrOk ⟨h,ok',mp⟩ t (cast e' xs) l:=by
 subst e;simp only[cast_eq]at hR ⊢;cases l with
 |nil=>exact⟨ha.1,h0⟩|st b=>exact ha|mp b=>exact ha.elim|arr blk off len cap sz' =>obtain⟨h1,h2,h3,h7,c,T,h4,h5,h6⟩:=ha;refine⟨h0,by rw[hs];exact h1,h2,h3,c,T,_,h4,.inl rfl,by rw[h1];exact h5,λi x hi=>?_⟩;obtain⟨es,O,hO,hc,hr⟩:=h6 i x hi;exact⟨es,by rw[h1];exact hc,hR i x es O (mM hO) hr⟩
theorem M.ty_ent:∀{m:M},m.el=true->m.ty.isEnt=false
 | .dat t,h=>by simpa[M.el,M.ty]using h| .own _,_=>rfl| .owns _,_=>rfl| .unit,_=>rfl| .pair _ _,_=>rfl| .box _,h=>by simp[M.el]at h| .ownb _,h=>by simp[M.el]at h| .rp _,h=>by simp[M.el]at h| .fn _ _,h=>by simp[M.el]at h| .ifc _ _,h=>by simp[M.el]at h| .cell _,h=>by simp[M.el]at h| .fr _,h=>by simp[M.el]at h| .sbx _ _,h=>by simp[M.el]at h| .lp _,h=>by simp[M.el]at h| .dv ..,h=>by simp[M.el]at h| .sit,h=>by simp[M.el]at h
theorem UB{ok' :Nat->Ty->Prop}(hok:∀b t,ok b t->ok' b t):∀{m:M} (he:m.el=true) {x:m.den} {cs:d4J} {O:d4K},(∀b∈O,∀t∈m.owned,ok' b t)->qY h ok m none x cs O->rep h ok' m.ty (cast (M.denEq m he) x) cs
 | .dat t,_,_,_,_,_,e=>iV hok (λ_ _ _=>rfl) e.1| .unit,_,_,_,_,_,e=>e.1| .own t,he,xs,_,_,hO,e=>by obtain⟨l,v,rfl,hv,ha,rfl⟩:=yK.1 e;exact qF (C:=⟨h,ok,nom⟩) (vw:=none) ha hv hok (λblk hb=>hO blk hb t (by simp[M.owned]))
 | .pair a b,he,x,_,_,hO,e=>by
  obtain⟨c,d,O1,O2,rfl,rfl,h1,h2⟩:=e;have h' :a.el=true/\b.el=true:=by simpa[M.el]using he
  have e:cast (M.denEq (.pair a b) he) x=(cast (M.denEq a h'.1) x.1,cast (M.denEq b h'.2) x.2):=Vh _ _ _ _;refine⟨c,d,rfl,?_,?_⟩
  .rw[e];exact UB hok h'.1 (λb hb t ht=>hO b (by simp[hb]) t (by simp[M.owned,ht])) h1
  .rw[e];exact UB hok h'.2 (λb hb t ht=>hO b (by simp[hb]) t (by simp[M.owned,ht])) h2
 | .owns m,he,xs,_,_,hO,e=>by
  obtain⟨_,l,v,Os,rfl,hv,ha,rfl⟩:=BI.1 e;have he' :m.el=true:=he;have hA:arrOk ⟨h,ok',nom⟩ m.ty (cast (congrArg List (M.denEq m he')) xs) l:=a3j (M.ty_ent he') (M.denEq m he') _ (M.ty_size he') (λi x es O hOi hr=>UB hok he' (λb hb t ht=>hO b (by simp only[E9,fC];exact .inr ⟨O,hOi,hb⟩) t (by simp[M.owned,ht])) hr) ha
  exact qF (C:=⟨h,ok',nom⟩) (t:=m.ty) (vw:=none) hA hv (λ_ _ h=>h) (λblk hb=>hO blk (by simp[hb]) m.ty (by simp[M.owned]))
 | .box _,h,_,_,_,_,_=>by simp[M.el]at h| .ownb _,h,_,_,_,_,_=>by simp[M.el]at h| .rp _,h,_,_,_,_,_=>by simp[M.el]at h| .fn _ _,h,_,_,_,_,_=>by simp[M.el]at h| .ifc _ _,h,_,_,_,_,_=>by simp[M.el]at h| .cell _,h,_,_,_,_,_=>by simp[M.el]at h| .fr _,h,_,_,_,_,_=>by simp[M.el]at h| .sbx _ _,h,_,_,_,_,_=>by simp[M.el]at h| .lp _,h,_,_,_,_,_=>by simp[M.el]at h| .dv ..,h,_,_,_,_,_=>by simp[M.el]at h| .sit,h,_,_,_,_,_=>by simp[M.el]at h
theorem QQ{m:M}{mp:Mp}(he:m.el=true)(hok:∀b t,ok b t->ok' b t){xs:List m.den}{Os:List d4K}(hO:∀b∈Os.flatten,∀t∈m.owned,ok' b t)
  (ha:EX h m.size (λ_ x es O=>qY h ok m none x es O) xs Os l):arrOk ⟨h,ok',mp⟩ m.ty (cast (congrArg List (M.denEq m he)) xs) l:=
 a3j (M.ty_ent he) (M.denEq m he) _ (M.ty_size he) (λi x es O hOi hr=>UB hok he (λb hb t ht=>hO b (fC.2 ⟨O,hOi,hb⟩) t ht) hr) ha
end
theorem WZ{h h' :Array Obj}{ok ok' :Nat->Ty->Prop}(hok:∀b t,ok b t->ok' b t)(hh:∀b t,ok b t->h'[b]? =h[b]?):
  ∀{ms:List MG} {x:ay ms} {vs:d4J} {O:d4K},(∀b∈O,h'[b]? =h[b]?)->vU h ok ms x vs O->vU h' ok' ms x vs O
 |[],_,_,_,_,e=>e|[m],_,_,_,hb,⟨v,cs,e,hg,hr⟩=>⟨v,cs,e,hg,kY hok hh hb hr⟩|m::m' ::r,_,_,_,hb,⟨v,cs,vs',O1,O2,e,eo,hg,h1,h2⟩=>by subst eo;exact⟨v,cs,vs',O1,O2,e,rfl,hg,kY hok hh (λb h=>hb b (by simp[h])) h1,WZ hok hh (λb h=>hb b (by simp[h])) h2⟩
variable {Q:α->Sm->Prop}{c:V}
section
variable {X:Fx} {cl ch:Nat} {S:Sm} {m:Mp} {ok:Nat->Ty->Prop} {a:Act} {w:World} {T:d4K}
theorem jL{p q:Ty}{xs:List p.den}{k:List q.den->Cmd α}{S:Sm}
  (h:∀e:p=q,(k (e▸xs)).post S Q):(Ty.castL p q xs k .fail).post S Q:=by
 unfold Ty.castL;split
 .rename_i e;exact h e
 .trivial
theorem ed{b:Bool}{c:Cmd α}{S:Sm}(h:b=true->c.post S Q):(bif b then c else Cmd.fail).post S Q:=by
 cases b
 .trivial
 .exact h rfl
theorem He{p q:Ty}{x:p.den}{k:q.den->Cmd α}{S:Sm}
  (h:∀e:p=q,(k (e▸x)).post S Q):(Yp p q x k .fail).post S Q:=by
 unfold Yp;split
 .rename_i e;exact h e
 .trivial
theorem Yo{p q:M}{xs:List p.den}{k:List q.den->Cmd α}{S:Sm}
  (h:∀e:p=q,(k (e▸xs)).post S Q):(a8z p q xs k .fail).post S Q:=by
 unfold a8z;split
 .rename_i e;exact h (M.beq_eq e)
 .trivial
theorem a3E{p:M}{xs:List p.den}{k:List t.den->Cmd α}{S:Sm}
  (h:∀(e:p.el=true) (e' :p.ty=t),(k (e' ▸cast (congrArg List (M.denEq p e)) xs)).post S Q):(a6r p t xs k .fail).post S Q:=by
 unfold a6r;split
 .rename_i e;obtain⟨e,rfl⟩:=e;exact h e rfl
 .trivial
theorem MF{ok ok' :Nat->Ty->Prop}{m:Mp}(k:∀b t,ok b t->ok' b t){cs:List V}{vs:d4J}(hr:iJ ⟨h,ok,m⟩ cs vs):iJ ⟨h,ok',m⟩ cs vs:=
 Jk (C:=⟨h,ok,m⟩) (D:=⟨h,ok',m⟩) ⟨k,λ_ _ _=>rfl,λ_ _ h=>h⟩ hr
theorem XL{ok ok' :Nat->Ty->Prop}{m:Mp}(k:∀b t,ok b t->ok' b t)(hr:nI ⟨h,ok,m⟩ c v):nI ⟨h,ok',m⟩ c v:=
 QE (C:=⟨h,ok,m⟩) (D:=⟨h,ok',m⟩) ⟨k,λ_ _ _=>rfl,λ_ _ h=>h⟩ hr
theorem Ig{bs:d4K}{Ts:List Ty} :∀b t,ok b t->okW ok bs Ts b t:=λ_ _ h=> .inl h
def okL(ln:Ty->Bool)(S:Sm)(m:Mp)(ok:Nat->Ty->Prop):Nat->Ty->Prop:=λb t=>ok b t\/(ln t=true/\∃n,b∈Y1 m n (S (aS+n))/\b3k (S (aS+n)) t)
theorem a6N:okL Du S m ok=ok:=by funext b t;simp[okL,Du]
theorem a0T{ln:Ty->Bool}{n:Nat}{v:V}(hv:Y1 m n v=[]){Ts:List Ty}{bs:d4K}(hbs:Y1 m n (S (aS+n)) ⊆ bs)(hTs:∀t,b3k (S (aS+n)) t->t∈Ts):
  ∀b t,okL ln S m ok b t->okL ln (upd S (aS+n) v) m (okW ok bs Ts) b t:=by
 intro b t h;rcases h with h|⟨hl,k,hk,ht⟩
 .exact .inl (.inl h)
 .by_cases e:k=n
  .subst e;exact .inl (.inr ⟨hbs hk,hTs _ ht⟩)
  .exact .inr ⟨hl,k,by rw[cO _ _ o5];exact⟨hk,ht⟩⟩
def bP(S S' :Sm):Prop:=∀n,n<aS->S' n=S n
theorem bP.refl(S:Sm):bP S S:=λ_ _=>rfl
theorem bP.trans{A B C:Sm}(h:bP A B)(k:bP B C):bP A C:=λn hn=>(k n hn).trans (h n hn)
theorem bP.box(S:Sm)(n:Nat)(v:V):bP S (upd S (aS+n) v):=λk hk=>cO _ _ o5
theorem a0k{ln:Ty->Bool} :∀{ts:List Ty},a3e ln ts=true->∀t∈ts,ln t=true
 |[],_,_,h=>by cases h|u::r,e,t,h=>by
  unfold a3e at e;cases hl:ln u with
  |false=>rw[hl]at e;cases e|true=>
   rw[hl]at e;rcases D6.1 h with rfl|h
   .exact hl
   .exact a0k e t h
theorem EW{α:Type}{Q:α->Sm->Prop}(ln:Ty->Bool):∀(t:Ty) {cs:List V} {K:t.den->List V->Cmd α} {S:Sm} {ok:Nat->Ty->Prop} {vs:d4J} (R:Rel X cl ch S m ok a w) (hT:Tk X S m ok w T)
  (hL:iJ ⟨w.heap,ok,m⟩ cs vs)
  (hK:∀S' ok' x r us us',Rel X cl ch S' m ok' a w->Tk X S' m ok' w T->(∀b t,ok b t->ok' b t)->(∀b t,okL ln S m ok b t->okL ln S' m ok' b t)->bP S S' ->vs=us++us' ->rep w.heap (okL ln S' m ok') t x us->iJ ⟨w.heap,ok',m⟩ r us' ->(K x r).post S' Q),
  (oD ln t cs K).post S Q
 | .bool,cs,K,S,ok,vs,R,hT,hL,hK=>by
  unfold oD;split
  .obtain⟨v,r,rfl,h1,_,h3⟩:=hL;exact hK _ _ _ _ [v] r R hT (λ_ _ h=>h) (λ_ _ h=>h) (bP.refl _) rfl (by simp only[xR]at h1;simp[rep,h1]) h3
  .trivial
 | .int k,cs,K,S,ok,vs,R,hT,hL,hK=>by
  unfold oD;split
  .rename_i k' n r0;obtain⟨v,r,rfl,h1,_,h3⟩:=hL;by_cases e:k=k'
   .subst e;simp only[decide_true,cond_true];exact hK _ _ _ _ [v] r R hT (λ_ _ h=>h) (λ_ _ h=>h) (bP.refl _) rfl (by simp only[xR]at h1;simp[rep,h1]) h3
   .simp only[e,decide_false,cond_false];trivial
  .trivial
 | .str,cs,K,S,ok,vs,R,hT,hL,hK=>by
  unfold oD;split
  .obtain⟨v,r,rfl,h1,_,h3⟩:=hL;exact hK _ _ _ _ [v] r R hT (λ_ _ h=>h) (λ_ _ h=>h) (bP.refl _) rfl (by simp only[xR]at h1;simp[rep,h1]) h3
  .trivial
 | .unit,cs,K,S,ok,vs,R,hT,hL,hK=>by unfold oD;exact hK _ _ _ _ [] vs R hT (λ_ _ h=>h) (λ_ _ h=>h) (bP.refl _) rfl rfl hL| .any none,cs,K,S,ok,vs,R,hT,hL,hK=>by
  unfold oD;split
  .obtain⟨v,r,rfl,h1,h2,h3⟩:=hL;exact hK _ _ _ _ [v] r R hT (λ_ _ h=>h) (λ_ _ h=>h) (bP.refl _) rfl ⟨v,rfl,h2,trivial⟩ h3
  .trivial
 | .any (some k),cs,K,S,ok,vs,R,hT,hL,hK=>by
  unfold oD;split
  .rename_i k' n r0;obtain⟨v,r,rfl,h1,h2,h3⟩:=hL;by_cases e:k=k'
   .subst e;simp only[decide_true,cond_true];exact hK _ _ _ _ [v] r R hT (λ_ _ h=>h) (λ_ _ h=>h) (bP.refl _) rfl ⟨v,rfl,h2,n,h1⟩ h3
   .simp only[e,decide_false,cond_false];trivial
  .trivial
 | .prod p q,cs,K,S,ok,vs,R,hT,hL,hK=>by unfold oD;refine EW ln p R hT hL λS1 ok1 x r us us' R1 T1 k1 g1 s1 e1 h1 l1=>?_;refine EW ln q R1 T1 l1 λS2 ok2 y r' vs2 vs2' R2 T2 k2 g2 s2 e2 h2 l2=>?_;subst e1;subst e2;exact hK _ _ _ _ (us++vs2) vs2' R2 T2 (λb t h=>k2 b t (k1 b t h)) (λb t h=>g2 b t (g1 b t h)) (s1.trans s2) A7 ⟨us,vs2,rfl,iV g2 (λ_ _ _=>rfl) h1,h2⟩ l2| .ent ..,cs,K,S,ok,vs,R,hT,hL,hK=>by unfold oD;trivial| .sl t,cs,K,S,ok,vs,R,hT,hL,hK=>by
  unfold oD;split
  .obtain⟨v,r,rfl,h1,_,h3⟩:=hL;simp only[xR]at h1;subst h1;cases ht:t.isEnt
   .exact hK _ _ _ _ [_] r R hT (λ_ _ h=>h) (λ_ _ h=>h) (bP.refl _) rfl (.inl ⟨ht,none,0,rfl,E8 _,λi x hi=>by simp at hi⟩) h3
   .trivial
  .rename_i t' xs r0;obtain⟨v,r,rfl,h1,_,h3⟩:=hL;refine jL λe=>?_;subst e;exact hK _ _ _ _ [v] r R hT (λ_ _ h=>h) (λ_ _ h=>h) (bP.refl _) rfl (iV (λ_ _ h=> .inl h) (λ_ _ _=>rfl) h1) h3
  .rename_i bx vw r0;obtain⟨v,r,rfl,h1,_,h3⟩:=hL;obtain⟨l,hm,hv⟩:=h1;show Cmd.post (match S (aS+bx)with| .barr t' xs=>_| .bfrz t' xs=>_| .barrs el xs none=>_|_=>_) S Q;have hb:=R.box bx;split
   .rename_i t' xs hS;rw[hS]at hb;obtain⟨l',hm',ha⟩:=hb;simp only at hm hm';rw[hm]at hm';cases hm';refine jL λe=>?_;subst e;have hob:Y1 m bx (S (aS+bx))=l.blks:=by
     rw[hS];cases l<;>first|(simp[Y1,hm,Loc.blks];done)|cases ha
    cases hl:ln t'
    .simp only[cond_false];show Cmd.post _ (upd S (aS+bx) (.bfrz t' xs)) Q;have hbs:∀b∈l.blks,b∈Y1 m bx (S (aS+bx)):=λb h=>by rw[hob];exact h
     refine hK _ (okW ok l.blks [t']) _ _ [v] r (R.widen A7 rfl hbs ?_) (hT.widen rfl hbs) Ig (a0T rfl (by rw[hob];exact λ_ h=>h) (by rw[hS];exact λ_ h=>h)) (bP.box _ _ _) rfl ?_ (MF Ig h3)
     .exact⟨l,hm,qw Ig (λ_ _ _=>rfl) (λ_ _=>rfl) ha,λblk hb=> .inr ⟨hb,A7⟩⟩
     .exact qF (C:=⟨w.heap,ok,m⟩) ha hv (λb t h=> .inl (.inl h)) (λblk hb=> .inl (.inr ⟨hb,A7⟩))
    .simp only[cond_true];refine hK _ _ _ _ [v] r R hT (λ_ _ h=>h) (λ_ _ h=>h) (bP.refl _) rfl ?_ h3;refine qF (C:=⟨w.heap,ok,m⟩) ha hv (λb t h=> .inl h) (λblk hb=> .inr ⟨hl,bx,?_,by rw[hS];simp[b3k,b7u]⟩);rw[hob];exact hb
   .rename_i t' xs hS;rw[hS]at hb;obtain⟨l',hm',ha,hok⟩:=hb;simp only at hm hm';rw[hm]at hm';cases hm';refine jL λe=>?_;subst e;exact hK _ _ _ _ [v] r R hT (λ_ _ h=>h) (λ_ _ h=>h) (bP.refl _) rfl (qF (C:=⟨w.heap,ok,m⟩) ha hv (λ_ _ h=> .inl h) (λblk e=> .inl (hok _ e))) h3
   .rename_i md xs hS;rw[hS]at hb;obtain⟨hel,l',Os,hm',⟨ha,hho⟩,hk⟩:=hb;simp only at hm hm' hk;rw[hm]at hm';cases hm';refine a3E λe e' =>?_;subst e';have hob:Y1 m bx (S (aS+bx))=l.blks++Os.flatten:=by
     rw[hS];simp only[Y1];rw[hk];cases l<;>first|(simp[hm,Loc.blks];done)|cases ha
    simp only;cases hl:(ln md.ty&&a3e ln md.owned)
    .simp only[cond_false];show Cmd.post _ (upd S (aS+bx) (.bfrz md.ty _)) Q;have hbs:∀b∈l.blks++Os.flatten,b∈Y1 m bx (S (aS+bx)):=λb h=>by rw[hob];exact h
     have ha' :arrOk ⟨w.heap,okW ok (l.blks++Os.flatten) (md.ty::md.owned),m⟩ md.ty (cast (congrArg List (M.denEq md e)) xs) l:=
      QQ e Ig (λb hb t ht=> .inr ⟨by simp[hb],by simp[ht]⟩) ha
     refine hK _ (okW ok (l.blks++Os.flatten) (md.ty::md.owned)) _ _ [v] r (R.widen A7 rfl hbs ?_) (hT.widen rfl hbs) Ig (a0T rfl (by rw[hob];exact λ_ h=>h) (by rw[hS];exact λ_ h=>h)) (bP.box _ _ _) rfl ?_ (MF Ig h3)
     .exact⟨l,hm,ha',λblk hb=> .inr ⟨by simp[hb],A7⟩⟩
     .exact qF (C:=⟨w.heap,okW ok (l.blks++Os.flatten) (md.ty::md.owned),m⟩) ha' hv (λb t h=> .inl h) (λblk hb=> .inl (.inr ⟨by simp[hb],A7⟩))
    .simp only[cond_true];simp only[D5]at hl;have ha' :arrOk ⟨w.heap,okL ln S m ok,m⟩ md.ty (cast (congrArg List (M.denEq md e)) xs) l:=
      QQ e (λb t h=> .inl h) (λb hb t ht=> .inr ⟨a0k hl.2 t ht,bx,by rw[hob];simp[hb],by rw[hS];simp[b3k,b7u,ht]⟩) ha
     refine hK _ _ _ _ [v] r R hT (λ_ _ h=>h) (λ_ _ h=>h) (bP.refl _) rfl ?_ h3;refine qF (C:=⟨w.heap,okL ln S m ok,m⟩) ha' hv (λb t h=>h) (λblk hb=> .inr ⟨hl.1,bx,?_,by rw[hS];simp[b3k,b7u]⟩);rw[hob];simp[hb]
   .trivial
  .trivial
theorem La(t:Ty){cs:List V}{K:t.den->List V->Cmd α}{S:Sm}{ok:Nat->Ty->Prop}{vs:d4J}(R:Rel X cl ch S m ok a w)(hT:Tk X S m ok w T)
  (hL:iJ ⟨w.heap,ok,m⟩ cs vs)
  (hK:∀S' ok' x r us us',Rel X cl ch S' m ok' a w->Tk X S' m ok' w T->(∀b t,ok b t->ok' b t)->bP S S' ->vs=us++us' ->rep w.heap ok' t x us->iJ ⟨w.heap,ok',m⟩ r us' ->(K x r).post S' Q):
  (oD Du t cs K).post S Q:=
 EW Du t R hT hL λS' ok' x r us us' R' T' k g s e h l=>hK S' ok' x r us us' R' T' k s e (by rw[a6N]at h;exact h) l
theorem Loc.blks_nodup(l:Loc):l.blks.Nodup:=by cases l<;>simp[Loc.blks]
theorem a4W(t:Ty){K:t.den->Cmd α}{S:Sm}{ok:Nat->Ty->Prop}(R:Rel X cl ch S m ok a w)(hT:Tk X S m ok w T)
  (hv:xR ⟨w.heap,ok,m⟩ c v)
  (hK:∀S' ok' x,Rel X cl ch S' m ok' a w->Tk X S' m ok' w T->(∀b t,ok b t->ok' b t)->bP S S' ->a1G w.heap ok' t x 0 v->(K x).post S' Q):(rpC t c K).post S Q:=by
 unfold rpC;split
 .refine He λe=>?_;subst e;exact hK _ _ _ R hT (λ_ _ h=>h) (bP.refl _) hv
 .rename_i bx;obtain⟨blk,hm,rfl⟩:=hv;show Cmd.post (match S (aS+bx)with| .bfc t' x=>_| .bcells bs=>_|_=>_) S Q;have hb:=R.box bx;split
  .rename_i t' x hS;rw[hS]at hb;obtain⟨blk',es,hm',hok,hc,hr⟩:=hb;simp only at hm hm';rw[hm]at hm';cases hm';refine He λe=>?_;subst e;exact hK _ _ _ R hT (λ_ _ h=>h) (bP.refl _) ⟨blk,0,es,rfl,hok,hc,hr⟩
  .rename_i bs hS;rw[hS]at hb;obtain⟨blk',arr,Ty',hm',hh,hl⟩:=hb;simp only at hm hm';rw[hm]at hm';cases hm';refine La t R hT hl λS1 ok1 x q us us' R1 T1 k1 s1 e1 h1 l1=>?_;cases q with
   |cons c q=>trivial|nil=>
    simp only[iJ]at l1;subst l1;simp only[G7]at e1;show Cmd.post (match S1 (aS+bx)with| .bcells _=>_|_=>_) S1 Q;split
    .rename_i bs' hS';show Cmd.post _ (upd S1 (aS+bx) (.bfc t x)) Q;have hbs:∀b∈[blk],b∈Y1 m bx (S1 (aS+bx)):=λb h=>by rw[hS'];simp at h;subst h;simp[Y1,hm]
     have hce:fH w.heap blk 0 t.size=some us:=by rw[jM hh 0 t.size (by have:=jh h1;rw[←e1]at this;simp at this;omega)];rw[e1,←jh h1];simp
     have hr:=iV (Ig (bs:=[blk]) (Ts:=[t])) (λ_ _ _=>rfl) h1;refine hK _ (okW ok1 [blk] [t]) _ (R1.widen A7 rfl hbs ?_) (T1.widen rfl hbs) (λb t h=> .inl (k1 b t h)) (s1.trans (bP.box _ _ _)) ?_
     .exact⟨blk,us,hm,.inr ⟨A7,A7⟩,hce,hr⟩
     .exact⟨blk,0,us,rfl,.inr ⟨A7,A7⟩,hce,hr⟩
    .trivial
  .trivial
 .trivial
theorem a4k(ln:Ty->Bool)(t:Ty){K:t.den->Cmd α}{S:Sm}{ok:Nat->Ty->Prop}(R:Rel X cl ch S m ok a w)(hT:Tk X S m ok w T)
  (hv:xR ⟨w.heap,ok,m⟩ c v)
  (hK:∀S' ok' x,Rel X cl ch S' m ok' a w->Tk X S' m ok' w T->(∀b t,ok b t->ok' b t)->(∀b t,okL ln S m ok b t->okL ln S' m ok' b t)->bP S S' ->a1G w.heap (okL ln S' m ok') t x 0 v->(K x).post S' Q):(lpC ln t c K).post S Q:=by
 unfold lpC;split
 .refine He λe=>?_;subst e;exact hK _ _ _ R hT (λ_ _ h=>h) (λ_ _ h=>h) (bP.refl _) (GG (λ_ _ h=> .inl h) (λ_ _ _=>rfl) hv)
 .rename_i bx;obtain⟨blk,hm,rfl⟩:=hv;show Cmd.post (match S (aS+bx)with| .bcells bs=>_|_=>_) S Q;have hb:=R.box bx;split
  .rename_i bs hS;rw[hS]at hb;obtain⟨blk',arr,Ty',hm',hh,hl⟩:=hb;simp only at hm hm';rw[hm]at hm';cases hm';cases hlt:ln t
   .trivial
   simp only[cond_true];refine EW ln t R hT hl λS1 ok1 x q us us' R1 T1 k1 g1 s1 e1 h1 l1=>?_;cases q with
   |cons c q=>trivial|nil=>
    simp only[iJ]at l1;subst l1;simp only[G7]at e1;show Cmd.post (match S1 (aS+bx)with| .bcells _=>_|_=>_) S1 Q;split
    .rename_i bs' hS';have hce:fH w.heap blk 0 t.size=some us:=by
      rw[jM hh 0 t.size (by have:=jh h1;rw[←e1]at this;simp at this;omega)];rw[e1,←jh h1];simp
     exact hK _ _ _ R1 T1 k1 g1 s1 ⟨blk,0,us,rfl,.inr ⟨hlt,bx,by rw[hS'];simp[Y1,hm],by rw[hS'];trivial⟩,hce,h1⟩
    .trivial
  .trivial
 .trivial
theorem Om{α:Type}{Q:α->Sm->Prop}{h:Array Obj}{ok:Nat->Ty->Prop} :∀(ts:List Ty) {cs:List ((t:Ty)×t.den)} {vs:d4J} {K:Wl ts->Cmd α} {S:Sm}
  (hc:Ha h ok cs vs) (hK:∀x,Ha h ok (Wi ts x) vs->(K x).post S Q),(RN ts cs K).post S Q
 |[],cs,vs,K,S,hc,hK=>by
  unfold RN;split
  .exact hK _ hc
  .trivial
 |[t],cs,vs,K,S,hc,hK=>by
  unfold RN;split
  .refine He λe=>?_;subst e;exact hK _ hc
  .trivial
 |t::t' ::r,cs,vs,K,S,hc,hK=>by
  unfold RN;split
  .obtain⟨v,vs',rfl,h1,h2⟩:=hc;refine He λe=>?_;subst e;exact Om (t' ::r) h2 λy hy=>hK _ ⟨v,vs',rfl,h1,hy⟩
  .trivial
theorem b4V{te:Nat}{K:d4H->Cmd α}{S:Sm}{ok:Nat->Ty->Prop}{T:d4K}(R:Rel X cl ch S m ok a w)(hT:Tk X S m ok w T)(hv:xR ⟨w.heap,ok,m⟩ c v)
  (hK:∀S' ys l,Rel X cl ch S' m ok a w->Tk X S' m ok w (T++l.blks)->bP S S' ->(∀n,(∀t xs,S (aS+n)≠.brow t xs)->S' (aS+n)=S (aS+n))->l.view none v->vV w.heap te ys l->(K ys).post S' Q):(sbC te c K).post S Q:=by
 unfold sbC;split
 .exact hK S [] .nil R (by simpa[Loc.blks]using hT) (bP.refl _) (λ_ _=>rfl) hv rfl
 .rename_i b;obtain⟨l,hm,hvw⟩:=hv;show Cmd.post (match S (aS+b)with| .brow te' xs=>_|_=>_) S Q;have hb:=R.box b;split
  .rename_i t' xs hS;rw[hS]at hb;obtain⟨l',hm',ha⟩:=hb;simp only at hm hm';rw[hm]at hm';cases hm';cases he:Nat.beq t' te
   .trivial
   have e:=iI he;subst e;show Cmd.post _ (upd S (aS+b) .dead) Q;refine hK _ xs l (R.kill b) (hT.kill R b (λb' hb' =>?_) (Loc.blks_nodup l)) (bP.box _ _ _) (λn hn=>?_) hvw ha
   .cases l with
    |nil=>simp[Loc.blks]at hb'|st _=>cases ha|arr blk off len cap sz=>simp[Loc.blks]at hb';subst hb';simp[Y1,hS,hm]|mp blk=>cases ha
   .by_cases en:n=b
    .subst en;exact absurd hS (hn _ _)
    .rw[cO _ _ o5]
  .trivial
 .trivial
theorem Hm{α:Type}{Q:α->Sm->Prop} :∀(md:M) {cs:List V} {K:md.den->List V->Cmd α} {S:Sm} {ok:Nat->Ty->Prop} {vs:d4J} {T:d4K} (R:Rel X cl ch S m ok a w) (hT:Tk X S m ok w T)
  (hL:iJ ⟨w.heap,ok,m⟩ cs vs)
  (hK:∀S' ok' x r us us' O,Rel X cl ch S' m ok' a w->Tk X S' m ok' w (T++O)->(∀b t,ok b t->ok' b t)->bP S S' ->vs=us++us' ->qY w.heap ok' md none x us O->iJ ⟨w.heap,ok',m⟩ r us' ->(K x r).post S' Q),
  (exM Du md cs K).post S Q
 | .dat t,cs,K,S,ok,vs,T,R,hT,hL,hK=>by unfold exM;exact La t R hT hL λS' ok' x r us us' R' T' k s e h l=>hK S' ok' x r us us' [] R' (by simpa using T') k s e ⟨h,rfl⟩ l| .own t,cs,K,S,ok,vs,T,R,hT,hL,hK=>by
  unfold exM;split
  .obtain⟨v,r,rfl,h1,_,h3⟩:=hL;simp only[xR]at h1;subst h1;cases ht:t.isEnt
   .exact hK _ _ _ _ [_] r [] R (by simpa using hT) (λ_ _ h=>h) (bP.refl _) rfl (yK.2 ⟨.nil,_,rfl,rfl,⟨rfl,ht⟩,rfl⟩) h3
   .trivial
  .rename_i bx vw r0;obtain⟨v,r,rfl,h1,_,h3⟩:=hL;obtain⟨l,hm,hv⟩:=h1;show Cmd.post (match S (aS+bx)with| .barr t' xs=>_|_=>_) S Q;have hb:=R.box bx;split
   .rename_i t' xs hS;rw[hS]at hb;obtain⟨l',hm',ha⟩:=hb;simp only at hm hm';rw[hm]at hm';cases hm';refine jL λe=>?_;subst e;obtain⟨a1,a2,a3⟩:=Lj (C:=⟨w.heap,ok,m⟩) ha hv;show Cmd.post _ (upd S (aS+bx) .dead) Q;refine hK _ ok _ _ [v] r (Nj l vw).blks (R.kill bx) ?_ (λ_ _ h=>h) (bP.box _ _ _) rfl (yK.2 ⟨_,v,rfl,a2,qw (λ_ _ h=>h) (λ_ _ _=>rfl) (λ_ _=>rfl) a1,rfl⟩) h3;rw[a3];refine hT.kill R bx (λb hb=>?_) (Loc.blks_nodup l);cases l with
    |nil=>simp[Loc.blks]at hb|st _=>cases ha|arr blk off len cap sz=>simp[Loc.blks]at hb;subst hb;simp[Y1,hS,hm]|mp blk=>simp[Loc.blks]at hb;subst hb;simp[Y1,hS,hm]
   .trivial
  .trivial
 | .ownb t,cs,K,S,ok,vs,T,R,hT,hL,hK=>by
  unfold exM;split
  .obtain⟨v,r,rfl,h1,_,h3⟩:=hL;simp only[xR]at h1;subst h1;cases ht:t.isEnt
   .exact hK _ _ _ _ [_] r [] R (by simpa using hT) (λ_ _ h=>h) (bP.refl _) rfl ⟨.nil,_,rfl,rfl,⟨rfl,ht⟩,rfl⟩ h3
   .trivial
  .rename_i bx r0;obtain⟨v,r,rfl,h1,_,h3⟩:=hL;obtain⟨l,hm,hv⟩:=h1;show Cmd.post (match S (aS+bx)with| .barr t' xs=>_|_=>_) S Q;have hb:=R.box bx;split
   .rename_i t' xs hS;rw[hS]at hb;obtain⟨l',hm',ha⟩:=hb;simp only at hm hm';rw[hm]at hm';cases hm';refine jL λe=>?_;subst e;show Cmd.post _ (upd S (aS+bx) (.gone t')) Q;refine hK _ ok _ _ [v] r l.blks (R.killV bx A7 rfl ⟨l,hm,λblk off len cap sz e=>by subst e;exact ha.2.1⟩) ?_ (λ_ _ h=>h) (bP.box _ _ _) rfl ⟨l,v,rfl,hv,qw (λ_ _ h=>h) (λ_ _ _=>rfl) (λ_ _=>rfl) ha,rfl⟩ h3;refine hT.killV R bx rfl (λb hb=>?_) (Loc.blks_nodup l);cases l with
    |nil=>simp[Loc.blks]at hb|st _=>cases ha|arr blk off len cap sz=>simp[Loc.blks]at hb;subst hb;simp[Y1,hS,hm]|mp blk=>simp[Loc.blks]at hb;subst hb;simp[Y1,hS,hm]
   .trivial
  .trivial
 | .owns md,cs,K,S,ok,vs,T,R,hT,hL,hK=>by
  unfold exM;split
  .obtain⟨v,r,rfl,h1,_,h3⟩:=hL;simp only[xR]at h1;subst h1;refine ed λhe=>?_;exact hK _ _ _ _ [_] r [] R (by simpa using hT) (λ_ _ h=>h) (bP.refl _) rfl (BI.2 ⟨he,.nil,_,[],rfl,rfl,⟨rfl,rfl⟩,rfl⟩) h3
  .rename_i bx r0;obtain⟨v,r,rfl,h1,_,h3⟩:=hL;obtain⟨l,hm,hv⟩:=h1;show Cmd.post (match S (aS+bx)with| .barrs m' xs none=>_|_=>_) S Q;have hb:=R.box bx;split
   .rename_i md' xs hS;rw[hS]at hb;obtain⟨hel,l',Os,hm',⟨ha,hho⟩,hk⟩:=hb;simp only at hm hm' hk;rw[hm]at hm';cases hm';refine Yo λe=>?_;subst e;have hob:Y1 m bx (S (aS+bx))=l.blks++Os.flatten:=by
     rw[hS];simp only[Y1];rw[hk];cases l<;>first|(simp[hm,Loc.blks];done)|cases ha
    show Cmd.post _ (upd S (aS+bx) .dead) Q;refine hK _ ok _ _ [v] r (l.blks++Os.flatten) (R.kill bx) ?_ (λ_ _ h=>h) (bP.box _ _ _) rfl (BI.2 ⟨hel,l,v,Os,rfl,hv,ha,rfl⟩) h3;refine hT.kill R bx (λb hb=>by rw[hob];exact hb) (by rw[←hob];exact R.nd bx)
   .trivial
  .trivial
 | .unit,cs,K,S,ok,vs,T,R,hT,hL,hK=>by unfold exM;exact hK _ _ _ _ [] vs [] R (by simpa using hT) (λ_ _ h=>h) (bP.refl _) rfl ⟨rfl,rfl⟩ hL
 | .pair p q,cs,K,S,ok,vs,T,R,hT,hL,hK=>by unfold exM;refine Hm p R hT hL λS1 ok1 x r us us' O1 R1 T1 k1 s1 e1 h1 l1=>?_;refine Hm q R1 T1 l1 λS2 ok2 y r' vs2 vs2' O2 R2 T2 k2 s2 e2 h2 l2=>?_;subst e1;subst e2;exact hK _ _ _ _ (us++vs2) vs2' (O1++O2) R2 (by simpa using T2) (λb t h=>k2 b t (k1 b t h)) (s1.trans s2) A7 ⟨us,vs2,O1,O2,rfl,rfl,kY k2 (λ_ _ _=>rfl) (λ_ _=>rfl) h1,h2⟩ l2| .box md,cs,K,S,ok,vs,T,R,hT,hL,hK=>by
  unfold exM;split
  .rename_i bx r0;obtain⟨v,r,rfl,h1,_,h3⟩:=hL;obtain⟨blk,hm,hv⟩:=h1;show Cmd.post (match S (aS+bx)with| .bcells bs=>_|_=>_) S Q;have hb:=R.box bx;split
   .rename_i bs hS;rw[hS]at hb;obtain⟨blk',arr,Ty',hm',hh,hl⟩:=hb;simp only at hm hm' hv;rw[hm]at hm';cases hm';subst hv;show Cmd.post _ (upd S (aS+bx) .dead) Q;have hT1:Tk X (upd S (aS+bx) .dead) m ok w (T++[blk]):=hT.kill R bx (λb hb=>by simp at hb;subst hb;simp[Y1,hS,hm]) A7;refine Hm md (R.kill bx) hT1 hl λS1 ok1 x q us us' O R1 T1 k1 s1 e1 h1 l1=>?_;cases q with
    |nil=>simp only[iJ]at l1;subst l1;simp only[G7]at e1;refine hK _ _ _ _ [_] r (blk::O) R1 (by simpa using T1) k1 ((bP.box _ _ _).trans s1) rfl ⟨blk,arr,Ty',O,rfl,hh,by rw[e1];exact h1,rfl⟩ (MF k1 h3)|cons c q=>trivial
   .trivial
  .trivial
 | .rp t,cs,K,S,ok,vs,T,R,hT,hL,hK=>by
  unfold exM;split
  .obtain⟨v,r,rfl,h1,_,h3⟩:=hL;refine a4W t R hT h1 λS1 ok1 x R1 T1 k1 s1 h1=>?_;exact hK _ _ _ _ [v] r [] R1 (by simpa using T1) k1 s1 rfl ⟨v,rfl,h1,rfl⟩ (MF k1 h3)
  .trivial
 | .fn f ts,cs,K,S,ok,vs,T,R,hT,hL,hK=>by
  unfold exM;split
  .rename_i g caps r0;obtain⟨v,r,rfl,⟨us,rfl,hc⟩,_,h3⟩:=hL;cases hb:Nat.beq g f
   .trivial
   .simp only[cond_true];have e:=iI hb;subst e;exact Om ts hc λx hx=>hK _ _ _ _ [_] r [] R (by simpa using hT) (λ_ _ h=>h) (bP.refl _) rfl ⟨us,rfl,hx,rfl⟩ h3
  .rename_i g r0;obtain⟨v,r,rfl,h1,_,h3⟩:=hL;have h1:v= .func (.func g) #[] #[]:=h1;subst h1;cases hb:Nat.beq g f
   .trivial
   .simp only[cond_true];have e:=iI hb;subst e;exact Om (cs:=[]) (vs:=[]) ts rfl λx hx=>hK _ _ _ _ [_] r [] R (by simpa using hT) (λ_ _ h=>h) (bP.refl _) rfl ⟨#[],rfl,hx,rfl⟩ h3
  .trivial
 | .ifc t md,cs,K,S,ok,vs,T,R,hT,hL,hK=>by
  unfold exM;split
  .rename_i t' c r0;obtain⟨v,r,rfl,⟨u,rfl,hu,hc⟩,_,h3⟩:=hL;cases hb:Nat.beq t' t
   .trivial
   .simp only[cond_true];have e:=iI hb;subst e;refine Hm md (vs:=[u]) R hT ⟨u,[],rfl,hc,hu,rfl⟩ λS1 ok1 x q us us' O R1 T1 k1 s1 e1 h1 l1=>?_;cases q with
    |cons c q=>trivial|nil=>simp only[iJ]at l1;subst l1;simp only[G7]at e1;subst e1;exact hK _ _ _ _ [_] r O R1 T1 k1 s1 rfl ⟨u,rfl,h1⟩ (MF k1 h3)
  .trivial
 | .cell (some none),cs,K,S,ok,vs,T,R,hT,hL,hK=>by
  unfold exM;split
  .obtain⟨v,r,rfl,h1,h2,h3⟩:=hL;exact hK _ _ _ _ [v] r [] R (by simpa using hT) (λ_ _ h=>h) (bP.refl _) rfl ⟨v,rfl,h2,λ_=>h1,(λ_ h=>nomatch h),rfl⟩ h3
  .trivial
 | .cell (some (some b)),cs,K,S,ok,vs,T,R,hT,hL,hK=>by
  unfold exM;split
  .obtain⟨v,r,rfl,h1,h2,h3⟩:=hL;cases b
   .trivial
   .exact hK _ _ _ _ [v] r [] R (by simpa using hT) (λ_ _ h=>h) (bP.refl _) rfl ⟨v,rfl,h2,(λh=>nomatch h),(λb' h=>by cases h;exact h1),rfl⟩ h3
  .obtain⟨v,r,rfl,h1,h2,h3⟩:=hL;cases b
   .exact hK _ _ _ _ [v] r [] R (by simpa using hT) (λ_ _ h=>h) (bP.refl _) rfl ⟨v,rfl,h2,(λh=>nomatch h),(λb' h=>by cases h;exact h1),rfl⟩ h3
   .trivial
  .trivial
 | .cell none,cs,K,S,ok,vs,T,R,hT,hL,hK=>by
  unfold exM;split
  .obtain⟨v,r,rfl,h1,h2,h3⟩:=hL;exact hK _ _ _ _ [v] r [] R (by simpa using hT) (λ_ _ h=>h) (bP.refl _) rfl ⟨v,rfl,h2,(λh=>nomatch h),(λ_ h=>nomatch h),rfl⟩ h3
  .trivial
 | .fr t,cs,K,S,ok,vs,T,R,hT,hL,hK=>by
  unfold exM;split
  .obtain⟨v,r,rfl,h1,_,h3⟩:=hL;simp only[xR]at h1;subst h1;cases ht:t.isEnt
   .exact hK _ _ _ _ [_] r [] R (by simpa using hT) (λ_ _ h=>h) (bP.refl _) rfl ⟨.nil,_,rfl,rfl,⟨rfl,ht⟩,(λb h=>by cases h),rfl⟩ h3
   .trivial
  .rename_i bx r0;obtain⟨v,r,rfl,h1,_,h3⟩:=hL;obtain⟨l,hm,hv⟩:=h1;show Cmd.post (match S (aS+bx)with| .barr t' xs=>_| .bfrz t' xs=>_|_=>_) S Q;have hb:=R.box bx;split
   .rename_i t' xs hS;rw[hS]at hb;obtain⟨l',hm',ha⟩:=hb;simp only at hm hm';rw[hm]at hm';cases hm';refine jL λe=>?_;subst e;have hob:Y1 m bx (S (aS+bx))=l.blks:=by
     rw[hS];cases l<;>first|(simp[Y1,hm,Loc.blks];done)|cases ha
    show Cmd.post _ (upd S (aS+bx) (.bfrz t' xs)) Q;have hbs:∀b∈l.blks,b∈Y1 m bx (S (aS+bx)):=λb h=>by rw[hob];exact h
    have ha' :arrOk ⟨w.heap,okW ok l.blks [t'],nom⟩ t' xs l:=qw (m:=m) Ig (λ_ _ _=>rfl) (λ_ _=>rfl) ha;exact hK _ (okW ok l.blks [t']) _ _ [v] r [] (R.widen A7 rfl hbs ⟨l,hm,qw Ig (λ_ _ _=>rfl) (λ_ _=>rfl) ha,λblk hb=> .inr ⟨hb,A7⟩⟩) (by simpa using hT.widen rfl hbs) Ig (bP.box _ _ _) rfl ⟨l,v,rfl,hv,ha',λb hb=> .inr ⟨hb,A7⟩,rfl⟩ (MF Ig h3)
   .rename_i t' xs hS;rw[hS]at hb;obtain⟨l',hm',ha,hk⟩:=hb;simp only at hm hm';rw[hm]at hm';cases hm';refine jL λe=>?_;subst e;exact hK _ ok _ _ [v] r [] R (by simpa using hT) (λ_ _ h=>h) (bP.refl _) rfl ⟨l,v,rfl,hv,qw (m:=m) (λ_ _ h=>h) (λ_ _ _=>rfl) (λ_ _=>rfl) ha,hk,rfl⟩ h3
   .trivial
  .trivial
 | .lp t,cs,K,S,ok,vs,T,R,hT,hL,hK=>by
  unfold exM;split
  .obtain⟨v,r,rfl,h1,_,h3⟩:=hL;refine a4k Du t R hT h1 λS1 ok1 x R1 T1 k1 g1 s1 h1=>?_;rw[a6N]at h1;exact hK _ _ _ _ [v] r [] R1 (by simpa using T1) k1 s1 rfl ⟨v,rfl,h1,rfl⟩ (MF k1 h3)
  .trivial
 | .dv ..,cs,K,S,ok,vs,T,R,hT,hL,hK=>by
  unfold exM;split
  .obtain⟨v,r,rfl,h1,h2,h3⟩:=hL;exact hK _ _ _ _ [v] r [] R (by simpa using hT) (λ_ _ h=>h) (bP.refl _) rfl ⟨v,rfl,h2,rfl⟩ h3
  .trivial
 | .sit,cs,K,S,ok,vs,T,R,hT,hL,hK=>by
  unfold exM;split
  .rename_i bx r0;obtain⟨v,r,rfl,h1,_,h3⟩:=hL;obtain⟨blk,hm,rfl⟩:=h1;have hb:=R.box bx;show Cmd.post (match S (aS+bx)with| .biter l p=>_|_=>_) S Q;split
   .rename_i l p hS;rw[hS]at hb;obtain⟨blk',s,q,hm',hh,g1,g2⟩:=hb;simp only at hm hm';rw[hm]at hm';cases hm';show Cmd.post _ (upd S (aS+bx) .dead) Q;have T2:=hT.kill R bx (bs:=[blk]) (λb hb=>by rw[hS];simpa[Y1,hm]using hb) A7;exact hK _ ok (l,p) _ _ r [blk] (R.kill bx) T2 (λ_ _ h=>h) (bP.box _ _ _) rfl ⟨blk,s,q,rfl,hh,g1,g2,rfl⟩ h3
   .trivial
  .trivial
 | .sbx tb te,cs,K,S,ok,vs,T,R,hT,hL,hK=>by
  unfold exM;split
  .rename_i bx r0;obtain⟨v,r,rfl,h1,_,h3⟩:=hL;obtain⟨blk,hm,rfl⟩:=h1;have hb:=R.box bx;show Cmd.post (match S (aS+bx)with| .bsb tb' c=>_|_=>_) S Q;split
   .rename_i tb' c hS;rw[hS]at hb;obtain⟨blk',a0,v0,hm',hh,hs,g2⟩:=hb;simp only at hm hm';rw[hm]at hm';cases hm';cases he:Nat.beq tb' tb
    .trivial
    have e:=iI he;subst e;simp only[cond_true];refine b4V R hT g2 λS1 ys l R1 T1 s1 n1 hv1 ha1=>?_;show Cmd.post _ (upd S1 (aS+bx) .dead) Q;have T2:=T1.kill R1 bx (bs:=[blk]) (λb hb=>by rw[n1 bx (λ_ _=>by rw[hS];simp),hS];simpa[Y1,hm]using hb) A7;refine hK _ ok ys _ _ r (blk::l.blks) (R1.kill bx) (T2.perm ?_) (λ_ _ h=>h) (s1.trans (bP.box _ _ _)) rfl ⟨blk,a0,v0,l,rfl,hh,hs,hv1,ha1,rfl⟩ h3;rw[G5];exact rU _ jQ
   .trivial
  .trivial
end
end Go.GP
namespace Go.GP
def jb(C:Cx):List V->d4J->Prop
 |[],vs=>vs=[]|c::cs,vs=>∃v r,vs=v::r/\nI C c v/\jb C cs r
theorem PD{h:Array Obj}{ok ok' :Nat->Ty->Prop}{m:Mp}(k:∀b t,ok b t->ok' b t):∀{cs:List V} {vs:d4J},jb ⟨h,ok,m⟩ cs vs->jb ⟨h,ok',m⟩ cs vs
 |[],_,e=>e|_::_,_,⟨v,r,e,h1,h2⟩=>⟨v,r,e,XL k h1,PD k h2⟩
theorem a9n{h:Array Obj}{ok:Nat->Ty->Prop}{m m' :Mp}(k:∀n l,m n=some l->m' n=some l):∀{cs:List V} {vs:d4J},jb ⟨h,ok,m⟩ cs vs->jb ⟨h,ok,m'⟩ cs vs
 |[],_,e=>e|_::_,_,⟨v,r,e,h1,h2⟩=>⟨v,r,e,QE (C:=⟨h,ok,m⟩) (D:=⟨h,ok,m'⟩) ⟨λ_ _ h=>h,λ_ _ _=>rfl,k⟩ h1,a9n k h2⟩
theorem Fp{h:Array Obj}{ok:Nat->Ty->Prop}{m m' :Mp}(k:∀n l,m n=some l->m' n=some l){cs:List V}{vs:d4J}(hr:iJ ⟨h,ok,m⟩ cs vs):iJ ⟨h,ok,m'⟩ cs vs:=
 Jk (C:=⟨h,ok,m⟩) (D:=⟨h,ok,m'⟩) ⟨λ_ _ h=>h,λ_ _ _=>rfl,k⟩ hr
variable {C:Cx}
theorem a4R{c:V}{v:Value}(h1:c≠.undef)(h2:c≠.un)(h:xR C c v):v.oneCell' =true:=by
 cases c<;>simp only[xR]at h<;>try (subst h;rfl)
 case ne=>obtain⟨_,_,rfl,_⟩:=h;rfl
 .exact absurd rfl h1
 .exact absurd rfl h2
 .rcases h with⟨_,a,cap,e,_⟩|⟨_,mv,e,_⟩<;>(simp at e;subst e;rfl)
 .obtain⟨l,_,hv⟩:=h;exact nU hv
 .obtain⟨b,_,rfl⟩:=h;rfl
 .obtain⟨_,_,_,_,_,_,_,rfl⟩:=h;rfl
 .exact Oz h
 all_goals first|exact h.elim|(obtain⟨_,rfl,_⟩:=h;rfl)|(obtain⟨_,_,rfl⟩:=h;rfl)
theorem Gn{c:V}{v:Value}(h:xR C c v):nI C c v:=by
 cases c<;>simp only[xR]at h<;>try exact h
 all_goals exact h.elim
variable {α:Type}{v:V}{Q:α->Sm->Prop}{x:Value}{ln:Ty->Bool}
section
variable {X:Fx} {cl ch:Nat} {S:Sm} {m:Mp} {ok:Nat->Ty->Prop} {a:Act} {w:World} {T:d4K}
theorem IQ{ag:Bool}{K:List V->Cmd α}{S:Sm}(hv:nI C v x)
  (hK:∀cs us,a2r ag x us->iJ C cs us->(K cs).post S Q):(a1z ag v K).post S Q:=by
 unfold a1z;split<;>try trivial
 .obtain⟨arr,rfl,hl⟩:=hv;exact hK _ _ ⟨arr,rfl,rfl⟩ hl
 .rename_i h1 h2 h3 h4;have hc:xR C v x:=by cases v<;>first|exact hv|exact absurd rfl (h1 _)|exact absurd rfl (h2 _)
  exact hK [v] [x] rfl ⟨x,[],rfl,hc,a4R (λe=>h3 e) (λe=>h4 e) hc,rfl⟩
theorem vY{K:List V->Cmd α}{S:Sm}(hv:nI C v x)
  (hK:∀cs,iJ C cs x.cells.toList->(K cs).post S Q):(JB v K).post S Q:=by
 unfold JB;split<;>try trivial
 .obtain⟨arr,rfl,hl⟩:=hv;exact hK _ hl
 .rename_i h1 h2 h3 h4;have hc:xR C v x:=by cases v<;>first|exact hv|exact absurd rfl (h1 _)|exact absurd rfl (h2 _)
  have h1' :=a4R (λe=>h3 e) (λe=>h4 e) hc;have e:x.cells.toList=[x]:=by cases x<;>simp[Value.cells]<;>simp[Value.oneCell']at h1'
  refine hK [v] ?_;rw[e];exact⟨x,[],rfl,hc,h1',rfl⟩
theorem a3I{md:MG}{K:md.2.den->Cmd α}(R:Rel X cl ch S m ok a w)(hT:Tk X S m ok w T)(hv:nI ⟨w.heap,ok,m⟩ v x)
  (hK:∀S' ok' y cs O,Rel X cl ch S' m ok' a w->Tk X S' m ok' w (T++O)->(∀b t,ok b t->ok' b t)->bP S S' ->a2r md.1 x cs->qY w.heap ok' md.2 none y cs O->(K y).post S' Q):
  (YL Du md v K).post S Q:=by
 refine IQ hv λcs us hg hl=>?_;refine Hm md.2 R hT hl λS1 ok1 y r us1 us' O R1 T1 k1 s1 e1 h1 l1=>?_;cases r with
 |cons c q=>trivial|nil=>simp only[iJ]at l1;subst l1;simp only[G7]at e1;subst e1;exact hK _ _ _ _ _ R1 T1 k1 s1 hg h1
theorem b2c{md:M}(hd:md.isDat=false)(cs:List V)(K:md.den->List V->Cmd α):exM ln md cs K=exM Du md cs K:=by cases md<;>first|rfl|(simp[M.isDat]at hd;done)|(rename_i b;cases b<;>first|rfl|(rename_i b;cases b<;>rfl))
theorem a0y{md:MG}(hd:md.2.isDat=true){K:md.2.den->Cmd α}(R:Rel X cl ch S m ok a w)(hT:Tk X S m ok w T)(hv:nI ⟨w.heap,ok,m⟩ v x)
  (hK:∀S' ok' y cs,Rel X cl ch S' m ok' a w->Tk X S' m ok' w T->(∀b t,ok b t->ok' b t)->(∀b t,okL ln S m ok b t->okL ln S' m ok' b t)->bP S S' ->a2r md.1 x cs->qY w.heap (okL ln S' m ok') md.2 none y cs []->(K y).post S' Q):
  (YL ln md v K).post S Q:=by
 obtain⟨ag,mm⟩:=md;cases mm<;>simp[M.isDat]at hd
 case dat t=>
  refine IQ hv λcs us hg hl=>?_;dsimp only;unfold exM;refine EW ln _ R hT hl λS1 ok1 y r us1 us' R1 T1 k1 g1 s1 e1 h1 l1=>?_;cases r with
  |cons c q=>trivial|nil=>simp only[iJ]at l1;subst l1;simp only[G7]at e1;subst e1;exact hK _ _ _ _ R1 T1 k1 g1 s1 hg ⟨h1,rfl⟩
 case lp t=>
  refine IQ hv λcs us hg hl=>?_;dsimp only;unfold exM;cases cs with
  |nil=>trivial|cons c q=>
   obtain⟨u,r',rfl,h1,h2,h3⟩:=hl;refine a4k ln t R hT h1 λS1 ok1 y R1 T1 k1 g1 s1 d1=>?_;cases q with
   |cons c q=>trivial|nil=>simp only[iJ]at h3;subst h3;exact hK _ _ _ _ R1 T1 k1 g1 s1 hg ⟨u,rfl,d1,rfl⟩
theorem b9J :∀b t,ok b t->okL ln S m ok b t:=λ_ _ h=> .inl h
theorem LH{α:Type}{Q:α->Sm->Prop}{ln:Ty->Bool} :∀(ms:List MG) {vs:List V} {xs:d4J} {K:ay ms->Cmd α} {S:Sm} {ok:Nat->Ty->Prop} {T:d4K} (R:Rel X cl ch S m ok a w) (hT:Tk X S m ok w T)
  (hv:jb ⟨w.heap,ok,m⟩ vs xs)
  (hK:∀S' ok' y O,Rel X cl ch S' m ok' a w->Tk X S' m ok' w (T++O)->(∀b t,ok b t->ok' b t)->bP S S' ->vU w.heap (okL ln S' m ok') ms y xs O->(K y).post S' Q),
  (QX ln ms vs K).post S Q
 |[],vs,xs,K,S,ok,T,R,hT,hv,hK=>by
  unfold QX;split
  .simp only[jb]at hv;subst hv;exact hK _ _ _ [] R (by simpa using hT) (λ_ _ h=>h) (bP.refl _) ⟨rfl,rfl⟩
  .trivial
 |[md],vs,xs,K,S,ok,T,R,hT,hv,hK=>by
  unfold QX;split
  .obtain⟨x,r,rfl,h1,h2⟩:=hv;simp only[jb]at h2;subst h2;cases hd:md.2.isDat
   .unfold YL;simp only[b2c hd];exact a3I R hT h1 λS' ok' y cs O R' T' k s g h=>hK _ _ _ O R' T' k s ⟨x,cs,rfl,g,kY b9J (λ_ _ _=>rfl) (λ_ _=>rfl) h⟩
   .exact a0y hd R hT h1 λS' ok' y cs R' T' k g s hg h=>hK _ _ _ [] R' (by simpa using T') k s ⟨x,cs,rfl,hg,h⟩
  .trivial
 |md::md' ::r,vs,xs,K,S,ok,T,R,hT,hv,hK=>by
  unfold QX;split
  .obtain⟨x,xr,rfl,h1,h2⟩:=hv;cases hd:md.2.isDat
   .simp only[cond_false];unfold YL;simp only[b2c hd];refine a3I R hT h1 λS1 ok1 y cs O R1 T1 k1 s1 g1 h1' =>?_;refine LH (md' ::r) R1 T1 (PD k1 h2) λS2 ok2 z O2 R2 T2 k2 s2 h2' =>?_;exact hK _ _ _ (O++O2) R2 (by simpa using T2) (λb t h=>k2 b t (k1 b t h)) (s1.trans s2) ⟨x,cs,xr,O,O2,rfl,rfl,g1,kY (λb t h=> .inl (k2 b t h)) (λ_ _ _=>rfl) (λ_ _=>rfl) h1',h2'⟩
   .simp only[cond_true];refine LH (md' ::r) R hT h2 λS2 ok2 z O2 R2 T2 k2 s2 h2' =>?_;refine a0y hd R2 T2 (XL k2 h1) λS1 ok1 y cs R1 T1 k1 g1 s1 hg h1' =>?_;exact hK _ _ _ ([]++O2) R1 (by simpa using T1) (λb t h=>k1 b t (k2 b t h)) (s2.trans s1) ⟨x,cs,xr,[],O2,rfl,rfl,hg,h1',WZ g1 (λ_ _ _=>rfl) (λ_ _=>rfl) h2'⟩
  .trivial
theorem a3H(ms:List MG){vs:List V}{xs:d4J}{K:ay ms->Cmd α}{S:Sm}{ok:Nat->Ty->Prop}{T:d4K}(R:Rel X cl ch S m ok a w)(hT:Tk X S m ok w T)
  (hv:jb ⟨w.heap,ok,m⟩ vs xs)
  (hK:∀S' ok' y O,Rel X cl ch S' m ok' a w->Tk X S' m ok' w (T++O)->(∀b t,ok b t->ok' b t)->bP S S' ->vU w.heap ok' ms y xs O->(K y).post S' Q):
  (QX Du ms vs K).post S Q:=
 LH ms R hT hv λS' ok' y O R' T' k s h=>hK S' ok' y O R' T' k s (by rw[a6N]at h;exact h)
theorem Wy{α:Type}{Q:α->Sm->Prop}{tmps:Array Value}{C:Cx} :∀(ns:d4K) {K:List V->Cmd α} {S:Sm} (hs:∀n,n<aS->nI C (S n) (tmps.getD n Go.undef))
  (hK:∀vs,jb C vs (ns.map λn=>tmps.getD n Go.undef)->(K vs).post S Q),(a1L ns K).post S Q
 |[],K,S,hs,hK=>hK [] rfl|n::ns,K,S,hs,hK=>by
  unfold a1L;cases hb:Nat.blt n aS
  .trivial
  .simp only[cond_true];show Cmd.post _ S Q;refine Wy ns hs λvs hvs=>?_;exact hK _ ⟨_,_,rfl,hs n (by rw[gq]at hb;exact hb),hvs⟩
def a5M(h:Array Obj)(ok:Nat->Ty->Prop)(sg:Sig)(x:sD sg)(tmps:Array Value)(O:d4K):Prop:=
 vU h ok (sg.ms.map (·.2)) x ((sg.ms.map (·.1)).map λn=>tmps.getD n Go.undef) O/\∀p∈sg.als,tmps.getD p.1 Go.undef=tmps.getD p.2 Go.undef
theorem b4U{v u:V}{x y:Value}(h:b8M v u=true)(hv:nI C v x)(hu:nI C u y):x=y:=by
 cases v<;>try (cases h;done)
 case own a vw=>
 cases u<;>try (cases vw<;>cases h;done)
 case own b vu=>
 cases vw<;>cases vu<;>try (cases h;done)
 have:=iI (show Nat.beq a b=true from h);subst this;obtain⟨l,hm,h1⟩:=hv;obtain⟨l',hm',h2⟩:=hu;rw[hm]at hm';cases hm';cases l with
 |nil=>exact(show x=_ from h1).trans (show y=_ from h2).symm|st b=>cases h1|mp b=>exact(show x=_ from h1).trans (show y=_ from h2).symm|arr blk off len cap sz=>exact(show x=_ from h1).trans (show y=_ from h2).symm
theorem a0m{α:Type}{Q:α->Sm->Prop}{tmps:Array Value}{C:Cx} :∀(als:List (Nat×Nat)) {K:Cmd α} {S:Sm} (hs:∀n,n<aS->nI C (S n) (tmps.getD n Go.undef))
  (hK:(∀p∈als,tmps.getD p.1 Go.undef=tmps.getD p.2 Go.undef)->K.post S Q),(b6N als K).post S Q
 |[],K,S,hs,hK=>hK (λp hp=>by cases hp)|(n,k)::r,K,S,hs,hK=>by
  unfold b6N;refine ed λhb=>?_;simp only[D5]at hb;show Cmd.post _ S Q;refine ed λhv=>a0m r hs λh=>hK λp hp=>?_;rcases D6.1 hp with rfl|hp
  .have h1:=hb.1;have h2:=hb.2;rw[gq]at h1 h2;exact b4U hv (hs n h1) (hs k h2)
  .exact h p hp
theorem a6s{sg:Sig}{Q:sD sg->Sm->Prop}(R:Rel X cl ch S m ok a w)
  (hK:∀S' ok' y O,Rel X cl ch S' m ok' a w->Tk X S' m ok' w O->(∀b t,ok b t->ok' b t)->bP S S' ->
   a5M w.heap ok' sg y a.tmps O->Q y S'):(b2d sg).post S Q:=by
 unfold b2d;refine a0m _ R.slot λhals=>Wy _ R.slot λvs hvs=>?_;refine a3H (T:=[]) _ R Tk.nil hvs λS' ok' y O R' T' k s h=>?_;exact hK S' ok' y O R' T' k s ⟨h,hals⟩
theorem Rel.chmono(R:Rel X cl ch S m ok a w){ch' :Nat}(h:ch<=ch'):Rel X cl ch' S m ok a w:={ R with strict:=λn hn=>R.strict n o5 }
theorem tK{n:Nat}{K:Cmd α}(hK:S (aS+n)= .undef->K.post (upd S (aS+n) v) Q):(xQ n v K).post S Q:=by
 unfold xQ;show Cmd.post (match S (aS+n)with| .undef=>_|_=>_) S Q;split
 .rename_i h;exact hK h
 .trivial
theorem Rel.adopt(R:Rel X cl ch S m ok a w){n:Nat}{l:Loc}{ks:d4K}{O:d4K}(hn:S (aS+n)= .undef)(hcl:cl<=n)(hv:v≠.undef)
  (hT:Tk X S m ok w (O++T)) (ho:∀b∈Y1 (oG m n l ks) n v,b∈O) (hnd:(Y1 (oG m n l ks) n v).Nodup) (hB:Gm ⟨w.heap,ok,oG m n l ks⟩ n v):
  Rel X cl (max ch (n+1)) (upd S (aS+n) v) (oG m n l ks) ok a w/\Tk X (upd S (aS+n) v) (oG m n l ks) ok w T/\(∀k l',m k=some l' ->oG m n l ks k=some l'):=by
 have hm:m n=none:=R.fresh n hcl hn;refine⟨(R.chmono (eQ ch (n+1))).lay hn hcl o5 hv rfl rfl rfl (E8 _) (λ_ _ _=>rfl) hnd (λb hb=>hT.free b (by simp[ho b hb])) hB,⟨?_,λb hb=>?_⟩,λk l' h=>?_⟩
 .exact(L6.1 hT.nodup).2.1
 .obtain⟨h1,h2,h3,h4⟩:=hT.free b (by simp[hb]);refine⟨h1,h2,h3,λk e=>?_⟩;by_cases ek:k=n
  .subst ek;rw[lV]at e;exact(L6.1 hT.nodup).2.2 b (ho b e) b hb rfl
  .rw[cO _ _ o5]at e;refine h4 k ?_;rw[←LU (m:=m) (jV m l ks ek) (Wn m l ks ek)];exact e
 .by_cases ek:k=n
  .subst ek;simp[hm]at h
  .rw[jV _ _ _ ek];exact h
theorem JV{h:Array Obj}{ok:Nat->Ty->Prop}{m m' :Mp}{t:Ty}{xs:List t.den}{l:Loc}(hr:arrOk ⟨h,ok,m⟩ t xs l):arrOk ⟨h,ok,m'⟩ t xs l:=by cases l<;>exact hr
theorem b0Y{S:Sm}{k:Nat}{c:Cmd α}(h:c.post (upd S k v) Q):(Cmd.set k v c).post S Q:=h
theorem JY{α:Type}{Q:α->Sm->Prop} :∀(md:M) {x:md.den} {n:Nat} {r:List V} {K:List V->Nat->Cmd α} {S:Sm} {m:Mp} {ch:Nat} {us us' :d4J} {O T:d4K}
  (R:Rel X cl ch S m ok a w) (hcl:cl<=n) (hT:Tk X S m ok w (O++T)) (h:qY w.heap ok md none x us O) (hL:iJ ⟨w.heap,ok,m⟩ r us')
  (hK:∀S' m' cs n' ch',Rel X cl ch' S' m' ok a w->ch' <=max ch n' ->Tk X S' m' ok w T->(∀k l,m k=some l->m' k=some l)->bP S S' ->iJ ⟨w.heap,ok,m'⟩ cs (us++us')->n<=n' ->(K cs n').post S' Q),
  (emM md x n r K).post S Q
 | .dat t,x,n,r,K,S,m,ch,us,us',O,T,R,hcl,hT,h,hL,hK=>by unfold emM;obtain⟨hr,rfl⟩:=h;refine hK S m _ n ch R (eQ _ _) (by simpa using hT) (λ_ _ h=>h) (bP.refl _) ?_ (E8 _);rw[ng];exact yJ (tV (C:=⟨w.heap,ok,m⟩) hr) hL
 | .own t,x,n,r,K,S,m,ch,us,us',O,T,R,hcl,hT,h,hL,hK=>by
  unfold emM;obtain⟨l,v,rfl,hv,ha,rfl⟩:=yK.1 h;refine tK λhn=>?_;have hob:Y1 (oG m n l []) n (.barr t x)=l.blks:=by cases l<;>first|(simp[Y1,Loc.blks];done)|cases ha
  obtain⟨R',T',k'⟩:=R.adopt (l:=l) (ks:=[]) (v:=.barr t x) hn hcl A7 hT (λb hb=>by rw[hob]at hb;exact hb) (by rw[hob];exact Loc.blks_nodup l) ⟨l,bi _ _ _ _,JV ha⟩;exact hK _ _ _ _ _ R' o5 T' k' (bP.box _ _ _) ⟨v,us',rfl,⟨l,bi _ _ _ _,hv⟩,nU hv,Fp k' hL⟩ o5
 | .ownb t,x,n,r,K,S,m,ch,us,us',O,T,R,hcl,hT,h,hL,hK=>by
  unfold emM;obtain⟨l,v,rfl,hv,ha,rfl⟩:=h;refine tK λhn=>?_;have hob:Y1 (oG m n l []) n (.barr t x)=l.blks:=by cases l<;>first|(simp[Y1,Loc.blks];done)|cases ha
  obtain⟨R',T',k'⟩:=R.adopt (l:=l) (ks:=[]) (v:=.barr t x) hn hcl A7 hT (λb hb=>by rw[hob]at hb;exact hb) (by rw[hob];exact Loc.blks_nodup l) ⟨l,bi _ _ _ _,JV ha⟩;exact hK _ _ _ _ _ R' o5 T' k' (bP.box _ _ _) ⟨v,us',rfl,⟨l,bi _ _ _ _,hv⟩,nU hv,Fp k' hL⟩ o5
 | .owns md,x,n,r,K,S,m,ch,us,us',O,T,R,hcl,hT,h,hL,hK=>by
  unfold emM;obtain⟨hw,l,v,Os,rfl,hv,ha,rfl⟩:=BI.1 h;refine tK λhn=>?_;have hob:Y1 (oG m n l Os.flatten) n (.barrs md x none)=l.blks++Os.flatten:=by cases l<;>first|(simp[Y1,Loc.blks];done)|cases ha
  obtain⟨R',T',k'⟩:=R.adopt (l:=l) (ks:=Os.flatten) (v:=.barrs md x none) hn hcl A7 hT (λb hb=>by rw[hob]at hb;exact hb) (by rw[hob];exact(L6.1 hT.nodup).1)
   ⟨hw,l,Os,bi _ _ _ _,⟨ha,trivial⟩,A7⟩
  refine b0Y ?_;have T2:=T'.killV R' (RH+n) (v:=.blen (o8 x) md.size) rfl (bs:=[]) (λb h=>by cases h) fJ;rw[G7]at T2;exact hK _ _ _ _ _ (R'.mark (lV _ _ _)) o5 T2 k' ((bP.box _ _ _).trans (bP.box _ _ _)) ⟨v,us',rfl,⟨l,bi _ _ _ _,hv⟩,nU hv,Fp k' hL⟩ o5
 | .pair p q,x,n,r,K,S,m,ch,us,us',O,T,R,hcl,hT,h,hL,hK=>by
  unfold emM;obtain⟨c,d,O1,O2,rfl,rfl,h1,h2⟩:=b0R.1 h;have hT1:Tk X S m ok w (O2++(O1++T)):=hT.perm (by rw[G5];exact(List.perm_append_comm_assoc _ _ _))
  refine JY q R hcl hT1 h2 hL λS1 m1 cs1 n1 ch1 R1 c1 T1 k1 s1 l1 e1=>?_;refine JY p R1 o5 T1 h1 l1 λS2 m2 cs2 n2 ch2 R2 c2 T2 k2 s2 l2 e2=>?_;exact hK _ _ _ _ _ R2 o5 T2 (λk l h=>k2 k l (k1 k l h)) (s1.trans s2) (by simpa using l2) o5
 | .unit,x,n,r,K,S,m,ch,us,us',O,T,R,hcl,hT,h,hL,hK=>by unfold emM;obtain⟨rfl,rfl⟩:=h;exact hK S m _ n ch R (eQ _ _) (by simpa using hT) (λ_ _ h=>h) (bP.refl _) (by simpa using hL) (E8 _)
 | .box md,x,n,r,K,S,m,ch,us,us',O,T,R,hcl,hT,h,hL,hK=>by
  unfold emM;obtain⟨blk,arr,Tt,O',rfl,hh,hr,rfl⟩:=h;have hT1:Tk X S m ok w (O' ++([blk]++T)):=hT.perm (by simpa using List.perm_middle.symm);refine JY md (r:=[]) (us' :=[]) R o5 hT1 hr rfl λS1 m1 cs1 n1 ch1 R1 c1 T1 k1 s1 l1 e1=>?_;refine tK λhn=>?_;obtain⟨R',T',k'⟩:=R1.adopt (l:=.st blk) (ks:=[]) (v:=.bcells cs1) hn hcl A7 T1 (λb hb=>by
   simp only[Y1,bi]at hb;simp at hb;simp[hb]) (by simp[Y1]) ⟨blk,arr,Tt,bi _ _ _ _,hh,Fp (λk l (h:m1 k=some l)=>by
    by_cases ek:k=n
    .subst ek;have:=R1.fresh k hcl hn;rw[this]at h;cases h
    .rw[jV _ _ _ ek];exact h) (by simpa using l1)⟩
  refine hK _ _ _ _ _ R' o5 T' (λk l h=>k' k l (k1 k l h)) (s1.trans (bP.box _ _ _)) ⟨_,us',rfl,⟨blk,bi _ _ _ _,rfl⟩,rfl,Fp k' (Fp k1 hL)⟩ o5
 | .rp t,x,n,r,K,S,m,ch,us,us',O,T,R,hcl,hT,h,hL,hK=>by unfold emM;obtain⟨v,rfl,hv,rfl⟩:=h;exact hK S m _ n ch R (eQ _ _) (by simpa using hT) (λ_ _ h=>h) (bP.refl _) ⟨v,us',rfl,hv,Oz hv,hL⟩ (E8 _)
 | .fn f ts,x,n,r,K,S,m,ch,us,us',O,T,R,hcl,hT,h,hL,hK=>by unfold emM;obtain⟨vs,rfl,hv,rfl⟩:=h;exact hK S m _ n ch R (eQ _ _) (by simpa using hT) (λ_ _ h=>h) (bP.refl _) ⟨_,us',rfl,⟨vs,rfl,hv⟩,rfl,hL⟩ (E8 _)
 | .ifc t md,x,n,r,K,S,m,ch,us,us',O,T,R,hcl,hT,h,hL,hK=>by
  unfold emM;obtain⟨u,rfl,h1⟩:=h;refine JY md (r:=[]) (us' :=[]) R hcl hT h1 rfl λS1 m1 cs1 n1 ch1 R1 c1 T1 k1 s1 l1 e1=>?_;split
  .rename_i c;obtain⟨v',r',e,h1',h2',h3'⟩:=l1;simp only[G7,bg,J9,H6]at e;obtain⟨rfl,rfl⟩:=e;exact hK _ _ _ _ _ R1 c1 T1 k1 s1 ⟨_,us',rfl,⟨u,rfl,h2',h1'⟩,rfl,Fp k1 hL⟩ e1
  .trivial
 | .cell (some none),x,n,r,K,S,m,ch,us,us',O,T,R,hcl,hT,h,hL,hK=>by unfold emM;obtain⟨v,rfl,hv,h2,h4,rfl⟩:=h;exact hK S m _ n ch R (eQ _ _) (by simpa using hT) (λ_ _ h=>h) (bP.refl _) ⟨v,us',rfl,h2 rfl,hv,hL⟩ (E8 _)
 | .cell (some (some b)),x,n,r,K,S,m,ch,us,us',O,T,R,hcl,hT,h,hL,hK=>by unfold emM;obtain⟨v,rfl,hv,h2,h4,rfl⟩:=h;exact hK S m _ n ch R (eQ _ _) (by simpa using hT) (λ_ _ h=>h) (bP.refl _) ⟨v,us',rfl,h4 _ rfl,hv,hL⟩ (E8 _)
 | .cell none,x,n,r,K,S,m,ch,us,us',O,T,R,hcl,hT,h,hL,hK=>by unfold emM;obtain⟨v,rfl,hv,h2,h4,rfl⟩:=h;exact hK S m _ n ch R (eQ _ _) (by simpa using hT) (λ_ _ h=>h) (bP.refl _) ⟨v,us',rfl,trivial,hv,hL⟩ (E8 _)
 | .lp t,x,n,r,K,S,m,ch,us,us',O,T,R,hcl,hT,h,hL,hK=>by unfold emM;obtain⟨v,rfl,hv,rfl⟩:=h;exact hK S m _ n ch R (eQ _ _) (by simpa using hT) (λ_ _ h=>h) (bP.refl _) ⟨v,us',rfl,hv,Oz hv,hL⟩ (E8 _)
 | .dv ..,x,n,r,K,S,m,ch,us,us',O,T,R,hcl,hT,h,hL,hK=>by unfold emM;obtain⟨v,rfl,hv,rfl⟩:=h;exact hK S m _ n ch R (eQ _ _) (by simpa using hT) (λ_ _ h=>h) (bP.refl _) ⟨v,us',rfl,trivial,hv,hL⟩ (E8 _)
 | .sit,x,n,r,K,S,m,ch,us,us',O,T,R,hcl,hT,h,hL,hK=>by
  unfold emM;obtain⟨blk,s,q,rfl,hh,h2,h3,rfl⟩:=h;refine tK λhn=>?_;obtain⟨R2,T2,k2⟩:=R.adopt (n:=n) (l:=.st blk) (ks:=[]) (v:=.biter x.1 x.2) hn hcl A7 hT (λb hb=>by simp only[Y1,bi]at hb;simp at hb;simp[hb]) (by simp[Y1]) ⟨blk,s,q,bi _ _ _ _,hh,h2,h3⟩
  exact hK _ _ _ _ _ R2 o5 T2 k2 (bP.box _ _ _) ⟨_,us',rfl,⟨blk,bi _ _ _ _,rfl⟩,rfl,Fp k2 hL⟩ o5
 | .sbx tb te,x,n,r,K,S,m,ch,us,us',O,T,R,hcl,hT,h,hL,hK=>by
  unfold emM;obtain⟨blk,a0,v,l,rfl,hh,hs,hv,ha,rfl⟩:=h;have hT1:Tk X S m ok w (l.blks++([blk]++T)):=hT.perm (by simpa using List.perm_middle.symm);refine tK λhn1=>?_;have hob:Y1 (oG m (n+1) l []) (n+1) (.brow te x)=l.blks:=by cases l<;>first|(simp[Y1,Loc.blks];done)|cases ha
  obtain⟨R1,T1,k1⟩:=R.adopt (n:=n+1) (l:=l) (ks:=[]) (v:=.brow te x) hn1 o5 A7 hT1 (λb hb=>by rw[hob]at hb;exact hb) (by rw[hob];exact Loc.blks_nodup l) ⟨l,bi _ _ _ _,ha⟩;refine tK λhn=>?_;obtain⟨R2,T2,k2⟩:=R1.adopt (n:=n) (l:=.st blk) (ks:=[]) (v:=.bsb tb (.own (n+1) none)) hn hcl A7 T1 (λb hb=>by simp only[Y1,bi]at hb;simp at hb;simp[hb]) (by simp[Y1]) ⟨blk,a0,v,bi _ _ _ _,hh,hs,⟨l,(by rw[jV _ _ _ o5];exact bi _ _ _ _),hv⟩⟩
  refine hK _ _ _ _ _ R2 o5 T2 (λk l h=>k2 k l (k1 k l h)) ((bP.box _ _ _).trans (bP.box _ _ _)) ⟨_,us',rfl,⟨blk,bi _ _ _ _,rfl⟩,rfl,Fp k2 (Fp k1 hL)⟩ o5
 | .fr t,x,n,r,K,S,m,ch,us,us',O,T,R,hcl,hT,h,hL,hK=>by unfold emM;obtain⟨l,v,rfl,hv,ha,hk,rfl⟩:=h;refine tK λhn=>?_;obtain⟨R',T',k'⟩:=R.adopt (l:=l) (ks:=[]) (v:=.bfrz t x) hn hcl A7 hT (λb hb=>by cases hb) fJ ⟨l,bi _ _ _ _,JV ha,hk⟩;exact hK _ _ _ _ _ R' o5 T' k' (bP.box _ _ _) ⟨v,us',rfl,⟨l,bi _ _ _ _,hv⟩,nU hv,Fp k' hL⟩ o5
theorem ZW{ag:Bool}{cs:List V}{us:d4J}(hg:a2r ag x us)(hl:iJ C cs us):nI C (mkV ag cs) x:=by
 cases ag
 .simp only[a2r]at hg;subst hg;cases cs with
  |nil=>simp[iJ]at hl|cons c r=>
   obtain⟨v,r',e,h1,h2,h3⟩:=hl;simp at e;obtain⟨rfl,rfl⟩:=e;cases r with
   |nil=>exact Gn h1|cons d r=>obtain⟨_,_,e,_⟩:=h3;cases e
 .obtain⟨arr,rfl,rfl⟩:=hg;exact⟨arr,rfl,hl⟩
theorem Lu{α:Type}{Q:α->Sm->Prop} :∀(ms:List MG) {x:ay ms} {n:Nat} {K:List V->Nat->Cmd α} {S:Sm} {m:Mp} {ch:Nat} {xs:d4J} {O T:d4K}
  (R:Rel X cl ch S m ok a w) (hcl:cl<=n) (hT:Tk X S m ok w (O++T)) (h:vU w.heap ok ms x xs O)
  (hK:∀S' m' vs n' ch',Rel X cl ch' S' m' ok a w->ch' <=max ch n' ->Tk X S' m' ok w T->(∀k l,m k=some l->m' k=some l)->bP S S' ->jb ⟨w.heap,ok,m'⟩ vs xs->n<=n' ->(K vs n').post S' Q),
  (QV ms x n K).post S Q
 |[],x,n,K,S,m,ch,xs,O,T,R,hcl,hT,h,hK=>by unfold QV;obtain⟨rfl,rfl⟩:=h;exact hK S m [] n ch R (eQ _ _) (by simpa using hT) (λ_ _ h=>h) (bP.refl _) rfl (E8 _)
 |[md],x,n,K,S,m,ch,xs,O,T,R,hcl,hT,h,hK=>by unfold QV;obtain⟨v,cs,rfl,hg,hr⟩:=h;refine JY md.2 (us' :=[]) R hcl hT hr rfl λS1 m1 cs1 n1 ch1 R1 c1 T1 k1 s1 l1 e1=>?_;exact hK _ _ _ _ _ R1 c1 T1 k1 s1 ⟨v,[],rfl,ZW hg (by simpa using l1),rfl⟩ e1
 |md::md' ::r,x,n,K,S,m,ch,xs,O,T,R,hcl,hT,h,hK=>by unfold QV;obtain⟨v,cs,vs',O1,O2,rfl,rfl,hg,h1,h2⟩:=h;refine JY md.2 (us' :=[]) R hcl (by simpa using hT) h1 rfl λS1 m1 cs1 n1 ch1 R1 c1 T1 k1 s1 l1 e1=>?_;refine Lu (md' ::r) R1 o5 T1 h2 λS2 m2 vs2 n2 ch2 R2 c2 T2 k2 s2 l2 e2=>?_;exact hK _ _ _ _ _ R2 o5 T2 (λk l h=>k2 k l (k1 k l h)) (s1.trans s2) ⟨v,vs',rfl,ZW hg (Fp k2 (by simpa using l1)),l2⟩ o5
theorem MQ{Q:Unit->Sm->Prop} :∀(ns:d4K) {vs:List V} {S:Sm} {K:Cmd Unit} (R:Rel X cl ch S m ok a w) (hv:jb ⟨w.heap,ok,m⟩ vs (ns.map λn=>a.tmps.getD n Go.undef))
  (hK:∀S',Rel X cl ch S' m ok a w->K.post S' Q),(QI ns vs K).post S Q
 |[],vs,S,K,R,hv,hK=>by
  simp only[jy]at hv;cases vs with
  |nil=>exact hK S R|cons _ _=>obtain⟨_,_,e,_⟩:=hv;cases e
 |n::ns,vs,S,K,R,hv,hK=>by
  cases vs with
  |nil=>trivial
  |cons v vs=>obtain⟨x,r,e,h1,h2⟩:=hv;simp only[bW,H6]at e;obtain⟨rfl,rfl⟩:=e;unfold QI;refine ed λhb=>?_;show Cmd.post _ (upd S n v) Q;exact MQ ns (R.slotV (by rw[gq]at hb;exact hb) h1) h2 hK
theorem Xe{Q:Unit->Sm->Prop} :∀(als:List (Nat×Nat)) {S:Sm} (R:Rel X cl ch S m ok a w) (h:∀p∈als,a.tmps.getD p.1 Go.undef=a.tmps.getD p.2 Go.undef)
  (hK:∀S',Rel X cl ch S' m ok a w->Q () S'),(a2z als).post S Q
 |[],S,R,h,hK=>hK S R
 |(n,k)::r,S,R,h,hK=>by unfold a2z;refine ed λhb=>?_;simp only[D5]at hb;have h1:=hb.1;have h2:=hb.2;rw[gq]at h1 h2;show Cmd.post _ (upd S n (S k)) Q;refine Xe r (R.slotV h1 ?_) (λp hp=>h p (X9 _ hp)) hK;rw[h (n,k) jG];exact R.slot k h2
theorem a6o{sg:Sig}{x:sD sg}{nb lim:Nat}{Q:Unit->Sm->Prop}{O:d4K}(R:Rel X cl ch S m ok a w)(hcl:cl<=nb)(hT:Tk X S m ok w O)
  (h:a5M w.heap ok sg x a.tmps O)
  (hK:∀S' m',Rel X cl (max ch lim) S' m' ok a w->(∀k l,m k=some l->m' k=some l)->Q () S'):(b1Z sg x nb lim).post S Q:=by
 unfold b1Z;refine Lu (T:=[]) _ R hcl (by simpa using hT) h.1 λS1 m1 vs n1 ch1 R1 c1 T1 k1 s1 l1 e1=>?_;cases hb:Nat.ble n1 lim
 .trivial
 .simp only[cond_true];have:n1<=lim:=Y9 hb;exact MQ _ (R1.chmono (ch' :=max ch lim) o5) l1 λS' R' =>Xe _ R' h.2 λS'' R'' =>hK S'' m1 R'' k1
end
end Go.GP
namespace Go.GP
def b6w(P:Program)(t:TypeId):TD->Prop
 | .bool=>P.underlying t=some .bool| .int k=>P.underlying t=some (.int k)| .str=>P.underlying t=some .string| .sl e=>P.underlying t=some (.slice e)| .ptr e=>P.underlying t=some (.pointer e)| .struct fs=>∃fields,P.underlying t=some (.struct fields)/\fields.toList.map (λf=>(f.type,f.offset))=fs| .arr n e=>P.underlying t=some (.array n e)| .map k e=>P.underlying t=some (.map k e)| .other=>∃d,P.underlying t=some d/\(match d with| .struct _| .array _ _=>False|_=>True)
structure TiOk (P:Program) (t:TypeId) (i:TI):Prop where
 info:∃inf,P.info? t=some inf/\inf.size=i.size/\inf.bytes=i.bytes/\
  (i.zero.length=i.size->∃z,inf.zero=some z/\iJ ⟨#[],λ_ _=>False,nom⟩ i.zero z.cells.toList)/\
  (∀u,i.ty=some u->u.size=i.size/\∃z,inf.zero=some z/\rep #[] (λ_ _=>False) u u.zero z.cells.toList)
 td:b6w P t i.td
 one:kw i.td=false->i.size=1
 agg:∀inf z,P.info? t=some inf->inf.zero=some z->(kw i.td=true->∃arr,z= .agg arr)/\(kw i.td=false->z.oneCell' =true)
def a5K(n:Nat)(v:Value)(rs:d4J):Prop:=rs.length=n/\v=(match rs with|[x]=>x|l=> .tuple l.toArray)
def zx(h:Array Obj):List MG->d4J->d4J->d4K->Prop
 |[],[],os,B=>os=[]/\B=[]|(_,.box _)::ms,v::vs,os,B=>∃b arr T os' B',v= .pointer (some ⟨b,0,none⟩)/\h[b]? =some (.cells arr T (0,0))/\os= .agg arr::os' /\B=b::B' /\zx h ms vs os' B'|(_,.ifc _ (.box _))::ms,v::vs,os,B=>∃t b arr T os' B',v= .iface t (.pointer (some ⟨b,0,none⟩))/\h[b]? =some (.cells arr T (0,0))/\os= .agg arr::os' /\B=b::B' /\zx h ms vs os' B'|(_,.ownb _)::ms,v::vs,os,B=>∃os',os=v::os' /\zx h ms vs os' B|(_,.sbx _ _)::ms,v::vs,os,B=>∃os',os=v::os' /\zx h ms vs os' B|_::ms,_::vs,os,B=>zx h ms vs os B|_,_,_,_=>False
def UX(h:Array Obj)(x:Value)(off sz fo:Nat)(y:Value):Prop:=∃blk o b bo n c,x= .pointer (some ⟨blk,o,none⟩)/\fH h blk (o+off) 1=some [.slice (some ⟨b,bo,none⟩) n c]/\
 0<=G8 .i64 (n:Int) 1/\G8 .i64 (n:Int) 1<(n:Int)/\y= .pointer (some ⟨b,bo+(G8 .i64 (n:Int) 1).toNat*sz+fo,none⟩)
theorem UX.det{h:Array Obj}{x y z:Value}{off sz fo:Nat}(h1:UX h x off sz fo y)(h2:UX h x off sz fo z):y=z:=by obtain⟨blk,o,b,bo,n,c,rfl,e,_,_,rfl⟩:=h1;obtain⟨blk',o',b',bo',n',c',e1,e',_,_,rfl⟩:=h2;simp only[oM,H7,jf,and_true]at e1;obtain⟨rfl,rfl⟩:=e1;rw[e]at e';simp only[H7,H6,qU,jf,and_true]at e';obtain⟨⟨rfl,rfl⟩,rfl,rfl⟩:=e';rfl
def a9F(h:Array Obj)(all:d4J):List MG->d4J->Prop
 |(_,.dv k off sz fo)::ms,v::vs=>(∃p,all[k]? =some p/\UX h p off sz fo v)/\a9F h all ms vs|_::ms,_::vs=>a9F h all ms vs|_,_=>True
def a8j(P:Program)(f:FuncId)(off sz:Nat):Prop:=(∃fn,P.funcs[f]? =some fn/\fn.body.isSome=true/\(fn.name== "runtime.NumGoroutine")=false)/\
 ∀(w:World) (x y:Value),UX w.heap x off sz 0 y->Calls P f #[x] w λe w' =>e= .returned y/\∃n,w' =w.drewN n
def PlP(P:Program)(f:FuncId)(off sz:Nat):Prop:=match sz with|0=>c3x P f off|_+1=>a8j P f off sz
theorem PlP.snd{P:Program}{f:FuncId}{off sz:Nat}(h:PlP P f off sz)(hz:Nat.beq sz 0=false):a8j P f off sz:=by
 cases sz with
 |zero=>cases hz|succ n=>exact h
def dH(P:Program)(gl:List (Nat×(t:Ty)×List t.den))(f:FuncId)(s:FSpec):Prop:=
 ∀(w:World) (ok:Nat->Ty->Prop) (O:d4K) (vals:d4J) (x:ay s.ps) (r:ay (s.rs++s.outs)),
  (∀b t,ok b t->b<w.heap.size)->O.Nodup->(∀b∈O,(∀t,¬ok b t)/\b<w.heap.size)->(∀g u,fP gl g=some u->NY ⟨w.heap,ok,nom⟩ g u.1 u.2)->
  vU w.heap ok s.ps x vals O->a9F w.heap vals s.ps vals->s.fn x=some r->
  Calls P f vals.toArray w λe w' =>∃v ok' O' rs os B,e= .returned v/\Frame' w w' O/\(∀b t,ok b t->ok' b t)/\(∀b t,ok' b t->b<w'.heap.size/\(ok b t\/w.heap.size<=b\/b∈O))/\
   (O' ++B).Nodup/\(∀b∈O' ++B,(∀t,¬ok' b t)/\b<w'.heap.size/\(w.heap.size<=b\/b∈O))/\
   a5K s.rs.length v rs/\zx w'.heap s.ps vals os B/\vU w'.heap ok' (s.rs++s.outs) r (rs++os) O'
def lY:List Ty->d4J->Prop
 |[],vs=>vs=[]| .bool::ts,vs=>∃b r,vs= .bool b::r/\lY ts r| .int k::ts,vs=>∃b r,vs= .int k b::r/\lY ts r| .str::ts,vs=>∃b r,vs= .string b::r/\lY ts r|_::_,_=>False
def b1p(P:Program)(t:TypeId)(sh:List Ty):Prop:=
 ∀(w:World) (C:Cx) (cs ds:List V) (xs ys:Array Value) (e:Bool) (op:BinOp) (x y:Operand),Di sh cs=true->Di sh ds=true->iJ C cs xs.toList->iJ C ds ys.toList->BX cs ds=some e->
  (op= .eql\/op= .neq)->(do eqGuard op t x y (.agg xs) (.agg ys);binOp op t (.agg xs) (.agg ys):Sem Value).run P w= .ok (.bool (if op= .eql then e else !e)) w
def a3a(P:Program)(t:TypeId)(sh:List Ty):Prop:=
 (∃fs,P.underlying t=some (.struct fs))/\∀(w:World) (xs:Array Value),lY sh xs.toList->(∀em,(Instr.checkKey em 10000 t (.agg xs)).run P w= .ok () w)/\
  ∀ys:Array Value,lY sh ys.toList->∃r,(Op.equal t (.agg xs) (.agg ys)).run P w= .ok r w/\(r=true↔xs.toList=ys.toList)
def PZ(P:Program)(t:TypeId)(sh:List Ty):Prop:=b1p P t sh/\a3a P t sh
def GV(P:Program)(t:Nat)(n:String)(f:Nat)(d:Option Nat):Prop:=
 ∀(v:Value) (w:World),match d with
  |none=>(method (P.types.size+Made.depth) t v n).run P w= .ok (f,v) w
  |some e=>∀ad,v= .pointer (some ad)->(method (P.types.size+Made.depth) t v n).run P w=((loadVar e ad).run P w).andThen λu w' => .ok (f,u) w'
structure FxOk (X:Fx):Prop where
 nt:64*X.E.nt<=999936
 tt:∀t i,fP X.E.tt t=some i->TiOk X.P t i
 fs:∀p∈X.E.fs,dH X.P X.E.gl p.1 p.2
 eqs:∀t sh,fP X.E.eqs t=some sh->PZ X.P t sh
 ms:∀p∈X.E.ms,GV X.P p.1.1 p.1.2 p.2.1 p.2.2
 fn:∀p∈X.E.fs,∃fn,X.P.funcs[p.1]? =some fn/\fn.body.isSome=true/\(fn.name== "runtime.NumGoroutine")=false
 pl:∀p∈X.E.pl,PlP X.P p.1 p.2.1 p.2.2
theorem FxOk.ntB{X:Fx}(H:FxOk X):X.E.nt<=aS:=by have:=H.nt;show X.E.nt<=1000000;omega
def kW(X:Fx)(cl ch:Nat)(o:Oper)(a:Act)(w:World)(m:Mp)(ok:Nat->Ty->Prop)(S' :Sm):Prop:=
 ∀(next:Act->World->Prop) (Q:Exit->Act->World->Prop),
  (∀m' ok' a' w',Rel X cl ch S' m' ok' a' w' ->(∀k l,m k=some l->m' k=some l)->(∀b t,ok b t->ok' b t)->next a' w')->o.wp X.P a w next Q
theorem KF{α:Type}{ι:Sort _}{Q:ι->α->Sm->Prop} :∀{c:Cmd α} {S:Sm},(∀i,c.post S (Q i))->c.post S (λx S' =>∀i,Q i x S')
 | .ret x,S,h=>λi=>h i| .fail,S,h=>trivial| .get k c,S,h=>KF (c:=c (S k)) h| .set k v c,S,h=>KF (c:=c) h
 | .opt o c,S,h=>λx e=>KF (c:=c x) λi=>h i x e| .br b c d,S,h=>⟨λe=>KF (c:=c) λi=>(h i).1 e,λe=>KF (c:=d) λi=>(h i).2 e⟩
variable {x:Operand}{k:IntKind}{y:Operand}{α:Type}{Q:α->Sm->Prop}{C:Cx}{v:Value}{op:BinOp}{t:TypeId}{yt:TypeId}
section
variable {X:Fx} {cl ch:Nat} {S:Sm} {m:Mp} {ok:Nat->Ty->Prop} {a:Act} {w:World} {o:Oper}
theorem dJ{b:Bool}{c:Cmd α}{S:Sm}(h:b=true->c.post S Q):(bif b then c else Cmd.fail).post S Q:=by
 cases b
 .trivial
 .exact h rfl
theorem Lm{a b:Nat}(h:Nat.blt a b=true):a<b:=by rw[gq]at h;exact h
theorem yg(H:FxOk X){S:Sm}{m0 m:Mp}{ok0 ok:Nat->Ty->Prop}{w0 w:World}{a:Act}(R:Rel X cl ch S m ok a w)(hm:∀k l,m0 k=some l->m k=some l)(hok:∀b t,ok0 b t->ok b t)
  {v:V} {x:Value} (hv:nI ⟨w.heap,ok,m⟩ v x) (run:(execOp a.eval o).run X.P w0= .ok (.value x) w):
  (gu X.E o.dst v).post S (λ_ S' =>kW X cl ch o a w0 m0 ok0 S'):=by
 unfold gu;cases hd:o.dst with
 |none=>
  intro next Q hn
  unfold Oper.wp;rw[run,pO,hd];exact hn m ok a w R hm hok
 |some d=>
  refine dJ λhb=>?_;intro next Q hn
  unfold Oper.wp;rw[run,pO,hd];exact hn m ok _ w (R.put H.ntB hb hv) hm hok
theorem a6i(C:Cx)(v:Value):nI C (a6h v) v:=by unfold a6h;split<;>first|exact rfl|trivial
theorem cu(R:Rel X cl ch S m ok a w){K:V->Cmd α}(hK:∀v,nI ⟨w.heap,ok,m⟩ v (a.eval x)->(K v).post S Q):(wI x K).post S Q:=by
 unfold wI;cases x with
 |tmp t=>exact dJ λhb=>hK (S t) (R.slot t (Lm hb))|const v=>exact hK _ (a6i _ v)|global g=>exact hK _ rfl|func f=>exact hK _ rfl
theorem oz{α:Type}{Q:α->Sm->Prop}(R:Rel X cl ch S m ok a w):∀(xs:List Operand) {K:List V->Cmd α} (hK:∀vs,jb ⟨w.heap,ok,m⟩ vs (xs.map a.eval)->(K vs).post S Q),(Ui xs K).post S Q
 |[],K,hK=>hK [] rfl
 |x::r,K,hK=>by unfold Ui;refine cu R λv hv=>?_;exact oz R r λvs hvs=>hK _ ⟨_,_,rfl,hv,hvs⟩
theorem bD(H:FxOk X)(R:Rel X cl ch S m ok a w){v:V}{x:Value}(hv:nI ⟨w.heap,ok,m⟩ v x)(run:(execOp a.eval o).run X.P w= .ok (.value x) w):
  (gu X.E o.dst v).post S (λ_ S' =>kW X cl ch o a w m ok S'):=yg H R (λ_ _ h=>h) (λ_ _ h=>h) hv run
theorem VM{x:Bool}(h:nI C (.b x) v):v= .bool x:=h
theorem wL{n:Int}(h:nI C (.i k n) v):v= .int k n:=h
theorem Pz{l:d4H}(h:nI C (.s l) v):v= .string ⟨l.toArray⟩:=h
theorem a9d(H:FxOk X)(R:Rel X cl ch S m ok a w)(ho:o.op= .move x\/o.op= .assign x):(wI x λv=>gu X.E o.dst v).post S (λ_ S' =>kW X cl ch o a w m ok S'):=by refine cu R λv hv=>bD H R hv ?_;rcases ho with ho|ho<;>simp[execOp,ho]
theorem b7s(H:FxOk X)(R:Rel X cl ch S m ok a w){c x y:Operand}{q:Nat}(ho:o.op= .pick c x y):(dZ X.E q o).post S (λ_ S' =>kW X cl ch o a w m ok S'):=by
 unfold dZ;simp only[ho];refine cu R λv hv=>?_;split<;>try trivial
 rename_i t;have hc:=VM hv;cases t
 .simp only[cond_false];refine cu R λv hv=>bD H R hv ?_;simp[execOp,ho,hc,asBool]
 .simp only[cond_true];refine cu R λv hv=>bD H R hv ?_;simp[execOp,ho,hc,asBool]
theorem gG{α β:Type}{Q:α->Sm->Prop}{x:Option β}{c:β->Cmd α}{S:Sm}(h:∀y,x=some y->(c y).post S Q):(Cmd.opt x c).post S Q:=h
theorem a9C{yc:Operand}{a:Act}{b:Int}(h:GK yc=false)(he:a.eval yc= .int k b):b≠0:=by
 unfold GK at h;split at h
 .simp[Act.eval]at he;obtain⟨_,rfl⟩:=he;simpa using h
 .simp at h
theorem b2K{yc:Operand}{a:Act}{b:Int}(h:Ku yc=false)(he:a.eval yc= .int k b):¬b<0:=by
 unfold Ku at h;split at h
 .simp[Act.eval]at he;obtain⟨_,rfl⟩:=he;simpa using h
 .simp at h
theorem b0B(H:FxOk X)(R:Rel X cl ch S m ok a w)(ho:o.op= .binOp op t x y yt){k k' :IntKind}{p q:Int}
  (hx:a.eval x= .int k p) (hy:a.eval y= .int k' q):(Oi X.E t op y (.i k p) (.i k' q) λv=>gu X.E o.dst v).post S (λ_ S' =>kW X cl ch o a w m ok S'):=by
 have run:∀v,(binOp op t (.int k p) (.int k' q)).run X.P w= .ok v w->(execOp a.eval o).run X.P w= .ok (.value v) w:=λv h=>by simp[execOp,ho,hx,hy,eqGuard_at_int,h]
 have fin:∀(v:V) (u:Value),nI ⟨w.heap,ok,m⟩ v u->(binOp op t (.int k p) (.int k' q)).run X.P w= .ok u w->(gu X.E o.dst v).post S (λ_ S' =>kW X cl ch o a w m ok S'):=
  λv u hv h=>bD H R hv (run u h)
 unfold Oi;cases op<;>simp only[]
 case shl=>
  cases hn:Ku y
  .simp only[cond_false];have h0:=b2K hn hy;exact fin _ _ rfl (by simp[binOp,Op.shift,h0,b2o])
  .simp only[cond_true];refine gG λr hr=>?_;unfold Zb at hr;split at hr
   .cases hr
   .rename_i h0;cases hr;exact fin _ _ rfl (by simp[binOp,Op.shift,h0,b2o])
 case shr=>
  cases hn:Ku y
  .simp only[cond_false];have h0:=b2K hn hy;exact fin _ _ rfl (by simp[binOp,Op.shift,h0,uG])
  .simp only[cond_true];refine gG λr hr=>?_;unfold Zc at hr;split at hr
   .cases hr
   .rename_i h0;cases hr;exact fin _ _ rfl (by simp[binOp,Op.shift,h0,uG])
 all_goals
  refine dJ λhk=>?_;have hk' :k=k' :=of_decide_eq_true hk;subst hk'
 case quo=>
  cases hz:GK y
  .simp only[cond_false];have h0:=a9C hz hy;exact fin _ _ rfl (by simp[binOp,Op.intDiv,h0,cZ])
  .simp only[cond_true];refine gG λr hr=>?_;unfold qH at hr;split at hr
   .cases hr
   .rename_i h0;cases hr;exact fin _ _ rfl (by simp[binOp,Op.intDiv,h0])
 case rem=>
  cases hz:GK y
  .simp only[cond_false];have h0:=a9C hz hy;exact fin _ _ rfl (by simp[binOp,Op.intDiv,h0,dG])
  .simp only[cond_true];refine gG λr hr=>?_;unfold zt at hr;split at hr
   .cases hr
   .rename_i h0;cases hr;exact fin _ _ rfl (by simp[binOp,Op.intDiv,h0])
 case add=>exact fin _ _ rfl (by simp[binOp,Op.intArith,C9])
 case sub=>exact fin _ _ rfl (by simp[binOp,Op.intArith,G8])
 case mul=>exact fin _ _ rfl (by simp[binOp,Op.intArith,Z7])
 case and=>exact fin _ _ rfl (by simp[binOp,Op.intBits,a3V])
 case or=>exact fin _ _ rfl (by simp[binOp,Op.intBits,ior])
 case xor=>exact fin _ _ rfl (by simp[binOp,Op.intBits,b2q])
 case andNot=>exact fin _ _ rfl (by simp[binOp,Op.intBits,a8G])
 case eql=>exact fin _ _ rfl (by simp[binOp,Op.intCmp,o9];rfl)
 case neq=>exact fin _ _ rfl (by simp[binOp,Op.intCmp,o9,D9];rfl)
 case lss=>exact fin _ _ rfl (by simp[binOp,Op.intCmp,E5])
 case leq=>exact fin _ _ rfl (by simp[binOp,Op.intCmp,J8])
 case gtr=>exact fin _ _ rfl (by simp[binOp,Op.intCmp,E5])
 case geq=>exact fin _ _ rfl (by simp[binOp,Op.intCmp,J8])
theorem b0C(H:FxOk X)(R:Rel X cl ch S m ok a w)(ho:o.op= .binOp op t x y yt){p q:d4H}
  (hx:a.eval x= .string ⟨p.toArray⟩) (hy:a.eval y= .string ⟨q.toArray⟩):(Oi X.E t op y (.s p) (.s q) λv=>gu X.E o.dst v).post S (λ_ S' =>kW X cl ch o a w m ok S'):=by
 have run:∀v,(Op.stringOp op ⟨p.toArray⟩ ⟨q.toArray⟩).run X.P w= .ok v w->(execOp a.eval o).run X.P w= .ok (.value v) w:=λv h=>by simp[execOp,ho,hx,hy,eqGuard_at_string,binOp,h]
 have fin:∀(v:V) (u:Value),nI ⟨w.heap,ok,m⟩ v u->(Op.stringOp op ⟨p.toArray⟩ ⟨q.toArray⟩).run X.P w= .ok u w->(gu X.E o.dst v).post S (λ_ S' =>kW X cl ch o a w m ok S'):=
  λv u hv h=>bD H R hv (run u h)
 unfold Oi;cases op<;>simp only[]<;>try trivial
 case add=>
  refine gG λr hr=>?_;unfold V9 at hr;split at hr
  .rename_i hle;cases hr;have e:(⟨p.toArray⟩:ByteArray)++⟨q.toArray⟩=⟨(p++q).toArray⟩:=by
    apply ByteArray.ext;apply lu;simp[ByteArray.data_append]
   refine fin _ (.string ⟨(p++q).toArray⟩) rfl ?_;have hs:¬((9223372036854775807:Int)<(p.length:Int)+(q.length:Int)):=o5;simp[Op.stringOp,e,ByteArray.size,hs]
  .cases hr
 case eql=>exact fin _ _ rfl (by simp only[Op.stringOp,ByteArray.toList_mk,seq,au];rw[show(p==q)=decide (p=q) by rw[pK];simp])
 case neq=>exact fin _ _ rfl (by simp only[Op.stringOp,ByteArray.toList_mk,seq,D9,au];rw[show(p==q)=decide (p=q) by rw[pK];simp])
 case lss=>exact fin _ _ rfl (by simp[Op.stringOp,ByteArray.toList_mk,slt])
theorem a6S(H:FxOk X)(R:Rel X cl ch S m ok a w)(ho:o.op= .binOp op t x y yt){p q:Bool}
  (hx:a.eval x= .bool p) (hy:a.eval y= .bool q):(Oi X.E t op y (.b p) (.b q) λv=>gu X.E o.dst v).post S (λ_ S' =>kW X cl ch o a w m ok S'):=by
 unfold Oi;cases hi:fP X.E.tt t with
 |none=>trivial|some i=>
 have ht' :=(H.tt t i hi).td;simp only[];cases hd:i.td<;>try trivial
 rw[hd]at ht';have ht:X.P.underlying t=some .bool:=ht';have he' :∀d,(Op.equalIn (d+1) t (.bool p) (.bool q)).run X.P w= .ok (p==q) w:=λd=>by simp[Op.equalIn,run_underlying ht]
 have he:(Op.equal t (.bool p) (.bool q)).run X.P w= .ok (p==q) w:=he' 9999;have run:∀v,(binOp op t (.bool p) (.bool q)).run X.P w= .ok v w->(execOp a.eval o).run X.P w= .ok (.value v) w:=λv h=>by simp[execOp,ho,hx,hy,eqGuard_at_bool,h]
 have fin:∀(v:V) (u:Value),nI ⟨w.heap,ok,m⟩ v u->(binOp op t (.bool p) (.bool q)).run X.P w= .ok u w->(gu X.E o.dst v).post S (λ_ S' =>kW X cl ch o a w m ok S'):=
  λv u hv h=>bD H R hv (run u h)
 cases op<;>try trivial
 case eql=>exact fin _ _ rfl (by simp[binOp,he,jY])
 case neq=>exact fin _ _ rfl (by simp[binOp,he,jY,D9])
end
end Go.GP
namespace Go.GP
variable {x:Operand}{t:TypeId}{q:Nat}
section
variable {X:Fx} {cl ch:Nat} {S:Sm} {m:Mp} {ok:Nat->Ty->Prop} {a:Act} {w:World} {o:Oper}
theorem lU{α:Type}{Q:α->Sm->Prop}(H:FxOk X){t:Nat}{K:TI->Cmd α}(hK:∀i,TiOk X.P t i->(K i).post S Q):(tiC X.E t K).post S Q:=by
 unfold tiC;cases hi:fP X.E.tt t with
 |none=>trivial|some i=>exact hK i (H.tt t i hi)
theorem b1c{P:Program} :∀{d:TD},b6w P t d->∃e,P.underlying t=some e
 | .bool,h=>⟨_,h⟩| .int _,h=>⟨_,h⟩| .str,h=>⟨_,h⟩| .sl _,h=>⟨_,h⟩| .ptr _,h=>⟨_,h⟩| .struct _,⟨_,h,_⟩=>⟨_,h⟩| .arr _ _,h=>⟨_,h⟩| .map _ _,h=>⟨_,h⟩| .other,⟨_,h,_⟩=>⟨_,h⟩
theorem a2e(H:FxOk X)(R:Rel X cl ch S m ok a w){op:BinOp}{x y:Operand}{yt:TypeId}(ho:o.op= .binOp op t x y yt){ad:Option Addr}{n c:Nat}
  (hx:a.eval x= .slice ad n c) (hy:a.eval y= .slice none 0 0):(b2N X.E t op ad.isNone λv=>gu X.E o.dst v).post S (λ_ S' =>kW X cl ch o a w m ok S'):=by
 unfold b2N;cases hi:fP X.E.tt t with
 |none=>trivial|some i=>
 have ht' :=(H.tt t i hi).td;simp only[];cases hd:i.td<;>try trivial
 rename_i e;rw[hd]at ht';have ht:X.P.underlying t=some (.slice e):=ht';have he' :∀d,(Op.equalIn (d+1) t (.slice ad n c) (.slice none 0 0)).run X.P w= .ok ad.isNone w:=λd=>by cases ad<;>simp[Op.equalIn,run_underlying ht]
 have he:(Op.equal t (.slice ad n c) (.slice none 0 0)).run X.P w= .ok ad.isNone w:=he' 9999;have run:∀v,(binOp op t (.slice ad n c) (.slice none 0 0)).run X.P w= .ok v w->(execOp a.eval o).run X.P w= .ok (.value v) w:=λv h=>by simp[execOp,ho,hx,hy,eqGuard_at_slice,h]
 cases op<;>try trivial
 case eql=>exact bD H R (v:=.b ad.isNone) (x:=.bool ad.isNone) rfl (run _ (by simp[binOp,he]))
 case neq=>exact bD H R (v:=.b (D9 ad.isNone)) (x:=.bool (!ad.isNone)) rfl (run _ (by simp[binOp,he]))
theorem b2Z(H:FxOk X)(R:Rel X cl ch S m ok a w){op:BinOp}{x y:Operand}{yt:TypeId}(ho:o.op= .binOp op t x y yt):
  (dZ X.E q o).post S (λ_ S' =>kW X cl ch o a w m ok S'):=by
 unfold dZ;simp only[ho];refine cu R λu hu=>cu R λv hv=>?_;cases u<;>try (unfold Oi;trivial)
 case b p=>
  cases v<;>try (unfold Oi;trivial)
  exact a6S H R ho (VM hu) (VM hv)
 case i k p=>
  cases v<;>try (unfold Oi;trivial)
  exact b0B H R ho (wL hu) (wL hv)
 case s p=>
  cases v<;>try (unfold Oi;trivial)
  exact b0C H R ho (Pz hu) (Pz hv)
 case nl=>
  cases v<;>try (unfold Oi;trivial)
  exact a2e H R ho (ad:=none) (show a.eval x= .slice none 0 0 from hu) hv
 case ne=>
  cases v<;>try (unfold Oi;trivial)
  obtain⟨ad,c,hx,hb⟩:=hu;subst hb;exact a2e H R ho (ad:=ad) hx hv
 case sl t' xs=>
  cases v<;>try (unfold Oi;trivial)
  unfold Oi;simp only[];cases ht:t'.isEnt
  .simp only[cond_false];obtain⟨ad,c,hx,hle,hx'⟩:=(AZ ht).1 (show rep w.heap ok (.sl t') xs [a.eval x]from hu);cases xs with
   |nil=>exact⟨λ_=>trivial,λh=>by simp[o9,o8]at h⟩|cons z zs=>obtain⟨blk,off,es,rfl,_⟩:=hx' 0 z rfl;exact⟨λ_=>trivial,λ_=>a2e H R ho (ad:=some _) (by simpa using hx) hv⟩
  .trivial
 case agg cs=>
  cases v<;>try (unfold Oi;trivial)
  case agg ds=>
  obtain⟨xs,hx,hl⟩:=hu;obtain⟨ys,hy,hl'⟩:=hv;unfold Oi;simp only[];cases hq:fP X.E.eqs t with
  |none=>trivial|some sh=>
  simp only[];refine dJ λhm=>?_;simp only[D5]at hm;have hE:=(H.eqs t sh hq).1;cases he:BX cs ds with
  |none=>cases op<;>trivial|some e=>
   cases op<;>try trivial
   case eql=>refine bD H R (v:=.b e) (x:=.bool e) rfl ?_;have h:=hE w _ cs ds xs ys e .eql x y hm.1 hm.2 hl hl' he (.inl rfl);simp only[execOp,ho,hx,hy];rw[I4,h];rfl
   case neq=>refine bD H R (v:=.b (D9 e)) (x:=.bool (!e)) rfl ?_;have h:=hE w _ cs ds xs ys e .neq x y hm.1 hm.2 hl hl' he (.inr rfl);simp only[execOp,ho,hx,hy];rw[I4,h];rfl
theorem b7t(H:FxOk X)(R:Rel X cl ch S m ok a w){op:UnOp}(ho:o.op= .unOp op t x):
  (dZ X.E q o).post S (λ_ S' =>kW X cl ch o a w m ok S'):=by
 unfold dZ;simp only[ho];refine cu R λu hu=>?_;cases u<;>cases op<;>try (unfold unC;trivial)
 case b.not p=>exact bD H R (v:=.b (D9 p)) (x:=.bool (!p)) rfl (by simp[execOp,ho,VM hu,Op.unary])
 case i.neg k p=>exact bD H R (v:=.i k (G8 k 0 p)) (x:=.int k (k.wrap (0 -p))) rfl (by simp[execOp,ho,wL hu,Op.unary,Op.intArith])
 case i.xor k p=>exact bD H R (v:=.i k (b2q k (bif k.signed then -1 else k.max) p)) rfl (by simp only[execOp,ho,wL hu,Op.unary,Op.intBits,b2q];cases k.signed<;>simp)
theorem b3p{α:Type}{Q:α->Sm->Prop}(R:Rel X cl ch S m ok a w){u:Ty}{y:V}{vy:Value}{K:List u.den->Cmd α}(hy:nI ⟨w.heap,ok,m⟩ y vy)
  (hK:∀xs,rep w.heap (λ_ _=>True) (.sl u) xs [vy]->(K xs).post S Q):(b0K u y K).post S Q:=by
 unfold b0K;split<;>try trivial
 .have hv:vy= .slice none 0 0:=hy;subst hv;cases ht:u.isEnt
  .exact hK [] (.inl ⟨ht,none,0,rfl,E8 _,λi x hi=>by simp at hi⟩)
  .trivial
 .obtain⟨ad,c,rfl,_⟩:=(show ∃a c,vy=Value.slice a 0 c/\a.isNone=_ from hy);cases ht:u.isEnt
  .exact hK [] (.inl ⟨ht,ad,c,rfl,gX _,λi x hi=>by simp at hi⟩)
  .trivial
 .refine jL λe=>?_;subst e;exact hK _ (iV (λ_ _ _=>trivial) (λ_ _ _=>rfl) (show rep w.heap ok (.sl _) _ [vy]from hy))
 .rename_i bx vw;obtain⟨l,hm,hv⟩:=hy;show Cmd.post (match S (aS+bx)with| .barr t' xs=>_| .bfrz t' xs=>_|_=>_) S Q;have hb:=R.box bx;split<;>try trivial
  .rename_i t' xs hS;rw[hS]at hb;obtain⟨l',hm',ha⟩:=hb;simp only at hm hm';rw[hm]at hm';cases hm';refine jL λe=>?_;subst e;exact hK _ (qF (C:=⟨w.heap,ok,m⟩) ha hv (λ_ _ _=>trivial) (λ_ _=>trivial))
  .rename_i t' xs hS;rw[hS]at hb;obtain⟨l',hm',ha,hok⟩:=hb;simp only at hm hm';rw[hm]at hm';cases hm';refine jL λe=>?_;subst e;exact hK _ (qF (C:=⟨w.heap,ok,m⟩) ha hv (λ_ _ _=>trivial) (λ_ _=>trivial))
theorem a4E(H:FxOk X)(R:Rel X cl ch S m ok a w){src t:TypeId}(ho:o.op= .convert src t x)
  (hB:∀l,a.eval x= .string ⟨l.toArray⟩->X.P.underlying src=some .string->(b1R X.E (O8 q o.dst) t l λv=>gu X.E o.dst v).post S (λ_ S' =>kW X cl ch o a w m ok S')):
  (dZ X.E q o).post S (λ_ S' =>kW X cl ch o a w m ok S'):=by
 unfold dZ;simp only[ho];refine cu R λu hu=>lU H λj hj=>lU H λi hi=>?_;obtain⟨e,he⟩:=b1c hj.td;have hd:=hi.td;split<;>try trivial
 .rename_i k' n k htd;rw[htd]at hd;exact bD H R (v:=.i k (wrap k n)) (x:=.int k (k.wrap n)) rfl (by simp[execOp,ho,wL hu,convert,run_underlying he,run_underlying (show X.P.underlying t=some (.int k)from hd),Conv.intToInt])
 .rename_i l htd;rw[htd]at hd;refine bD H R (v:=.s l) (x:=.string ⟨l.toArray⟩) rfl ?_;simp only[execOp,ho,Pz hu,convert,I4,run_underlying he,run_underlying (show X.P.underlying t=some .string from hd),J5];cases e<;>simp
 .split<;>try trivial
  rename_i l _ _ _ hjd;have hjs:=hj.td;rw[hjd]at hjs;exact hB l (Pz hu) hjs
 .rename_i hns htd;rw[htd]at hd;split<;>try trivial
  rename_i el hjd;have hjs:=hj.td;rw[hjd]at hjs;refine lU H λk hk=>?_;have hkd:=hk.td;split<;>try trivial
  rename_i hke;rw[hke]at hkd;refine b3p R hu λxs hr=>?_;obtain⟨ad,cap,hv,hcap,hcells⟩:=(AZ rfl).1 hr;have hv:=(X4 hv).1;refine bD H R (v:=.s (a5Z xs)) (x:=.string ⟨(a5Z xs).toArray⟩) rfl ?_;have hh:(convert src t (a.eval x)).run X.P w= .ok (.string ⟨(a5Z xs).toArray⟩) w:=by
   rw[hv];cases xs with
   |nil=>
    have:=run_convert_bytes_nil (P:=X.P) w src el hjs hkd 0 cap t hd;cases ad with
    |none=>exact this|some ad=>obtain⟨b,o,s⟩:=ad;rw[run_convert_bytes_string w src t el _ _ cap hjs hkd hd];simp[Conv.bytesToString,a5Z];rfl
   |cons y ys=>
    obtain⟨blk,off,es,rfl,_,_,_⟩:=hcells 0 y rfl;have:=run_convert_bytes_arg (P:=X.P) w src el hjs hkd blk off (y::ys).length cap (y::ys) rfl (λi hi=>?_) t hd
    .exact this
    .obtain⟨blk2,off2,es2,e2,_,hc,hr2⟩:=hcells i _ (fO hi);simp only[H7,jf]at e2;obtain⟨rfl,rfl,_⟩:=e2;obtain⟨c,T,f,hb,hn,rfl⟩:=rF hc;have hr3:((c.toList.drop (off+i*1)).take 1)=[.int .u8 (y::ys)[i]]:=hr2;have h5:=congrArg (λl=>l[0]?) hr3;simp only[eG (show 0<1 by omega),P9,dL,bY,ji,aP]at h5;simp only[World.cell?,hb,h5,Option.isSome_none];simp[List.getD,fO hi]
  simp only[execOp,ho];rw[I4,hh];rfl
theorem a6U(H:FxOk X)(R:Rel X cl ch S m ok a w){n:Nat}(ho:o.op= .extract x n):
  (dZ X.E q o).post S (λ_ S' =>kW X cl ch o a w m ok S'):=by
 unfold dZ;simp only[ho];refine cu R λu hu=>?_;cases u<;>try trivial
 case tup vs=>
 obtain⟨arr,hx,hl⟩:=hu;have key:∀(vs:List V) (us:d4J) (n:Nat) (v:V),a2s ⟨w.heap,ok,m⟩ vs us->vs[n]? =some v->∃u,us[n]? =some u/\nI ⟨w.heap,ok,m⟩ v u:=by
  intro vs;induction vs with
  |nil=>intro us n v _ h;simp at h|cons c cs ih=>
   rintro us n v ⟨u,r,rfl,h1,h2⟩ h;cases n with
   |zero=>simp at h;subst h;refine⟨u,rfl,?_⟩;cases c<;>first|exact h1|exact h1.elim
   |succ n=>simpa using ih r n v h2 (by simpa using h)
 simp only[];split
 .rename_i v hv;obtain⟨u,hu,hr⟩:=key vs arr.toList n v hl hv;refine bD H R hr ?_;have:arr[n]? =some u:=by simpa using hu
  simp[execOp,ho,hx,Instr.extract,this]
 .trivial
theorem b3e(H:FxOk X)(R:Rel X cl ch S m ok a w){x ix:Operand}(ho:o.op= .index t x ix):
  (dZ X.E q o).post S (λ_ S' =>kW X cl ch o a w m ok S'):=by
 unfold dZ;simp only[ho];refine cu R λu hu=>cu R λv hv=>lU H λi hi=>?_;have hd:=hi.td;split<;>try trivial
 rename_i l k n htd;rw[htd]at hd;refine gG λc hc=>?_;unfold sat at hc;split at hc
 .rename_i h0;cases hl:l[n.toNat]? with
  |none=>simp[hl]at hc|some b=>
   simp[hl]at hc;subst hc;refine bD H R (v:=.i .u8 b.toNat) (x:=.int .u8 b.toNat) rfl ?_;have e:(⟨l.toArray⟩:ByteArray)[n.toNat]? =some b:=by
    obtain⟨h1,h2⟩:=aO.1 hl;have hs:n.toNat<(⟨l.toArray⟩:ByteArray).size:=by simpa[ByteArray.size]using h1
    show decidableGetElem? _ _=_;unfold decidableGetElem?;rw[dif_pos hs,←h2];rfl
   simp[execOp,ho,Pz hu,wL hv,Instr.index,asIntOf,run_underlying (show X.P.underlying t=some .string from hd),h0,e]
 .cases hc
theorem a4G(H:FxOk X)(R:Rel X cl ch S m ok a w)(ho:o.op= .nilCheck x):
  (dZ X.E q o).post S (λ_ S' =>kW X cl ch o a w m ok S'):=by
 unfold dZ;simp only[ho];refine cu R λu hu=>?_;cases u<;>try trivial
 case ptr bx f=>obtain⟨b,h1,h2⟩:=hu;exact bD H R (v:=.ptr bx f) ⟨b,h1,h2⟩ (by simp[execOp,ho,h2])
 case ep bx ix f=>obtain⟨_,_,_,_,_,h1,h2,h3⟩:=hu;exact bD H R (v:=.ep bx ix f) ⟨_,_,_,_,_,h1,h2,h3⟩ (by simp[execOp,ho,h3])
 case dp u y f=>obtain⟨_,_,_,h1,h2⟩:=hu;exact bD H R (v:=.dp u y f) ⟨_,_,_,h1,h2⟩ (by simp[execOp,ho,h1])
 case glob g=>exact bD H R (v:=.glob g) hu (by have hu:a.eval x=_:=hu;simp[execOp,ho,hu])
end
end Go.GP
namespace Go.GP
variable {n:Nat}{off:Nat}{blk:Nat}{es:d4J}
theorem Aa{w:World}(e:fH w.heap blk off n=some es){j:Nat}{v:Value}(h:es[j]? =some v):w.cell? ⟨blk,off+j,none⟩=some v:=by
 obtain⟨c,T,f,hb,hn,rfl⟩:=rF e;rw[cell_of_row w blk (off+j) c T f hb];have hj:j<n:=by have:=(aO.1 h).1;simp at this;omega
 rw[aG,if_pos hj,P9]at h;simpa using h
variable {t:TypeId}{P:Program}
theorem GN{d:TD}(h:b6w P t d)(w:World):(isAgg t).run P w= .ok (kw d) w:=by
 unfold isAgg;cases d<;>simp only[b6w]at h
 case struct fs=>obtain⟨fields,hu,_⟩:=h;rw[I4,run_underlying hu];rfl
 case other=>obtain⟨e,hu,hn⟩:=h;rw[I4,run_underlying hu];cases e<;>first|rfl|exact hn.elim
 all_goals (rw[I4,run_underlying h];rfl)
variable {i:TI}
theorem uK(h:TiOk P t i)(w:World):(sizeOf t).run P w= .ok i.size w:=by obtain⟨inf,h1,h2,_⟩:=h.info;simp[sizeOf,typeInfo,h1,h2]
def UT(ag:Bool)(es:d4J):Value:=match ag with|true=> .agg es.toArray|false=>es.headD Go.undef
theorem yN(hi:TiOk P t i)(w:World)(e:fH w.heap blk off i.size=some es):
  (loadVar t ⟨blk,off,none⟩).run P w= .ok (UT (kw i.td) es) w:=by
 have hl:=rE e;unfold loadVar;rw[I4,GN hi.td];simp only[J5];cases ha:kw i.td
 .have h1:=hi.one ha;rw[h1]at hl;obtain⟨v,rfl⟩:∃v,es=[v]:=by
   cases es with
   |nil=>simp at hl
   |cons v r=>cases r with
    |nil=>exact⟨v,rfl⟩|cons _ _=>simp at hl
  have hc:=Aa e (j:=0) (v:=v) rfl;simp only[dL]at hc;simp[hc,UT]
 .have hc:=run_loadCells_list (P:=P) w ⟨blk,off,none⟩ es (λj v h=>by rw[jw];exact Aa e h);rw[hl]at hc;simp[uK hi,hc,UT]
variable {C:Cx}{cs:List V}
theorem Ee{ag:Bool}(h:iJ C cs es)(h1:ag=false->es.length=1):nI C (mkV ag cs) (UT ag es):=by
 refine ZW (us:=es) ?_ h;cases ag
 .have:=h1 rfl;obtain⟨v,rfl⟩:∃v,es=[v]:=by
   cases es with
   |nil=>simp at this
   |cons v r=>cases r with
    |nil=>exact⟨v,rfl⟩|cons _ _=>simp at this
  rfl
 .exact⟨es.toArray,rfl,A7⟩
theorem YG:∀(n:Nat) (cs r:List V),YF n cs=some r->n<=cs.length/\r=cs.drop n
 |0,cs,r,h=>by simp[YF]at h;simp[h]|n+1,[],r,h=>by simp[YF]at h|n+1,c::cs,r,h=>by obtain⟨h1,h2⟩:=YG n cs r (by simpa[YF]using h);exact⟨by simp;omega,by simpa using h2⟩
theorem r_{α:Type}{Q:α->Sm->Prop}{S:Sm} :∀(n:Nat) (cs:List V) {K:List V->Cmd α} (hK:n<=cs.length->(K (cs.take n)).post S Q),(a5y n cs K .fail).post S Q
 |0,cs,K,hK=>by simpa[a5y]using hK (gX _)|n+1,[],K,hK=>trivial
 |n+1,c::cs,K,hK=>by unfold a5y;exact r_ n cs λh=>by simpa using hK aH
variable {α:Type}{Q:α->Sm->Prop}
theorem BL{S:Sm}{K:List V->Cmd α}(hK:off+n<=cs.length->(K ((cs.drop off).take n)).post S Q):(Xw off n cs K .fail).post S Q:=by
 unfold Xw;split
 .rename_i r hr;obtain⟨h1,rfl⟩:=YG _ _ _ hr;refine r_ n _ λh=>hK ?_;simp at h;omega
 .trivial
def dP(off:Nat)(vs cs:List α):List α:=cs.take off++vs++cs.drop (off+vs.length)
theorem Ec{α:Type}{Q:α->Sm->Prop}{S:Sm} :∀(off:Nat) (vs cs:List V) {K:List V->Cmd α} (hK:off+vs.length<=cs.length->(K (dP off vs cs)).post S Q),(Um off vs cs K .fail).post S Q
 |0,[],cs,K,hK=>by have:=hK A7;cases cs<;>simpa[Um,dP]using this|0,v::vs,[],K,hK=>by simp[Um];trivial
 |0,v::vs,c::cs,K,hK=>by unfold Um;exact Ec 0 vs cs λh=>by simpa[dP]using hK (by simp at h ⊢;omega)|n+1,vs,[],K,hK=>by cases vs<;>simp[Um]<;>trivial|n+1,vs,c::cs,K,hK=>by
  have e:Um (n+1) vs (c::cs) K Cmd.fail=Um n vs cs (λr=>K (c::r)) Cmd.fail:=by cases vs<;>rfl
  rw[e];refine Ec n vs cs λh=>?_;have:=hK aH;have e2:n+1+vs.length=(n+vs.length)+1:=o5;simpa[dP,e2]using this
theorem EL{vs cs:List V}{us xs:d4J}(hv:iJ C vs us)(hc:iJ C cs xs):iJ C (dP off vs cs) (dP off us xs):=by unfold dP;rw[←kU hv];exact yJ (yJ (xn off hc) hv) (vT _ hc)
theorem Ef{P:Program}(g o:Nat)(t:TypeId):∀(vs:d4J) (i:Nat) (cur:Array Value) (f:Nat×Nat) (w:World),w.heap[g]? =some (.cells cur t f)->(f=(0,0)\/f=(cur.size,cur.size+1))->o+i+vs.length<=cur.size->(∀v∈vs,v.oneCell' =true)->
  (storeCells ⟨g,o,none⟩ vs i).run P w= .ok () (w.setRow g (cur.toList.take (o+i)++vs++cur.toList.drop (o+i+vs.length)).toArray)
 |[],i,cur,f,w,hg,_,_,_=>by simp only[storeCells,G7,fQ,dL,iT,Array.toArray_toList];rw[setRow_self w g cur t f hg];rfl|v::rest,i,cur,f,w,hg,hf,hl,h1=>by
  have hi:o+i<cur.size:=by simp at hl;omega
  have hadd:(⟨g,o,none⟩:Addr).add i=⟨g,o+i,none⟩:=by unfold Addr.add;split<;>simp_all
  have hcell:w.cell? ⟨g,o+i,none⟩=some cur[o+i]:=by simp[World.cell?,hg,hi]
  have hfro:w.frozen? ⟨g,o+i,none⟩=false:=by rcases hf with rfl|rfl<;>simp[World.frozen?,hg];omega
  have hst:(store ((⟨g,o,none⟩:Addr).add i) v).run P w= .ok () (w.setRow g (cur.setIfInBounds (o+i) v)):=by rw[hadd,run_store P w _ v _ (h1 v A7),hcell];simp[hfro,setCell_eq_setRow w g (o+i) cur t f v hg]
  have ih:=Ef (P:=P) g o t rest (i+1) (cur.setIfInBounds (o+i) v) f (w.setRow g (cur.setIfInBounds (o+i) v)) (setRow_heap w g cur _ t _ hg) (by simpa using hf) (by simp at hl ⊢;omega) (λx hx=>h1 x (by simp[hx]));simp only[storeCells,I4,hst,J5,ih,setRow_setRow];congr 3;have e:=list_seg_step cur.toList (o+i) v rest (by simp at hl ⊢;omega);simpa[nG,ou]using e
theorem Gp(hi:TiOk P t i)(w:World){c:Array Value}{T:TypeId}{f:Nat×Nat}(hb:w.heap[blk]? =some (.cells c T f))(hf:f=(0,0)\/f=(c.size,c.size+1)){v:Value}
  (hs:v.cells.size=i.size) (ho:off+i.size<=c.size) (h1:∀u∈v.cells.toList,u.oneCell' =true):
  (storeVar t ⟨blk,off,none⟩ v).run P w= .ok () (w.setRow blk (dP off v.cells.toList c.toList).toArray):=by
 have h:=Ef (P:=P) blk off T v.cells.toList 0 c f w hb hf aH h1;simp only[dL]at h;unfold storeVar;simp[uK hi,hs,h,dP]
variable {v:V}{l:Loc}{obj:Obj}{q:Nat}{ks:d4K}
section
variable {X:Fx} {cl ch:Nat} {S:Sm} {m:Mp} {ok:Nat->Ty->Prop} {a:Act} {w:World} {o:Oper}
theorem Rel.own_cells(R:Rel X cl ch S m ok a w)(h:S (aS+n)= .bcells cs):∃blk arr T,m n=some (.st blk)/\w.heap[blk]? =some (.cells arr T (0,0))/\iJ ⟨w.heap,ok,m⟩ cs arr.toList:=by have:=R.box n;rw[h]at this;exact this
theorem Rel.own_arr(R:Rel X cl ch S m ok a w){t:Ty}{xs:List t.den}(h:S (aS+n)= .barr t xs):∃l,m n=some l/\arrOk ⟨w.heap,ok,m⟩ t xs l:=by have:=R.box n;rw[h]at this;exact this
theorem Rel.own_frz(R:Rel X cl ch S m ok a w){t:Ty}{xs:List t.den}(h:S (aS+n)= .bfrz t xs):∃l,m n=some l/\arrOk ⟨w.heap,ok,m⟩ t xs l/\(∀blk,blk∈l.blks->ok blk t):=by have:=R.box n;rw[h]at this;exact this
theorem Rel.own_barrs(R:Rel X cl ch S m ok a w){md:M}{xs:List md.den}{hole:Option (Nat×Nat×Option Nat)}(h:S (aS+n)= .barrs md xs hole):md.el=true/\∃l Os,m n=some l/\a8w ⟨w.heap,ok,m⟩ md xs hole Os l/\m.kid n=Os.flatten:=by have:=R.box n;rw[h]at this;exact this
theorem Rel.own_fc(R:Rel X cl ch S m ok a w){t:Ty}{x:t.den}(h:S (aS+n)= .bfc t x):∃blk es,m n=some (.st blk)/\ok blk t/\fH w.heap blk 0 t.size=some es/\rep w.heap ok t x es:=by have:=R.box n;rw[h]at this;exact this
theorem Ce:∀(m:M) (x:m.den) (r:List V),Ny m x r=Ny m x []++r
 | .dat t,x,r=>ng t x r| .pair a b,x,r=>by simp only[Ny];rw[Ce a x.1 (Ny b x.2 r),Ce b x.2 r,Ce a x.1 (Ny b x.2 [])];simp| .unit,_,_=>rfl| .own _,_,_=>rfl| .owns _,_,_=>rfl| .box _,_,_=>rfl| .ownb _,_,_=>rfl| .rp _,_,_=>rfl| .fn _ _,_,_=>rfl| .ifc _ _,_,_=>rfl| .cell _,_,_=>rfl| .fr _,_,_=>rfl| .sbx _ _,_,_=>rfl| .lp _,_,_=>rfl| .dv ..,_,_=>rfl| .sit,_,_=>rfl
theorem LJ:∀(m:M) (x:m.den),(Ny m x []).length=m.size
 | .dat t,x=>pI t x| .pair a b,x=>by simp only[Ny,M.size];rw[Ce a,I9,LJ a x.1,LJ b x.2]| .unit,_=>rfl| .own _,_=>rfl| .owns _,_=>rfl| .box _,_=>rfl| .ownb _,_=>rfl| .rp _,_=>rfl| .fn _ _,_=>rfl| .ifc _ _,_=>rfl| .cell _,_=>rfl| .fr _,_=>rfl| .sbx _ _,_=>rfl| .lp _,_=>rfl| .dv ..,_=>rfl| .sit,_=>rfl
theorem oC{cs:d4J}(h:cs.length=1)(h1:∀v∈cs,v.oneCell' =true):iJ C [.undef] cs:=by
 match cs,h with
 |[v],_=>exact⟨v,[],rfl,trivial,h1 v A7,rfl⟩
theorem SN{C:Cx} :∀{m:M} {ho:Option Nat} {x:m.den} {cs:d4J} {O:d4K},qY C.h C.ok m ho x cs O->iJ C (Ny m x []) cs
 | .dat t,_,_,_,_,h=>tV h.1| .pair a b,_,x,_,_,h=>by obtain⟨c,d,O1,O2,rfl,rfl,h1,h2⟩:=h;simp only[Ny];rw[Ce a];exact yJ (SN h1) (SN h2)
 | .unit,_,_,_,_,h=>by obtain⟨rfl,_⟩:=h;rfl
 | .own _,_,_,_,_,h=>oC (dC h) (qJ h)| .owns _,_,_,_,_,h=>oC (dC h) (qJ h)| .box _,_,_,_,_,h=>oC (dC h) (qJ h)| .ownb _,_,_,_,_,h=>oC (dC h) (qJ h)| .rp _,_,_,_,_,h=>oC (dC h) (qJ h)| .fn _ _,_,_,_,_,h=>oC (dC h) (qJ h)| .ifc _ _,_,_,_,_,h=>oC (dC h) (qJ h)| .cell _,_,_,_,_,h=>oC (dC h) (qJ h)| .fr _,_,_,_,_,h=>oC (dC h) (qJ h)| .sbx _ _,_,_,_,_,h=>oC (dC h) (qJ h)| .lp _,_,_,_,_,h=>oC (dC h) (qJ h)| .dv ..,_,_,_,_,h=>oC (dC h) (qJ h)| .sit,_,_,_,_,h=>oC (dC h) (qJ h)
theorem di{S:Sm}{k:Nat}{c:V->Cmd α}(h:(c (S k)).post S Q):(Cmd.get k c).post S Q:=h
theorem jC{S:Sm}{k:Nat}{c:Cmd α}(h:c.post (upd S k v) Q):(Cmd.set k v c).post S Q:=h
theorem LP(H:FxOk X)(R:Rel X cl ch S m ok a w){t:Nat}{p:V}{x:Value}(hp:nI ⟨w.heap,ok,m⟩ p x){K:V->Cmd α}
  (hK:∀v u ad,nI ⟨w.heap,ok,m⟩ v u->x= .pointer (some ad)->(loadVar t ad).run X.P w= .ok u w->(K v).post S Q):(QZ X.E t p K).post S Q:=by
 unfold QZ;refine lU H λi hi=>?_;cases p<;>try trivial
 case ptr bx off=>
  obtain⟨blk,hm,rfl⟩:=hp;refine di ?_;split<;>try trivial
  .rename_i cs hS;obtain⟨blk',arr,T,hm',hh,hl⟩:=R.own_cells hS;simp only at hm;rw[hm]at hm';cases hm';refine BL λhle=>?_;have hlen:=kU hl;have e:=jM hh off i.size (by simp at hlen;omega);refine hK _ _ _ (Ee (xn _ (vT _ hl)) (λha=>by have:=rE e;rw[hi.one ha]at this;rw[hi.one ha];exact this)) rfl ?_;exact yN hi w e
  .rename_i u y hS;obtain⟨blk',es,hm',hok,he,hr⟩:=R.own_fc hS;simp only at hm;rw[hm]at hm';cases hm';refine BL λhle=>?_;rw[pI]at hle;have e:=Be he off i.size hle;rw[iq]at e;refine hK _ _ _ (Ee (xn _ (vT _ (tV (C:=⟨w.heap,ok,m⟩) hr))) (λha=>by have:=rE e;rw[hi.one ha]at this;rw[hi.one ha];exact this)) rfl ?_;exact yN hi w e
 case ep bx ix off=>
  obtain⟨blk,o',len,cap,sz,hm,hlt,rfl⟩:=hp;refine di ?_;have key:∀{u:Ty} {xs:List u.den},arrOk ⟨w.heap,ok,m⟩ u xs (.arr blk o' len cap sz)->(Cmd.opt (X8 xs ix) λx=>Xw off i.size (flat u x []) (λr=>K (mkV (kw i.td) r)) Cmd.fail).post S Q:=by intro u xs ha;obtain⟨_,rfl,rfl,h3,c,T,f,hh,hz,hs,hx⟩:=ha;refine gG λy hy=>?_;obtain⟨es,he,hr⟩:=hx ix y hy;refine BL λhle=>?_;rw[pI]at hle;have e:=Be he off i.size hle;refine hK _ _ _ (Ee (xn _ (vT _ (tV (C:=⟨w.heap,ok,m⟩) hr))) (λha=>by have:=rE e;rw[hi.one ha]at this;rw[hi.one ha];exact this)) rfl ?_;exact yN hi w e
  split<;>try trivial
  .rename_i u xs hS;obtain⟨l,hm',ha⟩:=R.own_arr hS;simp only at hm;rw[hm]at hm';cases hm';exact key ha
  .rename_i u xs hS;obtain⟨l,hm',ha,_⟩:=R.own_frz hS;simp only at hm;rw[hm]at hm';cases hm';exact key ha
  .rename_i md xs hole hS;obtain⟨_,l,Os,hm',⟨ha,hho⟩,_⟩:=R.own_barrs hS;simp only at hm;rw[hm]at hm';cases hm';obtain⟨rfl,rfl,h3,h7,c,T,hh,hs,hx⟩:=ha;refine gG λy hy=>?_;obtain⟨es,O,hO,he,hr⟩:=hx ix y hy;refine BL λhle=>?_;rw[LJ]at hle;have e:=Be he off i.size hle;refine hK _ _ _ (Ee (xn _ (vT _ (SN (C:=⟨w.heap,ok,m⟩) hr))) (λha=>by have:=rE e;rw[hi.one ha]at this;rw[hi.one ha];exact this)) rfl ?_;exact yN hi w e
 case dp u y off=>obtain⟨blk,o',es,rfl,hb,he,hr⟩:=hp;refine BL λhle=>?_;rw[pI]at hle;have e:=Be he off i.size hle;refine hK _ _ _ (Ee (xn _ (vT _ (tV (C:=⟨w.heap,ok,m⟩) hr))) (λha=>by have:=rE e;rw[hi.one ha]at this;rw[hi.one ha];exact this)) rfl ?_;exact yN hi w e
theorem zJ(h:Array Obj)(o:Obj){b:Nat}(hb:b<h.size):(h.push o)[b]? =h[b]?:=by rw[Array.getElem?_push,if_neg o5]
theorem Rel.new(R:Rel X cl ch S m ok a w)(hn:S (aS+n)= .undef)(hcl:cl<=n)(hch:n<ch)(hv:v≠.undef)
  (hb:Y1 (oG m n l ks) n v=[w.heap.size]) (hB:Gm ⟨(w.alloc obj).heap,ok,oG m n l ks⟩ n v):
  Rel X cl ch (upd S (aS+n) v) (oG m n l ks) ok a (w.alloc obj):=by
 refine R.lay hn hcl hch hv rfl rfl rfl A7 (λb hb' _=>zJ _ _ hb') (by rw[hb];simp) (λb h=>?_) hB;rw[hb]at h;simp only[X5]at h;subst h;refine⟨λt h' =>rW _ (R.okLt _ t h'),A7,.inl R.frame.size,λk h' =>rW _ (R.sep k _ h').2.1⟩
theorem Rel.newK(R:Rel X cl ch S m ok a w){T:d4K}(hT:Tk X S m ok w T)(hn:S (aS+n)= .undef)(hcl:cl<=n)(hch:n<ch)(hv:v≠.undef)
  (hb:Y1 (oG m n l ks) n v=w.heap.size::ks) (hnd:ks.Nodup) (hks:∀b∈ks,b∈T) (hB:Gm ⟨(w.alloc obj).heap,ok,oG m n l ks⟩ n v):
  Rel X cl ch (upd S (aS+n) v) (oG m n l ks) ok a (w.alloc obj):=by
 refine R.lay hn hcl hch hv rfl rfl rfl A7 (λb hb' _=>zJ _ _ hb') (by rw[hb];exact az.2 ⟨λh=>rW _ (hT.free _ (hks _ h)).2.1,hnd⟩) (λb h=>?_) hB;rw[hb]at h;rcases D6.1 h with rfl|h
 .exact⟨λt h' =>rW _ (R.okLt _ t h'),A7,.inl R.frame.size,λk h' =>rW _ (R.sep k _ h').2.1⟩
 .obtain⟨h1,h2,h3,h4⟩:=hT.free b (hks b h);exact⟨h1,by simp;omega,h3,h4⟩
theorem Rel.le_new(R:Rel X cl ch S m ok a w)(hn:S (aS+n)= .undef)(hcl:cl<=n):Cx.le ⟨w.heap,ok,m⟩ ⟨(w.alloc obj).heap,ok,oG m n l ks⟩:=
 ⟨λ_ _ h=>h,λb t hb=>zJ _ _ (R.okLt b t hb),λk x h=>by
  by_cases e:k=n
  .subst e;have:=R.fresh k hcl hn;simp only at h;rw[this]at h;cases h
  .show oG m n l ks k=some x;rw[jV _ _ _ e];exact h⟩
theorem uz(H:FxOk X)(d:Option Tmp)(hd:∀t,d=some t->t<X.E.nt):CB*q<=O8 q d/\O8 q d+64<=CB*q+CB:=by
 have:=H.nt;cases d with
 |none=>simp only[O8];show 1000000*q<=1000000*q+999936/\1000000*q+999936+64<=1000000*q+1000000;omega|some t=>simp only[O8];have h2:LT.lt (α:=Nat) t X.E.nt:=hd t rfl;clear hd;generalize X.E.nt=n at*;revert this h2;generalize (t:Nat)=t';intro this h2;show 1000000*q<=1000000*q+64*t' /\1000000*q+64*t' +64<=1000000*q+1000000;omega
theorem Qs(H:FxOk X)(R:Rel X (CB*q) (CB*q+CB) S m ok a w){vv:V}{x:Value}(hv:v≠.undef)
  (hb:Y1 (oG m (O8 q o.dst) l []) (O8 q o.dst) v=[w.heap.size]) (hB:S (aS+O8 q o.dst)= .undef->CB*q<=O8 q o.dst->Gm ⟨(w.alloc obj).heap,ok,oG m (O8 q o.dst) l []⟩ (O8 q o.dst) v)
  (hx:nI ⟨(w.alloc obj).heap,ok,oG m (O8 q o.dst) l []⟩ vv x) (run:(execOp a.eval o).run X.P w= .ok (.value x) (w.alloc obj)):
  (xQ (O8 q o.dst) v (gu X.E o.dst vv)).post S (λ_ S' =>kW X (CB*q) (CB*q+CB) o a w m ok S'):=by
 refine tK λhn=>?_;cases hd:o.dst with
 |none=>have hin:=uz H (q:=q) none (λt h=>by cases h);rw[hd]at hn hB hb hx;have R' :=R.new hn hin.1 o5 hv hb (hB hn hin.1);have:=yg (o:=o) H R' (m0:=m) (ok0:=ok) (λk l' h=>(R.le_new (obj:=obj) hn hin.1).m k l' h) (λ_ _ h=>h) hx run;rw[hd]at this;exact this
 |some t=>unfold gu;refine dJ λhb' =>?_;have hin:=uz H (q:=q) (some t) (λt' h=>by cases h;exact(Ea hb').1);rw[hd]at hn hB hb hx;have R' :=R.new hn hin.1 o5 hv hb (hB hn hin.1);have:=yg (o:=o) H R' (m0:=m) (ok0:=ok) (λk l' h=>(R.le_new (obj:=obj) hn hin.1).m k l' h) (λ_ _ h=>h) hx run;rw[hd]at this;unfold gu at this;simp only[hb',cond_true]at this;exact this
theorem SL :∀{cs:List V} {vs:d4J},iJ ⟨#[],λ_ _=>False,nom⟩ cs vs->iJ C cs vs:=by intro cs vs h;exact Jk (C:=⟨#[],λ_ _=>False,nom⟩) ⟨λ_ _ h=>h.elim,λ_ _ h=>h.elim,λ_ _ h=>by cases h⟩ h
theorem b2Y(H:FxOk X)(R:Rel X (CB*q) (CB*q+CB) S m ok a w)(ho:o.op= .alloc t):(dZ X.E q o).post S (λ_ S' =>kW X (CB*q) (CB*q+CB) o a w m ok S'):=by
 unfold dZ;simp only[ho];refine lU H λi hi=>dJ λhz=>?_;obtain⟨inf,h1,h2,h3,h4,h5⟩:=hi.info;obtain⟨z,hz1,hz2⟩:=h4 (iI hz);have hex:(execOp a.eval o).run X.P w= .ok (.value (.pointer (some ⟨w.heap.size,0,none⟩))) (w.alloc (.cells z.cells t)):=by simp[execOp,ho,Instr.alloc,zeroValue,typeInfo,h1,hz1,newVar,newRow]
 unfold c3Q;split
 .rename_i hz0;rw[hz0]at hz2;obtain⟨a0,r1,e1,g1,_,v0,r2,rfl,g2,_,g3⟩:=hz2;simp only[iJ]at g3;subst g3;refine Qs (l:=.st w.heap.size) (obj:=.cells z.cells t) H R A7 (by simp[Y1]) (λhn hc=>?_) ⟨w.heap.size,A7,rfl⟩ hex;refine⟨w.heap.size,a0,v0,A7,?_,.inl g1,g2⟩;have:=heap_alloc_new w (.cells z.cells t);rw[show z.cells=#[a0,v0]from Array.toList_inj.1 e1]at this ⊢;exact this
 .refine Qs (l:=.st w.heap.size) (obj:=.cells z.cells t) H R A7 (by simp[Y1]) (λhn hc=>?_) ⟨w.heap.size,A7,rfl⟩ hex;exact⟨w.heap.size,z.cells,t,A7,heap_alloc_new w _,SL hz2⟩
theorem b9N(H:FxOk X)(R:Rel X (CB*q) (CB*q+CB) S m ok a w){x:Operand}(ho:o.op= .box t x):(dZ X.E q o).post S (λ_ S' =>kW X (CB*q) (CB*q+CB) o a w m ok S'):=by
 unfold dZ;simp only[ho];refine cu R λu hu=>vY hu λcs hcs=>?_;refine Qs (l:=.st w.heap.size) (obj:=.cells (a.eval x).cells t) H R A7 (by simp[Y1]) (λhn hc=>?_) ⟨w.heap.size,A7,rfl⟩ ?_
 .exact⟨w.heap.size,(a.eval x).cells,t,A7,heap_alloc_new w _,Jk (R.le_new hn hc) hcs⟩
 .simp[execOp,ho,Instr.box,newVar,newRow]
end
end Go.GP
namespace Go.GP
variable {α:Type}{us:List α}{L:List α}{p:Nat}
theorem uM(h:p+us.length<=L.length)(i:Nat):
  (dP p us L)[i]? =if i<p then L[i]? else if i<p+us.length then us[i -p]? else L[i]?:=by
 unfold dP;rw[G5];by_cases h1:i<p
 .rw[if_pos h1,N8 aH,aG,if_pos h1]
 .rw[if_neg h1,H5 aH];have e:(L.take p).length=p:=by simp;omega
  rw[e];by_cases h2:i<p+us.length
  .rw[if_pos h2,N8 o5]
  .rw[if_neg h2,H5 o5,P9];congr 1;omega
theorem zW(h:p+us.length<=L.length):(dP p us L).length=L.length:=by unfold dP;simp;omega
variable {b:Nat}{n:Nat}
theorem a7V(h:p+us.length<=L.length)(hd:b+n<=p\/p+us.length<=b):((dP p us L).drop b).take n=(L.drop b).take n:=by
 apply ai;intro i;rw[aG,aG];split
 .rw[P9,P9,uM h];rcases hd with hd|hd
  .rw[if_pos o5]
  .rw[if_neg o5,if_neg o5]
 .rfl
variable {off:Nat}
theorem We(h:b+n<=L.length)(ho:off+us.length<=n):((dP (b+off) us L).drop b).take n=dP off us ((L.drop b).take n):=by
 have hl:((L.drop b).take n).length=n:=by simp;omega
 apply ai;intro i;rw[aG,uM (by rw[hl];exact ho)];by_cases hi:i<n
 .rw[if_pos hi,P9,uM o5,aG,if_pos hi,P9];by_cases h1:i<off
  .rw[if_pos o5,if_pos h1]
  .rw[if_neg o5,if_neg h1];by_cases h2:i<off+us.length
   .rw[if_pos o5,if_pos h2];congr 1;omega
   .rw[if_neg o5,if_neg h2]
 .rw[if_neg hi,if_neg o5,if_neg o5,aG,if_neg hi]
variable {blk:Nat}
theorem PO{w:World}{c:Array Value}{T:TypeId}{f:Nat×Nat}(hb:w.heap[blk]? =some (.cells c T f))(L:d4J)(off n:Nat)(h:off+n<=L.length):
  fH (w.setRow blk L.toArray).heap blk off n=some ((L.drop off).take n):=by
 rw[jM (setRow_heap w blk c L.toArray T f hb) off n (by simpa using h)]
theorem b1L{a b:Nat}(h:a<b):Nat.blt a b=true:=by unfold Nat.blt;exact Nat.ble_eq_true_of_le h
theorem b1K{a b:Nat}(h:¬a<b):Nat.blt a b=false:=by
 cases e:Nat.blt a b
 .rfl
 .exact absurd (Lm e) h
theorem yU{α:Type} :∀{Os:List (List α)} {i:Nat} {O1 P O2:List α},Os[i]? =some (O1++P++O2)->Os.flatten.Perm ((Os.set i (O1++O2)).flatten++P)
 |[],i,_,_,_,h=>by simp at h|A::Os,0,O1,P,O2,h=>by simp at h;subst h;simp only[qh,List.flatten_cons,G5];refine rU O1 ?_;have:=(jQ (l₁:=P) (l₂:=O2++Os.flatten));simpa using this|A::Os,i+1,O1,P,O2,h=>by simp at h;simp only[List.set_cons_succ,List.flatten_cons,G5];exact rU A (yU (by simpa using h))
variable {Op:d4K}{idx:Nat}{t:TypeId}{i:Nat}{k:Option Nat}{md:M}{xs:List md.den}{q:Nat}{x:Operand}{bx:Nat}
section
variable {X:Fx} {cl ch:Nat} {S:Sm} {m:Mp} {ok:Nat->Ty->Prop} {a:Act} {w:World} {o:Oper}
theorem b9R{h h' :Array Obj}{ok:Nat->Ty->Prop}{m:Mp}(k:∀b t,ok b t->h'[b]? =h[b]?){cs:List V}{vs:d4J}(hr:iJ ⟨h,ok,m⟩ cs vs):iJ ⟨h',ok,m⟩ cs vs:=
 Jk (C:=⟨h,ok,m⟩) (D:=⟨h',ok,m⟩) ⟨λ_ _ h=>h,k,λ_ _ h=>h⟩ hr
theorem SC{α:Type}{Q:α->Sm->Prop}{S:Sm}{h:Array Obj}{ok:Nat->Ty->Prop} :∀(md:M) (off:Nat) {x:md.den} {es:d4J} {O:d4K} {K:V->Cmd α} (hr:qY h ok md none x es O)
  (hK:∀v l ks u O1 Op O2,O=O1++Op++O2->qY h ok md (some off) x es (O1++O2)->es[off]? =some u->l.view none u->
   (∀mp n,Gm ⟨h,ok,oG mp n l ks⟩ n v/\Y1 (oG mp n l ks) n v=Op/\oG mp n l ks n=some l)->v≠.undef->(K v).post S Q),
  (ZC md off x K .fail).post S Q
 | .own t,off,x,es,O,K,hr,hK=>by unfold ZC;refine dJ λhb=>?_;have:=iI hb;subst this;obtain⟨l,v,rfl,hv,ha,rfl⟩:=yK.1 hr;refine hK _ l [] v [] l.blks [] A7 ⟨v,rfl,nU hv,rfl⟩ rfl hv (λmp n=>⟨⟨l,A7,JV ha⟩,?_,A7⟩) A7;cases l<;>first|(simp[Y1,Loc.blks];done)|cases ha
 | .owns md,off,x,es,O,K,hr,hK=>by unfold ZC;refine dJ λhb=>?_;have:=iI hb;subst this;obtain⟨he,l,v,Os,rfl,hv,ha,rfl⟩:=BI.1 hr;refine hK _ l Os.flatten v [] (l.blks++Os.flatten) [] A7 ⟨v,rfl,nU hv,rfl⟩ rfl hv (λmp n=>⟨⟨he,l,Os,A7,⟨ha,trivial⟩,A7⟩,?_,A7⟩) A7;cases l<;>first|(simp[Y1,Loc.blks];done)|cases ha
 | .pair p q,off,x,es,O,K,hr,hK=>by
  unfold ZC;obtain⟨c,d,O1,O2,rfl,rfl,h1,h2⟩:=hr;have hc:=dC h1;by_cases hlt:off<p.size
  .have hb:Nat.blt off p.size=true:=b1L hlt;simp only[hb,cond_true];refine SC p off h1 λv l ks u A Op B e1 e2 e3 e4 e5 e6=>?_;refine hK v l ks u A Op (B++O2) (by subst e1;simp) ⟨c,d,A++B,O2,rfl,A7,?_,?_⟩ (by rw[N8 (by rw[hc];exact hlt)];exact e3) e4 e5 e6
   .simp only[hlt,if_true];exact e2
   .simp only[hlt,if_true];exact h2
  .have hb:Nat.blt off p.size=false:=b1K hlt;simp only[hb,cond_false];refine SC q (off -p.size) h2 λv l ks u A Op B e1 e2 e3 e4 e5 e6=>?_;refine hK v l ks u (O1++A) Op B (by subst e1;simp) ⟨c,d,O1,A++B,rfl,A7,?_,?_⟩ (by rw[H5 o5,hc];exact e3) e4 e5 e6
   .simp only[hlt,if_false];exact h1
   .simp only[hlt,if_false];exact e2
 | .dat _,_,_,_,_,_,_,_=>trivial| .unit,_,_,_,_,_,_,_=>trivial| .box _,_,_,_,_,_,_,_=>trivial| .ownb _,_,_,_,_,_,_,_=>trivial| .cell _,_,_,_,_,_,_,_=>trivial| .fr _,_,_,_,_,_,_,_=>trivial| .sbx _ _,_,_,_,_,_,_,_=>trivial| .lp _,_,_,_,_,_,_,_=>trivial| .dv ..,_,_,_,_,_,_,_=>trivial| .sit,_,_,_,_,_,_,_=>trivial| .rp _,_,_,_,_,_,_,_=>trivial| .fn _ _,_,_,_,_,_,_,_=>trivial| .ifc _ _,_,_,_,_,_,_,_=>trivial
def XV(h:Array Obj)(ok:Nat->Ty->Prop)(v:V)(u:Value)(Op:d4K):Prop:=
 (v= .nl/\u= .slice none 0 0/\Op=[])\/(∃t ys l,v= .barr t ys/\l.view none u/\arrOk ⟨h,ok,nom⟩ t ys l/\Op=l.blks)\/
 (∃md ys l Os,v= .barrs md ys none/\md.el=true/\l.view none u/\EX h md.size (λ_ x es O=>qY h ok md none x es O) ys Os l/\Op=l.blks++Os.flatten)
theorem XV.one{h:Array Obj}{v:V}{u:Value}(k:XV h ok v u Op):u.oneCell' =true:=by
 rcases k with⟨_,rfl,_⟩|⟨_,_,l,_,hv,_⟩|⟨_,_,l,_,_,_,hv,_⟩
 .rfl
 .exact nU hv
 .exact nU hv
theorem Qo{α:Type}{Q:α->Sm->Prop}{S:Sm}{h:Array Obj}{ok:Nat->Ty->Prop}{v:V}{u:Value}{Op:d4K}(hp:XV h ok v u Op):∀(md:M) (off:Nat) {ho:Option Nat} {x:md.den} {es:d4J} {O:d4K} {K:md.den->Cmd α}
  (hr:qY h ok md ho x es O) (hh:ho=none\/ho=some off) (hel:md.el=true)
  (hK:∀y O1 Old O2,O=O1++Old++O2->qY h ok md none y (es.set off u) (O1++Op++O2)->off<es.length->(K y).post S Q),
  (a1S md off v x K .fail).post S Q
 | .own t,off,ho,x,es,O,K,hr,hh,hel,hK=>by
  unfold a1S;refine dJ λhb=>?_;have:=iI hb;subst this;obtain⟨v0,rfl,_,_⟩:=hr;rcases hp with⟨rfl,rfl,rfl⟩|⟨t',ys,l,rfl,hv,ha,rfl⟩|⟨md',ys,l,Os,rfl,_,hv,ha,rfl⟩
  .have ht:t.isEnt=false:=by simpa[M.el]using hel
   simp only[ht,cond_false];exact hK [] [] O [] A7 ⟨_,rfl,rfl,.nil,rfl,⟨rfl,ht⟩,rfl⟩ A7
  .simp only;refine jL λe=>?_;subst e;exact hK _ [] O [] A7 ⟨u,rfl,nU hv,l,hv,ha,A7⟩ A7
  .trivial
 | .owns md,off,ho,x,es,O,K,hr,hh,hel,hK=>by
  unfold a1S;refine dJ λhb=>?_;have:=iI hb;subst this;obtain⟨v0,rfl,_,_⟩:=hr;rcases hp with⟨rfl,rfl,rfl⟩|⟨t',ys,l,rfl,hv,ha,rfl⟩|⟨md',ys,l,Os,rfl,he,hv,ha,rfl⟩
  .exact hK [] [] O [] A7 ⟨_,rfl,rfl,by simpa[M.el]using hel,.nil,[],rfl,⟨rfl,rfl⟩,rfl⟩ A7
  .trivial
  .simp only;refine Yo λe=>?_;subst e;exact hK _ [] O [] A7 ⟨u,rfl,nU hv,he,l,Os,hv,ha,A7⟩ A7
 | .pair p q,off,ho,x,es,O,K,hr,hh,hel,hK=>by
  unfold a1S;obtain⟨c,d,O1,O2,rfl,rfl,h1,h2⟩:=hr;have hc:=dC h1;have hel' :p.el=true/\q.el=true:=by simpa[M.el]using hel
  by_cases hlt:off<p.size
  .have hb:Nat.blt off p.size=true:=b1L hlt;simp only[hb,cond_true];have h2' :qY h ok q none x.2 d O2:=by
    rcases hh with rfl|rfl
    .exact h2
    .simpa only[hlt,if_true]using h2
   refine Qo hp p off h1 (by rcases hh with rfl|rfl<;>first|exact .inl rfl|(right;simp only[hlt,if_true])) hel'.1 λy A Old B e1 e2 e3=>?_;refine hK _ A Old (B++O2) (by subst e1;simp) ⟨c.set off u,d,A++Op++B,O2,?_,A7,e2,h2'⟩ aH;rw[List.set_append_left _ _ o5]
  .have hb:Nat.blt off p.size=false:=b1K hlt;simp only[hb,cond_false];have h1' :qY h ok p none x.1 c O1:=by
    rcases hh with rfl|rfl
    .exact h1
    .simpa only[hlt,if_false]using h1
   refine Qo hp q (off -p.size) h2 (by rcases hh with rfl|rfl<;>first|exact .inl rfl|(right;simp only[hlt,if_false])) hel'.2 λy A Old B e1 e2 e3=>?_;refine hK _ (O1++A) Old B (by subst e1;simp) ⟨c,d.set (off -p.size) u,O1,A++Op++B,?_,A7,h1',e2⟩ aH;rw[iR _ _ o5,hc]
 | .dat _,_,_,_,_,_,_,_,_,_,_=>trivial| .unit,_,_,_,_,_,_,_,_,_,_=>trivial| .box _,_,_,_,_,_,_,_,_,_,_=>trivial| .ownb _,_,_,_,_,_,_,_,_,_,_=>trivial| .cell _,_,_,_,_,_,_,_,_,_,_=>trivial| .fr _,_,_,_,_,_,_,_,_,_,_=>trivial| .sbx _ _,_,_,_,_,_,_,_,_,_,_=>trivial| .lp _,_,_,_,_,_,_,_,_,_,_=>trivial| .dv ..,_,_,_,_,_,_,_,_,_,_=>trivial| .sit,_,_,_,_,_,_,_,_,_,_=>trivial| .rp _,_,_,_,_,_,_,_,_,_,_=>trivial| .fn _ _,_,_,_,_,_,_,_,_,_,_=>trivial| .ifc _ _,_,_,_,_,_,_,_,_,_,_=>trivial
theorem Ju{α:Type}{Q:α->Sm->Prop}{C:Cx}{ln:Ty->Bool} :∀(t:Ty) {cs:List V} {K:t.den->List V->Cmd α} {S:Sm} {vs:d4J} (hf:t.flat=true) (hL:iJ C cs vs)
  (hK:∀x r us us',vs=us++us' ->(∀h ok,rep h ok t x us)->iJ C r us' ->(K x r).post S Q),(oD ln t cs K).post S Q
 | .bool,cs,K,S,vs,hf,hL,hK=>by
  unfold oD;split
  .obtain⟨v,r,rfl,h1,_,h3⟩:=hL;exact hK _ _ [v] r rfl (λ_ _=>by simp only[xR]at h1;simp[rep,h1]) h3
  .trivial
 | .int k,cs,K,S,vs,hf,hL,hK=>by
  unfold oD;split
  .obtain⟨v,r,rfl,h1,_,h3⟩:=hL;refine ed λe=>?_;have e:=of_decide_eq_true e;subst e;exact hK _ _ [v] r rfl (λ_ _=>by simp only[xR]at h1;simp[rep,h1]) h3
  .trivial
 | .str,cs,K,S,vs,hf,hL,hK=>by
  unfold oD;split
  .obtain⟨v,r,rfl,h1,_,h3⟩:=hL;exact hK _ _ [v] r rfl (λ_ _=>by simp only[xR]at h1;simp[rep,h1]) h3
  .trivial
 | .unit,cs,K,S,vs,hf,hL,hK=>by unfold oD;exact hK _ _ [] vs rfl (λ_ _=>rfl) hL
 | .prod p q,cs,K,S,vs,hf,hL,hK=>by unfold oD;simp[Ty.flat]at hf;refine Ju p hf.1 hL λx r us us' e1 h1 l1=>?_;refine Ju q hf.2 l1 λy r' vs2 vs2' e2 h2 l2=>?_;subst e1;subst e2;exact hK _ _ (us++vs2) vs2' A7 (λh ok=>⟨us,vs2,rfl,h1 h ok,h2 h ok⟩) l2| .sl t,cs,K,S,vs,hf,hL,hK=>by simp[Ty.flat]at hf
theorem a5t{us c d:List α}(h:off+us.length<=c.length):dP off us (c++d)=dP off us c++d:=by
 apply ai;intro i;have hs:=zW h;rw[uM aH];by_cases hi:i<c.length
 .rw[N8 hi,N8 (l₁:=dP off us c) (by rw[hs];exact hi),uM h]
 .rw[H5 o5,H5 (l₁:=dP off us c) (by rw[hs];omega),hs,if_neg o5,if_neg o5]
theorem a2O{us c d:List α}(h:(off -c.length)+us.length<=d.length)(h' :c.length<=off):dP off us (c++d)=c++dP (off -c.length) us d:=by
 apply ai;intro i;rw[uM aH];by_cases hi:i<c.length
 .rw[N8 hi,if_pos o5,N8 hi]
 .rw[H5 o5,H5 (l₂:=dP (off -c.length) us d) o5,uM h];by_cases h1:i<off
  .simp only[h1,if_true,show i -c.length<off -c.length by omega]
  .by_cases h2:i<off+us.length
   .simp only[h1,if_false,h2,if_true,show ¬(i -c.length<off -c.length) by omega,show i -c.length<off -c.length+us.length by omega];congr 1;omega
   .simp only[h1,if_false,h2,show ¬(i -c.length<off -c.length) by omega,show ¬(i -c.length<off -c.length+us.length) by omega]
theorem Vl{α:Type}{Q:α->Sm->Prop}{h:Array Obj}{ok:Nat->Ty->Prop}{m:Mp} :∀(md:M) (off:Nat) {ho:Option Nat} {x:md.den} {es us:d4J} {vs:List V} {O:d4K} {K:md.den->Cmd α} {S:Sm}
  (hr:qY h ok md ho x es O) (hv:iJ ⟨h,ok,m⟩ vs us)
  (hK:∀y,off+us.length<=es.length->qY h ok md ho y (dP off us es) O->(K y).post S Q),(a9U md off vs x K).post S Q
 | .dat t,off,ho,x,es,us,vs,O,K,S,hr,hv,hK=>by
  unfold a9U;refine ed λhf=>Ec _ _ _ λhle=>?_;rw[pI]at hle;obtain⟨hr,rfl⟩:=hr;have hl:=jh hr;have hlv:=kU hv;have hnew:=EL (off:=off) hv (tV (C:=⟨h,ok,m⟩) hr);refine Ju t hf hnew λy q vs1 vs2 e1 h1 l1=>?_;cases q with
  |cons _ _=>trivial|nil=>
  simp only[iJ]at l1;subst l1;simp only[G7]at e1;subst e1;exact hK y o5 ⟨h1 _ _,rfl⟩
 | .pair p q,off,ho,x,es,us,vs,O,K,S,hr,hv,hK=>by
  unfold a9U;obtain⟨c,d,O1,O2,rfl,rfl,h1,h2⟩:=hr;have hc:=dC h1;by_cases hlt:off<p.size
  .have hb:Nat.blt off p.size=true:=b1L hlt;simp only[hb,cond_true];refine Vl p off h1 hv λy hle e2=>?_;exact hK _ aH ⟨_,d,O1,O2,a5t hle,rfl,e2,h2⟩
  .have hb:Nat.blt off p.size=false:=b1K hlt;simp only[hb,cond_false];refine Vl q (off -p.size) h2 hv λy hle e2=>?_;refine hK _ aH ⟨c,_,O1,O2,?_,rfl,h1,e2⟩;rw[a2O o5 o5,hc]
 | .own _,_,_,_,_,_,_,_,_,_,_,_,_=>trivial| .owns _,_,_,_,_,_,_,_,_,_,_,_,_=>trivial| .unit,_,_,_,_,_,_,_,_,_,_,_,_=>trivial| .box _,_,_,_,_,_,_,_,_,_,_,_,_=>trivial| .ownb _,_,_,_,_,_,_,_,_,_,_,_,_=>trivial| .cell _,_,_,_,_,_,_,_,_,_,_,_,_=>trivial| .fr _,_,_,_,_,_,_,_,_,_,_,_,_=>trivial| .sbx _ _,_,_,_,_,_,_,_,_,_,_,_,_=>trivial| .lp _,_,_,_,_,_,_,_,_,_,_,_,_=>trivial| .dv ..,_,_,_,_,_,_,_,_,_,_,_,_=>trivial| .sit,_,_,_,_,_,_,_,_,_,_,_,_=>trivial| .rp _,_,_,_,_,_,_,_,_,_,_,_,_=>trivial| .fn _ _,_,_,_,_,_,_,_,_,_,_,_,_=>trivial| .ifc _ _,_,_,_,_,_,_,_,_,_,_,_,_=>trivial
theorem a0H(i:Nat):N_ none i=none:=rfl
theorem RZ{i o j:Nat}(h:j≠i):N_ (some (i,o,k)) j=none:=by simp[N_,h]
theorem Vy{i o:Nat} :N_ (some (i,o,k)) i=some o:=by simp[N_]
theorem Uz{C:Cx}{hole:Option (Nat×Nat×Option Nat)}{blk off len cap sz:Nat}{Os:List d4K}(he:md.el=true)(hm:C.m n=some (.arr blk off len cap sz))
  (ha:EX C.h md.size (λi x es O=>qY C.h C.ok md (N_ hole i) x es O) xs Os (.arr blk off len cap sz)) (hk:C.m.kid n=Os.flatten) (hh:YV C md.size (.arr blk off len cap sz) hole):Gm C n (.barrs md xs hole):=⟨he,_,Os,hm,⟨ha,hh⟩,hk⟩
theorem OJ{j o2 idx off:Nat}(h:a1N (some (j,o2,k)) idx off=true):j=idx/\o2=off:=by
 simp only[a1N]at h;cases hb:Nat.beq o2 off<;>rw[hb]at h
 .cases h
 .exact⟨iI h,iI hb⟩
theorem b0s(H:FxOk X){S1:Sm}{m1:Mp}{ok1:Nat->Ty->Prop}{w0:World}(R:Rel X (CB*q) (CB*q+CB) S1 m1 ok1 a w)(hT:Tk X S1 m1 ok1 w Op)
  (hm:∀k l,m k=some l->m1 k=some l) (hok:∀b t,ok b t->ok1 b t) {v:V} {l:Loc} {ks:d4K} {x:Value} (hv:v≠.undef)
  (ho:Y1 (oG m1 (O8 q o.dst) l ks) (O8 q o.dst) v=Op) (hB:Gm ⟨w.heap,ok1,oG m1 (O8 q o.dst) l ks⟩ (O8 q o.dst) v)
  (hx:l.view none x) {bx idx off:Nat} {md:M} {xs:List md.den} (hS:S1 (aS+bx)= .barrs md xs (some (idx,off,none))) {blk o' len cap sz:Nat} (hmb:m1 bx=some (.arr blk o' len cap sz))
  (hc:fH w.heap blk (o' +idx*md.size+off) 1=some [x]) (hsz:sz=md.size)
  (run:(execOp a.eval o).run X.P w0= .ok (.value x) w):
  (xQ (O8 q o.dst) v (Cmd.set (aS+bx) (.barrs md xs (some (idx,off,some (O8 q o.dst)))) (gu X.E o.dst (.own (O8 q o.dst) none)))).post S1 (λ_ S' =>kW X (CB*q) (CB*q+CB) o a w0 m ok S'):=by
 refine tK λhn=>?_;have key:∀n,n=O8 q o.dst->CB*q<=n->n<CB*q+CB->∃R2:Rel X (CB*q) (CB*q+CB) (upd (upd S1 (aS+n) v) (aS+bx) (.barrs md xs (some (idx,off,some n)))) (oG m1 n l ks) ok1 a w,∀k l',m k=some l' ->oG m1 n l ks k=some l' :=by
  rintro n rfl h1 h2;obtain⟨R',_,hm'⟩:=R.adopt (T:=[]) hn h1 hv (by simpa using hT) (λb h=>by rw[ho]at h;exact h) (by rw[ho];exact hT.nodup) hB;rw[Nat.max_eq_left o5]at R';have hne:bx≠O8 q o.dst:=λe=>by have:=R.fresh _ h1 hn;rw[←e,hmb]at this;cases this
  have hS' :upd S1 (aS+O8 q o.dst) v (aS+bx)= .barrs md xs (some (idx,off,none)):=by rw[cO _ _ o5];exact hS
  have hb:=R'.box bx;rw[hS']at hb;obtain⟨hel,l0,Os,hm0,⟨ha,_⟩,hk⟩:=hb;have hmb' :=hm' _ _ hmb;simp only at hm0;rw[hmb']at hm0;cases hm0;refine⟨R'.mod (by rw[hS'];rfl) A7 rfl rfl rfl rfl (λ_ _=>rfl) ⟨hel,_,Os,hmb',⟨?_,?_⟩,hk⟩,λk l' h=>hm' k l' (hm k l' h)⟩
  .exact IL (λ_ _=>rfl) (λi x es O _ hr=>hr) ha
  .exact⟨blk,o',len,cap,x,l,by rw[hsz],hc,bi _ _ _ _,hx⟩
 cases hd:o.dst with
 |none=>have hin:=uz H (q:=q) none (λt h=>by cases h);obtain⟨R2,hm2⟩:=key (O8 q none) (by rw[hd]) hin.1 o5;have:=yg (o:=o) H R2 (m0:=m) (ok0:=ok) hm2 hok (v:=.own (O8 q none) none) ⟨l,bi _ _ _ _,hx⟩ run;rw[hd]at this;exact this
 |some t=>unfold gu;refine jC (dJ λhb' =>?_);have hin:=uz H (q:=q) (some t) (λt' h=>by cases h;exact(Ea hb').1);obtain⟨R2,hm2⟩:=key (O8 q (some t)) (by rw[hd]) hin.1 o5;have:=yg (o:=o) H R2 (m0:=m) (ok0:=ok) hm2 hok (v:=.own (O8 q (some t)) none) ⟨l,bi _ _ _ _,hx⟩ run;rw[hd]at this;unfold gu at this;simp only[hb',cond_true]at this;exact this
theorem b7q(H:FxOk X)(R:Rel X (CB*q) (CB*q+CB) S m ok a w)(ho:o.op= .load t x):(dZ X.E q o).post S (λ_ S' =>kW X (CB*q) (CB*q+CB) o a w m ok S'):=by
 unfold dZ;simp only[ho];refine cu R λp hp=>?_;have plain:(QZ X.E t p λv=>gu X.E o.dst v).post S (λ_ S' =>kW X (CB*q) (CB*q+CB) o a w m ok S'):=by refine LP H R hp λv u ad hv hx hr=>bD H R hv ?_;simp[execOp,ho,hx,Instr.loadAt,Instr.sureAddr,hr]
 unfold b8D;split
 .rename_i bx idx off;refine di ?_;split
  .rename_i md xs hS;cases hown:md.ownAt off
   .simpa only[cond_false]using plain
   simp only[cond_true];refine lU H λi hi=>ed λhi1=>?_;simp only[D5,dW]at hi1;obtain⟨hsz,hagg⟩:=hi1;have hsz:=iI hsz;have hp' :=hp;obtain⟨blk,o',len,cap,sz,hm,hlt,hx⟩:=hp;obtain⟨hel,l,Os,hm',⟨ha,hho⟩,hk⟩:=R.own_barrs hS;simp only at hm;rw[hm]at hm';cases hm';cases Ia (match o.dst with|some d=>d|none=>aS) X.E.tk<;>simp only[cond_true,cond_false]
   .refine La (T:=[]) (.sl md.ty) R Tk.nil (cs:=[.own bx none]) (vs:=[.slice (some ⟨blk,o',none⟩) len cap]) ⟨_,_,rfl,⟨_,hm,rfl⟩,rfl,rfl⟩ λS1 ok1 _ _ us us' R1 T1 k1 s1 e1 h1 l1=>?_;refine LP H R1 (XL k1 hp') λv u ad hv hx hr=>yg H R1 (λ_ _ h=>h) k1 hv ?_;simp[execOp,ho,hx,Instr.loadAt,Instr.sureAddr,hr]
   .refine gG λe0 he0=>?_;obtain⟨rfl,rfl,h3,h7,c,T,hh,hs,hxs⟩:=ha;obtain⟨es,O,hO,he,hr⟩:=hxs idx e0 he0;refine SC md off hr λv l2 ks u O1 Op O2 eO hr' hu hv hB hvu=>?_;refine jC ?_;have hOs:Os.flatten.Perm ((Os.set idx (O1++O2)).flatten++Op):=yU (by rw[hO,eO]);have hown0:Y1 m bx (S (aS+bx))=blk::Os.flatten:=by simp[Y1,hS,hm,hk]
    have hown1:Y1 (Gs m bx (Os.set idx (O1++O2)).flatten) bx (.barrs md xs (some (idx,off,none)))=blk::(Os.set idx (O1++O2)).flatten:=by simp[Y1,hm]
    have hnd:=R.nd bx;rw[hown0]at hnd;have hperm:(blk::Os.flatten).Perm ((blk::(Os.set idx (O1++O2)).flatten)++Op):=by simpa using hOs.cons blk
    have hnd' :=L6.1 (hperm.nodup_iff.1 hnd);have hB1:Gm ⟨w.heap,ok,Gs m bx (Os.set idx (O1++O2)).flatten⟩ bx (.barrs md xs (some (idx,off,none))):=by
     refine Uz (Os:=Os.set idx (O1++O2)) hel hm ⟨rfl,rfl,h3,by simp[h7],c,T,hh,hs,λj z hz=>?_⟩ A7 trivial;by_cases hj:j=idx
     .subst hj;rw[show xs[j]? =some e0 from he0]at hz;cases hz;refine⟨es,O1++O2,?_,he,by simp only[Vy];exact hr'⟩;rw[U0,if_pos rfl,if_pos (by rw[h7];exact hlt)]
     .obtain⟨es2,O',hO2,he2,hr2⟩:=hxs j z hz;refine⟨es2,O',?_,he2,by simp only[RZ hj];exact hr2⟩;rw[U0,if_neg (λe=>hj e.symm)];exact hO2
    obtain⟨R1,T1⟩:=R.modK (T:=[]) Tk.nil (n:=bx) (v:=.barrs md xs (some (idx,off,none))) (ks:=(Os.set idx (O1++O2)).flatten) (w' :=w) (T' :=Op) A7 (by rw[hown1];exact hnd'.1)
     (λb hb=> .inl (by rw[hown0];rw[hown1]at hb;exact hperm.mem_iff.2 (aF _ hb))) rfl rfl rfl rfl (λ_ _=>rfl) hB1 hnd'.2.1
     (λb hb=>⟨.inl (by rw[hown0];exact hperm.mem_iff.2 (iQ _ hb)),λh=>hnd'.2.2 b (by rw[hown1]at h;exact h) b hb rfl⟩)
    obtain⟨hB2,hB3,hB4⟩:=hB (Gs m bx (Os.set idx (O1++O2)).flatten) (O8 q o.dst);have hlt2:=(aO.1 hu);have hle:off+1<=md.size:=by have:=dC hr;have:=hlt2.1;omega
    have e:=Be he off i.size o5;have hr2:=yN hi w e;have h1:(es.drop off).take i.size=[u]:=by obtain⟨hlt3,rfl⟩:=hlt2;rw[hsz,gm hlt3];rfl
    refine b0s (ok:=ok) (m:=m) H R1 T1 (λ_ _ h=>h) (λ_ _ h=>h) hvu hB3 hB2 hv (by rw[lV]) hm (by rw[←h1,←hsz];exact e) rfl ?_;rw[h1,hagg]at hr2;simp[execOp,ho,hx,Instr.loadAt,Instr.sureAddr,hr2,UT]
  .rename_i md xs i2 o2 n2 hS;cases hown:md.ownAt off
   .simpa only[cond_false]using plain
   simp only[cond_true];refine lU H λi hi=>ed λhi1=>⟨λhat=>?_,λ_=>trivial⟩;simp only[D5,dW]at hi1;obtain⟨hsz,hagg⟩:=hi1;have hsz:=iI hsz;obtain⟨e1,e2⟩:=OJ hat
   subst e1;subst e2;obtain⟨blk,o',len,cap,sz,hm,hlt,hx⟩:=hp;obtain⟨hel,l,Os,hm',⟨ha,blk',off',len',cap',u,l',hl,hc,hmn,hvw⟩,hk⟩:=R.own_barrs hS;simp only at hm;rw[hm]at hm';cases hm';cases hl;have e:fH w.heap blk (o' +i2*md.size+o2) i.size=some [u]:=by rw[hsz];exact hc
   have hr2:=yN hi w e;rw[hagg]at hr2;refine bD H R (v:=.own n2 none) (x:=u) ⟨l',hmn,hvw⟩ ?_;simp[execOp,ho,hx,Instr.loadAt,Instr.sureAddr,hr2,UT]
  .exact plain
 .exact plain
theorem MS{S' :Sm}{x y:Operand}{w' :World}{m' :Mp}{ok' :Nat->Ty->Prop}(ho:o.op= .store t x y)(hd:o.dst=none)(run:(Instr.storeAt t (a.eval x) (a.eval y)).run X.P w= .ok () w')
  (R:Rel X cl ch S' m' ok' a w') (hm:∀k l,m k=some l->m' k=some l) (hok:∀b t,ok b t->ok' b t):kW X cl ch o a w m ok S' :=by
 intro next Q hn
 unfold Oper.wp;have e:(execOp a.eval o).run X.P w= .ok .skip w' :=by simp[execOp,ho,run]
 rw[e,Oper.upon_skip,hd];exact hn m' ok' a w' R hm hok
theorem a7U{u:α}(h:off<L.length):dP off [u] L=L.set off u:=by
 apply ai;intro i;rw[uM aH,U0];by_cases h1:i=off
 .subst h1;rw[if_neg o5,if_pos A7,if_pos rfl,if_pos h];simp
 .by_cases h2:i<off
  .rw[if_pos h2,if_neg o5]
  .rw[if_neg h2,if_neg aH,if_neg o5]
theorem a9R{u:Value}(h:u.oneCell' =true):u.cells.toList=[u]:=by cases u<;>simp[Value.oneCell',Value.cells]at*
theorem a_{w:World}{blk o' sz len cap off idx:Nat}{c:Array Value}{T:TypeId}{f:Nat×Nat}(hh:w.heap[blk]? =some (.cells c T f))(hs:o' +cap*sz<=c.size)(hlc:len<=cap)(hlt:idx<len){us es:d4J}
  (he:fH w.heap blk (o' +idx*sz) sz=some es) (hf:off+us.length<=sz):
  o' +idx*sz+off+us.length<=c.size/\(dP (o' +idx*sz+off) us c.toList).length=c.size/\
  fH (w.setRow blk (dP (o' +idx*sz+off) us c.toList).toArray).heap blk (o' +idx*sz) sz=some (dP off us es)/\
  (∀j,j<len->j≠idx->fH (w.setRow blk (dP (o' +idx*sz+off) us c.toList).toArray).heap blk (o' +j*sz) sz=fH w.heap blk (o' +j*sz) sz):=by
 have hcap:(idx+1)*sz<=cap*sz:=J3 _ o5;rw[L8,bZ]at hcap;have hfit:o' +idx*sz+off+us.length<=c.size:=o5;have hcl:c.toList.length=c.size:=A7;have hsp:(dP (o' +idx*sz+off) us c.toList).length=c.size:=by rw[zW (by rw[hcl];exact hfit)];exact hcl
 refine⟨hfit,hsp,?_,λj hj hne=>?_⟩
 .rw[PO hh _ _ _ (by rw[hsp];omega),We (by rw[hcl];omega) o5];obtain⟨c2,T2,f2,hb2,hn2,rfl⟩:=rF he;rw[hh]at hb2;cases hb2;rfl
 .have hcap' :(j+1)*sz<=cap*sz:=J3 _ o5;rw[L8,bZ]at hcap';rw[PO hh _ _ _ (by rw[hsp];omega),jM hh _ _ o5,a7V (by rw[hcl];exact hfit)];rcases Nat.lt_or_gt_of_ne hne with hlt'|hgt
  .left;have:(j+1)*sz<=idx*sz:=J3 _ o5;rw[L8,bZ]at this;omega
  .right;have:(idx+1)*sz<=j*sz:=J3 _ o5;rw[L8,bZ]at this;omega
theorem Xg{Q:Unit->Sm->Prop}(R:Rel X cl ch S m ok a w)(hT:Tk X S m ok w Op){i:TI}(hi:TiOk X.P t i)(h1:i.size=1){hole:Option (Nat×Nat×Option Nat)}
  (hS:S (aS+bx)= .barrs md xs hole) {blk o' len cap sz:Nat} (hm:m bx=some (.arr blk o' len cap sz)) {v:V} {u:Value} (hp:XV w.heap ok v u Op)
  (hK:∀S' m' w',Rel X cl ch S' m' ok a w' ->(∀k l,m k=some l->m' k=some l)->(storeVar t ⟨blk,o' +idx*sz+off,none⟩ u).run X.P w= .ok () w' ->Q () S'):
  (a2Q bx idx off md xs hole v (.ret ())).post S Q:=by
 unfold a2Q;refine⟨λhb=>?_,λ_=>trivial⟩;refine gG λe0 he0=>?_;have he0' :xs[idx]? =some e0:=he0;obtain⟨hel,l,Os,hm',⟨ha,hho⟩,hk⟩:=R.own_barrs hS;rw[hm]at hm';cases hm';obtain⟨rfl,rfl,h3,h7,c,T,hh,hs,hxs⟩:=ha;obtain⟨es,O,hO,he,hr⟩:=hxs idx e0 he0';have hho:N_ hole idx=none\/N_ hole idx=some off:=by
  rcases hole with _|⟨j,o2,o3⟩
  .exact .inl rfl
  .obtain⟨e1,e2⟩:=OJ hb;subst e1;subst e2;exact .inr Vy
 have hho' :∀j,j≠idx->N_ hole j=none:=λj hj=>by
  rcases hole with _|⟨j',o2,o3⟩
  .rfl
  .obtain⟨e1,_⟩:=OJ hb;subst e1;exact RZ hj
 refine Qo hp md off hr hho hel λy O1 Old O2 eO hr' hoff=>jC ?_;have hlt:idx<xs.length:=(aO.1 he0').1;have hes:es.length=md.size:=dC hr;have hu1:=hp.one;have huc:=a9R hu1;obtain⟨hfit,hsp,hnew,hold⟩:=a_ (us:=[u]) (off:=off) hh hs h3 hlt he aH;have run:=Gp hi w (off:=o' +idx*md.size+off) hh (.inl rfl) (v:=u) (by have:=congrArg List.length huc;simp at this;omega) (by simpa[h1]using hfit) (by rw[huc];simp[hu1]);rw[huc]at run;generalize hw' :w.setRow blk (dP (o' +idx*md.size+off) [u] c.toList).toArray=w' at run hnew hold;have hrow:w'.heap[blk]? =some (.cells (dP (o' +idx*md.size+off) [u] c.toList).toArray T (0,0)):=by subst hw';exact setRow_heap w blk c _ T (0,0) hh
 have hoth:∀b,b≠blk->w'.heap[b]? =w.heap[b]?:=λb hb=>by subst hw';exact setRow_other w blk b _ hb
 have hsize:w'.heap.size=w.heap.size:=by subst hw';simp
 have hos:w'.os=w.os:=by subst hw';rfl
 have htp:w'.tape=w.tape:=by subst hw';rfl
 have hout:w'.output=w.output:=by subst hw';rfl
 have hO1:Os.flatten.Perm ((Os.set idx (O1++O2)).flatten++Old):=yU (by rw[hO,eO]);have hO2:(Os.set idx (O1++Op++O2)).flatten.Perm ((Os.set idx (O1++O2)).flatten++Op):=by have:=yU (Os:=Os.set idx (O1++Op++O2)) (i:=idx) (O1:=O1) (P:=Op) (O2:=O2) (by rw[U0,if_pos rfl,if_pos (by rw[h7];exact hlt)]);rwa[List.set_set]at this
 have hown0:Y1 m bx (S (aS+bx))=blk::Os.flatten:=by simp[Y1,hS,hm,hk]
 have hown1:Y1 (Gs m bx (Os.set idx (O1++Op++O2)).flatten) bx (.barrs md (aW xs idx y) none)=blk::(Os.set idx (O1++Op++O2)).flatten:=by simp[Y1,hm]
 have hnd:=R.nd bx;rw[hown0]at hnd;have hnd0:=az.1 hnd;have hndA:=L6.1 (hO1.nodup_iff.1 hnd0.2);have hfreeOp:∀b∈Op,b∉blk::Os.flatten:=λb hb h=>(hT.free b hb).2.2.2 bx (by rw[hown0];exact h);have hsubA:∀b∈(Os.set idx (O1++O2)).flatten,b∈Os.flatten:=λb hb=>hO1.mem_iff.2 (aF _ hb);have hneO:∀b∈Os.flatten,b≠blk:=λb hb e=>hnd0.1 (e▸hb);have hneP:∀b∈Op,b≠blk:=λb hb e=>hfreeOp b hb (by simp[e]);have hkeep:∀b t,ok b t->w'.heap[b]? =w.heap[b]?:=λb t hb=>hoth b (λe=>(R.sep bx blk (by rw[hown0];simp)).1 t (e▸hb));have hB:Gm ⟨w'.heap,ok,Gs m bx (Os.set idx (O1++Op++O2)).flatten⟩ bx (.barrs md (aW xs idx y) none):=by
  refine Uz (Os:=Os.set idx (O1++Op++O2)) hel hm ⟨rfl,by simp[aW],h3,by simp[h7,aW],_,T,hrow,by simp[hsp];exact hs,λj z hz=>?_⟩ A7 trivial;unfold aW at hz;rw[U0]at hz;split at hz
  .rename_i hj;subst hj;cases hz;refine⟨_,O1++Op++O2,by rw[U0,if_pos rfl,if_pos (by rw[h7];exact hlt)],hnew,?_⟩;rw[a7U o5];refine kY (λ_ _ h=>h) hkeep (λb hb=>hoth b ?_) hr';rcases E9.1 hb with hb|hb
   .rcases E9.1 hb with hb|hb
    .exact hneO b (fC.2 ⟨O,mM hO,by rw[eO];simp[hb]⟩)
    .exact hneP b hb
   .exact hneO b (fC.2 ⟨O,mM hO,by rw[eO];simp[hb]⟩)
  .rename_i hj;obtain⟨es2,O',hO2',he2,hr2⟩:=hxs j z hz;refine⟨es2,O',by rw[U0,if_neg hj];exact hO2',by rw[←he2];exact hold j (aO.1 hz).1 (λe=>hj e.symm),?_⟩;simp only[a0H];rw[hho' j (λe=>hj e.symm)]at hr2;exact kY (λ_ _ h=>h) hkeep (λb hb=>hoth b (hneO b (fC.2 ⟨O',mM hO2',hb⟩))) hr2
 have hmod:=R.modK hT (n:=bx) (v:=.barrs md (aW xs idx y) none) (ks:=(Os.set idx (O1++Op++O2)).flatten) (w' :=w') (T' :=[]) A7
  (by
   rw[hown1];refine az.2 ⟨λh=>?_,hO2.nodup_iff.2 (L6.2 ⟨hndA.1,hT.nodup,λx hx z hz e=>?_⟩)⟩
   .rcases E9.1 (hO2.mem_iff.1 h)with h|h
    .exact hnd0.1 (hsubA _ h)
    .exact hneP _ h rfl
   .subst e;exact hfreeOp x hz (by simp[hsubA x hx]))
  (λb hb=>by
   rw[hown1]at hb;rw[hown0];rcases D6.1 hb with hb|hb
   .exact .inl (by simp[hb])
   .rcases E9.1 (hO2.mem_iff.1 hb)with h|h
    .exact .inl (by simp[hsubA _ h])
    .exact .inr h)
  hos htp hout hsize (λb hb=>hoth b (λe=>hb (by rw[hown0,e];simp))) hB fJ (λb hb=>by cases hb)
 exact hK _ _ w' hmod.1 (λ_ _ h=>h) run
theorem b4Z{l:List α}{u:α}(h:l[i]? =some u):l.set i u=l:=by
 apply ai;intro j;rw[U0];split
 .rename_i e;subst e;have:=(aO.1 h).1;simp[this,←h]
 .rfl
theorem a6t{Q:α->Sm->Prop}{K:Cmd α}(R:Rel X cl ch S m ok a w){T Op:d4K}(hT:Tk X S m ok w (T++Op)){k0:Option Nat}
  (hS:S (aS+bx)= .barrs md xs (some (idx,off,k0))) {blk o' len cap sz:Nat} (hm:m bx=some (.arr blk o' len cap sz)) {v:V} {u:Value} (hp:XV w.heap ok v u Op)
  (hu:fH w.heap blk (o' +idx*sz+off) 1=some [u])
  (hK:∀S' m',Rel X cl ch S' m' ok a w->Tk X S' m' ok w T->(∀k l,m k=some l->m' k=some l)->K.post S' Q):
  (Cmd.opt (X8 xs idx) λx=>a1S md off v x (λy=>Cmd.set (aS+bx) (.barrs md (aW xs idx y) none) K) .fail).post S Q:=by
 refine gG λe0 he0=>?_;have he0' :xs[idx]? =some e0:=he0;obtain⟨hel,l,Os,hm',⟨ha,hho⟩,hk⟩:=R.own_barrs hS;rw[hm]at hm';cases hm';obtain⟨rfl,rfl,h3,h7,c,T0,hh,hs,hxs⟩:=ha;obtain⟨es,O,hO,he,hr⟩:=hxs idx e0 he0';rw[Vy]at hr;refine Qo hp md off hr (.inr rfl) hel λy O1 Old O2 eO hr' hoff=>jC ?_;have hlt:idx<xs.length:=(aO.1 he0').1;have hes:es.length=md.size:=dC hr;have hnd1:=L6.1 hT.nodup;have hTo:Tk X S m ok w Op:=⟨hnd1.2.1,λb hb=>hT.free b (iQ _ hb)⟩;have heu:es[off]? =some u:=by obtain⟨c2,T2,f2,hb2,hn2,e2⟩:=rF he;obtain⟨c3,T3,f3,hb3,hn3,e3⟩:=rF hu;rw[hh]at hb2 hb3;cases hb2;cases hb3;have h1:=congrArg (λl=>l[0]?) e3;simp only[ji,eG (show 0<1 by omega),P9,dL]at h1;rw[e2,eG o5,P9];exact h1.symm
 rw[b4Z heu]at hr';have hO1:Os.flatten.Perm ((Os.set idx (O1++O2)).flatten++Old):=yU (by rw[hO,eO]);have hO2:(Os.set idx (O1++Op++O2)).flatten.Perm ((Os.set idx (O1++O2)).flatten++Op):=by have:=yU (Os:=Os.set idx (O1++Op++O2)) (i:=idx) (O1:=O1) (P:=Op) (O2:=O2) (by rw[U0,if_pos rfl,if_pos (by rw[h7];exact hlt)]);rwa[List.set_set]at this
 have hown0:Y1 m bx (S (aS+bx))=blk::Os.flatten:=by simp[Y1,hS,hm,hk]
 have hown1:Y1 (Gs m bx (Os.set idx (O1++Op++O2)).flatten) bx (.barrs md (aW xs idx y) none)=blk::(Os.set idx (O1++Op++O2)).flatten:=by simp[Y1,hm]
 have hnd:=R.nd bx;rw[hown0]at hnd;have hnd0:=az.1 hnd;have hndA:=L6.1 (hO1.nodup_iff.1 hnd0.2);have hfreeOp:∀b∈Op,b∉blk::Os.flatten:=λb hb h=>(hTo.free b hb).2.2.2 bx (by rw[hown0];exact h);have hsubA:∀b∈(Os.set idx (O1++O2)).flatten,b∈Os.flatten:=λb hb=>hO1.mem_iff.2 (aF _ hb);have hneP:∀b∈Op,b≠blk:=λb hb e=>hfreeOp b hb (by simp[e]);have hB:Gm ⟨w.heap,ok,Gs m bx (Os.set idx (O1++Op++O2)).flatten⟩ bx (.barrs md (aW xs idx y) none):=by
  refine Uz (Os:=Os.set idx (O1++Op++O2)) hel hm ⟨rfl,by simp[aW],h3,by simp[h7,aW],c,T0,hh,hs,λj z hz=>?_⟩ A7 trivial;unfold aW at hz;rw[U0]at hz;split at hz
  .rename_i hj;subst hj;cases hz;exact⟨es,O1++Op++O2,by rw[U0,if_pos rfl,if_pos (by rw[h7];exact hlt)],he,hr'⟩
  .rename_i hj;obtain⟨es2,O',hO2',he2,hr2⟩:=hxs j z hz;refine⟨es2,O',by rw[U0,if_neg hj];exact hO2',he2,?_⟩;simp only[a0H];rw[RZ (λe=>hj e.symm)]at hr2;exact hr2
 have hmod:=R.modK hT (n:=bx) (v:=.barrs md (aW xs idx y) none) (ks:=(Os.set idx (O1++Op++O2)).flatten) (w' :=w) (T' :=T) A7
  (by
   rw[hown1];refine az.2 ⟨λh=>?_,hO2.nodup_iff.2 (L6.2 ⟨hndA.1,hTo.nodup,λx hx z hz e=>?_⟩)⟩
   .rcases E9.1 (hO2.mem_iff.1 h)with h|h
    .exact hnd0.1 (hsubA _ h)
    .exact hneP _ h rfl
   .subst e;exact hfreeOp x hz (by simp[hsubA x hx]))
  (λb hb=>by
   rw[hown1]at hb;rw[hown0];rcases D6.1 hb with hb|hb
   .exact .inl (by simp[hb])
   .rcases E9.1 (hO2.mem_iff.1 hb)with h|h
    .exact .inl (by simp[hsubA _ h])
    .exact .inr (iQ _ h))
  rfl rfl rfl rfl (λb hb=>rfl) hB hnd1.1 (λb hb=>⟨.inr (aF _ hb),λh=>by
   rw[hown1]at h;have h1:b∉blk::Os.flatten:=λh' =>(hT.free b (aF _ hb)).2.2.2 bx (by rw[hown0];exact h');rcases D6.1 h with h|h
   .exact h1 (by simp[h])
   .rcases E9.1 (hO2.mem_iff.1 h)with h|h
    .exact h1 (by simp[hsubA _ h])
    .exact hnd1.2.2 b hb b h rfl⟩)
 exact hK _ _ hmod.1 hmod.2 (λ_ _ h=>h)
theorem Ws{Q:α->Sm->Prop}{K:Cmd α}(R:Rel X cl ch S m ok a w){T:d4K}(hT:Tk X S m ok w T)
  (hK:∀S' m',Rel X cl ch S' m' ok a w->Tk X S' m' ok w T->(∀k l,m k=some l->m' k=some l)->K.post S' Q):(a1C bx K).post S Q:=by
 unfold a1C;refine di ?_;split
 .rename_i md0 xs0 i0 o0 n hS;refine di ?_;refine ed λharr=>jC (di ?_);split<;>try trivial
  rename_i md xs i o n' hS2;have hne:n≠bx:=λe=>by subst e;rw[lV]at hS2;cases hS2
  have hS3:S (aS+bx)= .barrs md xs (some (i,o,some n')):=by rw[←hS2,cO _ _ o5]
  have hn:n' =n:=by rw[hS]at hS3;injection hS3 with _ _ h3;injection h3 with h3;injection h3 with _ h3;injection h3 with _ h3;injection h3 with h3;exact h3.symm
  subst hn;obtain⟨hel,l,Os,hm',⟨ha,hho⟩,hk⟩:=R.own_barrs hS3;obtain⟨blk,off,len,cap,u,l',rfl,hu,hmn,hvu⟩:=hho;have T1:=Tk.kill R hT n' (bs:=Y1 m n' (S (aS+n'))) (λ_ h=>h) (R.nd n');refine a6t (R.kill n') T1 hS2 hm' (u:=u) ?_ hu hK;cases hb2:S (aS+n')<;>rw[hb2]at harr<;>try cases harr
  .rename_i t2 ys;obtain⟨l2,hm2,ha'⟩:=R.own_arr hb2;have e:l' =l2:=aQ (hmn.symm.trans hm2);subst e;refine .inr (.inl ⟨t2,ys,l',rfl,hvu,JV ha',?_⟩);have hm2:m n' =some l' :=hm2;cases l'<;>first|(simp[Y1,hm2,Loc.blks];done)|cases ha'
  .rename_i md3 ys hole3;obtain⟨hel3,l2,Os3,hm2,⟨ha',hho3⟩,hk'⟩:=R.own_barrs hb2;have e:l' =l2:=aQ (hmn.symm.trans hm2);subst e;rcases hole3 with _|⟨p1,p2,p3⟩
   .refine .inr (.inr ⟨md3,ys,l',Os3,rfl,hel3,hvu,ha',?_⟩);have hm2:m n' =some l' :=hm2;cases l'<;>first|(simp[Y1,hm2,Loc.blks,hk'];done)|cases ha'
   .cases harr
 .exact hK S m R hT (λ_ _ h=>h)
theorem IU{α:Type}{Q:α->Sm->Prop}{K:Cmd α} :∀(cs:List V) {S:Sm} {m:Mp} (R:Rel X cl ch S m ok a w) {T:d4K} (hT:Tk X S m ok w T)
  (hK:∀S' m',Rel X cl ch S' m' ok a w->Tk X S' m' ok w T->(∀k l,m k=some l->m' k=some l)->K.post S' Q),(Vj cs K).post S Q
 |[],S,m,R,T,hT,hK=>hK S m R hT (λ_ _ h=>h)|v::r,S,m,R,T,hT,hK=>by
  unfold Vj;split
  .exact Ws R hT λS1 m1 R1 T1 k1=>IU r R1 T1 λS2 m2 R2 T2 k2=>hK S2 m2 R2 T2 (λk l h=>k2 k l (k1 k l h))
  .exact IU r R hT hK
theorem Bf{α:Type}{Q:α->Sm->Prop}{K:Cmd α} :∀(cs:List V) {S:Sm} {m:Mp} (R:Rel X cl ch S m ok a w) {T:d4K} (hT:Tk X S m ok w T)
  (hK:∀S' m',Rel X cl ch S' m' ok a w->Tk X S' m' ok w T->(∀k l,m k=some l->m' k=some l)->K.post S' Q),(Oq cs K).post S Q
 |[],S,m,R,T,hT,hK=>hK S m R hT (λ_ _ h=>h)|v::r,S,m,R,T,hT,hK=>by
  unfold Oq;split
  .exact Ws R hT λS1 m1 R1 T1 k1=>Bf r R1 T1 λS2 m2 R2 T2 k2=>hK S2 m2 R2 T2 (λk l h=>k2 k l (k1 k l h))
  .refine di ?_;split
   .exact IU _ R hT λS1 m1 R1 T1 k1=>Bf r R1 T1 λS2 m2 R2 T2 k2=>hK S2 m2 R2 T2 (λk l h=>k2 k l (k1 k l h))
   .exact Bf r R hT hK
  .exact IU _ R hT λS1 m1 R1 T1 k1=>Bf r R1 T1 λS2 m2 R2 T2 k2=>hK S2 m2 R2 T2 (λk l h=>k2 k l (k1 k l h))
  .exact Bf r R hT hK
theorem b3h(H:FxOk X)(R:Rel X cl ch S m ok a w){x y:Operand}(ho:o.op= .store t x y):(dZ X.E q o).post S (λ_ S' =>kW X cl ch o a w m ok S'):=by
 unfold dZ;simp only[ho];cases hd:o.dst with
 |some d=>trivial|none=>
 refine cu R λp hp=>cu R λv hv=>?_;unfold b6n;refine lU H λi hi=>?_;cases p<;>try trivial
 case ptr bx off=>
  obtain⟨blk,hm,hx⟩:=hp;refine di ?_;split<;>try trivial
  rename_i cs hS;obtain⟨blk',arr,T,hm',hh,hl⟩:=R.own_cells hS;simp only at hm hm';rw[hm]at hm';cases hm';refine vY hv λvs hvs=>ed λhlen=>Ec _ _ _ λhle=>jC ?_;have hlen' :=iI hlen;have hL:=kU hl;have hL2:=kU hvs;have hsz:(a.eval y).cells.size=i.size:=by simp at hL2;omega
  have hown:Y1 m bx (S (aS+bx))=[blk]:=by simp[Y1,hS,hm]
  have hfit:off+i.size<=arr.size:=by simp at hL;omega
  have run:=Gp hi w hh (.inl rfl) (v:=a.eval y) hsz hfit (UA hvs);refine MS ho hd (w' :=w.setRow blk (dP off (a.eval y).cells.toList arr.toList).toArray) (by simp[Instr.storeAt,Instr.sureAddr,hx,run]) ?_ (λ_ _ h=>h) (λ_ _ h=>h);refine R.mod (by rw[hown];simp[Y1,hm]) A7 rfl rfl rfl A7 (λb hb=>setRow_other w blk b _ (by rw[hown]at hb;simpa using hb)) ?_;refine⟨blk,_,T,hm,setRow_heap w blk arr _ T (0,0) hh,?_⟩;refine b9R (λb t hb=>setRow_other w blk b _ (λe=>(R.sep bx blk (by rw[hown];simp)).1 t (e▸hb))) ?_;simpa using EL hvs hl
 case ep bx ix off=>
  obtain⟨blk,o',len,cap,sz,hm,hlt,hx⟩:=hp;simp only at hm;refine di ?_;split<;>try trivial
  .rename_i u xs hS;obtain⟨l,hm',ha⟩:=R.own_arr hS;rw[hm]at hm';cases hm';obtain⟨hE0,rfl,rfl,h3,c,T,f,hh,hz,hs,hxs⟩:=ha;refine gG λe0 he0=>?_;obtain⟨es,he,hr⟩:=hxs ix e0 he0;refine vY hv λvs hvs=>ed λhlen=>Ec _ _ _ λhle=>?_;rw[pI]at hle;have hlen' :=iI hlen;have hL2:=kU hvs;have hsz:(a.eval y).cells.size=i.size:=by simp at hL2;omega
   have hes:=rE he;have hnew:=EL (off:=off) hvs (tV (C:=⟨w.heap,ok,m⟩) hr);refine La (T:=[]) u R Tk.nil hnew λS1 ok1 y1 q1 us us' R1 T1 k1 s1 e1 h1 l1=>?_;cases q1 with
   |cons _ _=>trivial|nil=>
   simp only[iJ]at l1;subst l1;simp only[G7]at e1;subst e1;refine di ?_;split<;>try trivial
   rename_i u' xs' hS1;refine jL λe=>?_;subst e;refine jC ?_;obtain⟨l,hm',ha⟩:=R1.own_arr hS1;rw[hm]at hm';cases hm';obtain⟨_,hszu,hlen2,h3',c',T',f',hh',hz',hs',hxs'⟩:=ha;rw[hh]at hh';cases hh';have hown:Y1 m bx (S1 (aS+bx))=[blk]:=by simp[Y1,hS1,hm]
   have hvl:(a.eval y).cells.toList.length=i.size:=by simpa using hsz
   obtain⟨hfit,hsp,hnew2,hold⟩:=a_ (us:=(a.eval y).cells.toList) (off:=off) hh hs h3 hlt he (by rw[hvl];omega);have run:=Gp hi w (off:=o' +ix*u'.size+off) hh hz.of (v:=a.eval y) hsz (by rw[hvl]at hfit;exact hfit) (UA hvs);refine MS ho hd (w' :=w.setRow blk (dP (o' +ix*u'.size+off) (a.eval y).cells.toList c.toList).toArray) (by simp[Instr.storeAt,Instr.sureAddr,hx,run]) ?_ (λ_ _ h=>h) k1;refine R1.mod (by rw[hown];simp[Y1,hm]) A7 rfl rfl rfl A7 (λb hb=>setRow_other w blk b _ (by rw[hown]at hb;simpa using hb)) ?_;have hkeep:∀b t,ok1 b t->(w.setRow blk (dP (o' +ix*u'.size+off) (a.eval y).cells.toList c.toList).toArray).heap[b]? =w.heap[b]?:=
    λb t hb=>setRow_other w blk b _ (λe=>(R1.sep bx blk (by rw[hown];simp)).1 t (e▸hb))
   refine⟨_,hm,hE0,rfl,by simp[aW,hlen2],h3,_,T,f,setRow_heap w blk c _ T f hh,by rw[bC,hsp];exact hz,by simp[hsp];exact hs,λj z hz=>?_⟩;unfold aW at hz;rw[U0]at hz;split at hz
   .rename_i hj;subst hj;split at hz
    .cases hz;exact⟨_,hnew2,iV (λ_ _ h=>h) hkeep h1⟩
    .cases hz
   .rename_i hj;obtain⟨es2,he2,hr2⟩:=hxs' j z hz;have hj2:=(aO.1 hz).1;exact⟨_,(hold j (by rw[hlen2];exact hj2) (λe=>hj e.symm)).trans he2,iV (λ_ _ h=>h) hkeep hr2⟩
  .rename_i md xs hole hS;cases hcd:(md.ownAt off&&Nat.beq i.size 1&&!kw i.td)
   .simp only[cond_false];cases hole with
    |some _=>trivial|none=>
    refine vY hv λvs hvs=>ed λhlen=>gG λe0 he0=>?_;have he0' :xs[ix]? =some e0:=he0;obtain⟨hel,l,Os,hm',⟨ha,hho⟩,hk⟩:=R.own_barrs hS;rw[hm]at hm';cases hm';obtain⟨rfl,rfl,h3,h7,c,T,hh,hs,hxs⟩:=ha;obtain⟨es,O,hO,he,hr⟩:=hxs ix e0 he0';refine Vl md off hr hvs λy1 hle hr' =>jC ?_;have hes:es.length=md.size:=dC hr;have hlen' :=iI hlen;have hL2:=kU hvs;have hsz:(a.eval y).cells.size=i.size:=by simp at hL2;omega
    have hvl:(a.eval y).cells.toList.length=i.size:=by simpa using hsz
    obtain⟨hfit,hsp,hnew2,hold⟩:=a_ (us:=(a.eval y).cells.toList) (off:=off) hh hs h3 hlt he o5;have run:=Gp hi w (off:=o' +ix*md.size+off) hh (.inl rfl) (v:=a.eval y) hsz (by rw[hvl]at hfit;exact hfit) (UA hvs);have hown:Y1 m bx (S (aS+bx))=blk::Os.flatten:=by simp[Y1,hS,hm,hk]
    have hnd:=R.nd bx;rw[hown]at hnd;have hnd0:=az.1 hnd;have hneO:∀b∈Os.flatten,b≠blk:=λb hb e=>hnd0.1 (e▸hb);refine MS ho hd (w' :=w.setRow blk (dP (o' +ix*md.size+off) (a.eval y).cells.toList c.toList).toArray) (by simp[Instr.storeAt,Instr.sureAddr,hx,run]) ?_ (λ_ _ h=>h) (λ_ _ h=>h);have hkeep:∀b t,ok b t->(w.setRow blk (dP (o' +ix*md.size+off) (a.eval y).cells.toList c.toList).toArray).heap[b]? =w.heap[b]?:=
     λb t hb=>setRow_other w blk b _ (λe=>(R.sep bx blk (by rw[hown];simp)).1 t (e▸hb))
    refine R.mod (by rw[hown];simp[Y1,hm,hk]) A7 rfl rfl rfl A7 (λb hb=>setRow_other w blk b _ (λe=>hb (by rw[hown,e];simp))) ?_;refine Uz (Os:=Os) hel hm ⟨rfl,by simp[aW],h3,by simp[h7,aW],_,T,setRow_heap w blk c _ T (0,0) hh,by simp[hsp];exact hs,λj z hz=>?_⟩ hk trivial;unfold aW at hz;rw[U0]at hz;split at hz
    .rename_i hj;subst hj;cases hz;exact⟨_,O,hO,hnew2,kY (λ_ _ h=>h) hkeep (λb hb=>setRow_other w blk b _ (hneO b (fC.2 ⟨O,mM hO,hb⟩))) hr'⟩
    .rename_i hj;obtain⟨es2,O2,hO2,he2,hr2⟩:=hxs j z hz;have hj2:=(aO.1 hz).1;exact⟨_,O2,hO2,(hold j o5 (λe=>hj e.symm)).trans he2,kY (λ_ _ h=>h) hkeep (λb hb=>setRow_other w blk b _ (hneO b (fC.2 ⟨O2,mM hO2,hb⟩))) hr2⟩
   .simp only[cond_true];simp only[D5,dW]at hcd;obtain⟨⟨_,hsz1⟩,_⟩:=hcd;have hsz1:=iI hsz1;have fin:∀{S' :Sm} {m' :Mp} {w' :World},Rel X cl ch S' m' ok a w' ->(∀k l,m k=some l->m' k=some l)->(storeVar t ⟨blk,o' +ix*sz+off,none⟩ (a.eval y)).run X.P w= .ok () w' ->kW X cl ch o a w m ok S' :=
     λR' hm' run=>MS ho hd (by simp[Instr.storeAt,Instr.sureAddr,hx,run]) R' hm' (λ_ _ h=>h)
    split
    .have hv' :a.eval y= .slice none 0 0:=hv;exact Xg (Op:=[]) R Tk.nil hi hsz1 hS hm (.inl ⟨rfl,hv',rfl⟩) (λS' m' w' R' h' run=>fin R' h' run)
    .rename_i b2;obtain⟨l2,hm2,hv2⟩:=hv;simp only at hm2;refine di ?_;refine ed λharr=>jC (di ?_);split<;>try trivial
     rename_i md2 xs2 hole2 hS2;have T1:=Tk.kill R (T:=[]) Tk.nil b2 (bs:=Y1 m b2 (S (aS+b2))) (λ_ h=>h) (R.nd b2);rw[J9]at T1;refine Xg (R.kill b2) T1 hi hsz1 hS2 hm ?_ (λS' m' w' R' h' run=>fin R' h' run);cases hb2:S (aS+b2)<;>rw[hb2]at harr<;>try cases harr
     .rename_i t2 ys;obtain⟨l',hm',ha'⟩:=R.own_arr hb2;rw[hm2]at hm';cases hm';refine .inr (.inl ⟨t2,ys,l2,rfl,hv2,JV ha',?_⟩);cases l2<;>first|(simp[Y1,hm2,Loc.blks];done)|cases ha'
     .rename_i md3 ys hole3;obtain⟨hel3,l',Os,hm',⟨ha',hho⟩,hk'⟩:=R.own_barrs hb2;rw[hm2]at hm';cases hm';rcases hole3 with _|⟨p1,p2,p3⟩
      .refine .inr (.inr ⟨md3,ys,l2,Os,rfl,hel3,hv2,ha',?_⟩);cases l2<;>first|(simp[Y1,hm2,Loc.blks,hk'];done)|cases ha'
      .cases harr
    .trivial
end
end Go.GP
