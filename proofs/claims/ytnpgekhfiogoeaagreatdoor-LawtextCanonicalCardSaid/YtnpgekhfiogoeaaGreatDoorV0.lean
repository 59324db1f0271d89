import Derived.ProofKit
import Derived.Below
import Derived.Defers
import Derived.Laws.CopyRow
import Derived.Laws.BytesArg
import Derived.Laws.Cells
import Derived.Laws.Append
import Derived.Laws.Strings
import Derived.Lib.SmallJoins
set_option linter.all false
namespace Go.GP
variable {p:Prop}
theorem o5(h:p:=by omega):p:=h
theorem D5(h:p:=by simp):p:=h
theorem H7(h:p:=by decide):p:=h
theorem G5(h:p:=by simp;omega):p:=h
theorem J6:True:=trivial
def X5:=@List.take_succ_eq_append_getElem
def kN:=@List.drop_append_of_le_length
def Z4:=@List.take_append_of_le_length
def lm:=@Array.getElem?_setIfInBounds
def iY:=@List.dropLast_concat_getLast
def Y3:=@Array.getD_eq_getD_getElem?
def N8:=@Array.getElem?_eq_some_iff
def mD:=@Array.toList_setIfInBounds
def G6:=@List.getElem?_append_right
def jl:=@Array.getElem?_append_left
def mF:=@List.findSome?_eq_none_iff
def mG:=@List.takeWhile_cons_of_pos
def gK:=@List.isPrefixOf_iff_prefix
def J5:=@List.getElem?_append_left
def bY:=@List.drop_eq_getElem_cons
def nz:=@List.extract_eq_take_drop
def O8:=@Array.getElem?_eq_getElem
def ny:=@Classical.byContradiction
def jU:=@List.getElem?_take_of_lt
def fU:=@List.getElem?_cons_zero
def pF:=@List.getElem?_cons_succ
def Z7:=@List.length_eq_zero_iff
def gG:=@Option.map_eq_some_iff
def au:=@List.drop_eq_nil_of_le
def U1:=@List.take_of_length_le
def jc:=@List.takeWhile_sublist
def lH:=@List.mem_append_right
def qE:=@List.Perm.append_left
def jo:=@List.perm_append_comm
def V8:=@Nat.le_of_ble_eq_true
def Y9:=@Array.getElem?_toList
def X6:=@List.take_append_drop
def lI:=@List.set_append_right
def lG:=@Array.getElem?_modify
def aZ:=@List.getElem?_eq_none
def iw:=@List.length_filter_le
def vP:=@List.findSome?_append
def BZ:=@List.length_singleton
def iI:=@List.mem_append_left
def P7:=@List.mem_cons_of_mem
def F5:=@Nat.mul_le_mul_right
def qM:=@List.replicate_succ'
def mM:=@List.mem_of_mem_take
def qN:=@MapKept.run_checkKey
def nP:=@Value.pointer.injEq
def nO:=@List.replicate_succ
def kG:=@List.flatten_append
def aY:=@List.getElem_of_mem
def aI:=@Array.length_toList
def eF:=@List.map_congr_left
def gz:=@Int.toNat_of_nonneg
def gB:=@List.flatMap_append
def E8:=@List.length_append
def U8:=@List.getElem?_drop
def V6:=@List.getElem?_take
def iy:=@List.mem_cons_self
def N9:=@List.mem_singleton
def fD:=@Bool.false_eq_true
def jk:=@Nat.eq_zero_or_pos
def iC:=@List.zip_cons_cons
def iD:=@Nat.lt_of_lt_of_le
def V7:=@List.pairwise_cons
def Y4:=@List.nodup_append
def dh:=@Bool.not_eq_true'
def F7:=@List.append_assoc
def F8:=@Option.some.injEq
def pX:=@Value.slice.injEq
def I5:=@Result.andThen_ok
def gm:=@List.ext_getElem?
def af:=@List.getElem?_set
def aK:=@List.size_toArray
def iL:=@List.getElem?_map
def ae:=@List.flatMap_cons
def pW:=@List.zip_nil_left
def pV:=@Function.comp_def
def iM:=@List.length_range
def E9:=@Int.toNat_natCast
def ul:=@List.any_eq_false
def Fg:=@List.take_add_one
def dJ:=@List.mem_flatten
def A8:=@Bool.and_eq_true
def J9:=@List.cons_append
def D9:=@List.length_cons
def mX:=@Array.toList_map
def mY:=@List.ext_getElem
def mZ:=@List.range'_succ
def aX:=@List.length_take
def bT:=@List.take_length
def aC:=@List.length_drop
def kE:=@Nat.le_add_right
def kC:=@List.all_eq_true
def Y1:=@List.getElem_mem
def ja:=@Option.bind_some
def Y2:=@Option.getD_some
def bQ:=@List.not_mem_nil
def kD:=@List.filter_cons
def zl:=@List.drop_length
def GH:=@Bool.not_eq_true
def uV:=@List.any_eq_true
def uX:=@List.mem_flatMap
def F9:=@List.mem_append
def E5:=@List.append_nil
def dw:=@Nat.le_max_left
def H9:=@List.nil_append
def G8:=@List.cons.injEq
def oC:=@Oper.upon_value
def kV:=@Bool.eq_iff_iff
def O7:=@List.length_nil
def eG:=@List.nodup_cons
def bC:=@Nat.min_eq_left
def ed:=@List.map_append
def aT:=@List.foldl_cons
def P6:=@List.length_map
def dA:=@Option.map_some
def jq:=@List.range_succ
def ou:=@Bool.or_eq_true
def vO:=@Int.le_antisymm
def oz:=@List.mem_filter
def bD:=@Option.some.inj
def Aj:=@List.any_append
def gX:=@List.drop_take
def fF:=@List.take_take
def X0:=@List.drop_drop
def dY:=@List.nodup_nil
def jQ:=@List.drop_zero
def gW:=@List.drop_left
def dX:=@List.mem_range
def gY:=@List.take_left
def C9:=@List.mem_cons
def kP:=@Nat.add_assoc
def dL:=@List.map_cons
def iK:=@Addr.mk.injEq
def U0:=@List.cons.inj
def qF:=@Nat.lt_irrefl
def jr:=@Prod.mk.injEq
def uk:=@Bool.true_and
def qC:=@Bool.not_true
def KF:=@Bool.false_or
def bf:=@Nat.sub_self
def jV:=@List.map_nil
def V9:=@Sem.run_pure
def I4:=@Sem.run_bind
def Z8:=@Nat.add_zero
def iG:=@Addr.add_lit
def dH:=@Nat.zero_add
def az:=@List.mem_map
def oM:=@Nat.lt_or_ge
def P8:=@Nat.le_trans
def A7:=@Nat.le_refl
def J3:=@Nat.add_mul
def aU:=@Nat.zero_le
def dG:=@Nat.mul_one
def ah:=@Nat.one_mul
def sK:=@Int.le_refl
def cZ:=@Nat.blt_eq
def kL:=@Array.ext'
def qQ:=@Int.not_lt
def uJ:=@Int.not_le
def xn:=@Prod.ext
variable {i:Nat}
theorem ai{α:Type _}{l:List α}{a:α} :l[i]? =some a↔∃h:i<l.length,l[i]=a:=List.getElem?_eq_some_iff
theorem mW{α:Type _}{l:List α}(h:i<l.length):l[i]? =some l[i]:=List.getElem?_eq_getElem h
theorem iH{n m:Nat}(h:Nat.beq n m=true):n=m:=Nat.eq_of_beq_eq_true h
theorem wJ{α:Type _}{l:List α}{a:α}(h:l[i]? =some a):a∈l:=List.mem_of_getElem? h
theorem Ob{α:Type _}{l:List α}{a:α} :l.getD i a=l[i]?.getD a:=List.getD_eq_getElem?_getD
universe u
set_option linter.unusedVariables false
inductive Ty where
 |bool|int (k:IntKind)|str|sl (t:Ty)|prod (a b:Ty)|unit|ent (ka va:Bool) (k v:Ty)|any (o:Option IntKind)
def tbb(a b:Bool):Bool:=bif a then b else !b
theorem a0C:∀{a b:Bool},tbb a b=true->a=b:=by decide
theorem Zu:∀(a:Bool),tbb a a=true:=by decide
def Ty.beq:Ty->Ty->Bool
 | .bool,b=>match b with| .bool=>true|_=>false
 | .int k,b=>match b with| .int k' =>decide (k=k')|_=>false
 | .str,b=>match b with| .str=>true|_=>false
 | .sl t,b=>match b with| .sl u=>Ty.beq t u|_=>false
 | .prod p q,b=>match b with| .prod p' q' =>bif Ty.beq p p' then Ty.beq q q' else false|_=>false
 | .unit,b=>match b with| .unit=>true|_=>false
 | .any o,b=>match b with| .any o' =>decide (o=o')|_=>false
 | .ent x y p q,b=>match b with| .ent x' y' p' q' =>bif tbb x x' &&tbb y y' then(bif Ty.beq p p' then Ty.beq q q' else false)else false|_=>false
theorem Ty.beq_eq:∀{a b:Ty},Ty.beq a b=true->a=b
 | .bool,b,h=>by cases b<;>first|rfl|cases h
 | .int k,b,h=>by cases b<;>first|(cases h;done)|(rename_i k';have:=of_decide_eq_true (show decide (k=k')=true from h);subst this;rfl)
 | .str,b,h=>by cases b<;>first|rfl|cases h
 | .sl t,b,h=>by cases b<;>first|(cases h;done)|(rename_i u;have:=Ty.beq_eq (show Ty.beq t u=true from h);subst this;rfl)
 | .prod p q,b,h=>by
  cases b<;>try (cases h;done)
  rename_i p' q';cases hp:Ty.beq p p'
  .have h' :(bif Ty.beq p p' then Ty.beq q q' else false)=true:=h;rw[hp]at h';cases h'
  .have h' :(bif Ty.beq p p' then Ty.beq q q' else false)=true:=h;rw[hp]at h';rw[Ty.beq_eq hp,Ty.beq_eq (show Ty.beq q q' =true from h')]
 | .unit,b,h=>by cases b<;>first|rfl|cases h
 | .any o,b,h=>by cases b<;>first|(cases h;done)|(rename_i o';have:=of_decide_eq_true (show decide (o=o')=true from h);subst this;rfl)
 | .ent x y p q,b,h=>by
  cases b<;>try (cases h;done)
  rename_i x' y' p' q';have h0:(bif tbb x x' &&tbb y y' then(bif Ty.beq p p' then Ty.beq q q' else false)else false)=true:=h;cases hx:tbb x x'<;>cases hy:tbb y y'<;>rw[hx,hy]at h0<;>try (cases h0;done)
  cases hp:Ty.beq p p'<;>rw[hp]at h0
  .cases h0
  .rw[a0C hx,a0C hy,Ty.beq_eq hp,Ty.beq_eq (show Ty.beq q q' =true from h0)]
theorem Ty.beq_refl:∀(a:Ty),Ty.beq a a=true
 | .bool=>rfl| .int k=>by show decide (k=k)=true;simp| .str=>rfl| .sl t=>Ty.beq_refl t| .prod p q=>by show(bif Ty.beq p p then Ty.beq q q else false)=true;rw[Ty.beq_refl p,Ty.beq_refl q];rfl| .unit=>rfl| .any o=>by show decide (o=o)=true;simp| .ent x y p q=>by show(bif tbb x x&&tbb y y then(bif Ty.beq p p then Ty.beq q q else false)else false)=true;rw[Zu,Zu,Ty.beq_refl p,Ty.beq_refl q];rfl
instance:DecidableEq Ty:=λa b=>match h:Ty.beq a b with
 |true=> .isTrue (Ty.beq_eq h)|false=> .isFalse (λe=>by subst e;rw[Ty.beq_refl]at h;cases h)
@[reducible] def Ty.den:Ty->Type
 | .bool=>Bool| .int _=>Int| .str=>List UInt8| .sl t=>List t.den| .prod a b=>a.den×b.den| .unit=>Unit| .any _=>Unit| .ent _ _ a b=>a.den×b.den
def Ty.isEnt:Ty->Bool| .ent ..=>true|_=>false
def Ty.size:Ty->Nat
 | .bool| .int _| .str| .sl _=>1| .prod a b=>a.size+b.size| .unit=>0| .any _=>1| .ent _ _ a b=>a.size+b.size
def Ty.flat:Ty->Bool
 | .bool| .int _| .str| .unit=>true| .sl _=>false| .prod a b=>a.flat&&b.flat
 | .ent ..=>false| .any _=>false
def Ty.zero:(t:Ty)->t.den
 | .bool=>false| .int _=>(0:Int)| .str=>[]| .sl _=>[]| .prod a b=>(a.zero,b.zero)| .unit=>()| .any _=>()| .ent _ _ a b=>(a.zero,b.zero)
inductive M where
 |dat (t:Ty)|own (t:Ty)|pair (a b:M)|unit|box (m:M)
 |owns (el:M)|ownb (t:Ty)|rp (t:Ty)|fn (f:Nat) (ts:List Ty)|ifc (t:Nat) (m:M)|cell (n:Option (Option Bool))|fr (t:Ty)|sbx (tb te:Nat)|sit|lp (t:Ty)|dv (k off sz fo:Nat)
def M.beq:M->M->Bool
 | .dat t,b=>match b with| .dat u=>Ty.beq t u|_=>false
 | .own t,b=>match b with| .own u=>Ty.beq t u|_=>false
 | .pair p q,b=>match b with| .pair p' q' =>bif M.beq p p' then M.beq q q' else false|_=>false
 | .unit,b=>match b with| .unit=>true|_=>false
 | .owns m,b=>match b with| .owns m' =>M.beq m m'|_=>false
 |_,_=>false
theorem M.beq_eq:∀{a b:M},M.beq a b=true->a=b
 | .dat t,b,h=>by cases b<;>first|(cases h;done)|(rename_i u;have:=Ty.beq_eq (show Ty.beq t u=true from h);subst this;rfl)
 | .own t,b,h=>by cases b<;>first|(cases h;done)|(rename_i u;have:=Ty.beq_eq (show Ty.beq t u=true from h);subst this;rfl)
 | .pair p q,b,h=>by
  cases b<;>try (cases h;done)
  rename_i p' q';cases hp:M.beq p p'
  .have h' :(bif M.beq p p' then M.beq q q' else false)=true:=h;rw[hp]at h';cases h'
  .have h' :(bif M.beq p p' then M.beq q q' else false)=true:=h;rw[hp]at h';rw[M.beq_eq hp,M.beq_eq (show M.beq q q' =true from h')]
 | .unit,b,h=>by cases b<;>first|rfl|cases h
 | .owns m,b,h=>by cases b<;>first|(cases h;done)|(rename_i u;have:=M.beq_eq (show M.beq m u=true from h);subst this;rfl)
 | .box _,b,h=>by cases h| .ownb _,b,h=>by cases h| .rp _,b,h=>by cases h| .fn _ _,b,h=>by cases h| .ifc _ _,b,h=>by cases h| .cell _,b,h=>by cases h| .fr _,b,h=>by cases h| .sbx _ _,b,h=>by cases h| .lp _,b,h=>by cases h| .dv ..,b,h=>by cases h| .sit,b,h=>by cases h
@[reducible] def OV:List Ty->Type
 |[]=>Unit|[t]=>t.den|t::t' ::r=>t.den×OV (t' ::r)
@[reducible] def M.den:M->Type
 | .dat t=>t.den| .own t=>List t.den| .pair a b=>a.den×b.den| .unit=>Unit| .box m=>m.den| .owns el=>List el.den| .ownb t=>List t.den| .rp t=>t.den| .fn _ ts=>OV ts| .ifc _ m=>m.den| .cell _=>Unit| .fr t=>List t.den| .sbx _ _=>List UInt8| .sit=>List UInt8×Int| .lp t=>t.den| .dv ..=>Unit
def M.size:M->Nat
 | .dat t=>t.size| .own _=>1| .pair a b=>a.size+b.size| .unit=>0| .box _=>1| .owns _| .ownb _| .rp _| .fn _ _| .ifc _ _| .cell _| .fr _| .sbx _ _| .sit| .lp _| .dv ..=>1
def M.el:M->Bool
 | .unit=>true| .dat t| .own t=> !t.isEnt| .owns m=>m.el| .pair a b=>a.el&&b.el|_=>false
def M.ty:M->Ty
 | .dat t=>t| .own t=> .sl t| .owns m=> .sl m.ty| .pair a b=> .prod a.ty b.ty|_=> .unit
theorem M.denEq:∀(m:M),m.el=true->m.den=m.ty.den
 | .dat _,_=>rfl| .own _,_=>rfl| .unit,_=>rfl| .owns m,h=>congrArg List (M.denEq m h)| .pair a b,h=>by
  have h' :a.el=true/\b.el=true:=by simpa[M.el]using h
  show(a.den×b.den)=(a.ty.den×b.ty.den);rw[M.denEq a h'.1,M.denEq b h'.2]
 | .box _,h=>by simp[M.el]at h| .ownb _,h=>by simp[M.el]at h| .rp _,h=>by simp[M.el]at h| .fn _ _,h=>by simp[M.el]at h| .ifc _ _,h=>by simp[M.el]at h| .cell _,h=>by simp[M.el]at h| .fr _,h=>by simp[M.el]at h| .sbx _ _,h=>by simp[M.el]at h| .lp _,h=>by simp[M.el]at h| .dv ..,h=>by simp[M.el]at h| .sit,h=>by simp[M.el]at h
def M.zero:(m:M)->m.el=true->m.den
 |m,h=>cast (M.denEq m h).symm m.ty.zero
abbrev MG:=Bool×M
@[reducible] def aP:List MG->Type
 |[]=>Unit|[m]=>m.2.den|m::m' ::r=>m.2.den×aP (m' ::r)
inductive V where
 |undef
 |un
 |b (x:Bool)|i (k:IntKind) (n:Int)|s (l:List UInt8)
 |nl
 |sl (t:Ty) (xs:List t.den)
 |own (bx:Nat) (vw:Option (Nat×Nat))
 |ptr (bx off:Nat)
 |ep (bx idx off:Nat)
 |dp (t:Ty) (x:t.den) (off:Nat)
 |agg (cs:List V)|tup (cs:List V)
 |glob (g:Nat)|fnv (f:Nat)|idl (f n:Nat)|clos (f:Nat) (caps:List ((t:Ty)×t.den))|ifc (t:Nat) (v:V)
 |bcells (cs:List V)|barr (t:Ty) (xs:List t.den)|bfrz (t:Ty) (xs:List t.den)|biter (l:List UInt8) (pos:Int)
 |barrs (el:M) (xs:List el.den) (hole:Option (Nat×Nat×Option Nat))|bfc (t:Ty) (x:t.den)
 |dead|gone (t:Ty)|blen (n:Int) (sz:Nat)
 |ne (b:Bool)
 |npt|bsb (tb:Nat) (c:V)|brow (te:Nat) (xs:List UInt8)
variable {α:Type}{β:Type}
def l9(o:Option α)(f:α->Option β):Option β:=match o with|some x=>f x|none=>none
def l7(b:Bool)(x y:α):α:=match b with|true=>x|false=>y
def J4(a b:Int):Bool:=decide (a<b)
def U6(a b:Int):Bool:=decide (a<=b)
def D6(a b:Int):Bool:=decide (a=b)
def QS(a b:Bool):Bool:=a==b
def G7(a:Bool):Bool:=!a
def kZ(a b:Bool):Bool:=a&&b
def seq(a b:List UInt8):Bool:=decide (a=b)
def slt(a b:List UInt8):Bool:=Op.bytesLess a b
def wrap(k:IntKind)(n:Int):Int:=k.wrap n
def G9(k:IntKind)(a b:Int):Int:=k.wrap (a+b)
def L6(k:IntKind)(a b:Int):Int:=k.wrap (a -b)
def KD(k:IntKind)(a b:Int):Int:=k.wrap (a*b)
def gV(k:IntKind)(a b:Int):Int:=k.wrap (a.tdiv b)
def mQ(a b:Int):Int:=a.tmod b
def a9S(k:IntKind)(a b:Int):Option Int:=if b=0 then none else some (k.wrap (a.tdiv b))
def a9T(a b:Int):Option Int:=if b=0 then none else some (a.tmod b)
def b3E(k:IntKind)(a b:Int):Int:=k.wrap (BitVec.ofInt k.bits a&&& BitVec.ofInt k.bits b).toNat
def ior(k:IntKind)(a b:Int):Int:=k.wrap (BitVec.ofInt k.bits a ||| BitVec.ofInt k.bits b).toNat
def a4H(k:IntKind)(a b:Int):Int:=k.wrap (BitVec.ofInt k.bits a^^^BitVec.ofInt k.bits b).toNat
def a1j(k:IntKind)(a b:Int):Int:=k.wrap (BitVec.ofInt k.bits a&&& ~~~(BitVec.ofInt k.bits b)).toNat
def a8m(k:IntKind)(a b:Int):Int:=k.wrap (a*2^(min b.toNat k.bits))
def a8n(k:IntKind)(a b:Int):Int:=a.fdiv (2^(min b.toNat k.bits))
def a9U(k:IntKind)(a b:Int):Option Int:=if b<0 then none else some (a8m k a b)
def a9V(k:IntKind)(a b:Int):Option Int:=if b<0 then none else some (a8n k a b)
def zk(a b:Int):Int:=if b<a then b else a
def zi(a b:Int):Int:=if a<b then b else a
def x8(l:List α):Int:=l.length
def U5(a b:List UInt8):Option (List UInt8):=if a.length+b.length<=4611686018427387904 then some (a++b)else none
def Fv(a b:Nat):Bool:=Nat.beq a b
def inb(i n:Int):Bool:=decide (0<=i/\i<n)
def O0(l:List α)(i:Int):Option α:=if 0<=i then l[i.toNat]? else none
def ng(l:List UInt8)(p:Int):Int:=((Utf8.decode ⟨l.toArray⟩ p.toNat).1:Int)
def wB(l:List UInt8)(p:Int):Int:=p+((Utf8.decode ⟨l.toArray⟩ p.toNat).2:Int)
def sat(l:List UInt8)(i:Int):Option Int:=if 0<=i then(l[i.toNat]?).map (λc=>(c.toNat:Int))else none
def eQ(l:List α)(i:Nat):Option α:=l[i]?
def rM(l:List α)(i:Nat)(x:α):List α:=l.set i x
def fO(l:List α)(lo hi:Int):Option (List α):=if 0<=lo/\lo<=hi/\hi<=l.length then some ((l.take hi.toNat).drop lo.toNat)else none
def jY(l:List α)(lo hi:Nat):List α:=(l.take hi).drop lo
def lT(lo hi n:Int):Bool:=decide (0<=lo/\lo<=hi/\hi<=n)
def LU(xs ys:List α):List α:=ys.take xs.length++xs.drop ys.length
def dB(xs ys:List α):Option (List α):=if xs.length+ys.length<=1073741824 then some (xs++ys)else none
def Jy(n:Int)(x:α):Option (List α):=if 0<=n/\n<=1073741824 then some (List.replicate n.toNat x)else none
def bH(i:Int):Nat:=i.toNat
def a9D(n:Int):UInt8:=UInt8.ofNat n.toNat
def XG(l:List Int):List UInt8:=l.map a9D
def Uy(l:List UInt8):List Int:=l.map λc=>(c.toNat:Int)
def a1w{α β:Type}(eq:α->α->Bool):List (α×β)->α->β->β
 |[],_,z=>z|p::r,k,z=>bif eq k p.1 then p.2 else a1w eq r k z
def a1x{α β:Type}(eq:α->α->Bool):List (α×β)->α->Bool
 |[],_=>false|p::r,k=>bif eq k p.1 then true else a1x eq r k
def a1B{α β:Type}(eq:α->α->Bool):List (α×β)->α->β->List (α×β)
 |[],k,x=>[(k,x)]|p::r,k,x=>bif eq k p.1 then(k,x)::r else p::a1B eq r k x
def a8w(eq:α->α->Bool)(l:List (α×β))(k:α)(z:β):β:=a1w eq l k z
def a8x(eq:α->α->Bool)(l:List (α×β))(k:α):Bool:=a1x eq l k
def a2V(eq:α->α->Bool)(l:List (α×β))(k:α)(x:β):List (α×β):=a1B eq l k x
def keq:(t:Ty)->t.den->t.den->Bool
 | .bool=>λa b=>QS a b
 | .int _=>λa b=>D6 a b
 | .str=>λa b=>seq a b
 | .prod p q=>λa b=>kZ (keq p a.1 b.1) (keq q a.2 b.2)
 |_=>λ_ _=>true
def a8d{α:Type}(eq:α->α->Bool):List α->List α->Bool
 |[],[]=>true|a::r,b::q=>eq a b&&a8d eq r q|_,_=>false
def Rw:(t:Ty)->t.den->t.den->Bool
 | .bool=>λa b=>tbb a b
 | .int _=>λa b=>decide (a=b)
 | .str=>λa b=>decide (a=b)
 | .sl t=>λa b=>a8d (Rw t) a b
 | .prod p q=>λa b=>Rw p a.1 b.1&&Rw q a.2 b.2
 | .unit=>λ_ _=>true
 | .any _=>λ_ _=>true
 | .ent _ _ p q=>λa b=>Rw p a.1 b.1&&Rw q a.2 b.2
def deq(t:Ty)(a b:t.den):Bool:=Rw t a b
inductive Out (σ ε ρ:Type) where
 |nx (s:σ)|ex (e:ε)|rt (r:ρ)
variable {σ:Type}{ε:Type}
def aj(o:σ⊕ε)(f:σ->α)(g:ε->α):α:=match o with| .inl s=>f s| .inr e=>g e
def iT{σ ε ρ:Type}(f:σ->Option (Out σ ε ρ)):Nat->σ->Option (ε⊕ρ)
 |0,_=>none
 |n+1,s=>match f s with
  |some (.nx s')=>iT f n s'|some (.ex e)=>some (.inl e)|some (.rt r)=>some (.inr r)|none=>none
def xN{σ ε:Type}(f:σ->Option (σ⊕ε)):Nat->σ->Option ε
 |0,_=>none
 |n+1,s=>match f s with
  |some (.inl s')=>xN f n s'|some (.inr e)=>some e|none=>none
def fQ:Nat:=18446744073709551616
variable {ρ:Type}
def S9(f:σ->Option (Out σ ε ρ))(s:σ):Option (ε⊕ρ):=iT f fQ s
def dD(f:σ->Option (σ⊕ε))(s:σ):Option ε:=xN f fQ s
inductive Cmd (α:Type):Type 1 where
 |ret (x:α)
 |fail
 |get (k:Nat) (c:V->Cmd α)
 |set (k:Nat) (v:V) (c:Cmd α)
 |opt {β:Type} (o:Option β) (c:β->Cmd α)
 |br (b:Bool) (c d:Cmd α)
inductive Ent where
 |kv (k:Nat) (v:V)|mask (lo hi:Nat)
abbrev St:=List Ent
def fC:St->Nat->V
 |[],_=> .undef| .kv k v::r,n=>bif Nat.beq k n then v else fC r n| .mask lo hi::r,n=>bif Nat.ble lo n&&Nat.blt n hi then .undef else fC r n
abbrev Tr:=List Nat×List Nat
variable {R:Type}
def V.force(v:V)(K:V->R):R:=
 match v with
 | .undef=>K .undef| .un=>K .un| .b x=>K (.b x)
 | .i k n=>match k with
  | .i8=>K (.i .i8 n)| .i16=>K (.i .i16 n)| .i32=>K (.i .i32 n)| .i64=>K (.i .i64 n)| .u8=>K (.i .u8 n)| .u16=>K (.i .u16 n)| .u32=>K (.i .u32 n)| .u64=>K (.i .u64 n)
 | .s l=>K (.s l)| .nl=>K .nl| .ne z=>K (.ne z)| .sl t xs=>K (.sl t xs)
 | .own bx vw=>match vw with|none=>K (.own bx none)|some p=>K (.own bx (some p))
 | .ptr bx off=>K (.ptr bx off)| .ep bx idx off=>K (.ep bx idx off)| .dp t x off=>K (.dp t x off)| .agg cs=>K (.agg cs)| .tup cs=>K (.tup cs)| .glob g=>K (.glob g)| .fnv f=>K (.fnv f)| .idl f n=>K (.idl f n)| .clos f bs=>K (.clos f bs)
 | .ifc t v=>v.force λv=>K (.ifc t v)
 | .barrs t xs h=>match h with|none=>K (.barrs t xs none)|some (p1,p2,p3)=>match p3 with|none=>K (.barrs t xs (some (p1,p2,none)))|some p3=>K (.barrs t xs (some (p1,p2,some p3)))
 | .bfc t x=>K (.bfc t x)| .bcells cs=>K (.bcells cs)| .barr t xs=>K (.barr t xs)| .bfrz t xs=>K (.bfrz t xs)| .biter l p=>K (.biter l p)| .dead=>K .dead| .gone t=>K (.gone t)| .blen n sz=>K (.blen n sz)| .npt=>K .npt
 | .bsb tb c=>c.force λc=>K (.bsb tb c)| .brow te xs=>K (.brow te xs)
def Oa{R:Type} :List V->(List V->R)->R
 |[],K=>K []
 |v::r,K=>v.force λv' =>Oa r λr' =>K (v' ::r')
def V.force2(v:V)(K:V->R):R:=
 v.force λv=>match v with
  | .agg cs=>Oa cs λcs=>K (.agg cs)
  | .bcells cs=>Oa cs λcs=>K (.bcells cs)
  | .tup cs=>Oa cs λcs=>K (.tup cs)|v=>K v
def Cmd.runK :Cmd α->St->Tr->(α->St->Tr->Option R)->Option R
 | .ret x,s,t,K=>K x s t| .fail,_,_,_=>none
 | .get k c,s,t,K=>(fC s k).force λv=>(c v).runK s (k::t.1,t.2) K
 | .set k v c,s,t,K=>v.force2 λv=>c.runK (.kv k v::s) (t.1,k::t.2) K
 | .opt o c,s,t,K=>l9 o λx=>(c x).runK s t K| .br b c d,s,t,K=>l7 b (c.runK s t K) (d.runK s t K)
def Cmd.bind :Cmd α->(α->Cmd β)->Cmd β
 | .ret x,f=>f x| .fail,_=> .fail
 | .get k c,f=> .get k λv=>(c v).bind f| .set k v c,f=> .set k v (c.bind f)
 | .opt o c,f=> .opt o λx=>(c x).bind f| .br b c d,f=> .br b (c.bind f) (d.bind f)
inductive TD where
 |bool|int (k:IntKind)|str
 |sl (elem:Nat)|ptr (elem:Nat)
 |struct (fs:List (Nat×Nat))
 |arr (n elem:Nat)
 |map (key elem:Nat)
 |other
structure TI where
 size:Nat
 bytes:Nat
 td:TD
 ty:Option Ty
 zero:List V
def dO{α:Type} :List (Nat×α)->Nat->Option α
 |[],_=>none|(k,v)::r,n=>bif Nat.beq k n then some v else dO r n
structure FSpec where
 ps:List MG
 rs:List MG
 outs:List MG
 fn:aP ps->Option (aP (rs++outs))
structure Env where
 nt:Nat
 eqs:List (Nat×List Ty)
 tt:List (Nat×TI)
 gl:List (Nat×(t:Ty)×List t.den)
 fs:List (Nat×FSpec)
 om:List (Nat×M):=[]
 tk:List Nat:=[]
 ms:List ((Nat×String)×Nat×Option Nat):=[]
 kp:List Nat:=[]
 rc:List Nat:=[]
 pl:List (Nat×Nat×Nat):=[]
abbrev Z5:Nat:=1000000
abbrev CB:Nat:=1000000
abbrev JY:Nat:=1000000000000
def Ty.castL{R:Type u}(a b:Ty)(xs:List a.den)(k:List b.den->R)(f:R):R:=if h:a=b then k (h▸xs)else f
def QX{R:Type u}(a b:Ty)(x:a.den)(k:b.den->R)(f:R):R:=if h:a=b then k (h▸x)else f
def flat:(t:Ty)->t.den->List V->List V
 | .bool,x,r=> .b x::r| .int k,n,r=> .i k n::r| .str,l,r=> .s l::r| .sl t,xs,r=> .sl t xs::r| .prod a b,x,r=>flat a x.1 (flat b x.2 r)| .unit,_,r=>r| .any _,_,r=> .undef::r| .ent _ _ a b,x,r=>flat a x.1 (flat b x.2 r)
def jD(vw:Option (Nat×Nat))(xs:List α):List α:=match vw with|none=>xs|some (lo,hi)=>jY xs lo hi
def Gj:(m:M)->m.den->List V->List V
 | .dat t,x,r=>flat t x r| .pair a b,x,r=>Gj a x.1 (Gj b x.2 r)| .unit,_,r=>r|_,_,r=> .undef::r
def a0V{R:Type u}(a b:M)(xs:List a.den)(k:List b.den->R)(f:R):R:=match h:M.beq a b with
 |true=>k (M.beq_eq h▸xs)|false=>f
def h_{R:Type u}(m:M)(t:Ty)(xs:List m.den)(k:List t.den->R)(f:R):R:=
 if h:m.el=true/\m.ty=t then k (cast (congrArg List ((M.denEq m h.1).trans (congrArg Ty.den h.2))) xs)else f
def M.owned:M->List Ty
 | .own t=>[t]| .owns m=>m.ty::m.owned| .pair a b=>a.owned++b.owned|_=>[]
def Xz(ln:Ty->Bool):List Ty->Bool|[]=>true|t::r=>bif ln t then Xz ln r else false
def mJ{α:Type}(ln:Ty->Bool):(t:Ty)->List V->(t.den->List V->Cmd α)->Cmd α
 | .bool,cs,K=>match cs with| .b x::r=>K x r|_=> .fail
 | .int k,cs,K=>match cs with| .i k' n::r=>(bif decide (k=k')then K n r else Cmd.fail)|_=> .fail
 | .str,cs,K=>match cs with| .s l::r=>K l r|_=> .fail
 | .prod a b,cs,K=>mJ ln a cs λx r=>mJ ln b r λy r' =>K (x,y) r'| .unit,cs,K=>K () cs
 | .any none,cs,K=>match cs with|_::r=>K () r|_=> .fail
 | .any (some k),cs,K=>match cs with| .i k' _::r=>bif decide (k=k')then K () r else Cmd.fail|_=> .fail
 | .ent ..,_,_=> .fail
 | .sl t,cs,K=>match cs with
  | .nl::r=>bif t.isEnt then .fail else K [] r| .sl t' xs::r=>Ty.castL t' t xs (λys=>K ys r) Cmd.fail
  | .own bx vw::r=> .get (Z5+bx) λ
   | .barr t' xs=>Ty.castL t' t xs (λys=>bif ln t then K (jD vw ys) r else Cmd.set (Z5+bx) (.bfrz t ys) (K (jD vw ys) r)) Cmd.fail| .bfrz t' xs=>Ty.castL t' t xs (λys=>K (jD vw ys) r) Cmd.fail| .barrs el xs none=>h_ el t xs (λys=>bif ln t&&Xz ln el.owned then K (jD vw ys) r else Cmd.set (Z5+bx) (.bfrz t ys) (K (jD vw ys) r)) Cmd.fail|_=> .fail
  |_=> .fail
def yL:Ty->Bool:=λ_=>false
def YG(t:Ty)(v:V)(K:List t.den->Cmd α):Cmd α:=match v with
 | .nl=>bif t.isEnt then .fail else K []| .ne _=>bif t.isEnt then .fail else K []| .sl t' xs=>Ty.castL t' t xs K Cmd.fail
 | .own bx vw=> .get (Z5+bx) λ
  | .barr t' xs=>Ty.castL t' t xs (λys=>K (jD vw ys)) Cmd.fail| .bfrz t' xs=>Ty.castL t' t xs (λys=>K (jD vw ys)) Cmd.fail|_=> .fail
 |_=> .fail
def rpC(t:Ty)(v:V)(K:t.den->Cmd α):Cmd α:=match v with
 | .dp t' x 0=>QX t' t x K .fail
 | .ptr bx 0=> .get (Z5+bx) λ
  | .bfc t' x=>QX t' t x K .fail
  | .bcells bs=>mJ yL t bs λx q=>(match q with
   |[]=> .get (Z5+bx) λ
    | .bcells _=>Cmd.set (Z5+bx) (.bfc t x) (K x)|_=> .fail
   |_=> .fail)
  |_=> .fail
 |_=> .fail
def lpC(ln:Ty->Bool)(t:Ty)(v:V)(K:t.den->Cmd α):Cmd α:=match v with
 | .dp t' x 0=>QX t' t x K .fail
 | .ptr bx 0=> .get (Z5+bx) λ
  | .bcells bs=>bif ln t then mJ ln t bs λx q=>(match q with
   |[]=> .get (Z5+bx) λ
    | .bcells _=>K x|_=> .fail
   |_=> .fail)else .fail
  |_=> .fail
 |_=> .fail
def Kr{α:Type} :(ts:List Ty)->List ((t:Ty)×t.den)->(OV ts->Cmd α)->Cmd α
 |[],cs,K=>match cs with|[]=>K ()|_=> .fail
 |[t],cs,K=>match cs with|[⟨t',x⟩]=>QX t' t x K .fail|_=> .fail
 |t::t' ::r,cs,K=>match cs with
  |⟨u,x⟩::cs=>QX u t x (λx=>Kr (t' ::r) cs λy=>K (x,y)) .fail|[]=> .fail
def OU:(ts:List Ty)->OV ts->List ((t:Ty)×t.den)
 |[],_=>[]|[t],x=>[⟨t,x⟩]|t::t' ::r,x=>⟨t,x.1⟩::OU (t' ::r) x.2
def sbC(te:Nat)(c:V)(K:List UInt8->Cmd α):Cmd α:=match c with
 | .nl=>K []
 | .own b none=> .get (Z5+b) λ
  | .brow te' xs=>bif Nat.beq te' te then Cmd.set (Z5+b) .dead (K xs)else .fail|_=> .fail
 |_=> .fail
def exM{α:Type}(ln:Ty->Bool):(m:M)->List V->(m.den->List V->Cmd α)->Cmd α
 | .dat t,cs,K=>mJ ln t cs K
 | .own t,cs,K=>match cs with
  | .nl::r=>bif t.isEnt then .fail else K [] r
  | .own bx vw::r=> .get (Z5+bx) λ
   | .barr t' xs=>Ty.castL t' t xs (λys=>Cmd.set (Z5+bx) .dead (K (jD vw ys) r)) Cmd.fail|_=> .fail
  |_=> .fail
 | .pair a b,cs,K=>exM yL a cs λx r=>exM yL b r λy r' =>K (x,y) r'| .unit,cs,K=>K () cs
 | .box m,cs,K=>match cs with
  | .ptr bx 0::r=> .get (Z5+bx) λ
   | .bcells bs=>Cmd.set (Z5+bx) .dead (exM yL m bs λx q=>match q with|[]=>K x r|_=> .fail)|_=> .fail
  |_=> .fail
 | .owns m,cs,K=>match cs with
  | .nl::r=>bif m.el then K [] r else .fail
  | .own bx none::r=> .get (Z5+bx) λ
   | .barrs m' xs none=>a0V m' m xs (λys=>Cmd.set (Z5+bx) .dead (K ys r)) Cmd.fail|_=> .fail
  |_=> .fail
 | .ownb t,cs,K=>match cs with
  | .nl::r=>bif t.isEnt then .fail else K [] r
  | .own bx none::r=> .get (Z5+bx) λ
   | .barr t' xs=>Ty.castL t' t xs (λys=>Cmd.set (Z5+bx) (.gone t) (K ys r)) Cmd.fail|_=> .fail
  |_=> .fail
 | .rp t,cs,K=>match cs with
  |v::r=>rpC t v λx=>K x r|_=> .fail
 | .fn f ts,cs,K=>match cs with
  | .clos g caps::r=>bif Nat.beq g f then Kr ts caps λx=>K x r else .fail
  | .fnv g::r=>bif Nat.beq g f then Kr ts [] λx=>K x r else .fail|_=> .fail
 | .ifc t m,cs,K=>match cs with
  | .ifc t' v::r=>bif Nat.beq t' t then exM yL m [v] λx q=>(match q with|[]=>K x r|_=> .fail)else .fail|_=> .fail
 | .cell (some none),cs,K=>match cs with
  | .nl::r=>K () r|_=> .fail
 | .cell (some (some b)),cs,K=>match cs with
  | .ne true::r=>bif b then K () r else .fail| .ne false::r=>bif b then .fail else K () r|_=> .fail
 | .cell none,cs,K=>match cs with
  |_::r=>K () r|_=> .fail
 | .fr t,cs,K=>match cs with
  | .nl::r=>bif t.isEnt then .fail else K [] r
  | .own bx none::r=> .get (Z5+bx) λ
   | .barr t' xs=>Ty.castL t' t xs (λys=>Cmd.set (Z5+bx) (.bfrz t ys) (K ys r)) Cmd.fail| .bfrz t' xs=>Ty.castL t' t xs (λys=>K ys r) Cmd.fail|_=> .fail
  |_=> .fail
 | .sit,cs,K=>match cs with
  | .ptr bx 0::r=> .get (Z5+bx) λ
   | .biter l p=>Cmd.set (Z5+bx) .dead (K (l,p) r)|_=> .fail
  |_=> .fail
 | .lp t,cs,K=>match cs with
  |v::r=>lpC ln t v λx=>K x r|_=> .fail
 | .dv ..,cs,K=>match cs with
  |_::r=>K () r|_=> .fail
 | .sbx tb te,cs,K=>match cs with
  | .ptr bx 0::r=> .get (Z5+bx) λ
   | .bsb tb' c=>bif Nat.beq tb' tb then(sbC te c λys=>Cmd.set (Z5+bx) .dead (K ys r))else .fail|_=> .fail
  |_=> .fail
def cellsOf(v:V):List V:=match v with| .agg cs=>cs|v=>[v]
def uY(n:Nat)(v:V)(K:Cmd α):Cmd α:=.get (Z5+n) λ
 | .undef=> .set (Z5+n) v K|_=> .fail
def emM{α:Type} :(m:M)->m.den->Nat->List V->(List V->Nat->Cmd α)->Cmd α
 | .dat t,x,n,r,K=>K (flat t x r) n| .own t,xs,n,r,K=>uY n (.barr t xs) (K (.own n none::r) (n+1))
 | .pair a b,x,n,r,K=>emM b x.2 n r λr' n' =>emM a x.1 n' r' K| .unit,_,n,r,K=>K r n
 | .box m,x,n,r,K=>emM m x (n+1) [] λcs n' =>uY n (.bcells cs) (K (.ptr n 0::r) n')| .owns m,xs,n,r,K=>uY n (.barrs m xs none) (.set (Z5+(JY+n)) (.blen (x8 xs) m.size) (K (.own n none::r) (n+1)))| .ownb t,xs,n,r,K=>uY n (.barr t xs) (K (.own n none::r) (n+1))| .rp t,x,n,r,K=>K (.dp t x 0::r) n| .fn f ts,x,n,r,K=>K (.clos f (OU ts x)::r) n
 | .ifc t m,x,n,r,K=>emM m x n [] λcs n' =>match cs with|[c]=>K (.ifc t c::r) n'|_=> .fail
 | .cell (some none),_,n,r,K=>K (.nl::r) n| .cell (some (some b)),_,n,r,K=>K (.ne b::r) n| .cell none,_,n,r,K=>K (.undef::r) n| .fr t,xs,n,r,K=>uY n (.bfrz t xs) (K (.own n none::r) (n+1))| .sit,x,n,r,K=>uY n (.biter x.1 x.2) (K (.ptr n 0::r) (n+1))| .lp t,x,n,r,K=>K (.dp t x 0::r) n| .dv ..,_,n,r,K=>K (.undef::r) n| .sbx tb te,xs,n,r,K=>uY (n+1) (.brow te xs) (uY n (.bsb tb (.own (n+1) none)) (K (.ptr n 0::r) (n+2)))
structure Sig where
 ms:List (Nat×MG)
 als:List (Nat×Nat)
@[reducible] def qI (s:Sig):Type:=aP (s.ms.map (·.2))
def QY(ag:Bool)(v:V)(K:List V->Cmd α):Cmd α:=match ag,v with
 |true,.agg cs=>K cs|true,_=> .fail|false,.agg _=> .fail|false,.tup _=> .fail|false,.undef=> .fail|false,.un=> .fail|false,v=>K [v]
def DU(v:V)(K:List V->Cmd α):Cmd α:=match v with
 | .agg cs=>K cs| .tup _=> .fail| .undef=> .fail| .un=> .fail|v=>K [v]
def M.isDat:M->Bool| .dat _=>true| .lp _=>true|_=>false
def Rz(ln:Ty->Bool)(m:MG)(v:V)(K:m.2.den->Cmd α):Cmd α:=
 QY m.1 v λcs=>exM ln m.2 cs λx q=>match q with|[]=>K x|_=> .fail
def JI{α:Type}(ln:Ty->Bool):(ms:List MG)->List V->(aP ms->Cmd α)->Cmd α
 |[],vs,K=>match vs with|[]=>K ()|_=> .fail
 |[m],vs,K=>match vs with
  |[v]=>Rz ln m v K|_=> .fail
 |m::m' ::r,vs,K=>match vs with
  |v::vs=>bif m.2.isDat then JI ln (m' ::r) vs λy=>Rz ln m v λx=>K (x,y)
   else Rz ln m v λx=>JI ln (m' ::r) vs λy=>K (x,y)
  |[]=> .fail
def Wh{α:Type} :List Nat->(List V->Cmd α)->Cmd α
 |[],K=>K []
 |s::r,K=>bif Nat.blt s Z5 then .get s λv=>Wh r λvs=>K (v::vs)else .fail
def b0f:V->V->Bool
 | .own a none,.own b none=>Nat.beq a b|_,_=>false
def a7U{α:Type} :List (Nat×Nat)->Cmd α->Cmd α
 |[],K=>K
 |(n,k)::r,K=>bif Nat.blt n Z5&&Nat.blt k Z5 then .get n λv=> .get k λu=>bif b0f v u then a7U r K else .fail else .fail
def a4m(s:Sig):Cmd (qI s):=a7U s.als (Wh (s.ms.map (·.1)) λvs=>JI yL (s.ms.map (·.2)) vs .ret)
def mkV(ag:Bool)(cs:List V):V:=match ag,cs with|true,cs=> .agg cs|false,[v]=>v|false,_=> .undef
def JH{α:Type} :(ms:List MG)->aP ms->Nat->(List V->Nat->Cmd α)->Cmd α
 |[],_,n,K=>K [] n
 |[m],x,n,K=>emM m.2 x n [] λcs n' =>K [mkV m.1 cs] n'
 |m::m' ::r,x,n,K=>emM m.2 x.1 n [] λcs n' =>JH (m' ::r) x.2 n' λvs n'' =>K (mkV m.1 cs::vs) n''
def Jr:List Nat->List V->Cmd Unit->Cmd Unit
 |[],[],K=>K|n::ns,v::vs,K=>bif Nat.blt n Z5 then .set n v (Jr ns vs K)else .fail|_,_,_=> .fail
def Xa:List (Nat×Nat)->Cmd Unit
 |[]=> .ret ()
 |(n,k)::r=>bif Nat.blt n Z5&&Nat.blt k Z5 then .get k λv=> .set n v (Xa r)else .fail
def a4e(s:Sig)(x:qI s)(nb lim:Nat):Cmd Unit:=
 JH (s.ms.map (·.2)) x nb λvs n=>bif Nat.ble n lim then Jr (s.ms.map (·.1)) vs (Xa s.als)else .fail
def ZU:Value->V
 | .bool b=> .b b| .int k n=> .i k n| .string s=> .s s.data.toList| .slice none 0 0=> .nl|_=> .undef
def qG(x:Operand)(K:V->Cmd α):Cmd α:=
 match x with
 | .tmp t=>bif Nat.blt t Z5 then .get t K else .fail| .const v=>K (ZU v)| .global g=>K (.glob g)| .func f=>K (.fnv f)
def MI{α:Type} :List Operand->(List V->Cmd α)->Cmd α
 |[],K=>K []
 |x::r,K=>qG x λv=>MI r λvs=>K (v::vs)
def Rx(n:Nat)(cs:List V):Option (List V):=match n,cs with
 |0,cs=>some cs|n+1,_::cs=>Rx n cs|_+1,[]=>none
def Zq{R:Type u}(n:Nat)(cs:List V)(K:List V->R)(f:R):R:=match n,cs with
 |0,_=>K []|n+1,c::cs=>Zq n cs (λr=>K (c::r)) f|_+1,[]=>f
def Qm{R:Type u}(off n:Nat)(cs:List V)(K:List V->R)(f:R):R:=match Rx off cs with|some r=>Zq n r K f|none=>f
def MN{R:Type u}(off:Nat)(vs cs:List V)(K:List V->R)(f:R):R:=match off,vs,cs with
 |0,[],cs=>K cs|0,v::vs,_::cs=>MN 0 vs cs (λr=>K (v::r)) f|n+1,vs,c::cs=>MN n vs cs (λr=>K (c::r)) f|_,_,[]=>f
def BC:Operand->Bool
 | .const (.int _ n)=>decide (n=0)|_=>true
def Em:Operand->Bool
 | .const (.int _ n)=>decide (n<0)|_=>true
def eq1:V->V->Option Bool
 | .b x,.b y=>some (QS x y)| .i j x,.i k y=>bif decide (j=k)then some (D6 x y)else none| .s x,.s y=>some (seq x y)|_,_=>none
def yz:List V->List V->Option Bool
 |[],[]=>some true
 |a::r,b::q=>match eq1 a b with
  |none=>none
  |some e=>match r,q with
   |[],[]=>some e|_,_=>(match yz r q with|some e' =>some (kZ e e')|none=>none)
 |_,_=>none
def yT:List Ty->List V->Bool
 |[],[]=>true| .bool::ts,.b _::cs=>yT ts cs| .int k::ts,.i k' _::cs=>decide (k=k')&&yT ts cs| .str::ts,.s _::cs=>yT ts cs|_,_=>false
def Cf(n:Nat):List Nat->Bool|[]=>false|k::r=>bif Nat.beq k n then true else Cf n r
def a4T(E:Env)(t:Nat)(op:BinOp)(b:Bool)(K:V->Cmd α):Cmd α:=
 match dO E.tt t with
 |some i=>match i.td,op with
  | .sl _,.eql=>K (.b b)| .sl _,.neq=>K (.b (G7 b))|_,_=> .fail
 |none=> .fail
def GU(E:Env)(t:Nat)(op:BinOp)(yc:Operand)(x y:V)(K:V->Cmd α):Cmd α:=
 match x,y with
 | .i k a,.i k' b=>
  match op with
  | .shl=>bif Em yc then Cmd.opt (a9U k a b) λr=>K (.i k r)else K (.i k (a8m k a b))
  | .shr=>bif Em yc then Cmd.opt (a9V k a b) λr=>K (.i k r)else K (.i k (a8n k a b))|_=>
  bif decide (k=k')then
   match op with
   | .add=>K (.i k (G9 k a b))| .sub=>K (.i k (L6 k a b))| .mul=>K (.i k (KD k a b))
   | .quo=>bif BC yc then Cmd.opt (a9S k a b) λr=>K (.i k r)else K (.i k (gV k a b))
   | .rem=>bif BC yc then Cmd.opt (a9T a b) λr=>K (.i k r)else K (.i k (mQ a b))| .and=>K (.i k (b3E k a b))| .or=>K (.i k (ior k a b))| .xor=>K (.i k (a4H k a b))| .andNot=>K (.i k (a1j k a b))| .eql=>K (.b (D6 a b))| .neq=>K (.b (G7 (D6 a b)))| .lss=>K (.b (J4 a b))| .leq=>K (.b (U6 a b))| .gtr=>K (.b (J4 b a))| .geq=>K (.b (U6 b a))|_=> .fail
  else .fail
 | .s a,.s b=>
  match op with
  | .add=>Cmd.opt (U5 a b) λr=>K (.s r)| .eql=>K (.b (seq a b))| .neq=>K (.b (G7 (seq a b)))| .lss=>K (.b (slt a b))|_=> .fail
 | .b a,.b b=>
  match dO E.tt t with
  |some i=>match i.td,op with
   | .bool,.eql=>K (.b (QS a b))| .bool,.neq=>K (.b (G7 (QS a b)))|_,_=> .fail
  |none=> .fail
 | .agg xs,.agg ys=>
  match dO E.eqs t with
  |some sh=>bif yT sh xs&&yT sh ys then(match op,yz xs ys with
   | .eql,some e=>K (.b e)| .neq,some e=>K (.b (G7 e))
   |_,_=> .fail)else .fail
  |none=> .fail
 | .nl,.nl=>a4T E t op true K| .ne b,.nl=>a4T E t op b K| .sl u xs,.nl=>bif u.isEnt then .fail else .br (D6 (x8 xs) 0) .fail (a4T E t op false K)|_,_=> .fail
def unC(op:UnOp)(x:V)(K:V->Cmd α):Cmd α:=
 match op,x with
 | .neg,.i k a=>K (.i k (L6 k 0 a))| .xor,.i k a=>K (.i k (a4H k (bif k.signed then -1 else k.max) a))| .not,.b a=>K (.b (G7 a))|_,_=> .fail
def Vm(E:Env)(t:Nat):Bool:=bif Nat.blt t E.nt then !(Cf t E.kp)else false
def dZ(E:Env)(d:Option Tmp)(v:V):Cmd Unit:=match d with|some t=>bif Vm E t then .set t v (.ret ())else .fail|none=> .ret ()
def O5(q:Nat)(d:Option Tmp):Nat:=match d with|some t=>CB*q+64*t|none=>CB*q+999936
def tiC(E:Env)(t:Nat)(K:TI->Cmd α):Cmd α:=match dO E.tt t with|some i=>K i|none=> .fail
def bK:TD->Bool| .struct _| .arr _ _=>true|_=>false
def JK(E:Env)(t:Nat)(p:V)(K:V->Cmd α):Cmd α:=
 tiC E t λi=>match p with
 | .ptr bx off=> .get (Z5+bx) λ
  | .bcells cs=>Qm off i.size cs (λr=>K (mkV (bK i.td) r)) Cmd.fail| .bfc u x=>Qm off i.size (flat u x []) (λr=>K (mkV (bK i.td) r)) Cmd.fail|_=> .fail
 | .ep bx idx off=> .get (Z5+bx) λ
  | .barr u xs=>Cmd.opt (eQ xs idx) λx=>Qm off i.size (flat u x []) (λr=>K (mkV (bK i.td) r)) Cmd.fail
  | .bfrz u xs=>Cmd.opt (eQ xs idx) λx=>Qm off i.size (flat u x []) (λr=>K (mkV (bK i.td) r)) Cmd.fail
  | .barrs m xs _=>Cmd.opt (eQ xs idx) λx=>Qm off i.size (Gj m x []) (λr=>K (mkV (bK i.td) r)) Cmd.fail|_=> .fail
 | .dp u x off=>Qm off i.size (flat u x []) (λr=>K (mkV (bK i.td) r)) Cmd.fail|_=> .fail
def Tc{R:Type u} :(m:M)->Nat->m.den->(V->R)->R->R
 | .own t,off,xs,K,f=>bif Nat.beq off 0 then K (.barr t xs)else f| .owns m,off,xs,K,f=>bif Nat.beq off 0 then K (.barrs m xs none)else f| .pair a b,off,x,K,f=>bif Nat.blt off a.size then Tc a off x.1 K f else Tc b (off -a.size) x.2 K f|_,_,_,_,f=>f
def v_{R:Type u} :(m:M)->Nat->V->m.den->(m.den->R)->R->R
 | .own t,off,v,_,K,f=>bif Nat.beq off 0 then(match v with| .barr t' ys=>Ty.castL t' t ys K f| .nl=>bif t.isEnt then f else K []|_=>f)else f| .owns m,off,v,_,K,f=>bif Nat.beq off 0 then(match v with| .barrs m' ys none=>a0V m' m ys K f| .nl=>K []|_=>f)else f| .pair a b,off,v,x,K,f=>bif Nat.blt off a.size then v_ a off v x.1 (λy=>K (y,x.2)) f else v_ b (off -a.size) v x.2 (λy=>K (x.1,y)) f|_,_,_,_,_,f=>f
def a2v{α:Type} :(m:M)->Nat->List V->m.den->(m.den->Cmd α)->Cmd α
 | .dat t,off,vs,x,K=>bif t.flat then MN off vs (flat t x []) (λr=>mJ yL t r λy q=>match q with|[]=>K y|_=> .fail) .fail else .fail| .pair a b,off,vs,x,K=>bif Nat.blt off a.size then a2v a off vs x.1 (λy=>K (y,x.2))else a2v b (off -a.size) vs x.2 (λy=>K (x.1,y))|_,_,_,_,_=> .fail
def M.ownAt:M->Nat->Bool
 | .own _,off=>Nat.beq off 0| .owns _,off=>Nat.beq off 0| .pair a b,off=>bif Nat.blt off a.size then a.ownAt off else b.ownAt (off -a.size)|_,_=>false
def Wi(h:Option (Nat×Nat×Option Nat))(idx off:Nat):Bool:=match h with|none=>true|some (i,o,_)=>bif Nat.beq o off then Fv i idx else false
def a9X(E:Env)(d:Option Tmp)(nm t:Nat)(p:V)(K:V->Cmd α):Cmd α:=
 match p with
 | .ep bx idx off=> .get (Z5+bx) λ
  | .barrs m xs none=>bif m.ownAt off then tiC E t λi=>(bif Nat.beq i.size 1&&!bK i.td then
     (bif Cf (match d with|some d=>d|none=>Z5) E.tk then
      Cmd.opt (eQ xs idx) λx=>Tc m off x (λv=>Cmd.set (Z5+bx) (.barrs m xs (some (idx,off,none))) (uY nm v (Cmd.set (Z5+bx) (.barrs m xs (some (idx,off,some nm))) (K (.own nm none))))) .fail
     else mJ yL (.sl m.ty) [.own bx none] λ_ _=>JK E t p K)else .fail)
    else JK E t p K
  | .barrs m xs (some (i,o,some n))=>bif m.ownAt off then tiC E t λj=>(bif Nat.beq j.size 1&&!bK j.td then
     .br (Wi (some (i,o,some n)) idx off) (K (.own n none)) .fail else .fail)
    else JK E t p K
  |_=>JK E t p K
 |_=>JK E t p K
def Xk(bx idx off:Nat)(m:M)(xs:List m.den)(hole:Option (Nat×Nat×Option Nat))(v:V)(K:Cmd Unit):Cmd Unit:=
 .br (Wi hole idx off) (Cmd.opt (eQ xs idx) λx=>v_ m off v x (λy=>Cmd.set (Z5+bx) (.barrs m (rM xs idx y) none) K) .fail) .fail
def b3F:V->Bool| .barr ..=>true| .barrs _ _ none=>true|_=>false
def a7z(E:Env)(t:Nat)(p v:V):Cmd Unit:=
 tiC E t λi=>match p with
 | .ptr bx off=> .get (Z5+bx) λ
  | .bcells cs=>DU v λvs=>bif Nat.beq vs.length i.size then MN off vs cs (λr=>Cmd.set (Z5+bx) (.bcells r) (.ret ())) Cmd.fail else .fail|_=> .fail
 | .ep bx idx off=> .get (Z5+bx) λ
  | .barr u xs=>Cmd.opt (eQ xs idx) λx=>DU v λvs=>bif Nat.beq vs.length i.size then MN off vs (flat u x []) (λr=>
    mJ yL u r λy q=>match q with
     |[]=> .get (Z5+bx) λ
      | .barr u' xs' =>Ty.castL u' u xs' (λxs' =>Cmd.set (Z5+bx) (.barr u (rM xs' idx y)) (.ret ())) Cmd.fail|_=> .fail
     |_=> .fail) Cmd.fail else .fail
  | .barrs m xs hole=>bif m.ownAt off&&Nat.beq i.size 1&&!bK i.td then(match v with
    | .nl=>Xk bx idx off m xs hole .nl (.ret ())
    | .own b2 none=> .get (Z5+b2) λw=>bif b3F w then Cmd.set (Z5+b2) .dead (.get (Z5+bx) λ
     | .barrs m xs hole=>Xk bx idx off m xs hole w (.ret ())
     |_=> .fail)else .fail
    |_=> .fail)
   else match hole with
    |none=>DU v λvs=>bif Nat.beq vs.length i.size then Cmd.opt (eQ xs idx) λx=>a2v m off vs x λy=>Cmd.set (Z5+bx) (.barrs m (rM xs idx y) none) (.ret ())else .fail|some _=> .fail
  |_=> .fail
 |_=> .fail
def szB(sz:Nat)(u:Ty):Bool:=bif u.isEnt then false else Nat.beq sz u.size
def Hl(E:Env)(t f:Nat):Option (Nat×Nat×Bool):=
 match dO E.tt t with
 |some i=>match i.td with
  | .struct fs=>match fs[f]? with
   |some (ft,off)=>match dO E.tt ft with|some j=>bif Nat.beq j.size 0 then none else some (off,j.size,bK j.td)|none=>none
   |none=>none
  |_=>none
 |none=>none
def Yk(vw:Option (Nat×Nat)):Nat:=match vw with|none=>0|some (lo,_)=>lo
def b0R(vw:Option (Nat×Nat))(n:Nat):Nat:=match vw with|none=>n|some (lo,_)=>lo+n
theorem a8q(vw:Option (Nat×Nat))(n:Nat):b0R vw n=Yk vw+n:=by cases vw<;>simp[b0R,Yk]
def ER(E:Env)(t:Nat):Option (Bool×Nat×Nat):=
 match dO E.tt t with
 |some i=>match i.td with
  | .sl e=>match dO E.tt e with|some j=>some (false,0,j.size)|none=>none
  | .arr n e=>match dO E.tt e with|some j=>some (true,n,j.size)|none=>none
  |_=>none
 |none=>none
def RY(E:Env)(t:Nat)(x ix:V)(K:V->Cmd α):Cmd α:=
 match ix,ER E t with
 | .i _ n,some (false,_,sz)=>match x with
  | .sl u xs=>bif szB sz u then Cmd.opt (O0 xs n) λy=>K (.dp u y 0)else .fail
  | .own bx vw=> .get (Z5+(JY+bx)) λ
   | .blen ln sz' =>(match vw with|none=>bif Nat.beq sz sz' then .br (inb n ln) (K (.ep bx (bH n) 0)) .fail else .fail|_=> .fail)
   |_=> .get (Z5+bx) λ
   | .barr u xs=>bif szB sz u then Cmd.opt (O0 (jD vw xs) n) λ_=>K (.ep bx (b0R vw (bH n)) 0)else .fail
   | .bfrz u xs=>bif szB sz u then Cmd.opt (O0 (jD vw xs) n) λy=>K (.dp u y 0)else .fail| .barrs m xs _=>(match vw with|none=>bif Nat.beq sz m.size then Cmd.opt (O0 xs n) λ_=>K (.ep bx (bH n) 0)else .fail|_=> .fail)|_=> .fail
  |_=> .fail
 | .i _ n,some (true,l,sz)=>match x with
  | .glob g=>match dO E.gl g with
   |some ⟨u,xs⟩=>bif Nat.beq sz u.size&&Nat.beq l xs.length then Cmd.opt (O0 xs n) λy=>K (.dp u y 0)else .fail|none=> .fail
  | .ptr bx off=> .br (inb n l) (K (.ptr bx (off+bH n*sz))) .fail|_=> .fail
 |_,_=> .fail
def b3G(td:TD)(x:V)(K:V->Cmd α):Cmd α:=
 match td,x with
 | .str,.s l=>K (.i .i64 (x8 l))| .sl _,.sl t xs=>bif t.isEnt then .fail else K (.i .i64 (x8 xs))| .map ..,.sl t xs=>bif t.isEnt then K (.i .i64 (x8 xs))else .fail
 | .map ..,.own bx none=> .get (Z5+bx) λ
  | .barr t xs=>bif t.isEnt then K (.i .i64 (x8 xs))else .fail| .bfrz t xs=>bif t.isEnt then K (.i .i64 (x8 xs))else .fail|_=> .fail
 | .sl _,.nl=>K (.i .i64 0)
 | .sl _,.own bx vw=> .get (Z5+(JY+bx)) λ
  | .blen ln _=>(match vw with|none=>K (.i .i64 ln)|_=> .fail)
  |_=> .get (Z5+bx) λ
  | .barr t xs=>bif t.isEnt then .fail else K (.i .i64 (x8 (jD vw xs)))| .bfrz t xs=>bif t.isEnt then .fail else K (.i .i64 (x8 (jD vw xs)))| .barrs _ xs _=>(match vw with|none=>K (.i .i64 (x8 xs))|_=> .fail)|_=> .fail
 |_,_=> .fail
def zn(d:Int):Option V->Option Int
 |none=>some d|some (.i _ n)=>some n|some _=>none
def OJ(E:Env)(t:Nat)(x:V)(lo hi:Option V)(K:V->Cmd α):Cmd α:=
 match x with
 | .s l=>tiC E t λi=>match i.td,zn 0 lo,zn (x8 l) hi with
  | .str,some a,some b=>Cmd.opt (fO l a b) λr=>K (.s r)|_,_,_=> .fail
 | .sl u l=>match ER E t,zn 0 lo,zn (x8 l) hi with
  |some (false,_,sz),some a,some b=>bif szB sz u then Cmd.opt (fO l a b) λr=>K (.sl u r)else .fail|_,_,_=> .fail
 | .own bx none=> .get (Z5+bx) λ
  | .barr u xs=>match ER E t,zn 0 lo,zn (x8 xs) hi with
   |some (false,_,sz),some a,some b=>bif szB sz u then .br (lT a b (x8 xs)) (K (.own bx (some (bH a,bH b)))) .fail else .fail|_,_,_=> .fail
  | .bfrz u xs=>match ER E t,zn 0 lo,zn (x8 xs) hi with
   |some (false,_,sz),some a,some b=>bif szB sz u then .br (lT a b (x8 xs)) (K (.own bx (some (bH a,bH b)))) .fail else .fail|_,_,_=> .fail
  |_=> .fail
 |_=> .fail
def Zv{α:Type}(u:Ty):Nat->List V->(List u.den->Cmd α)->Cmd α
 |0,cs,K=>match cs with|[]=>K []|_=> .fail
 |n+1,cs,K=>mJ yL u cs λx r=>Zv u n r λxs=>K (x::xs)
def TS(E:Env)(nm t bx:Nat)(K:V->Cmd Unit):Cmd Unit:=tiC E t λi=>match i.td with
 | .arr n e=>tiC E e λj=>(match j.ty with
  |some u=>bif u.flat then .get (Z5+bx) λ
   | .bcells cs=>Zv u n cs λxs=>Cmd.set (Z5+bx) .dead (uY nm (.barr u xs) (K (.own nm none)))|_=> .fail
   else .fail
  |none=> .fail)
 |_=> .fail
def AL(E:Env)(t:Nat):Option (Nat×Ty):=
 match dO E.tt t with
 |some i=>match i.td with
  | .sl e=>match dO E.tt e with
   |some j=>match j.ty with|some u=>bif (Nat.beq u.size j.size&&Nat.ble j.bytes 65536&&!u.isEnt)then some (e,u)else none|none=>none
   |none=>none
  |_=>none
 |none=>none
def Qo(nm:Nat)(u:Ty)(x:V)(ys:List u.den)(K:V->Cmd Unit):Cmd Unit:=
 match x with
 | .nl=>Cmd.opt (dB [] ys) λzs=>uY nm (.barr u zs) (K (.own nm none))
 | .own bx vw=> .get (Z5+bx) λ
  | .barr u' xs=>Ty.castL u' u xs (λxs=>Cmd.opt (dB (jD vw xs) ys) λzs=>Cmd.set (Z5+bx) .dead (uY nm (.barr u zs) (K (.own nm none)))) Cmd.fail|_=> .fail
 |_=> .fail
def a9Q(E:Env)(t:Nat)(x y:V)(K:V->Cmd Unit):Cmd Unit:=
 match AL E t with
 |none=> .fail
 |some (_,u)=>match dO E.om t with
  |none=>YG u y λys=>(match x with
   | .own bx none=> .get (Z5+bx) λ
    | .barr u' xs=>Ty.castL u' u xs (λxs=>Cmd.set (Z5+bx) (.barr u (LU xs ys)) (K (.i .i64 (zk (x8 xs) (x8 ys))))) Cmd.fail|_=> .fail
   |_=> .fail)
  |some _=> .fail
def a0S(E:Env)(nm:Nat)(t:Nat)(x:V)(l:List UInt8)(K:V->Cmd Unit):Cmd Unit:=
 match AL E t with
 |some (_,.int .u8)=>(match dO E.om t with|none=>Qo nm (.int .u8) x (Uy l) K|some _=> .fail)|_=> .fail
def a3U(E:Env)(nm:Nat)(t:Nat)(l:List UInt8)(K:V->Cmd Unit):Cmd Unit:=
 match AL E t with
 |some (e,.int .u8)=>tiC E e λk=>(match k.td with
  | .int .u8=>uY nm (.barr (.int .u8) (Uy l)) (K (.own nm none))
  |_=> .fail)
 |_=> .fail
def a0R(E:Env)(nm:Nat)(t:Nat)(x y:V)(K:V->Cmd Unit):Cmd Unit:=
 match AL E t with
 |none=> .fail
 |some (_,u)=>match dO E.om t with
  |none=>YG u y λys=>Qo nm u x ys K
  |some m=>bif Nat.beq m.size u.size then exM yL (.owns m) [y] λys _=>exM yL (.owns m) [x] λxs _=>Cmd.opt (dB xs ys) λzs=>uY nm (.barrs m zs none) (K (.own nm none))else .fail
def xK{α:Type}(u:Ty):List (Nat×V)->Nat->Nat->(List u.den->Cmd α)->Cmd α
 |[],_,0,K=>K []
 |(i,v)::r,n,m+1,K=>bif Nat.beq i n then DU v λcs=>mJ yL u cs λx q=>match q with|[]=>xK u r (n+1) m λxs=>K (x::xs)|_=> .fail else .fail
 |_,_,_,_=> .fail
def vH{α:Type}(m:M):List (Nat×V)->Nat->Nat->(List m.den->Cmd α)->Cmd α
 |[],_,0,K=>K []
 |(i,v)::r,n,k+1,K=>bif Nat.beq i n then DU v λcs=>exM yL m cs λx q=>match q with|[]=>vH m r (n+1) k λxs=>K (x::xs)|_=> .fail else .fail
 |_,_,_,_=> .fail
def a0O(E:Env):List (Nat×Nat)->Bool
 |[]=>true
 |(t,_)::r=>match dO E.tt t with|some _=>a0O E r|none=>false
def Aw{α:Type}(E:Env)(t:Nat):List (Nat×V)->List V->(List V->Cmd α)->Cmd α
 |[],cs,K=>K cs
 |(f,v)::r,cs,K=>match Hl E t f with
  |some (off,n,_)=>DU v λvs=>bif Nat.beq vs.length n then MN off vs cs (λcs' =>Aw E t r cs' K) .fail else .fail|none=> .fail
def GR{α:Type}(sz:Nat):List (Nat×V)->List V->(List V->Cmd α)->Cmd α
 |[],cs,K=>K cs
 |(i,v)::r,cs,K=>DU v λvs=>bif Nat.beq vs.length sz then MN (i*sz) vs cs (λcs' =>GR sz r cs' K) .fail else .fail
def Z9{α:Type} :List MG->List V->List V->Cmd α->Cmd α
 |(_,.box _)::ms,.ptr bx _::vs,.agg cs::os,K=> .get (Z5+bx) λ
  | .dead=>Cmd.set (Z5+bx) (.bcells cs) (Z9 ms vs os K)|_=> .fail
 |(_,.box _)::_,_,_,_=> .fail
 |(_,.ifc _ (.box _))::ms,.ifc _ (.ptr bx _)::vs,.agg cs::os,K=> .get (Z5+bx) λ
  | .dead=>Cmd.set (Z5+bx) (.bcells cs) (Z9 ms vs os K)|_=> .fail
 |(_,.ifc _ (.box _))::_,_,_,_=> .fail
 |(_,.ownb _)::ms,.own bx none::vs,.own nm none::os,K=> .get (Z5+nm) λ
  | .barr u xs=>Cmd.set (Z5+nm) .dead (.get (Z5+bx) λ
   | .gone t=>Ty.castL u t xs (λxs=>Cmd.set (Z5+bx) (.barr t xs) (Z9 ms vs os K)) .fail
   |_=> .fail)
  |_=> .fail
 |(_,.ownb _)::ms,.nl::vs,.own nm none::os,K=>Cmd.set (Z5+nm) .dead (Z9 ms vs os K)|(_,.ownb _)::_,_,_,_=> .fail
 |(_,.sbx _ _)::ms,.ptr bx _::vs,.ptr nm _::os,K=> .get (Z5+nm) λ
  | .bsb tb c=>Cmd.set (Z5+nm) .dead (.get (Z5+bx) λ
   | .dead=>Cmd.set (Z5+bx) (.bsb tb c) (Z9 ms vs os K)
   |_=> .fail)
  |_=> .fail
 |(_,.sbx _ _)::_,_,_,_=> .fail|(_,.sit)::_,_,_,_=> .fail|_::ms,_::vs,os,K=>Z9 ms vs os K|[],[],[],K=>K|_,_,_,_=> .fail
def Ty.occ(t:Ty):Ty->Bool
 | .sl u=>decide (t=u) || Ty.occ t u| .prod a b=>Ty.occ t a || Ty.occ t b| .ent _ _ a b=>Ty.occ t a || Ty.occ t b|_=>false
def PE(t:Ty):List Ty->Bool|[]=>false|u::r=>decide (t=u) || Ty.occ t u || PE t r
def M.occ(t:Ty):M->Bool
 | .dat u=>Ty.occ t u| .own u=>Ty.occ t u| .pair a b=>a.occ t || b.occ t| .unit=>false| .box m=>m.occ t| .owns m=>m.occ t| .ownb u=>Ty.occ t u| .rp u=>decide (t=u) || Ty.occ t u| .fn _ ts=>PE t ts| .ifc _ m=>m.occ t| .cell _=>false| .fr u=>decide (t=u) || Ty.occ t u| .sbx _ _=>false| .sit=>false| .lp u=>decide (t=u) || Ty.occ t u| .dv ..=>false
def Ij(t:Ty):List MG->Bool|[]=>false|m::r=>m.2.occ t || Ij t r
def Wq(s:FSpec):Ty->Bool:=λt=> !(Ij t s.rs || Ij t s.outs)
def FY:Nat->List V->Option (List V×List V)
 |0,vs=>some ([],vs)
 |n+1,v::vs=>match FY n vs with|some (a,b)=>some (v::a,b)|none=>none
 |_+1,[]=>none
def DT:List V->Bool|[]=>false| .tup _::_=>true|_::r=>DT r
def a9e:List V->V|[v]=>v|vs=> .tup vs
def Ky:List MG->List V->Bool
 |(_,.fn g _)::ms,.clos f _::vs=>Nat.beq f g&&Ky ms vs|(_,.fn g _)::ms,.fnv f::vs=>Nat.beq f g&&Ky ms vs|(_,.ifc t _)::ms,.ifc t' _::vs=>Nat.beq t t' &&Ky ms vs|(_,.dv _ _ _ fo)::ms,v::vs=>(match v with| .ep _ _ o=>Nat.beq o fo|_=>false)&&Ky ms vs|_::ms,_::vs=>Ky ms vs|_,_=>true
def YH:List (Nat×FSpec)->Nat->List V->Option FSpec
 |[],_,_=>none|(g,s)::r,f,vs=>bif Nat.beq g f&&Ky s.ps vs then some s else YH r f vs
def a1r(sz fo:Nat)(c:V)(K:V->Cmd α):Cmd α:=match c with
 | .sl u xs=>bif szB sz u then Cmd.opt (O0 xs (L6 .i64 (x8 xs) 1)) λy=>K (.dp u y fo)else .fail
 | .own bx none=> .get (Z5+(JY+bx)) λ
  | .blen ln sz' =>bif Nat.beq sz sz' then .br (inb (L6 .i64 ln 1) ln) (K (.ep bx (bH (L6 .i64 ln 1)) fo)) .fail else .fail
  |_=> .get (Z5+bx) λ
   | .barr u xs=>bif szB sz u then Cmd.opt (O0 xs (L6 .i64 (x8 xs) 1)) λ_=>K (.ep bx (bH (L6 .i64 (x8 xs) 1)) fo)else .fail
   | .bfrz u xs=>bif szB sz u then Cmd.opt (O0 xs (L6 .i64 (x8 xs) 1)) λy=>K (.dp u y fo)else .fail
   | .barrs m xs _=>bif Nat.beq sz m.size then Cmd.opt (O0 xs (L6 .i64 (x8 xs) 1)) λ_=>K (.ep bx (bH (L6 .i64 (x8 xs) 1)) fo)else .fail|_=> .fail
 |_=> .fail
def YF(off sz fo:Nat)(v:V)(K:V->Cmd α):Cmd α:=match v with
 | .ptr bx o=> .get (Z5+bx) λ
  | .bcells cs=>Qm (o+off) 1 cs (λr=>match r with|[c]=>a1r sz fo c K|_=> .fail) .fail|_=> .fail
 | .dp u x o=>Qm (o+off) 1 (flat u x []) (λr=>match r with|[c]=>a1r sz fo c K|_=> .fail) .fail|_=> .fail
def b3A(a b:V)(K:Cmd α):Cmd α:=match a,b with
 | .ep n i o,.ep n' i' o' =>bif Nat.beq n n' &&Nat.beq o o' then .br (Fv i i') K .fail else .fail|_,_=> .fail
def a8F:List V->Nat->V
 |[],_=> .un|v::_,0=>v|_::r,n+1=>a8F r n
def dvC{α:Type}(all:List V):List MG->List V->Cmd α->Cmd α
 |(_,.dv k off sz fo)::ms,v::vs,K=>YF off sz fo (a8F all k) λr=>b3A r v (dvC all ms vs K)|_::ms,_::vs,K=>dvC all ms vs K|[],[],K=>K|_,_,_=> .fail
def UN(E:Env)(q:Nat)(d:Option Tmp)(f:Nat)(vs:List V):Cmd Unit:=
 match YH E.fs f vs with
 |none=> .fail|some s=>dvC vs s.ps vs<|
  JI (Wq s) s.ps vs λx=>Cmd.opt (s.fn x) λr=>
   JH (s.rs++s.outs) r (O5 q d) λws n' =>bif Nat.ble n' (O5 q d+64)then(match FY s.rs.length ws with
    |some (a,o)=>bif DT a then .fail else Z9 s.ps vs o (dZ E d (a9e a))
    |none=> .fail)else .fail
def vI{α:Type} :List MG->List V->(List ((t:Ty)×t.den)->Cmd α)->Cmd α
 |(_,.rp t)::ms,v::vs,K=>rpC t v λx=>vI ms vs λcs=>K (⟨t,x⟩::cs)|[],[],K=>K []|_,_,_=> .fail
def b3x(c:(t:Ty)×t.den):V:=.dp c.1 c.2 0
def SC:List ((Nat×String)×Nat×Option Nat)->Nat->String->Option (Nat×Option Nat)
 |[],_,_=>none|((t,n),r)::l,u,m=>bif Nat.beq t u&&(n==m)then some r else SC l u m
def Ty.leaves:Ty->List Ty
 | .prod a b=>a.leaves++b.leaves| .unit=>[]|t=>[t]
def OE:List Ty->List Ty->Bool
 |[],[]=>true|a::r,b::q=>bif Ty.beq a b then OE r q else false|_,_=>false
def Ye(E:Env)(ke:Nat)(td:TD)(k:Ty):Bool:=
 match td,k with
 | .bool,.bool=>true| .int i,.int j=>decide (i=j)| .str,.str=>true| .struct _,k=>bif k.flat then(match dO E.eqs ke with|some sh=>OE sh k.leaves|none=>false)else false|_,_=>false
structure MT where
 ke:Nat
 el:Nat
 ka:Bool
 va:Bool
 k:Ty
 v:Ty
abbrev MT.ent(m:MT):Ty:=.ent m.ka m.va m.k m.v
def LX(E:Env)(t:Nat):Option MT:=
 match dO E.tt t with
 |some i=>match i.td with
  | .map ke el=>match dO E.tt ke,dO E.tt el with
   |some a,some b=>(match a.ty,b.ty with
    |some k,some v=>bif Ye E ke a.td k&&k.flat then some ⟨ke,el,bK a.td,bK b.td,k,v⟩else none
    |_,_=>none)
   |_,_=>none
  |_=>none
 |none=>none
def a3Y(ag:Bool)(t:Ty)(v:V)(K:t.den->Cmd α):Cmd α:=
 QY ag v λcs=>mJ yL t cs λx q=>match q with|[]=>K x|_=> .fail
def a5p(u:Ty)(v:V)(K:List u.den->Cmd α):Cmd α:=
 match v with
 | .sl t xs=>Ty.castL t u xs K .fail
 | .own bx none=> .get (Z5+bx) λ
  | .barr t xs=>Ty.castL t u xs K .fail| .bfrz t xs=>Ty.castL t u xs K .fail|_=> .fail
 |_=> .fail
def Ie(E:Env)(nm t:Nat)(K:V->Cmd Unit):Cmd Unit:=
 match LX E t with
 |some m=>uY nm (.barr m.ent []) (K (.own nm none))|none=> .fail
def a1u(E:Env)(t:Nat)(ok:Bool)(x ix:V)(K:V->Cmd Unit):Cmd Unit:=
 match LX E t with
 |some m=>a3Y m.ka m.k ix λkey=>a5p m.ent x λes=>
   bif ok then K (.tup [mkV m.va (flat m.v (a8w (keq m.k) es key m.v.zero) []),.b (a8x (keq m.k) es key)])
   else K (mkV m.va (flat m.v (a8w (keq m.k) es key m.v.zero) []))
 |none=> .fail
def Xq(E:Env)(t:Nat)(x ix y:V):Cmd Unit:=
 match LX E t with
 |some m=>a3Y m.ka m.k ix λkey=>a3Y m.va m.v y λz=>match x with
  | .own bx none=> .get (Z5+bx) λ
   | .barr u xs=>Ty.castL u m.ent xs (λes=>Cmd.set (Z5+bx) (.barr m.ent (a2V (keq m.k) es key z)) (.ret ())) .fail|_=> .fail
  |_=> .fail
 |none=> .fail
def PD:M->List V->Bool
 | .dat _,_=>true| .unit,_=>true
 | .own t,cs=>match cs with| .nl::_=> !t.isEnt|_=>false
 | .owns _,cs=>match cs with| .nl::_=>true|_=>false
 | .pair a b,cs=>match Rx a.size cs with|some r=>bif PD a cs then PD b r else false|none=>false
 |_,_=>false
def a2n(E:Env)(t:Nat)(m:M):Bool:=
 match AL E t with
 |some (e,_)=>match dO E.tt e with|some j=>bif Nat.beq j.zero.length j.size then PD m j.zero else false|none=>false
 |none=>false
def TP:Operand->Operand->Bool
 | .tmp a,.tmp b=>Nat.beq a b|_,_=>false
def b3v(t:Nat)(zs:List V):V:=match zs with
 |[.npt,.nl]=> .bsb t .nl|zs=> .bcells zs
def bz(E:Env)(q:Nat)(o:Oper):Cmd Unit:=
 match o.op with
 | .move x| .assign x=>qG x λv=>dZ E o.dst v
 | .pick c a b=>qG c λ
  | .b t=>bif t then qG a λva=>dZ E o.dst va else qG b λvb=>dZ E o.dst vb|_=> .fail
 | .alloc t=>tiC E t λi=>bif Nat.beq i.zero.length i.size then uY (O5 q o.dst) (b3v t i.zero) (dZ E o.dst (.ptr (O5 q o.dst) 0))else .fail
 | .box _ x=>qG x λv=>DU v λcs=>uY (O5 q o.dst) (.bcells cs) (dZ E o.dst (.ptr (O5 q o.dst) 0))
 | .build t ps=>tiC E t λi=>match i.td with
  | .struct fs=>bif a0O E fs&&Nat.beq i.zero.length i.size then(MI (ps.toList.map (·.2)) λvs=>
    Aw E t ((ps.toList.map (·.1)).zip vs) i.zero (λcs=>dZ E o.dst (.agg cs)))else .fail
  | .arr _ e=>tiC E e λj=>bif Nat.beq i.zero.length i.size then(MI (ps.toList.map (·.2)) λvs=>
    GR j.size ((ps.toList.map (·.1)).zip vs) i.zero (λcs=>dZ E o.dst (.agg cs)))else .fail
  |_=> .fail
 | .buildSlice t n ps=>match AL E t with
  |some (_,u)=>bif Nat.ble (n*u.size) 16777216 then(MI (ps.toList.map (·.2)) λvs=>match dO E.om t with
    |none=>xK u ((ps.toList.map (·.1)).zip vs) 0 n λxs=>uY (O5 q o.dst) (.barr u xs) (dZ E o.dst (.own (O5 q o.dst) none))
    |some m=>bif Nat.beq m.size u.size&&m.el then vH m ((ps.toList.map (·.1)).zip vs) 0 n λxs=>uY (O5 q o.dst) (.barrs m xs none) (dZ E o.dst (.own (O5 q o.dst) none))else .fail)else .fail
  |none=> .fail
 | .load t x=>qG x λp=>a9X E o.dst (O5 q o.dst) t p λv=>dZ E o.dst v
 | .store t x y=>match o.dst with|none=>qG x λp=>qG y λv=>a7z E t p v|some _=> .fail
 | .binOp op t x y _=>qG x λa=>qG y λb=>GU E t op y a b λv=>dZ E o.dst v
 | .unOp op _ x=>qG x λa=>unC op a λv=>dZ E o.dst v
 | .convert src t x=>qG x λa=>tiC E src λj=>tiC E t λi=>match a,i.td with
  | .i _ n,.int k=>dZ E o.dst (.i k (wrap k n))| .s l,.str=>dZ E o.dst (.s l)| .s l,.sl _=>(match j.td with| .str=>a3U E (O5 q o.dst) t l λv=>dZ E o.dst v|_=> .fail)
  |_,.str=>(match j.td with
   | .sl e=>tiC E e λk=>(match k.td with
    | .int .u8=>YG (.int .u8) a λxs=>dZ E o.dst (.s (XG xs))
    |_=> .fail)
   |_=> .fail)
  |_,_=> .fail
 | .makeSlice t l c=>match dO E.om t with
  |some m=>(match AL E t with
   |some (_,u)=>qG l λ
    | .i _ n=>bif TP l c&&Nat.beq m.size u.size&&a2n E t m then(if h:m.el=true/\m.ty=u then Cmd.opt (Jy n (m.zero h.1)) λxs=>uY (O5 q o.dst) (.barrs m xs none) (.set (Z5+(JY+O5 q o.dst)) (.blen (x8 xs) m.size) (dZ E o.dst (.own (O5 q o.dst) none)))else .fail)else .fail|_=> .fail
   |none=> .fail)
  |none=>match AL E t with
  |some (_,u)=>qG l λ
   | .i _ n=>bif TP l c then
     Cmd.opt (Jy n u.zero) λxs=>uY (O5 q o.dst) (.barr u xs) (dZ E o.dst (.own (O5 q o.dst) none))
    else qG c λ
     | .i _ k=>Cmd.br (lT n k 1073741824) (Cmd.opt (Jy n u.zero) λxs=>uY (O5 q o.dst) (.barr u xs) (dZ E o.dst (.own (O5 q o.dst) none))) .fail|_=> .fail
   |_=> .fail
  |none=> .fail
 | .slice t x lo hi none=>qG x λv=>MI (lo.toList++hi.toList) λbs=>
   match lo,hi,bs with
   |none,none,[]=>(match v with
    | .ptr bx 0=>TS E (O5 q o.dst) t bx λr=>dZ E o.dst r
    |_=>OJ E t v none none λr=>dZ E o.dst r)
   |some _,none,[a]=>OJ E t v (some a) none λr=>dZ E o.dst r
   |none,some _,[b]=>OJ E t v none (some b) λr=>dZ E o.dst r
   |some _,some _,[a,b]=>OJ E t v (some a) (some b) λr=>dZ E o.dst r|_,_,_=> .fail
 | .fieldAddr t x f=>qG x λp=>match Hl E t f with
  |some (off,_,_)=>match p with
   | .ptr bx o' =>dZ E o.dst (.ptr bx (o' +off))| .ep bx ix o' =>dZ E o.dst (.ep bx ix (o' +off))| .dp u y o' =>dZ E o.dst (.dp u y (o' +off))|_=> .fail
  |none=> .fail
 | .field t x f=>qG x λp=>match Hl E t f with
  |some (off,n,ag)=>QY true p λps=>Qm off n ps (λcs=>dZ E o.dst (mkV ag cs)) Cmd.fail|none=> .fail
 | .indexAddr t x ix=>qG x λv=>qG ix λn=>RY E t v n λr=>dZ E o.dst r
 | .index t x ix=>qG x λv=>qG ix λn=>tiC E t λi=>match i.td,v,n with
  | .str,.s l,.i _ k=>Cmd.opt (sat l k) λc=>dZ E o.dst (.i .u8 c)|_,_,_=> .fail
 | .extract x n=>qG x λ
  | .tup vs=>match vs[n]? with|some v=>dZ E o.dst v|none=> .fail
  |_=> .fail
 | .nilCheck x=>qG x λv=>match v with
  | .ptr ..| .ep ..| .dp ..| .glob _=>dZ E o.dst v|_=> .fail
 | .call c=>MI c.args.toList λvs=>match c.callee with
  | .builtin .len=>(match c.argTypes.toList,vs with
   |t::_,[x]=>tiC E t λi=>b3G i.td x λv=>dZ E o.dst v
   |_,_=> .fail)
  | .builtin .append=>(match c.argTypes.toList,vs with
   |[t,t'],[x,y]=>bif Nat.beq t t' then a0R E (O5 q o.dst) t x y λv=>dZ E o.dst v else(match y with
    | .s l=>tiC E t' λi=>(match i.td with| .str=>a0S E (O5 q o.dst) t x l λv=>dZ E o.dst v|_=> .fail)
    |_=> .fail)
   |_,_=> .fail)
  | .builtin .copy=>(match c.argTypes.toList,vs with
   |[t,t'],[x,y]=>bif Nat.beq t t' then a9Q E t x y λv=>dZ E o.dst v else .fail
   |_,_=> .fail)
  | .builtin .min=>(match vs with|[.i k a,.i k' b]=>bif decide (k=k')then dZ E o.dst (.i k (zk a b))else .fail|_=> .fail)| .builtin .max=>(match vs with|[.i k a,.i k' b]=>bif decide (k=k')then dZ E o.dst (.i k (zi a b))else .fail|_=> .fail)
  | .value (.func f)=>(match dO E.pl f with
   |some (off,sz)=>bif Nat.beq sz 0 then .fail else(match vs with|[v]=>YF off sz 0 v λr=>dZ E o.dst r|_=> .fail)
   |none=>UN E q o.dst f vs)
  | .value x=>qG x λ
   | .clos f caps=>UN E q o.dst f (vs++caps.map b3x)|_=> .fail
  | .invoke x n=>qG x λ
   | .ifc t v=>(match SC E.ms t n with
    |some (f,none)=>UN E q o.dst f (v::vs)
    |some (f,some e)=>JK E e v λr=>UN E q o.dst f (r::vs)
    |none=> .fail)
   |_=> .fail
  |_=> .fail
 | .makeFunc (.func f) first caps=>bif Nat.beq first.size 0 then(match dO E.pl f with
  |some (n,z)=>bif Nat.beq z 0&&Nat.beq caps.size n then dZ E o.dst (.idl f n)else .fail
  |none=>(match dO E.fs f with
   |some s=>MI caps.toList λvs=>vI (s.ps.drop (s.ps.length -vs.length)) vs λcs=>dZ E o.dst (.clos f cs)
   |none=> .fail))else .fail
 | .defer c=>bif Nat.beq c.args.size 0 then(match o.dst,c.callee with
  |none,.value x=>qG x λ
   | .idl f n=>(match dO E.pl f with
    |some (k,z)=>bif Nat.beq z 0&&Nat.beq n k then dZ E none .undef else .fail
    |none=> .fail)
   |_=> .fail
  |_,_=> .fail)else .fail
 | .makeInterface t x=>tiC E t λi=>(match i.td with
  | .bool| .int _| .str| .ptr _=>qG x λv=>(match v with
   | .b ..| .i ..| .s ..| .ptr ..=>dZ E o.dst (.ifc t v)
   |_=> .fail)
  |_=> .fail)
 | .typeAssert x _ t ok=>tiC E t λi=>(match i.td with
  | .other=> .fail
  |_=>qG x λ
   | .ifc t' v=>bif Nat.beq t' t then dZ E o.dst (bif ok then .tup [v,.b true]else v)else .fail
   |_=> .fail)
 | .makeMap t r=>(match r with
  |none=>Ie E (O5 q o.dst) t λv=>dZ E o.dst v
  |some h=>qG h λ
   | .i _ _=>Ie E (O5 q o.dst) t λv=>dZ E o.dst v
   |_=> .fail)
 | .range t x=>qG x λv=>tiC E t λi=>match i.td,v with
  | .str,.s l=>uY (O5 q o.dst) (.biter l 0) (dZ E o.dst (.ptr (O5 q o.dst) 0))|_,_=> .fail
 | .next x isS=>bif isS then(qG x λ
   | .ptr bx 0=> .get (Z5+bx) λ
    | .biter l p=> .br (J4 p (x8 l)) (Cmd.set (Z5+bx) (.biter l (wB l p)) (dZ E o.dst (.tup [.b true,.i .i64 p,.i .i32 (ng l p)]))) (dZ E o.dst (.tup [.b false]))|_=> .fail
   |_=> .fail)else .fail
 | .lookup t x ix ok=>qG x λm=>qG ix λk=>a1u E t ok m k λv=>dZ E o.dst v
 | .mapUpdate t x ix y| .insert t x ix y=>match o.dst with|none=>qG x λm=>qG ix λk=>qG y λv=>Xq E t m k v|some _=> .fail
 |_=> .fail
def oQ(E:Env)(q:Nat)(ops:List Oper)(o:Oper):Cmd Unit:=
 match o.guard with
 |none=>bz E q o
 |some (j,want)=>match ops[j]? with
  |some p=>match p.dst with
   |some t=>bif Nat.blt t Z5 then(.get t λ
    | .b y=>bif (bif want then y else !y)then bz E q o else dZ E o.dst .un| .un=>dZ E o.dst .un
    |_=> .fail)else .fail
   |none=> .fail
  |none=> .fail
def QD(t:Nat)(s:St)(K:St->Option R):Option R:=
 (fC s t).force λ
  | .b y=>l7 y (K (.kv t (.b true)::s)) (K (.kv t (.b false)::s))| .un=>K s|_=>none
def a9N(ops:List Oper)(o:Oper):Option Nat:=
 match o.guard with
 |some (j,_)=>match ops[j]? with|some p=>p.dst|none=>none
 |none=>match o.op with| .pick (.tmp t) _ _=>some t|_=>none
abbrev Trs:=List Tr
def KW{R:Type}(E:Env)(q:Nat)(all:List Oper):List Oper->St->Trs->(St->Trs->Option R)->Option R
 |[],s,t,K=>K s t
 |o::r,s,t,K=>match a9N all o with
  |none=>(oQ E q all o).runK s ([],[]) λ_ s' tr=>KW E q all r s' (tr::t) K
  |some p=>QD p s λs=>(oQ E q all o).runK s ([],[]) λ_ s' tr=>KW E q all r s' (tr::t) K
def IK:List Nat->List Nat->Bool
 |[],[]=>true|a::r,b::q=>bif Nat.beq a b then IK r q else false|_,_=>false
def pJ(o:Oper):Bool:=match o.op with| .call ..=>true|_=>false
def VZ(E:Env)(o:Oper):Bool:=!pJ o&&(match o.dst with|some d=>Cf d E.rc|none=>false)
def a4k(E:Env)(all:List Oper)(i:Nat):Bool:=match all[i]? with|some o=>VZ E o|none=>false
def VQ(all:List Oper)(i:Nat):Bool:=match all[i]? with|some o=>pJ o|none=>false
def a7M(a b:V)(K:Option R):Option R:=
 a.force λa=>b.force λb=>match a with
  | .i k n=>(match b with| .i k' n' =>bif decide (k=k')then l7 (D6 n n') K none else none|_=>none)| .sl t xs=>(match b with| .sl u ys=>Ty.castL u t ys (λys=>l7 (deq (.sl t) xs ys) K none) none|_=>none)| .b x=>(match b with| .b y=>l7 (QS x y) K none|_=>none)| .s x=>(match b with| .s y=>l7 (seq x y) K none|_=>none)|_=>none
abbrev a2p:=List (Oper×Tr×V)
def Vu{R:Type}(E:Env)(q:Nat)(all:List Oper)(s:St):a2p->Option R->Option R
 |[],K=>K
 |(o,tr,v)::p,K=>(oQ E q all o).runK s ([],[]) λ_ s2 tr2=>match o.dst with
  |some d=>bif IK tr.1 tr2.1&&IK tr.2 tr2.2&&IK tr2.2 [d]then a7M v (fC s2 d) (Vu E q all s p K)else none|none=>none
def Ti(E:Env)(o:Oper)(s:St)(tr:Tr)(p:a2p):a2p:=
 bif VZ E o then(match o.dst with|some d=>(o,tr,fC s d)::p|none=>p)else p
def yR{R:Type}(E:Env)(q:Nat)(all:List Oper):List Oper->St->Trs->a2p->(St->Trs->Option R)->Option R
 |[],s,t,_,K=>K s t
 |o::r,s,t,p,K=>match a9N all o with
  |none=>(oQ E q all o).runK s ([],[]) λ_ s' tr=>bif pJ o then Vu E q all s' p (yR E q all r s' (tr::t) p K)else yR E q all r s' (tr::t) (Ti E o s' tr p) K
  |some g=>QD g s λs=>(oQ E q all o).runK s ([],[]) λ_ s' tr=>bif pJ o then Vu E q all s' p (yR E q all r s' (tr::t) p K)else yR E q all r s' (tr::t) (Ti E o s' tr p) K
def Qa(a b:List Nat):Bool:=match a with|[]=>true|k::r=>bif Cf k b then false else Qa r b
def H_(ordered:Bool)(x y:Tr):Bool:=bif ordered then true else(Qa x.2 y.1&&Qa x.2 y.2&&Qa x.1 y.2)
def Qz(mask:Nat)(y:Tr):Trs->Nat->Bool
 |[],_=>true|x::r,i=>H_ (Nat.testBit mask (i -1)) x y&&Qz mask y r (i -1)
def SV:List Nat->Trs->Bool
 |m::ms,y::r=>Qz m y r r.length&&SV ms r|[],[]=>true|_,_=>false
def a1y(mask:Nat)(x:Tr):List (Nat×Tr)->Bool
 |[]=>true|(m,z)::r=>(Nat.testBit mask m || Qa x.1 z.2)&&a1y mask x r
def a1E(ordered ex:Bool)(mask:Nat)(x y:Tr)(mids:List (Nat×Tr)):Bool:=
 bif ordered then true else(Qa x.2 y.1&&Qa x.2 y.2&&(bif Qa x.1 y.2 then true else(ex&&Qa x.2 x.1&&a1y mask x mids)))
def Me(E:Env)(all:List Oper)(mask:Nat)(y:Tr)(cy:Bool):Trs->Nat->List (Nat×Tr)->Bool
 |[],_,_=>true|x::r,i,mids=>a1E (Nat.testBit mask (i -1)) (cy&&a4k E all (i -1)) mask x y mids&&Me E all mask y cy r (i -1) ((i -1,x)::mids)
def MC(E:Env)(all:List Oper):List Nat->Trs->Bool
 |m::ms,y::r=>Me E all m y (VQ all r.length) r r.length []&&MC E all ms r|[],[]=>true|_,_=>false
inductive Flow (ρ:Type) where
 |nm|ex (id:Nat)|rt (r:ρ)
def JG(acc:List Nat)(n:Nat):List Edge->Nat->Option Nat
 |[],m=>some m
 |e::r,m=>match e.ground with
  | .textOnly _=>JG acc n r m| .gcOnly _=>JG acc n r m|_=>bif Nat.blt e.on n then JG acc n r (m ||| 2^e.on ||| acc.getD (n -1 -e.on) 0)else none
def WI:List Oper->Nat->List Nat->Option (List Nat)
 |[],_,acc=>some acc
 |o::r,n,acc=>match JG acc n o.after.toList 0 with
  |some m=>WI r (n+1) (m::acc)|none=>none
def KR(md:Region.Mode)(done:List Nat):List Edge->Bool
 |[]=>true|e::r=>bif (!Region.binds md e || Cf e.on done)then KR md done r else false
def vN(md:Region.Mode)(done:List Nat):List Oper->Nat->Option Nat
 |[],_=>none|o::r,n=>bif Cf n done then vN md done r (n+1)else bif KR md done o.after.toList then some n else vN md done r (n+1)
def a0N:Nat->List Nat->Bool
 |0,_=>true|n+1,d=>Cf n d&&a0N n d
def Xo(md:Region.Mode)(ops:List Oper):Nat->List Nat->Bool
 |0,d=>a0N ops.length d
 |k+1,done=>match vN md done ops 0 with|some n=>Xo md ops k (n::done)|none=>false
def Oq:List Edge->Bool
 |[]=>true
 |e::r=>match e.ground with| .textOnly _=>false| .gcOnly _=>false|_=>Oq r
def CG:List Oper->Bool|[]=>true|o::r=>bif Oq o.after.toList then CG r else false
def a4c(ops:List Oper)(t:Trs):Bool:=
 match WI ops 0 []with
 |some ms=>bif SV ms t then(bif CG ops then true else Xo .text ops ops.length []&&Xo .gc ops ops.length [])else false|none=>false
def a1a(E:Env)(ops:List Oper)(t:Trs):Bool:=
 match WI ops 0 []with
 |some ms=>bif MC E ops ms t then(bif CG ops then true else Xo .text ops ops.length []&&Xo .gc ops ops.length [])else false|none=>false
abbrev Rgs:=List (Nat×Nat)
inductive Ann where
 |leaf
 |seq (a b:Ann)|cond (a b:Ann)|blk (a:Ann)
 |loop (rs:Rgs) (hd:Sig) (xid:Nat) (xs:Sig) (body:Ann)
 |loopR (rs:Rgs) (hd:Sig) (xid:Nat) (xs:Sig) (body:Ann)
 |join (rs:Rgs) (nm:Sig) (inner:Ann)
 |joinR (rs:Rgs) (nm:Sig) (inner:Ann)
structure Ret where
 rs:List (ResultVar×MG)
 outs:List (Nat×MG)
@[reducible] def Ret.den (r:Ret):Type:=aP (r.rs.map (·.2)++r.outs.map (·.2))
def OB{α:Type}(E:Env):List ResultVar->(List V->Cmd α)->Cmd α
 |[],K=>K []| .tmp t::r,K=>bif Nat.blt t Z5 then(.get t λv=>OB E r λvs=>K (v::vs))else .fail| .cell a t::r,K=>bif Nat.blt a Z5 then(.get a λp=>JK E t p λv=>OB E r λvs=>K (v::vs))else .fail
def Om{α:Type} :List Nat->(List V->Cmd α)->Cmd α
 |[],K=>K []
 |n::r,K=>bif Nat.blt n Z5 then .get n λv=>(match v with
  | .ptr bx 0=> .get (Z5+bx) λ
   | .bcells cs=>Cmd.set (Z5+bx) .dead (Om r λvs=>K (.agg cs::vs))|_=> .fail
  | .ifc _ u=>(match u with
   | .ptr bx 0=> .get (Z5+bx) λ
    | .bcells cs=>Cmd.set (Z5+bx) .dead (Om r λvs=>K (.agg cs::vs))|_=> .fail
   |_=> .fail)
  | .own bx none=>Om r λvs=>K (.own bx none::vs)
  |_=> .fail)else .fail
def a9f(E:Env)(r:Ret):Cmd r.den:=
 OB E (r.rs.map (·.1)) λvs=>Om (r.outs.map (·.1)) λws=>JI yL (r.rs.map (·.2)++r.outs.map (·.2)) (vs++ws) .ret
def Ann.l:Ann->Ann| .seq a _=>a| .cond a _=>a| .blk a=>a|_=> .leaf
def Ann.r:Ann->Ann| .seq _ b=>b| .cond _ b=>b|_=> .leaf
def xO:Code->Nat
 | .region ..=>2| .seq x y=>1+xO x+xO y| .cond _ x y=>1+xO x+xO y| .block _ x=>1+xO x| .loop x=>3+xO x|_=>1
abbrev Den(ρ:Type):=Nat->Ann->St->Rgs->(R:Type)->(Flow ρ->St->Rgs->Option R)->Option R
def a2L(lo hi:Nat):Rgs->Bool|[]=>false|(a,b)::r=>bif Nat.ble a lo&&Nat.ble hi b then true else a2L lo hi r
def Rk(lim:Nat)(rs:Rgs):Rgs->Bool|[]=>true|(a,b)::w=>bif Nat.ble lim a || a2L a b rs then Rk lim rs w else false
def LP(ks:List Nat)(w:Rgs):Rgs:=match ks with|[]=>w|k::r=>(k,k+1)::LP r w
def Ce(rs:Rgs)(s:St):St:=match rs with|[]=>s|(a,b)::r=> .mask a b::Ce r s
def JJ(q:Nat)(sg:Sig)(rs:Rgs)(s:St)(w:Rgs)(K:qI sg->Option R):Option R:=
 (a4m sg).runK s ([],[]) λx _ tr=>bif Rk (Z5+CB*q) rs (LP tr.2 w)then K x else none
def enter(q:Nat)(sg:Sig)(rs:Rgs)(s:St)(x:qI sg)(K:St->Rgs->Option R):Option R:=
 (a4e sg x (CB*q) (CB*q+CB)).runK (Ce rs s) ([],[]) λ_ s' tr=>K s' (LP tr.2 rs)
def QO(a b:Rgs):Rgs:=match a with|[]=>b|x::r=>x::QO r b
def GG(core:Den ρ):Den ρ:=λq a s w R K=>
 match a with
 | .join rs nm a=>l9 (core (q+1) a s [] (qI nm) λfl s' w' =>match fl with
   | .nm=>JJ q nm rs s' w' some
   |_=>none) λx=>enter q nm rs s x λs' w' =>K .nm s' (QO w' w)
 | .joinR rs nm a=>l9 (core (q+1) a s [] (qI nm⊕ρ) λfl s' w' =>match fl with
   | .nm=>JJ q nm rs s' w' λx=>some (Sum.inl x)| .rt r=>some (Sum.inr r)
   |_=>none) λo=>aj o (λx=>enter q nm rs s x λs' w' =>K .nm s' (QO w' w)) (λr=>K (.rt r) [] [])
 |a=>core (q+1) a s w R K
def a6c(core:Den ρ)(q:Nat)(rs:Rgs)(hd:Sig)(xid:Nat)(xs:Sig)(a:Ann)(s:St)(x:qI hd):Option (qI hd⊕qI xs):=
 enter q hd rs s x λs w=>core (q+2) a s w (qI hd⊕qI xs) λfl s' w' =>match fl with
  | .nm=>JJ q hd rs s' w' λx=>some (Sum.inl x)
  | .ex id=>bif Nat.beq id xid then JJ q xs rs s' w' λy=>some (Sum.inr y)else none| .rt _=>none
def a6d(core:Den ρ)(q:Nat)(rs:Rgs)(hd:Sig)(xid:Nat)(xs:Sig)(a:Ann)(s:St)(x:qI hd):Option (Out (qI hd) (qI xs) ρ):=
 enter q hd rs s x λs w=>core (q+2) a s w (Out (qI hd) (qI xs) ρ) λfl s' w' =>match fl with
  | .nm=>JJ q hd rs s' w' λx=>some (.nx x)
  | .ex id=>bif Nat.beq id xid then JJ q xs rs s' w' λy=>some (.ex y)else none| .rt r=>some (.rt r)
def Yl(core:Den ρ):Den ρ:=λq a s w R K=>
 match a with
 | .loop rs hd xid xs a=>JJ q hd rs s [] λx0=>
  l9 (dD (λx=>a6c core q rs hd xid xs a s x) x0) λy=>enter (q+1) xs rs s y λs' w' =>K (.ex xid) s' (QO w' w)
 | .loopR rs hd xid xs a=>JJ q hd rs s [] λx0=>
  l9 (S9 (λx=>a6d core q rs hd xid xs a s x) x0) λo=>aj o (λy=>enter (q+1) xs rs s y λs' w' =>K (.ex xid) s' (QO w' w)) (λr=>K (.rt r) [] [])
 |_=>none
def AV(t:Trs)(w:Rgs):Rgs:=match t with|[]=>w|x::r=>LP x.2 (AV r w)
def WM(E:Env)(q:Nat)(ops:Array Oper)(draw:Bool)(s:St)(w:Rgs)(K:St->Rgs->Option R):Option R:=
 match E.rc with
 |[]=>KW E q ops.toList ops.toList s [] λs' t=>
  bif draw then(bif a4c ops.toList t then K s' (AV t w)else none)else K s' (AV t w)
 |_::_=>yR E q ops.toList ops.toList s [] [] λs' t=>
  bif draw then(bif a1a E ops.toList t then K s' (AV t w)else none)else K s' (AV t w)
def den(E:Env)(rt:Ret):Code->Den rt.den
 | .skip=>GG λ_ _ s w _ K=>K .nm s w
 | .label _=>GG λ_ _ s w _ K=>K .nm s w
 | .region _ ops draw=>GG λq _ s w _ K=>WM E q ops draw s w λs' w' =>K .nm s' w'
 | .seq x y=>GG λq a s w R K=>den E rt x q a.l s w R λfl s' w' =>match fl with
   | .nm=>den E rt y (q+xO x) a.r s' w' R K| .ex id=>K (.ex id) s' w'| .rt r=>K (.rt r) s' w'
 | .cond c x y=>GG λq a s w R K=>(qG c λv=>Cmd.ret v:Cmd V).runK s ([],[]) λv s' _=>match v with
   | .b t=>l7 t (den E rt x q a.l s' w R K) (den E rt y (q+xO x) a.r s' w R K)|_=>none
 | .block id x=>GG λq a s w R K=>den E rt x q a.l s w R λfl s' w' =>match fl with
   | .nm=>K .nm s' w'| .ex j=>bif Nat.beq j id then K .nm s' w' else K (.ex j) s' w'| .rt r=>K (.rt r) s' w'
 | .loop x=>GG (Yl λq a s w R K=>den E rt x q a s w R K)
 | .exit id=>GG λ_ _ s w _ K=>K (.ex id) s w
 | .ret=>GG λ_ _ s _ _ K=>(a9f E rt).runK s ([],[]) λr _ _=>K (.rt r) [] []
 |_=>λ_ _ _ _ _ _=>none
def lN:List MG->Nat->List Nat
 |[],_=>[]|(_,.box _)::ms,n=>n::lN ms (n+1)|(_,.ifc _ (.box _))::ms,n=>n::lN ms (n+1)|(_,.ownb _)::ms,n=>n::lN ms (n+1)|_::ms,n=>lN ms (n+1)
def a7A:List Nat->List Nat->Bool
 |[],_=>true|a::r,b=>bif Cf a b then a7A r b else false
def a8A:List MG->Bool
 |[]=>true|(_,.sbx _ _)::_=>false|(_,.sit)::_=>false|_::r=>a8A r
def ZY:List MG->Nat->Cmd Unit->Cmd Unit
 |[],_,K=>K
 |(_,.dv k off sz fo)::ms,n,K=>bif Nat.blt k Z5&&Nat.blt n Z5 then .get k λv=>YF off sz fo v λr=> .set n r (ZY ms (n+1) K)else .fail|_::ms,n,K=>ZY ms (n+1) K
def a2x(E:Env)(ps:List MG)(rt:Ret)(body:Code)(a:Ann)(x:aP ps):Option rt.den:=
 bif Nat.ble ps.length E.nt&&IK (rt.outs.map (·.1)) (lN ps 0)&&a7A (rt.outs.map (·.1)) E.kp&&a8A ps then
 (JH ps x 0 λvs n=>bif Nat.ble n CB then Jr (List.range vs.length) vs (ZY ps 0 (.ret ()))else .fail).runK [] ([],[]) λ_ s _=>
  den E rt body 1 a s [] rt.den λfl s' _=>match fl with
   | .rt r=>some r
   | .nm=>(a9f E rt).runK s' ([],[]) λr _ _=>some r| .ex _=>none
 else none
end Go.GP
namespace Go.GP
open RowKit
def dE(h:Array Obj)(blk off n:Nat):Option (List Value):=
 match h[blk]? with
 |some (.cells c _ _)=>if off+n<=c.size then some ((c.toList.drop off).take n)else none|_=>none
variable {h:Array Obj}{h':Array Obj}{blk:Nat}
theorem rH(e:h'[blk]? =h[blk]?)(off n:Nat):dE h' blk off n=dE h blk off n:=by simp[dE,e]
variable {n:Nat}{off:Nat}{es:List Value}
theorem qp(e:dE h blk off n=some es):es.length=n:=by
 unfold dE at e;split at e
 .split at e
  .cases e;simp;omega
  .cases e
 .cases e
theorem jO{c:Array Value}{T:TypeId}{f:Nat×Nat}(hb:h[blk]? =some (.cells c T f))(off n:Nat)(hn:off+n<=c.size):
  dE h blk off n=some ((c.toList.drop off).take n):=by simp[dE,hb,hn]
theorem uf(e:dE h blk off n=some es):
  ∃c T f,h[blk]? =some (.cells c T f)/\off+n<=c.size/\es=(c.toList.drop off).take n:=by
 unfold dE at e;split at e
 .rename_i c T f hb;split at e
  .cases e;exact⟨c,T,f,hb,by assumption,rfl⟩
  .cases e
 .cases e
theorem xU(e:dE h blk off n=some es)(a k:Nat)(hk:a+k<=n):
  dE h blk (off+a) k=some ((es.drop a).take k):=by
 obtain⟨c,T,f,hb,hn,rfl⟩:=uf e;rw[jO hb _ _ o5];congr 1;rw[gX,fF,X0];congr 1;omega
def sH(ag:Bool)(v:Value):List Value:=match ag with
 |true=>v.cells.toList|false=>[v]
def gok(ag:Bool)(v:Value):Prop:=match ag with
 |true=>∃arr,v= .agg arr|false=>v.oneCell' =true
def yx(t:Ty)(e:MapEntry):List Value:=match t with
 | .ent ka va _ _=>sH ka e.key++sH va e.val|_=>[]
def LC(t:Ty)(e:MapEntry):Prop:=match t with
 | .ent ka va k v=>gok ka e.key/\gok va e.val/\(sH ka e.key).length=k.size|_=>False
def b3q:Option IntKind->Value->Prop
 |none,_=>True|some k,v=>∃n,v= .int k n
def lw(h:Array Obj)(ok:Nat->Ty->Prop):(t:Ty)->t.den->List Value->Prop
 | .ent _ _ a b,x,cs=>∃c d,cs=c++d/\lw h ok a x.1 c/\lw h ok b x.2 d| .bool,x,cs=>cs=[.bool x]| .int k,n,cs=>cs=[.int k n]| .str,l,cs=>cs=[.string ⟨l.toArray⟩]| .prod a b,x,cs=>∃c d,cs=c++d/\lw h ok a x.1 c/\lw h ok b x.2 d| .unit,_,cs=>cs=[]| .any o,_,cs=>∃v,cs=[v]/\v.oneCell' =true/\b3q o v
 | .sl t,xs,cs=>(t.isEnt=false/\∃a cap,cs=[.slice a xs.length cap]/\xs.length<=cap/\
   ∀i x,xs[i]? =some x->∃blk off es,a=some ⟨blk,off,none⟩/\ok blk t/\dE h blk (off+i*t.size) t.size=some es/\lw h ok t x es)\/
   (t.isEnt=true/\∃mv,cs=[.map mv]/\(mv=none->xs=[])/\∀blk,mv=some blk->ok blk t/\∃(es:Array MapEntry) (ck:Nat),h[blk]? =some (.map es ck)/\es.size=(xs:List t.den).length/\
    ∀(i:Nat) (x:t.den),(xs:List t.den)[i]? =some x->∃e:MapEntry,es[i]? =some e/\LC t e/\lw h ok t x (yx t e))
variable {t:Ty}{xs:List t.den}{ok:Nat->Ty->Prop}
theorem xQ{cs:List Value}(ht:t.isEnt=false):lw h ok (.sl t) xs cs↔∃a cap,cs=[.slice a xs.length cap]/\xs.length<=cap/\
   ∀i x,xs[i]? =some x->∃blk off es,a=some ⟨blk,off,none⟩/\ok blk t/\dE h blk (off+i*t.size) t.size=some es/\lw h ok t x es:=by
 constructor
 .rintro(h|h)
  .exact h.2
  .rw[ht]at h;cases h.1
 .exact λh=> .inl ⟨ht,h⟩
theorem X_{cs:List Value}(ht:t.isEnt=true):lw h ok (.sl t) xs cs↔∃mv,cs=[.map mv]/\(mv=none->xs=[])/\∀blk,mv=some blk->ok blk t/\∃(es:Array MapEntry) (ck:Nat),h[blk]? =some (.map es ck)/\es.size=(xs:List t.den).length/\
    ∀(i:Nat) (x:t.den),(xs:List t.den)[i]? =some x->∃e:MapEntry,es[i]? =some e/\LC t e/\lw h ok t x (yx t e):=by
 constructor
 .rintro(h|h)
  .rw[ht]at h;cases h.1
  .exact h.2
 .exact λh=> .inr ⟨ht,h⟩
theorem eY{h:Array Obj}{ok:Nat->Ty->Prop} :∀{t:Ty} {x:t.den} {cs:List Value},lw h ok t x cs->cs.length=t.size
 | .bool,_,_,e=>by simp[lw]at e;simp[e,Ty.size]| .int _,_,_,e=>by simp[lw]at e;simp[e,Ty.size]| .str,_,_,e=>by simp[lw]at e;simp[e,Ty.size]| .unit,_,_,e=>by simp[lw]at e;simp[e,Ty.size]| .any _,_,_,e=>by obtain⟨v,rfl,_⟩:=e;rfl
 | .prod a b,_,_,e=>by obtain⟨c,d,rfl,h1,h2⟩:=e;simp[eY h1,eY h2,Ty.size]
 | .ent _ _ a b,_,_,e=>by obtain⟨c,d,rfl,h1,h2⟩:=e;simp[eY h1,eY h2,Ty.size]
 | .sl t,_,_,e=>by rcases e with⟨_,a,cap,rfl,_⟩|⟨_,mv,rfl,_⟩<;>simp[Ty.size]
theorem fA{h h' :Array Obj}{ok ok' :Nat->Ty->Prop}(hok:∀b t,ok b t->ok' b t)(hh:∀b t,ok b t->h'[b]? =h[b]?):
  ∀{t:Ty} {x:t.den} {cs:List Value},lw h ok t x cs->lw h' ok' t x cs
 | .bool,_,_,e=>e| .int _,_,_,e=>e| .str,_,_,e=>e| .unit,_,_,e=>e| .any _,_,_,e=>e| .prod a b,_,_,e=>by obtain⟨c,d,rfl,h1,h2⟩:=e;exact⟨c,d,rfl,fA hok hh h1,fA hok hh h2⟩
 | .ent _ _ a b,_,_,e=>by obtain⟨c,d,rfl,h1,h2⟩:=e;exact⟨c,d,rfl,fA hok hh h1,fA hok hh h2⟩
 | .sl t,xs,_,e=>by
  rcases e with⟨ht,a,cap,rfl,hc,hx⟩|⟨ht,mv,rfl,hn,hx⟩
  .refine .inl ⟨ht,a,cap,rfl,hc,λi x hi=>?_⟩;obtain⟨blk,off,es,ha,hb,he,hr⟩:=hx i x hi;exact⟨blk,off,es,ha,hok _ _ hb,by rw[rH (hh _ _ hb)];exact he,fA hok hh hr⟩
  .refine .inr ⟨ht,mv,rfl,hn,λblk hb=>?_⟩;obtain⟨ho,es,ck,he,hs,hi⟩:=hx blk hb;refine⟨hok _ _ ho,es,ck,by rw[hh _ _ ho];exact he,hs,λi x hx=>?_⟩;obtain⟨e,h1,h2,h3⟩:=hi i x hx;exact⟨e,h1,h2,fA hok hh h3⟩
theorem yP{h h' :Array Obj}{ok ok' :Nat->Ty->Prop} :∀{t:Ty} {x:t.den} {cs:List Value},t.flat=true->lw h ok t x cs->lw h' ok' t x cs
 | .bool,_,_,_,e=>e| .int _,_,_,_,e=>e| .str,_,_,_,e=>e| .unit,_,_,_,e=>e| .prod a b,_,_,f,e=>by simp[Ty.flat]at f;obtain⟨c,d,rfl,h1,h2⟩:=e;exact⟨c,d,rfl,yP f.1 h1,yP f.2 h2⟩
 | .sl t,xs,_,f,e=>by simp[Ty.flat]at f| .ent ..,xs,_,f,e=>by simp[Ty.flat]at f| .any _,xs,_,f,e=>by simp[Ty.flat]at f
theorem wo{h:Array Obj}{ok:Nat->Ty->Prop} :∀{t:Ty} {x:t.den} {cs:List Value},lw h ok t x cs->∀v∈cs,v.oneCell' =true
 | .bool,_,_,e=>by simp[lw]at e;subst e;simp[Value.oneCell']| .int _,_,_,e=>by simp[lw]at e;subst e;simp[Value.oneCell']| .str,_,_,e=>by simp[lw]at e;subst e;simp[Value.oneCell']| .unit,_,_,e=>by simp[lw]at e;subst e;simp| .any _,_,_,e=>by obtain⟨v,rfl,h,_⟩:=e;simp[h]
 | .prod a b,_,_,e=>by
  obtain⟨c,d,rfl,h1,h2⟩:=e;intro v hv;rcases F9.1 hv with hv|hv
  .exact wo h1 v hv
  .exact wo h2 v hv
 | .ent _ _ a b,_,_,e=>by
  obtain⟨c,d,rfl,h1,h2⟩:=e;intro v hv;rcases F9.1 hv with hv|hv
  .exact wo h1 v hv
  .exact wo h2 v hv
 | .sl t,xs,_,e=>by rcases e with⟨_,a,cap,rfl,_⟩|⟨_,mv,rfl,_⟩<;>simp[Value.oneCell']
theorem wW{h:Array Obj}{ok ok' :Nat->Ty->Prop} :∀{t:Ty} {x:t.den} {cs:List Value},(∀b u,ok b u->Ty.occ u t=true->ok' b u)->lw h ok t x cs->lw h ok' t x cs
 | .bool,_,_,_,e=>e| .int _,_,_,_,e=>e| .str,_,_,_,e=>e| .unit,_,_,_,e=>e| .any _,_,_,_,e=>e| .prod a b,_,_,f,e=>by obtain⟨c,d,rfl,h1,h2⟩:=e;exact⟨c,d,rfl,wW (λb u h k=>f b u h (by simp[Ty.occ,k])) h1,wW (λb u h k=>f b u h (by simp[Ty.occ,k])) h2⟩
 | .ent _ _ a b,_,_,f,e=>by obtain⟨c,d,rfl,h1,h2⟩:=e;exact⟨c,d,rfl,wW (λb u h k=>f b u h (by simp[Ty.occ,k])) h1,wW (λb u h k=>f b u h (by simp[Ty.occ,k])) h2⟩
 | .sl t,xs,_,f,e=>by
  rcases e with⟨ht,a,cap,rfl,hc,hx⟩|⟨ht,mv,rfl,hn,hx⟩
  .refine .inl ⟨ht,a,cap,rfl,hc,λi x hi=>?_⟩;obtain⟨blk,off,es,ha,hb,he,hr⟩:=hx i x hi;exact⟨blk,off,es,ha,f _ _ hb (by simp[Ty.occ]),he,wW (λb u h k=>f b u h (by simp[Ty.occ,k])) hr⟩
  .refine .inr ⟨ht,mv,rfl,hn,λblk hb=>?_⟩;obtain⟨ho,es,ck,he,hs,hi⟩:=hx blk hb;refine⟨f _ _ ho (by simp[Ty.occ]),es,ck,he,hs,λi x hx=>?_⟩;obtain⟨e,h1,h2,h3⟩:=hi i x hx;exact⟨e,h1,h2,wW (λb u h k=>f b u h (by simp[Ty.occ,k])) h3⟩
inductive Loc where
 |nil|arr (blk off len cap sz:Nat)|st (blk:Nat)|mp (blk:Nat)
structure Mp where
 loc:Nat->Option Loc
 kid:Nat->List Nat
instance:CoeFun Mp (λ_=>Nat->Option Loc):=⟨Mp.loc⟩
def nom:Mp:=⟨λ_=>none,λ_=>[]⟩
structure Cx where
 h:Array Obj
 ok:Nat->Ty->Prop
 m:Mp
def Loc.view:Loc->Option (Nat×Nat)->Value->Prop
 | .nil,none,v=>v= .slice none 0 0| .nil,some (lo,hi),v=>lo=0/\hi=0/\v= .slice none 0 0| .arr blk off len cap _,none,v=>v= .slice (some ⟨blk,off,none⟩) len cap| .arr blk off len cap sz,some (lo,hi),v=>lo<=hi/\hi<=len/\v= .slice (some (if cap=lo then⟨blk,off,none⟩else⟨blk,off+lo*sz,none⟩)) (hi -lo) (cap -lo)| .st _,_,_=>False| .mp b,none,v=>v= .map (some b)| .mp _,some _,_=>False
def Loc.blks:Loc->List Nat
 | .nil=>[]| .arr b _ _ _ _=>[b]| .st b=>[b]| .mp b=>[b]
def VX(h:Array Obj)(ok:Nat->Ty->Prop)(t:Ty)(x:t.den)(o:Nat)(v:Value):Prop:=
 ∃blk off es,v= .pointer (some ⟨blk,off+o,none⟩)/\ok blk t/\dE h blk off t.size=some es/\lw h ok t x es
def BL(h:Array Obj)(ok:Nat->Ty->Prop):List ((t:Ty)×t.den)->List Value->Prop
 |[],vs=>vs=[]|c::cs,vs=>∃v r,vs=v::r/\VX h ok c.1 c.2 0 v/\BL h ok cs r
def uM(C:Cx):V->Value->Prop
 | .undef,_=>True| .un,v=>v=Go.undef| .b x,v=>v= .bool x| .i k n,v=>v= .int k n| .s l,v=>v= .string ⟨l.toArray⟩| .nl,v=>v= .slice none 0 0| .npt,v=>v= .pointer none| .ne b,v=>∃a c,v= .slice a 0 c/\a.isNone=b| .sl t xs,v=>lw C.h C.ok (.sl t) xs [v]| .own bx vw,v=>∃loc,C.m bx=some loc/\loc.view vw v| .ptr bx o,v=>∃blk,C.m bx=some (.st blk)/\v= .pointer (some ⟨blk,o,none⟩)| .ep bx ix o,v=>∃blk off len cap sz,C.m bx=some (.arr blk off len cap sz)/\ix<len/\v= .pointer (some ⟨blk,off+ix*sz+o,none⟩)| .dp t x o,v=>VX C.h C.ok t x o v| .glob g,v=>v= .pointer (some ⟨g,0,none⟩)| .fnv f,v=>v= .func (.func f) #[] #[]| .idl f n,v=>∃cap:Array Value,v= .func (.func f) #[] cap/\cap.size=n| .clos f caps,v=>∃vs,v= .func (.func f) #[] vs/\BL C.h C.ok caps vs.toList| .ifc t c,v=>∃u,v= .iface t u/\u.oneCell' =true/\uM C c u|_,_=>False
def gu(C:Cx):List V->List Value->Prop
 |[],vs=>vs=[]|c::cs,vs=>∃v r,vs=v::r/\uM C c v/\v.oneCell' =true/\gu C cs r
def TA(C:Cx):V->Value->Prop
 | .agg cs,v=>∃arr,v= .agg arr/\gu C cs arr.toList|c,v=>uM C c v
def WQ(C:Cx):List V->List Value->Prop
 |[],vs=>vs=[]|c::cs,vs=>∃v r,vs=v::r/\TA C c v/\WQ C cs r
def lu(C:Cx):V->Value->Prop
 | .tup cs,v=>∃arr,v= .tuple arr/\WQ C cs arr.toList|c,v=>TA C c v
def fzo(t:Ty)(n:Nat)(f:Nat×Nat):Prop:=f=(0,0)\/(t= .int .u8/\f=(n,n+1))
theorem fzo.of{f:Nat×Nat}(h:fzo t n f):f=(0,0)\/f=(n,n+1):=h.elim .inl λh=> .inr h.2
def arrOk(C:Cx)(t:Ty)(xs:List t.den):Loc->Prop
 | .nil=>xs=[]/\t.isEnt=false| .arr blk off len cap sz=>t.isEnt=false/\sz=t.size/\len=xs.length/\len<=cap/\∃c T f,C.h[blk]? =some (.cells c T f)/\fzo t c.size f/\off+cap*sz<=c.size/\
   ∀i x,xs[i]? =some x->∃es,dE C.h blk (off+i*sz) sz=some es/\lw C.h C.ok t x es
 | .st _=>False| .mp blk=>t.isEnt=true/\∃(es:Array MapEntry) (ck:Nat),C.h[blk]? =some (.map es ck)/\es.size=xs.length/\
   ∀(i:Nat) (x:t.den),(xs:List t.den)[i]? =some x->∃e:MapEntry,es[i]? =some e/\LC t e/\lw C.h C.ok t x (yx t e)
def AC{α:Type}(h:Array Obj)(sz:Nat)(R:Nat->α->List Value->List Nat->Prop)(xs:List α)(Os:List (List Nat)):Loc->Prop
 | .nil=>xs=[]/\Os=[]| .arr blk off len cap sz' =>sz' =sz/\len=xs.length/\len<=cap/\Os.length=xs.length/\∃c T,h[blk]? =some (.cells c T (0,0))/\off+cap*sz<=c.size/\
   ∀i x,xs[i]? =some x->∃es O,Os[i]? =some O/\dE h blk (off+i*sz) sz=some es/\R i x es O
 | .st _=>False| .mp _=>False
def yQ(h:Array Obj)(te:Nat)(xs:List UInt8):Loc->Prop
 | .nil=>xs=[]
 | .arr g off len cap sz=>off=0/\sz=1/\len=xs.length/\len<=cap/\cap<=maxLen/\∃cur fz,h[g]? =some (.cells cur te fz)/\fz.2<=len/\cur.size=cap/\cur.toList.take len=xs.map λc=>Value.int .u8 (c.toNat:Int)| .st _=>False| .mp _=>False
variable {l:Loc}
theorem CS{te:Nat}{xs:List UInt8}(hh:∀b∈l.blks,h'[b]? =h[b]?)(hr:yQ h te xs l):yQ h' te xs l:=by
 cases l with
 |nil=>exact hr|st b=>exact hr|mp b=>exact hr|arr g off len cap sz=>obtain⟨h1,h2,h3,h4,h5,cur,fz,h6,h7⟩:=hr;exact⟨h1,h2,h3,h4,h5,cur,fz,by rw[hh g (by simp[Loc.blks])];exact h6,h7⟩
def qg(h:Array Obj)(ok:Nat->Ty->Prop):(m:M)->Option Nat->m.den->List Value->List Nat->Prop
 | .dat t,_,x,cs,O=>lw h ok t x cs/\O=[]| .own t,ho,xs,cs,O=>∃v,cs=[v]/\v.oneCell' =true/\(match ho with|some 0=>O=[]|_=>∃l,l.view none v/\arrOk ⟨h,ok,nom⟩ t xs l/\O=l.blks)| .pair a b,ho,x,cs,O=>∃c d O1 O2,cs=c++d/\O=O1++O2/\qg h ok a (match ho with|some o=>if o<a.size then some o else none|none=>none) x.1 c O1/\
   qg h ok b (match ho with|some o=>if o<a.size then none else some (o -a.size)|none=>none) x.2 d O2
 | .unit,_,_,cs,O=>cs=[]/\O=[]| .box m,_,x,cs,O=>∃blk arr T O',cs=[.pointer (some ⟨blk,0,none⟩)]/\h[blk]? =some (.cells arr T (0,0))/\qg h ok m none x arr.toList O' /\O=blk::O'| .owns m,ho,xs,cs,O=>∃v,cs=[v]/\v.oneCell' =true/\(match ho with|some 0=>O=[]|_=>m.el=true/\∃l Os,l.view none v/\AC h m.size (λ_ x es O=>qg h ok m none x es O) xs Os l/\O=l.blks++Os.flatten)| .ownb t,_,xs,cs,O=>∃l v,cs=[v]/\l.view none v/\arrOk ⟨h,ok,nom⟩ t xs l/\O=l.blks| .rp t,_,x,cs,O=>∃v,cs=[v]/\VX h ok t x 0 v/\O=[]| .fn f ts,_,x,cs,O=>∃vs,cs=[.func (.func f) #[] vs]/\BL h ok (OU ts x) vs.toList/\O=[]| .ifc t m,_,x,cs,O=>∃u,cs=[.iface t u]/\qg h ok m none x [u] O| .lp t,_,x,cs,O=>∃v,cs=[v]/\VX h ok t x 0 v/\O=[]| .dv ..,_,x,cs,O=>∃v,cs=[v]/\v.oneCell' =true/\O=[]| .cell b,_,x,cs,O=>∃v,cs=[v]/\v.oneCell' =true/\(b=some none->v= .slice none 0 0)/\(∀b',b=some (some b')->∃a c,v= .slice a 0 c/\a.isNone=b')/\O=[]| .fr t,_,xs,cs,O=>∃l v,cs=[v]/\l.view none v/\arrOk ⟨h,ok,nom⟩ t xs l/\(∀b∈l.blks,ok b t)/\O=[]| .sit,_,x,cs,O=>∃blk s q,cs=[.pointer (some ⟨blk,0,none⟩)]/\h[blk]? =some (.stringIter s q)/\s.data.toList=x.1/\x.2=((q:Nat):Int)/\O=[blk]| .sbx tb te,_,xs,cs,O=>∃blk a v l,cs=[.pointer (some ⟨blk,0,none⟩)]/\h[blk]? =some (.cells #[a,v] tb (0,0))/\(a= .pointer none\/a= .pointer (some ⟨blk,0,none⟩))/\l.view none v/\yQ h te xs l/\O=blk::l.blks
def Ux(hole:Option (Nat×Nat×Option Nat))(i:Nat):Option Nat:=match hole with|some (j,o,_)=>if i=j then some o else none|none=>none
def RU(C:Cx)(sz:Nat)(l:Loc):Option (Nat×Nat×Option Nat)->Prop
 |none=>True|some (_,_,none)=>True|some (i,o,some n)=>∃blk off len cap u l',l= .arr blk off len cap sz/\dE C.h blk (off+i*sz+o) 1=some [u]/\C.m n=some l' /\l'.view none u
def a0U(C:Cx)(m:M)(xs:List m.den)(hole:Option (Nat×Nat×Option Nat))(Os:List (List Nat))(l:Loc):Prop:=
 AC C.h m.size (λi x es O=>qg C.h C.ok m (Ux hole i) x es O) xs Os l/\RU C m.size l hole
def CP(C:Cx)(n:Nat):V->Prop
 | .bcells cs=>∃blk arr T,C.m n=some (.st blk)/\C.h[blk]? =some (.cells arr T (0,0))/\gu C cs arr.toList| .biter l p=>∃blk s q,C.m n=some (.st blk)/\C.h[blk]? =some (.stringIter s q)/\s.data.toList=l/\p=((q:Nat):Int)| .bsb tb c=>∃blk a v,C.m n=some (.st blk)/\C.h[blk]? =some (.cells #[a,v] tb (0,0))/\(a= .pointer none\/a= .pointer (some ⟨blk,0,none⟩))/\uM C c v| .brow te xs=>∃loc,C.m n=some loc/\yQ C.h te xs loc| .barr t xs=>∃loc,C.m n=some loc/\arrOk C t xs loc| .bfrz t xs=>∃loc,C.m n=some loc/\arrOk C t xs loc/\(∀blk,blk∈loc.blks->C.ok blk t)| .barrs m xs hole=>m.el=true/\∃loc Os,C.m n=some loc/\a0U C m xs hole Os loc/\C.m.kid n=Os.flatten| .bfc t x=>∃blk es,C.m n=some (.st blk)/\C.ok blk t/\dE C.h blk 0 t.size=some es/\lw C.h C.ok t x es| .gone t=>∃l,C.m n=some l/\∀blk off len cap sz,l= .arr blk off len cap sz->sz=t.size| .blen ln sz=>∃k l,n=JY+k/\C.m k=some l/\(match l with| .arr _ _ len _ sz' =>ln=(len:Int)/\sz=sz'| .nil=>ln=0| .st _=>False| .mp _=>False)|_=>True
def U7(m:Mp)(n:Nat):V->List Nat
 | .bcells _=>match m n with|some (.st blk)=>[blk]|_=>[]
 | .biter _ _=>match m n with|some (.st blk)=>[blk]|_=>[]
 | .bsb _ _=>match m n with|some (.st blk)=>[blk]|_=>[]
 | .brow _ _=>match m n with|some (.arr blk _ _ _ _)=>[blk]|_=>[]
 | .barr _ _=>match m n with|some (.arr blk _ _ _ _)=>[blk]|some (.mp blk)=>[blk]|_=>[]
 | .barrs _ _ _=>(match m n with|some (.arr blk _ _ _ _)=>[blk]|_=>[])++m.kid n|_=>[]
def a8P:V->List Ty
 | .barr t _=>[t]| .barrs m _ _=>m.ty::m.owned|_=>[]
def a5n(v:V)(t:Ty):Prop:=match v with
 | .bcells _=>True|v=>t∈a8P v
structure Cx.le (C D:Cx):Prop where
 ok:∀b t,C.ok b t->D.ok b t
 h:∀b t,C.ok b t->D.h[b]? =C.h[b]?
 m:∀n l,C.m n=some l->D.m n=some l
theorem Cx.le.refl(C:Cx):C.le C:=⟨λ_ _ h=>h,λ_ _ _=>rfl,λ_ _ h=>h⟩
theorem Cx.le.trans{A B C:Cx}(h:A.le B)(k:B.le C):A.le C:=
 ⟨λb t x=>k.ok _ _ (h.ok _ _ x),λb t x=>(k.h _ _ (h.ok _ _ x)).trans (h.h _ _ x),λn l x=>k.m _ _ (h.m _ _ x)⟩
variable {v:Value}{ok':Nat->Ty->Prop}
theorem BA(hok:∀b t,ok b t->ok' b t)(hh:∀b t,ok b t->h'[b]? =h[b]?){x:t.den}{o:Nat}(hr:VX h ok t x o v):VX h' ok' t x o v:=by obtain⟨b,o',es,hv,hb,hc,hp⟩:=hr;exact⟨b,o',es,hv,hok _ _ hb,by rw[rH (hh _ _ hb)];exact hc,fA hok hh hp⟩
theorem GX{h h' :Array Obj}{ok ok' :Nat->Ty->Prop}(hok:∀b t,ok b t->ok' b t)(hh:∀b t,ok b t->h'[b]? =h[b]?):∀{cs:List ((t:Ty)×t.den)} {vs:List Value},BL h ok cs vs->BL h' ok' cs vs
 |[],_,hr=>hr|_::_,_,⟨v,r,e,h1,h2⟩=>⟨v,r,e,BA hok hh h1,GX hok hh h2⟩
variable {C:Cx}{D:Cx}
theorem WP(h:C.le D):∀{c:V} {v:Value},uM C c v->uM D c v:=by
 intro c;induction c using V.rec (motive_2:=λ_=>True)<;>try trivial
 all_goals
  intro v hr;simp only[uM]at hr ⊢
  try exact hr
 case sl t xs=>exact fA h.ok h.h hr
 case own bx vw=>obtain⟨l,hm,hv⟩:=hr;exact⟨l,h.m _ _ hm,hv⟩
 case ptr bx o=>obtain⟨b,hm,hv⟩:=hr;exact⟨b,h.m _ _ hm,hv⟩
 case ep bx ix o=>obtain⟨b,o',l,c,s,hm,hv⟩:=hr;exact⟨b,o',l,c,s,h.m _ _ hm,hv⟩
 case dp t x o=>exact BA h.ok h.h hr
 case clos f caps=>obtain⟨vs,e,hc⟩:=hr;exact⟨vs,e,GX h.ok h.h hc⟩
 case ifc t c ih=>obtain⟨u,e,h1,hc⟩:=hr;exact⟨u,e,h1,ih hc⟩
theorem Dw{C D:Cx}(h:C.le D):∀{cs:List V} {vs:List Value},gu C cs vs->gu D cs vs
 |[],_,hr=>hr|_::_,_,⟨v,r,e,h1,h2,h3⟩=>⟨v,r,e,WP h h1,h2,Dw h h3⟩
theorem a1I(h:C.le D){c:V}(hr:TA C c v):TA D c v:=by
 cases c<;>simp only[TA]at hr ⊢<;>try exact WP h hr
 case agg cs=>obtain⟨arr,e,hl⟩:=hr;exact⟨arr,e,Dw h hl⟩
theorem a1J{C D:Cx}(h:C.le D):∀{cs:List V} {vs:List Value},WQ C cs vs->WQ D cs vs
 |[],_,hr=>hr|_::_,_,⟨v,r,e,h1,h3⟩=>⟨v,r,e,a1I h h1,a1J h h3⟩
theorem MZ(h:C.le D){c:V}(hr:lu C c v):lu D c v:=by
 cases c<;>simp only[lu]at hr ⊢<;>try exact a1I h hr
 case tup cs=>obtain⟨arr,e,hl⟩:=hr;exact⟨arr,e,a1J h hl⟩
theorem pq{m m' :Mp}(hok:∀b t,ok b t->ok' b t)(hh:∀b t,ok b t->h'[b]? =h[b]?)
  (hb:∀b∈l.blks,h'[b]? =h[b]?) (hr:arrOk ⟨h,ok,m⟩ t xs l):arrOk ⟨h',ok',m'⟩ t xs l:=by
 cases l with
 |nil=>exact hr|st b=>exact hr|mp blk=>have e:=hb blk (by simp[Loc.blks]);obtain⟨h1,es,ck,h2,h3,h4⟩:=hr;refine⟨h1,es,ck,by show h'[blk]? =_;rw[e];exact h2,h3,λi x hi=>?_⟩;obtain⟨en,a1,a2,a3⟩:=h4 i x hi;exact⟨en,a1,a2,fA hok hh a3⟩
 |arr blk off len cap sz=>have e:=hb blk (by simp[Loc.blks]);obtain⟨h0,h1,h2,h3,c,T,f,h4,hz,h5,h6⟩:=hr;refine⟨h0,h1,h2,h3,c,T,f,by show h'[blk]? =_;rw[e];exact h4,hz,h5,λi x hi=>?_⟩;obtain⟨es,he,hp⟩:=h6 i x hi;exact⟨es,by show dE h' _ _ _=_;rw[rH e];exact he,fA hok hh hp⟩
theorem XA(h:C.le D)(hb:∀b∈l.blks,D.h[b]? =C.h[b]?)(hr:arrOk C t xs l):arrOk D t xs l:=
 pq h.ok h.h hb hr
theorem Dh{α:Type}{sz:Nat}{R R' :Nat->α->List Value->List Nat->Prop}{xs:List α}{Os:List (List Nat)}(hb:∀b∈l.blks,h'[b]? =h[b]?)
  (hR:∀i x es O,O∈Os->R i x es O->R' i x es O) (hr:AC h sz R xs Os l):AC h' sz R' xs Os l:=by
 cases l with
 |nil=>exact hr|st b=>exact hr|mp b=>exact hr|arr blk off len cap sz=>have e:=hb blk (by simp[Loc.blks]);obtain⟨h1,h2,h3,h7,c,T,h4,h5,h6⟩:=hr;refine⟨h1,h2,h3,h7,c,T,by rw[e];exact h4,h5,λi x hi=>?_⟩;obtain⟨es,O,hO,he,hp⟩:=h6 i x hi;exact⟨es,O,hO,by rw[rH e];exact he,hR _ _ _ _ (wJ hO) hp⟩
theorem kF{h h' :Array Obj}{ok ok' :Nat->Ty->Prop}(hok:∀b t,ok b t->ok' b t)(hh:∀b t,ok b t->h'[b]? =h[b]?):
  ∀{m:M} {ho:Option Nat} {x:m.den} {cs:List Value} {O:List Nat},(∀b∈O,h'[b]? =h[b]?)->qg h ok m ho x cs O->qg h' ok' m ho x cs O
 | .dat t,_,_,_,_,_,e=>⟨fA hok hh e.1,e.2⟩| .own t,ho,_,_,O,hb,⟨v,e,h1,ha⟩=>by
  refine⟨v,e,h1,?_⟩;split at ha
  .exact ha
  .obtain⟨l,hv,ha,ho⟩:=ha;exact⟨l,hv,pq hok hh (by subst ho;exact hb) ha,ho⟩
 | .pair a b,_,_,_,_,hb,⟨c,d,O1,O2,e,eo,h1,h2⟩=>by subst eo;exact⟨c,d,O1,O2,e,rfl,kF hok hh (λb h=>hb b (by simp[h])) h1,kF hok hh (λb h=>hb b (by simp[h])) h2⟩| .unit,_,_,_,_,_,e=>e| .box m,_,_,_,_,hb,⟨blk,arr,T,O',e,hh',hr,eo⟩=>by subst eo;exact⟨blk,arr,T,O',e,by rw[hb blk D5];exact hh',kF hok hh (λb h=>hb b (by simp[h])) hr,rfl⟩| .owns m,ho,_,_,O,hb,⟨v,e,h1,ha⟩=>by
  refine⟨v,e,h1,?_⟩;split at ha
  .exact ha
  .obtain⟨he,l,Os,hv,ha,ho⟩:=ha;subst ho;exact⟨he,l,Os,hv,Dh (λb h=>hb b (by simp[h])) (λi x es O hO hr=>kF hok hh (λb h=>hb b (by simp only[F9,dJ];exact .inr ⟨O,hO,h⟩)) hr) ha,rfl⟩
 | .ownb t,_,_,_,_,hb,⟨l,v,e,hv,ha,ho⟩=>⟨l,v,e,hv,pq hok hh (by subst ho;exact hb) ha,ho⟩| .rp t,_,_,_,_,_,⟨v,e,h1,h2⟩=>⟨v,e,BA hok hh h1,h2⟩| .fn f ts,_,_,_,_,_,⟨vs,e,h1,h2⟩=>⟨vs,e,GX hok hh h1,h2⟩| .lp t,_,_,_,_,_,⟨v,e,h1,h2⟩=>⟨v,e,BA hok hh h1,h2⟩| .dv ..,_,_,_,_,_,h=>h| .ifc t m,_,_,_,_,hb,⟨u,e,h1⟩=>⟨u,e,kF hok hh hb h1⟩| .cell b,_,_,_,_,_,h=>h| .fr t,_,_,_,_,_,⟨l,v,e,hv,ha,hk,ho⟩=>⟨l,v,e,hv,pq hok hh (λb h=>hh _ _ (hk b h)) ha,λb h=>hok _ _ (hk b h),ho⟩| .sit,_,_,_,_,hb,⟨blk,s,q,e,hh',h2,h3,eo⟩=>by subst eo;exact⟨blk,s,q,e,by rw[hb blk D5];exact hh',h2,h3,rfl⟩| .sbx tb te,_,_,_,_,hb,⟨blk,a,v,l,e,hh',h2,h3,h4,eo⟩=>by subst eo;exact⟨blk,a,v,l,e,by rw[hb blk D5];exact hh',h2,h3,CS (λb h=>hb b (by simp[h])) h4,rfl⟩
theorem QE(h:C.le D){v:V}(hk:D.m.kid n=C.m.kid n)(hb:∀b∈U7 C.m n v,D.h[b]? =C.h[b]?)(hr:CP C n v):CP D n v:=by
 cases v<;>simp only[CP]at hr ⊢
 case bcells cs=>obtain⟨blk,arr,T,hm,hh,hl⟩:=hr;exact⟨blk,arr,T,h.m _ _ hm,by rw[hb blk (by simp[U7,hm])];exact hh,Dw h hl⟩
 case biter l p=>obtain⟨blk,s,q,hm,hh,h2,h3⟩:=hr;exact⟨blk,s,q,h.m _ _ hm,by rw[hb blk (by simp[U7,hm])];exact hh,h2,h3⟩
 case bsb tb c=>obtain⟨blk,a,v,hm,hh,h2,h3⟩:=hr;exact⟨blk,a,v,h.m _ _ hm,by rw[hb blk (by simp[U7,hm])];exact hh,h2,WP h h3⟩
 case brow te xs=>
  obtain⟨l,hm,ha⟩:=hr;refine⟨l,h.m _ _ hm,CS (λb hbl=>hb b ?_) ha⟩;cases l<;>simp[Loc.blks]at hbl
  .subst hbl;simp[U7,hm]
  .cases ha
  .cases ha
 case barr t xs=>
  obtain⟨l,hm,ha⟩:=hr;refine⟨l,h.m _ _ hm,XA h ?_ ha⟩;intro b hbl;refine hb b ?_;cases l<;>simp[Loc.blks]at hbl
  .subst hbl;simp[U7,hm]
  .cases ha
  .subst hbl;simp[U7,hm]
 case bfrz t xs=>obtain⟨l,hm,ha,hok⟩:=hr;refine⟨l,h.m _ _ hm,XA h ?_ ha,λblk e=>h.ok _ _ (hok _ e)⟩;intro b hbl;exact h.h _ _ (hok _ hbl)
 case barrs m xs hole=>
  obtain⟨he,l,Os,hm,ha,ho⟩:=hr;obtain⟨ha,hh⟩:=ha;refine⟨he,l,Os,h.m _ _ hm,⟨Dh ?_ ?_ ha,?_⟩,hk.trans ho⟩
  .intro b hbl;refine hb b ?_;cases l<;>simp[Loc.blks]at hbl
   .subst hbl;simp[U7,hm]
   .cases ha
   .cases ha
  .intro i x es O hO hr;refine kF h.ok h.h (λb hbO=>hb b ?_) hr;simp only[U7,F9];right;rw[ho];exact dJ.2 ⟨O,hO,hbO⟩
  .rcases hole with _|⟨i,o,_|k⟩
   .trivial
   .trivial
   .obtain⟨blk,off,len,cap,u,l',rfl,h1,h2,h3⟩:=hh;exact⟨blk,off,len,cap,u,l',rfl,by rw[rH (hb blk (by simp[U7,hm]))];exact h1,h.m _ _ h2,h3⟩
 case bfc t x=>obtain⟨blk,es,hm,hok,he,hr⟩:=hr;exact⟨blk,es,h.m _ _ hm,h.ok _ _ hok,by rw[rH (h.h _ _ hok)];exact he,fA h.ok h.h hr⟩
 case gone t=>obtain⟨l,hm,hs⟩:=hr;exact⟨l,h.m _ _ hm,hs⟩
 case blen ln sz=>obtain⟨k,l,e,hm,hs⟩:=hr;exact⟨k,l,e,h.m _ _ hm,hs⟩
theorem kw{C:Cx} :∀{cs:List V} {vs:List Value},gu C cs vs->cs.length=vs.length
 |[],_,h=>by simp[gu]at h;simp[h]|_::_,_,⟨v,r,e,_,_,h3⟩=>by subst e;simp[kw h3]
theorem vZ{C:Cx} :∀{a:List V} {va:List Value} {b:List V} {vb:List Value},gu C a va->gu C b vb->gu C (a++b) (va++vb)
 |[],_,_,_,h,k=>by simp[gu]at h;subst h;exact k|_::_,_,_,_,⟨v,r,e,h1,h2,h3⟩,k=>by subst e;exact⟨v,r++_,rfl,h1,h2,vZ h3 k⟩
theorem MW{C:Cx} :∀{cs:List V} {vs:List Value},gu C cs vs->∀v∈vs,v.oneCell' =true
 |[],_,h=>by simp[gu]at h;simp[h]|_::_,_,⟨v,r,e,_,h2,h3⟩=>by
  subst e;intro u hu;rcases C9.1 hu with rfl|hu
  .exact h2
  .exact MW h3 u hu
theorem sW{C:Cx} :∀(n:Nat) {cs:List V} {vs:List Value},gu C cs vs->gu C (cs.drop n) (vs.drop n)
 |0,_,_,h=>by simpa using h|n+1,[],_,h=>by simp[gu]at h;subst h;simp[gu]|n+1,_::_,_,⟨v,r,e,_,_,h3⟩=>by subst e;simpa using sW n h3
theorem uT{C:Cx} :∀(n:Nat) {cs:List V} {vs:List Value},gu C cs vs->gu C (cs.take n) (vs.take n)
 |0,_,_,h=>by simp[gu]|n+1,[],_,h=>by simp[gu]at h;subst h;simp[gu]|n+1,_::_,_,⟨v,r,e,h1,h2,h3⟩=>by subst e;exact⟨v,r.take n,D5,h1,h2,uT n h3⟩
theorem lZ:∀(t:Ty) (x:t.den) (r:List V),flat t x r=flat t x []++r
 | .bool,_,_=>rfl| .int _,_,_=>rfl| .str,_,_=>rfl| .sl _,_,_=>rfl| .unit,_,_=>rfl| .any _,_,_=>rfl| .prod a b,x,r=>by simp only[flat];rw[lZ a x.1 (flat b x.2 r),lZ b x.2 r,lZ a x.1 (flat b x.2 [])];simp| .ent _ _ a b,x,r=>by simp only[flat];rw[lZ a x.1 (flat b x.2 r),lZ b x.2 r,lZ a x.1 (flat b x.2 [])];simp
theorem qm{C:Cx} :∀{t:Ty} {x:t.den} {cs:List Value},lw C.h C.ok t x cs->gu C (flat t x []) cs
 | .bool,x,_,h=>by simp[lw]at h;subst h;exact⟨_,_,rfl,rfl,rfl,rfl⟩| .int _,x,_,h=>by simp[lw]at h;subst h;exact⟨_,_,rfl,rfl,rfl,rfl⟩| .str,x,_,h=>by simp[lw]at h;subst h;exact⟨_,_,rfl,rfl,rfl,rfl⟩| .unit,_,_,h=>by simp[lw]at h;subst h;rfl| .any _,_,_,h=>by obtain⟨v,rfl,h1,_⟩:=h;exact⟨v,[],rfl,trivial,h1,rfl⟩
 | .sl t,xs,_,h=>by have h' :=h;rcases h with⟨_,a,cap,rfl,_⟩|⟨_,mv,rfl,_⟩<;>exact⟨_,_,rfl,h',rfl,rfl⟩
 | .ent _ _ a b,x,_,h=>by obtain⟨c,d,rfl,h1,h2⟩:=h;simp only[flat];rw[lZ a];exact vZ (qm h1) (qm h2)
 | .prod a b,x,_,h=>by obtain⟨c,d,rfl,h1,h2⟩:=h;simp only[flat];rw[lZ a];exact vZ (qm h1) (qm h2)
theorem oh:∀(t:Ty) (x:t.den),(flat t x []).length=t.size
 | .bool,_=>rfl| .int _,_=>rfl| .str,_=>rfl| .sl _,_=>rfl| .unit,_=>rfl| .any _,_=>rfl| .prod a b,x=>by simp only[flat,Ty.size];rw[lZ a,E8,oh a x.1,oh b x.2]| .ent _ _ a b,x=>by simp only[flat,Ty.size];rw[lZ a,E8,oh a x.1,oh b x.2]
theorem pG{vw:Option (Nat×Nat)}(ha:arrOk C t xs l)(hv:l.view vw v)
  (hok:∀b t,C.ok b t->ok' b t) (hb:∀blk,blk∈l.blks->ok' blk t):lw C.h ok' (.sl t) (jD vw xs) [v]:=by
 cases l with
 |st b=>cases ha|mp b=>
  obtain⟨h0,es,ck,h1,h2,h3⟩:=ha;cases vw with
  |some p=>cases hv|none=>simp only[Loc.view]at hv;subst hv;refine .inr ⟨h0,some b,rfl,(λh=>nomatch h),λblk e=>?_⟩;cases e;refine⟨hb b (by simp[Loc.blks]),es,ck,h1,h2,λi x hi=>?_⟩;obtain⟨en,a1,a2,a3⟩:=h3 i x hi;exact⟨en,a1,a2,fA hok (λ_ _ _=>rfl) a3⟩
 |nil=>
  obtain⟨ha,h0⟩:=ha;subst ha;cases vw with
  |none=>simp only[Loc.view]at hv;subst hv;exact .inl ⟨h0,none,0,rfl,A7 _,λi x hi=>by simp[jD]at hi⟩|some p=>obtain⟨lo,hi⟩:=p;obtain⟨rfl,rfl,rfl⟩:=hv;exact .inl ⟨h0,none,0,by simp[jD,jY],by simp[jD,jY],λi x hi=>by simp[jD,jY]at hi⟩
 |arr blk off len cap sz=>
  obtain⟨h0,rfl,rfl,hc,c,T,f,hh,hz,hs,hx⟩:=ha;have hbk:=hb blk (by simp[Loc.blks]);cases vw with
  |none=>simp only[Loc.view]at hv;subst hv;refine .inl ⟨h0,_,cap,rfl,hc,λi x hi=>?_⟩;obtain⟨es,he,hr⟩:=hx i x hi;exact⟨blk,off,es,rfl,hbk,he,fA hok (λ_ _ _=>rfl) hr⟩
  |some p=>
   obtain⟨lo,hi⟩:=p;obtain⟨h1,h2,rfl⟩:=hv;have hl:(jD (some (lo,hi)) xs).length=hi -lo:=by simp[jD,jY];omega
   refine .inl ⟨h0,_,cap -lo,by rw[hl],by rw[hl];omega,λi x hix=>?_⟩;have hi' :i<hi -lo:=by rw[←hl];exact(ai.1 hix).1
   have hx' :xs[lo+i]? =some x:=by
    simp only[jD,jY,U8,V6]at hix;split at hix
    .exact hix
    .cases hix
   obtain⟨es,he,hr⟩:=hx _ x hx';have hne:cap≠lo:=o5;refine⟨blk,off+lo*t.size,es,by simp[hne],hbk,?_,fA hok (λ_ _ _=>rfl) hr⟩;rw[←he];congr 1;rw[J3];omega
end Go.GP
namespace Go.GP
abbrev Sm:=Nat->V
def upd(S:Sm)(k:Nat)(v:V):Sm:=λn=>if n=k then v else S n
@[simp] theorem lV (S:Sm) (k:Nat) (v:V):upd S k v k=v:=by simp[upd]
theorem bJ(S:Sm){k n:Nat}(v:V)(h:n≠k):upd S k v n=S n:=by simp[upd,h]
variable {α:Type}
def Cmd.eval :Cmd α->Sm->Tr->Option (α×Sm×Tr)
 | .ret x,S,t=>some (x,S,t)| .fail,_,_=>none| .get k c,S,t=>(c (S k)).eval S (k::t.1,t.2)| .set k v c,S,t=>c.eval (upd S k v) (t.1,k::t.2)
 | .opt o c,S,t=>match o with|some x=>(c x).eval S t|none=>none
 | .br b c d,S,t=>if b=true then c.eval S t else d.eval S t
def Cmd.post :Cmd α->Sm->(α->Sm->Prop)->Prop
 | .ret x,S,Q=>Q x S| .fail,_,_=>True| .get k c,S,Q=>(c (S k)).post S Q| .set k v c,S,Q=>c.post (upd S k v) Q| .opt o c,S,Q=>∀x,o=some x->(c x).post S Q| .br b c d,S,Q=>(b=true->c.post S Q)/\(b=false->d.post S Q)
theorem sV{α:Type}{Q:α->Sm->Prop} :∀{c:Cmd α} {S S' :Sm} {t t' :Tr} {x:α},c.post S Q->c.eval S t=some (x,S',t')->Q x S'
 | .ret x,_,_,_,_,_,h,e=>by simp[Cmd.eval]at e;obtain⟨rfl,rfl,rfl⟩:=e;exact h
 | .fail,_,_,_,_,_,h,e=>by simp[Cmd.eval]at e| .get k c,_,_,_,_,_,h,e=>sV (c:=c _) h e| .set k v c,_,_,_,_,_,h,e=>sV (c:=c) h e| .opt o c,_,_,_,_,_,h,e=>by
  cases o with
  |none=>simp[Cmd.eval]at e|some x=>exact sV (c:=c x) (h x rfl) e
 | .br b c d,_,_,_,_,_,h,e=>by
  cases b
  .exact sV (c:=d) (h.2 rfl) (by simpa[Cmd.eval]using e)
  .exact sV (c:=c) (h.1 rfl) (by simpa[Cmd.eval]using e)
theorem zG{α:Type}{Q Q' :α->Sm->Prop}(hq:∀x S,Q x S->Q' x S):∀{c:Cmd α} {S:Sm},c.post S Q->c.post S Q'
 | .ret x,_,h=>hq _ _ h| .fail,_,_=>trivial| .get k c,_,h=>zG hq (c:=c _) h| .set k v c,_,h=>zG hq (c:=c) h
 | .opt o c,_,h=>λx e=>zG hq (c:=c x) (h x e)| .br b c d,_,h=>⟨λe=>zG hq (c:=c) (h.1 e),λe=>zG hq (c:=d) (h.2 e)⟩
theorem Ei{R:Type} :∀(v:V) (K:V->R),v.force K=K v:=by
 intro v;induction v using V.rec (motive_2:=λ_=>True)<;>try trivial
 all_goals intro K
 all_goals try rfl
 case i k n=>cases k<;>rfl
 case own bx vw=>cases vw<;>rfl
 case barrs m xs h=>rcases h with _|⟨p,q,_|r⟩<;>rfl
 case ifc t v ih=>simp only[V.force];rw[ih]
 case bsb tb c ih=>simp only[V.force];rw[ih]
theorem UZ{R:Type} :∀(l:List V) (K:List V->R),Oa l K=K l
 |[],_=>rfl|v::r,K=>by simp[Oa,Ei,UZ r]
theorem a2E{R:Type}(v:V)(K:V->R):v.force2 K=K v:=by unfold V.force2;rw[Ei];cases v<;>simp[UZ]
theorem a1t(k:Nat)(v:V)(s:St):fC (.kv k v::s)=upd (fC s) k v:=by
 funext n;simp only[fC,upd];by_cases h:n=k
 .subst h;simp
 .have:Nat.beq k n=false:=by
   cases hb:Nat.beq k n with
   |false=>rfl|true=>exact absurd (iH hb).symm h
  simp[h,this]
theorem zD{α β:Type}{o:Option α}{f:α->Option β}{r:β}(h:l9 o f=some r):∃x,o=some x/\f x=some r:=by
 cases o with
 |none=>simp[l9]at h|some x=>exact⟨x,rfl,h⟩
theorem qo{α R:Type} :∀{c:Cmd α} {s:St} {t:Tr} {K:α->St->Tr->Option R} {r:R},c.runK s t K=some r->
  ∃x s' t',c.eval (fC s) t=some (x,fC s',t')/\K x s' t' =some r
 | .ret x,s,t,K,r,h=>⟨x,s,t,rfl,h⟩| .fail,_,_,_,_,h=>by simp[Cmd.runK]at h| .get k c,s,t,K,r,h=>by simp only[Cmd.runK,Ei]at h;exact qo (c:=c _) h| .set k v c,s,t,K,r,h=>by simp only[Cmd.runK,a2E]at h;obtain⟨x,s',t',e,hk⟩:=qo (c:=c) h;exact⟨x,s',t',by simpa[Cmd.eval,a1t]using e,hk⟩
 | .opt o c,s,t,K,r,h=>by simp only[Cmd.runK]at h;obtain⟨y,rfl,h⟩:=zD h;exact qo (c:=c y) h
 | .br b c d,s,t,K,r,h=>by
  simp only[Cmd.runK]at h;cases b
  .obtain⟨x,s',t',e,hk⟩:=qo (c:=d) (show d.runK s t K=some r from h);exact⟨x,s',t',by simpa[Cmd.eval]using e,hk⟩
  .obtain⟨x,s',t',e,hk⟩:=qo (c:=c) (show c.runK s t K=some r from h);exact⟨x,s',t',by simpa[Cmd.eval]using e,hk⟩
theorem zt{α:Type} :∀{c:Cmd α} {S S' :Sm} {t t' :Tr} {x:α},c.eval S t=some (x,S',t')->(∀k∈t.1,k∈t'.1)/\(∀k∈t.2,k∈t'.2)
 | .ret x,_,_,_,_,_,e=>by simp[Cmd.eval]at e;obtain⟨rfl,rfl,rfl⟩:=e;exact⟨λ_ h=>h,λ_ h=>h⟩
 | .fail,_,_,_,_,_,e=>by simp[Cmd.eval]at e| .get k c,_,_,_,_,_,e=>by have h:=zt (c:=c _) e;exact⟨λn hn=>h.1 n (by simp[hn]),h.2⟩| .set k v c,_,_,_,_,_,e=>by have h:=zt (c:=c) e;exact⟨h.1,λn hn=>h.2 n (by simp[hn])⟩| .opt o c,_,_,_,_,_,e=>by
  cases o with
  |none=>simp[Cmd.eval]at e|some x=>exact zt (c:=c x) e
 | .br b c d,_,_,_,_,_,e=>by
  cases b
  .exact zt (c:=d) (by simpa[Cmd.eval]using e)
  .exact zt (c:=c) (by simpa[Cmd.eval]using e)
theorem xM{α:Type} :∀{c:Cmd α} {S S' :Sm} {t t' :Tr} {x:α},c.eval S t=some (x,S',t')->∀T:Sm,(∀k∈t'.1,T k=S k)->
  ∃T',c.eval T t=some (x,T',t')/\(∀k,T k=S k->T' k=S' k)/\(∀k,k∉t'.2->T' k=T k)/\(∀k,k∈t'.2->k∉t.2->T' k=S' k)
 | .ret x,_,_,_,_,_,e,T,hT=>by simp[Cmd.eval]at e;obtain⟨rfl,rfl,rfl⟩:=e;exact⟨T,rfl,λk h=>h,λ_ _=>rfl,λk h1 h2=>absurd h1 h2⟩
 | .fail,_,_,_,_,_,e,_,_=>by simp[Cmd.eval]at e| .get k c,S,_,t,t',_,e,T,hT=>by have hk:T k=S k:=hT k ((zt (c:=c _) e).1 k D5);obtain⟨T',h1,h2,h3,h4⟩:=xM (c:=c _) e T hT;exact⟨T',by simpa[Cmd.eval,hk]using h1,h2,h3,h4⟩
 | .set k v c,S,_,t,t',_,e,T,hT=>by
  obtain⟨T',h1,h2,h3,h4⟩:=xM (c:=c) e (upd T k v) (λn hn=>by
   by_cases h:n=k
   .subst h;simp
   .rw[bJ _ _ h,bJ _ _ h];exact hT n hn)
  have hkin:k∈t'.2:=(zt (c:=c) e).2 k D5;refine⟨T',h1,λn hn=>h2 n ?_,λn hn=>?_,λn hn hn' =>?_⟩
  .by_cases h:n=k
   .subst h;simp
   .rw[bJ _ _ h,bJ _ _ h];exact hn
  .have:n≠k:=λh=>hn (h▸hkin);rw[h3 n hn,bJ _ _ this]
  .by_cases h:n=k
   .subst h;exact h2 n D5
   .exact h4 n hn (by simp[h,hn'])
 | .opt o c,_,_,_,_,_,e,T,hT=>by
  cases o with
  |none=>simp[Cmd.eval]at e|some x=>exact xM (c:=c x) e T hT
 | .br b c d,_,_,_,_,_,e,T,hT=>by
  cases b
  .obtain⟨T',h1,h2⟩:=xM (c:=d) (by simpa[Cmd.eval]using e) T hT;exact⟨T',by simpa[Cmd.eval]using h1,h2⟩
  .obtain⟨T',h1,h2⟩:=xM (c:=c) (by simpa[Cmd.eval]using e) T hT;exact⟨T',by simpa[Cmd.eval]using h1,h2⟩
theorem EW{c:Cmd α}{S S' :Sm}{t t' :Tr}{x:α}(e:c.eval S t=some (x,S',t'))(k:Nat)(h:k∉t'.2):S' k=S k:=by obtain⟨T',h1,_,h3,_⟩:=xM e S (λ_ _=>rfl);rw[e]at h1;simp at h1;rw[h1];exact h3 k h
section draws
variable {n:Nat} {c:Nat->Cmd Unit} {S:Nat->Sm} {T:Nat->Tr}
def SD(S:Nat->Sm)(T:Nat->Tr)(D:List Nat):Nat->Sm
 |0=>S 0
 |m+1=>λk=>if m∈D/\k∈(T m).2 then S (m+1) k else SD S T D m k
theorem IX(hs:∀i,i<n->(c i).eval (S i) ([],[])=some ((),S (i+1),T i))(D:List Nat)(k:Nat):
  ∀m,m<=n->(∀j,j<m->k∈(T j).2->j∈D)->SD S T D m k=S m k
 |0,_,_=>rfl|m+1,hm,h=>by
  have ih:=IX hs D k m o5 (λj hj=>h j o5);simp only[SD];by_cases hk:k∈(T m).2
  .rw[if_pos ⟨h m o5 hk,hk⟩]
  .rw[if_neg (λx=>hk x.2),ih,EW (hs m o5) k hk]
theorem QK(D:List Nat)(k i:Nat):∀m,i<=m->(∀j,i<=j->j<m->k∈(T j).2->j∉D)->SD S T D m k=SD S T D i k
 |m,hm,h=>by
  induction m with
  |zero=>have:i=0:=o5;subst this;rfl|succ m ih=>
   by_cases e:i=m+1
   .subst e;rfl
   .simp only[SD];rw[if_neg (λx=>h m o5 o5 x.2 x.1)];exact ih o5 (λj h1 h2=>h j h1 o5)
theorem a0M(D:List Nat)(i k:Nat)(hk:k∉(T i).2):∀m,SD S T (i::D) m k=SD S T D m k
 |0=>rfl|m+1=>by
  simp only[SD,a0M D i k hk m];by_cases e:m=i
  .subst e;simp[hk]
  .simp[C9,e]
theorem a3M(hs:∀i,i<n->(c i).eval (S i) ([],[])=some ((),S (i+1),T i)){D:List Nat}(hD:∀i,i<n->i∈D):SD S T D n=S n:=by funext k;exact IX hs D k n o5 (λj hj _=>hD j hj)
theorem b0y(n:Nat):SD S T [] n=S 0:=by
 induction n with
 |zero=>rfl|succ m ih=>funext k;simp[SD,ih]
end draws
end Go.GP
namespace Go.GP
def c0T(P:Program)(d:Deferred):Prop:=∃fv cap f args,d.target= .fn fv cap/\(∀w:World,(invoke d.target d.args).run P w= .ok (.enter f args) w)/\
 ∀w,CallsD P f args .returning w λe u' w' =>(∃v,e= .returned v)/\u' = .returning/\w' =w
def c0V(P:Program)(f n:Nat):Prop:=∀cap:Array Value,cap.size=n->c0T P { target:=.fn (.func f) cap,args:=#[] }
theorem c0S{P:Program}{fn:Func}{tmps:Array Value}{R:Ending->World->Prop}{w:World}(h:∃v,(results fn tmps).run P w= .ok v w/\R (.returned v) w):∀(ds:List Deferred),(∀d∈ds,c0T P d)->Leaves P fn tmps R ds .returning w
 |[],_=>h
 |d::ds,hd=>by obtain⟨fv,cap,f,args,ht,hi,hc⟩:=hd d D5;refine⟨D5,fv,cap,f,args,ht,hi w,(hc w).mono ?_⟩;rintro e u' w' ⟨⟨v,rfl⟩,rfl,rfl⟩;exact c0S h ds λx hx=>hd x (by simp[hx])
structure Fx where
 P:Program
 E:Env
 w0:World
 O:List Nat
 ok0:Nat->Ty->Prop
 tm0:Array Value
structure Frame' (w0 w:World) (O:List Nat):Prop where
 os:w.os=w0.os
 tape:w.tape=w0.tape
 output:w.output=w0.output
 size:w0.heap.size<=w.heap.size
 block:∀b,b<w0.heap.size->b∉O->w.heap[b]? =w0.heap[b]?
theorem Frame'.refl(w:World)(O:List Nat):Frame' w w O:=⟨rfl,rfl,rfl,A7 _,λ_ _ _=>rfl⟩
def a9K(h:Array Obj)(g n:Nat):Prop:=∃c T f,h[g]? =some (.cells c T f)/\c.size=n
def GK(C:Cx)(g:Nat)(t:Ty)(xs:List t.den):Prop:=
 C.ok g t/\a9K C.h g (xs.length*t.size)/\∀i x,xs[i]? =some x->∃es,dE C.h g (i*t.size) t.size=some es/\lw C.h C.ok t x es
theorem GK.le{C D:Cx}(h:C.le D){g:Nat}{t:Ty}{xs:List t.den}(k:GK C g t xs):GK D g t xs:=by obtain⟨h1,h3,h2⟩:=k;refine⟨h.ok _ _ h1,by unfold a9K at h3 ⊢;rw[h.h _ _ h1];exact h3,λi x hi=>?_⟩;obtain⟨es,he,hr⟩:=h2 i x hi;exact⟨es,by rw[rH (h.h _ _ h1)];exact he,fA h.ok h.h hr⟩
structure Rel (X:Fx) (cl ch:Nat) (S:Sm) (m:Mp) (ok:Nat->Ty->Prop) (a:Act) (w:World):Prop where
 size:a.tmps.size=X.E.nt
 nodef:∀d∈a.defers,c0T X.P d
 slot:∀n,n<Z5->lu ⟨w.heap,ok,m⟩ (S n) (a.tmps.getD n Go.undef)
 box:∀n,CP ⟨w.heap,ok,m⟩ n (S (Z5+n))
 inj:∀n n' b,b∈U7 m n (S (Z5+n))->b∈U7 m n' (S (Z5+n'))->n=n'
 nd:∀n,(U7 m n (S (Z5+n))).Nodup
 sep:∀n b,b∈U7 m n (S (Z5+n))->(∀t,¬ok b t)/\b<w.heap.size/\(X.w0.heap.size<=b\/b∈X.O)
 okLt:∀b t,ok b t->b<w.heap.size
 okIn:∀b t,X.ok0 b t->ok b t
 okOut:∀b t,ok b t->X.ok0 b t\/X.w0.heap.size<=b\/b∈X.O
 frame:Frame' X.w0 w X.O
 fresh:∀n,cl<=n->S (Z5+n)= .undef->m n=none
 strict:∀n,ch<=n->m n=none
 gl:∀g u,dO X.E.gl g=some u->GK ⟨w.heap,ok,m⟩ g u.1 u.2
 kept:∀n∈X.E.kp,a.tmps.getD n Go.undef=X.tm0.getD n Go.undef
def nK(m:Mp)(n:Nat)(l:Loc)(ks:List Nat):Mp:=⟨λk=>if k=n then some l else m k,λk=>if k=n then ks else m.kid k⟩
@[simp] theorem aF (m:Mp) (n:Nat) (l:Loc) (ks:List Nat):nK m n l ks n=some l:=by simp[nK]
variable {n:Nat}{k:Nat}
theorem jC(m:Mp)(l:Loc)(ks:List Nat)(h:k≠n):nK m n l ks k=m k:=by simp[nK,h]
@[simp] theorem b8N (m:Mp) (n:Nat) (l:Loc) (ks:List Nat):(nK m n l ks).kid n=ks:=by simp[nK]
theorem OW(m:Mp)(l:Loc)(ks:List Nat)(h:k≠n):(nK m n l ks).kid k=m.kid k:=by simp[nK,h]
def Df(m:Mp)(n:Nat)(ks:List Nat):Mp:=⟨m.loc,λk=>if k=n then ks else m.kid k⟩
@[simp] theorem b7X (m:Mp) (n k:Nat) (ks:List Nat):Df m n ks k=m k:=rfl
@[simp] theorem b7W (m:Mp) (n:Nat) (ks:List Nat):(Df m n ks).kid n=ks:=by simp[Df]
theorem VE(m:Mp)(ks:List Nat)(h:k≠n):(Df m n ks).kid k=m.kid k:=by simp[Df,h]
theorem wY(m:Mp)(n:Nat):Df m n (m.kid n)=m:=by
 cases m with|mk l k=>
 simp only[Df,Mp.mk.injEq,true_and];funext j;split
 .rename_i e;rw[e]
 .rfl
variable {v:V}
theorem FB{m m' :Mp}(h:m' n=m n)(k:m'.kid n=m.kid n):U7 m' n v=U7 m n v:=by cases v<;>simp only[U7,h,k]
variable {d:Nat}
theorem Uw{tmps:Array Value}(h:d<tmps.size)(x e:Value):(tmps.setIfInBounds d x).getD d e=x:=by simp[Array.getD,h]
theorem Ht{tmps:Array Value}(h:n≠d)(x e:Value):(tmps.setIfInBounds d x).getD n e=tmps.getD n e:=by simp only[Y3];rw[lm];simp[Ne.symm h]
structure Tk (X:Fx) (S:Sm) (m:Mp) (ok:Nat->Ty->Prop) (w:World) (T:List Nat):Prop where
 nodup:T.Nodup
 free:∀b∈T,(∀t,¬ok b t)/\b<w.heap.size/\(X.w0.heap.size<=b\/b∈X.O)/\∀n,b∉U7 m n (S (Z5+n))
theorem Tk.nil{X:Fx}{S:Sm}{m:Mp}{ok:Nat->Ty->Prop}{w:World} :Tk X S m ok w []:=⟨dY,λb h=>by cases h⟩
def okW(ok:Nat->Ty->Prop)(bs:List Nat)(Ts:List Ty):Nat->Ty->Prop:=λb t=>ok b t\/(b∈bs/\t∈Ts)
variable {w':World}{bs:List Nat}
section
variable {X:Fx} {cl ch:Nat} {S:Sm} {m:Mp} {ok:Nat->Ty->Prop} {a:Act} {w:World} {T:List Nat}
theorem Tk.perm{T T' :List Nat}(h:Tk X S m ok w T)(p:T.Perm T'):Tk X S m ok w T' :=
 ⟨p.nodup_iff.1 h.nodup,λb hb=>h.free b (p.mem_iff.2 hb)⟩
theorem Sz{n:Nat} :∀{l:List Nat},Cf n l=false->n∉l
 |[],_,h=>by cases h|k::r,hb,h=>by
  unfold Cf at hb;cases hk:Nat.beq k n<;>rw[hk]at hb
  .rcases C9.1 h with e|h
   .subst e;rw[show Nat.beq n n=true from Nat.beq_refl n]at hk;cases hk
   .exact Sz hb h
  .cases hb
theorem Vk{n:Nat} :∀{l:List Nat},Cf n l=true->n∈l
 |[],h=>by cases h|k::r,hb=>by
  unfold Cf at hb;cases hk:Nat.beq k n<;>rw[hk]at hb
  .exact P7 _ (Vk hb)
  .have:=iH hk;subst this;exact iy
theorem zF{E:Env}{t:Nat}(h:Vm E t=true):t<E.nt/\t∉E.kp:=by
 unfold Vm at h;cases hb:Nat.blt t E.nt<;>rw[hb]at h
 .cases h
 .simp only[cond_true,dh]at h;exact⟨by rw[cZ]at hb;exact hb,Sz h⟩
theorem Rel.put(R:Rel X cl ch S m ok a w)(hnt:X.E.nt<=Z5){x:Value}(hd:Vm X.E d=true)(hv:lu ⟨w.heap,ok,m⟩ v x):
  Rel X cl ch (upd S d v) m ok (a.put (some d) x) w:=by
 obtain⟨hd,hkp⟩:=zF hd;have hb:∀n,upd S d v (Z5+n)=S (Z5+n):=λn=>bJ _ _ o5;have hkept:∀n∈X.E.kp,(a.put (some d) x).tmps.getD n Go.undef=X.tm0.getD n Go.undef:=λn hn=>by have e:n≠d:=λe=>hkp (e▸hn);simp only[Act.put];rw[Ht e];exact R.kept n hn
 refine { R with size:=(by simp[Act.put,R.size]),nodef:=(by simpa[Act.put]using R.nodef),slot:=λn hn=>?_,box:=λn=>(by rw[hb];exact R.box n),inj:=λn n' b=>(by rw[hb,hb];exact R.inj n n' b),nd:=λn=>(by rw[hb];exact R.nd n),sep:=λn b=>(by rw[hb];exact R.sep n b),fresh:=λn h1 h2=>R.fresh n h1 (by rwa[hb]at h2),kept:=hkept };by_cases e:n=d
 .subst e;simp only[lV,Act.put];rw[Uw (by rw[R.size];exact hd)];exact hv
 .rw[bJ _ _ e];simp only[Act.put];rw[Ht e];exact R.slot n hn
theorem Rel.slotV(R:Rel X cl ch S m ok a w)(hd:d<Z5)(hv:lu ⟨w.heap,ok,m⟩ v (a.tmps.getD d Go.undef)):
  Rel X cl ch (upd S d v) m ok a w:=by
 have hb:∀n,upd S d v (Z5+n)=S (Z5+n):=λn=>bJ _ _ o5;refine { R with slot:=λn hn=>?_,box:=λn=>(by rw[hb];exact R.box n),inj:=λn n' b=>(by rw[hb,hb];exact R.inj n n' b),nd:=λn=>(by rw[hb];exact R.nd n),sep:=λn b=>(by rw[hb];exact R.sep n b),fresh:=λn h1 h2=>R.fresh n h1 (by rwa[hb]at h2) };by_cases e:n=d
 .subst e;simp only[lV];exact hv
 .rw[bJ _ _ e];exact R.slot n hn
theorem Rel.world(R:Rel X cl ch S m ok a w){ok' :Nat->Ty->Prop}(hos:w'.os=w.os)(htp:w'.tape=w.tape)(hout:w'.output=w.output)(hsz:w.heap.size<=w'.heap.size)
  (hkeep:∀b,b<w.heap.size->((∃t,ok b t)\/(∃n,b∈U7 m n (S (Z5+n)))\/¬(X.w0.heap.size<=b\/b∈X.O))->w'.heap[b]? =w.heap[b]?)
  (hok:∀b t,ok b t->ok' b t) (hok' :∀b t,ok' b t->b<w'.heap.size/\(ok b t\/((X.w0.heap.size<=b\/b∈X.O)/\∀n,b∉U7 m n (S (Z5+n))))):
  Rel X cl ch S m ok' a w' :=by
 have hle:Cx.le ⟨w.heap,ok,m⟩ ⟨w'.heap,ok',m⟩:=⟨hok,λb t hb=>hkeep b (R.okLt b t hb) (.inl ⟨t,hb⟩),λ_ _ h=>h⟩;refine { kept:=R.kept,size:=R.size,nodef:=R.nodef,inj:=R.inj,nd:=R.nd,fresh:=R.fresh,strict:=R.strict,slot:=λn hn=>MZ hle (R.slot n hn),box:=λn=>QE hle rfl (λb hb=>hkeep b (R.sep n b hb).2.1 (.inr (.inl ⟨n,hb⟩))) (R.box n),sep:=λn b hb=>?_,okLt:=λb t hb=>(hok' b t hb).1,okIn:=λb t hb=>hok b t (R.okIn b t hb),okOut:=λb t hb=>?_,frame:=?_,gl:=λg u hg=>GK.le hle (R.gl g u hg) }
 .obtain⟨h1,h2,h3⟩:=R.sep n b hb;refine⟨λt h=>?_,o5,h3⟩;rcases(hok' b t h).2 with h|⟨_,h⟩
  .exact h1 t h
  .exact h n hb
 .rcases(hok' b t hb).2 with h|⟨h,_⟩
  .exact R.okOut b t h
  .exact .inr h
 .obtain⟨f1,f2,f3,f4,f5⟩:=R.frame;refine⟨hos.trans f1,htp.trans f2,hout.trans f3,o5,λb hb hO=>?_⟩;rw[hkeep b o5 (.inr (.inr (by simp[hO];omega)))];exact f5 b hb hO
theorem Rel.same(R:Rel X cl ch S m ok a w)(hos:w'.os=w.os)(htp:w'.tape=w.tape)(hout:w'.output=w.output)(hh:w'.heap=w.heap):Rel X cl ch S m ok a w' :=by refine R.world hos htp hout (by rw[hh];exact A7 _) (λb _ _=>by rw[hh]) (λ_ _ h=>h) (λb t h=>⟨by rw[hh];exact R.okLt b t h,.inl h⟩)
theorem xZ{n k b:Nat}(hv:U7 m n v=[])(h:b∈U7 m k (upd S (Z5+n) v (Z5+k))):k≠n/\b∈U7 m k (S (Z5+k)):=by
 by_cases e:k=n
 .subst e;rw[lV,hv]at h;cases h
 .rw[bJ _ _ o5]at h;exact⟨e,h⟩
theorem Rel.killV(R:Rel X cl ch S m ok a w)(n:Nat)(hv:v≠.undef)(hw:U7 m n v=[])(hB:CP ⟨w.heap,ok,m⟩ n v):Rel X cl ch (upd S (Z5+n) v) m ok a w:=by
 have ho:∀k b,b∈U7 m k (upd S (Z5+n) v (Z5+k))->k≠n/\b∈U7 m k (S (Z5+k)):=λk b h=>xZ hw h;refine { R with slot:=λk hk=>(by rw[bJ _ _ o5];exact R.slot k hk),box:=λk=>?_,inj:=λk k' b h h' =>R.inj k k' b (ho _ _ h).2 (ho _ _ h').2,nd:=λk=>?_,sep:=λk b h=>R.sep k b (ho _ _ h).2,fresh:=λk h1 h2=>?_ }
 .by_cases e:k=n
  .subst e;rw[lV];exact hB
  .rw[bJ _ _ o5];exact R.box k
 .by_cases e:k=n
  .subst e;rw[lV,hw];exact dY
  .rw[bJ _ _ o5];exact R.nd k
 .by_cases e:k=n
  .subst e;rw[lV]at h2;exact absurd h2 hv
  .rw[bJ _ _ o5]at h2;exact R.fresh k h1 h2
theorem Rel.kill(R:Rel X cl ch S m ok a w)(n:Nat):Rel X cl ch (upd S (Z5+n) .dead) m ok a w:=R.killV n D5 rfl trivial
theorem Tk.killV(R:Rel X cl ch S m ok a w)(h:Tk X S m ok w T)(n:Nat)(hw:U7 m n v=[])(hbs:∀b,b∈bs->b∈U7 m n (S (Z5+n)))(hnd:bs.Nodup):
  Tk X (upd S (Z5+n) v) m ok w (T++bs):=by
 refine⟨Y4.2 ⟨h.nodup,hnd,λx hx y hy e=>?_⟩,λb hb=>?_⟩
 .subst e;exact(h.free x hx).2.2.2 n (hbs x hy)
 .rcases F9.1 hb with hb|hb
  .obtain⟨h1,h2,h3,h4⟩:=h.free b hb;exact⟨h1,h2,h3,λk e=>h4 k (xZ hw e).2⟩
  .obtain⟨h1,h2,h3⟩:=R.sep n b (hbs b hb);exact⟨h1,h2,h3,λk e=>(xZ hw e).1 (R.inj k n b (xZ hw e).2 (hbs b hb))⟩
theorem Rel.mark(R:Rel X cl ch S m ok a w){md:M}{xs:List md.den}(hS:S (Z5+n)= .barrs md xs none):Rel X cl ch (upd S (Z5+(JY+n)) (.blen (x8 xs) md.size)) m ok a w:=by
 refine R.killV (JY+n) D5 rfl ?_;have hb:=R.box n;rw[hS]at hb;obtain⟨_,l,Os,hm,⟨ha,hho⟩,_⟩:=hb;refine⟨n,l,rfl,hm,?_⟩;cases l with
 |nil=>obtain⟨rfl,_⟩:=ha;rfl
 |st b=>cases ha|mp b=>cases ha|arr blk off len cap sz=>exact⟨by rw[ha.2.1];rfl,ha.1.symm⟩
theorem Tk.kill(R:Rel X cl ch S m ok a w)(h:Tk X S m ok w T)(n:Nat)(hbs:∀b,b∈bs->b∈U7 m n (S (Z5+n)))(hnd:bs.Nodup):
  Tk X (upd S (Z5+n) .dead) m ok w (T++bs):=h.killV R n rfl hbs hnd
theorem Rel.lay(R:Rel X cl ch S m ok a w){l:Loc}{ks:List Nat}(hn:S (Z5+n)= .undef)(hcl:cl<=n)(hch:n<ch)(hv:v≠.undef)
  (hos:w'.os=w.os) (htp:w'.tape=w.tape) (hout:w'.output=w.output) (hsz:w.heap.size<=w'.heap.size)
  (hkeep:∀b,b<w.heap.size->b∉U7 (nK m n l ks) n v->w'.heap[b]? =w.heap[b]?)
  (hnd:(U7 (nK m n l ks) n v).Nodup)
  (hfree:∀b∈U7 (nK m n l ks) n v,(∀t,¬ok b t)/\b<w'.heap.size/\(X.w0.heap.size<=b\/b∈X.O)/\∀k,b∉U7 m k (S (Z5+k)))
  (hB:CP ⟨w'.heap,ok,nK m n l ks⟩ n v):Rel X cl ch (upd S (Z5+n) v) (nK m n l ks) ok a w' :=by
 have hm:m n=none:=R.fresh n hcl hn;have hR:Rel X cl ch S m ok a w' :=by
  refine R.world hos htp hout hsz (λb hb h=>?_) (λ_ _ h=>h) (λb t h=>⟨by have:=R.okLt b t h;omega,.inl h⟩);refine hkeep b hb (λe=>?_);obtain⟨h1,h2,h3,h4⟩:=hfree b e;rcases h with⟨t,h⟩|⟨k,h⟩|h
  .exact h1 t h
  .exact h4 k h
  .exact h h3
 have hle:Cx.le ⟨w'.heap,ok,m⟩ ⟨w'.heap,ok,nK m n l ks⟩:=⟨λ_ _ h=>h,λ_ _ _=>rfl,λk x h=>by
  by_cases e:k=n
  .subst e;simp[hm]at h
  .show nK m n l ks k=some x;rw[jC _ _ _ e];exact h⟩
 have hob:∀k,k≠n->U7 (nK m n l ks) k (upd S (Z5+n) v (Z5+k))=U7 m k (S (Z5+k)):=λk e=>by rw[bJ _ _ o5];exact FB (jC _ _ _ e) (OW _ _ _ e)
 have hobn:U7 (nK m n l ks) n (upd S (Z5+n) v (Z5+n))=U7 (nK m n l ks) n v:=by rw[lV]
 refine { kept:=hR.kept,size:=hR.size,nodef:=hR.nodef,okLt:=hR.okLt,okIn:=hR.okIn,okOut:=hR.okOut,frame:=hR.frame,slot:=λk hk=>(by rw[bJ _ _ o5];exact MZ hle (hR.slot k hk)),box:=λk=>?_,inj:=λk k' b h h' =>?_,nd:=λk=>?_,sep:=λk b h=>?_,fresh:=λk h1 h2=>?_,strict:=λk h=>?_,gl:=λg u hg=>GK.le hle (hR.gl g u hg) }
 .by_cases e:k=n
  .subst e;rw[lV];exact hB
  .rw[bJ _ _ o5];refine QE hle (OW _ _ _ e) (λb hb=>rfl) (hR.box k)
 .by_cases e:k=n
  .by_cases e' :k' =n
   .rw[e,e']
   .subst e;rw[hobn]at h;rw[hob k' e']at h';exact absurd h' ((hfree b h).2.2.2 k')
  .by_cases e' :k' =n
   .subst e';rw[hobn]at h';rw[hob k e]at h;exact absurd h ((hfree b h').2.2.2 k)
   .rw[hob k e]at h;rw[hob k' e']at h';exact R.inj k k' b h h'
 .by_cases e:k=n
  .subst e;rw[hobn];exact hnd
  .rw[hob k e];exact R.nd k
 .by_cases e:k=n
  .subst e;rw[hobn]at h;obtain⟨h1,h2,h3,_⟩:=hfree b h;exact⟨h1,h2,h3⟩
  .rw[hob k e]at h;exact hR.sep k b h
 .by_cases e:k=n
  .subst e;rw[lV]at h2;exact absurd h2 hv
  .rw[bJ _ _ o5]at h2;rw[jC _ _ _ e];exact R.fresh k h1 h2
 .have e:k≠n:=o5;rw[jC _ _ _ e];exact R.strict k h
theorem Rel.modK(R:Rel X cl ch S m ok a w)(hT:Tk X S m ok w T){ks:List Nat}(hv:v≠.undef)
  (hnd:(U7 (Df m n ks) n v).Nodup) (hsub:∀b∈U7 (Df m n ks) n v,b∈U7 m n (S (Z5+n))\/b∈T)
  (hos:w'.os=w.os) (htp:w'.tape=w.tape) (hout:w'.output=w.output) (hsz:w'.heap.size=w.heap.size)
  (hkeep:∀b,b∉U7 m n (S (Z5+n))->w'.heap[b]? =w.heap[b]?) (hB:CP ⟨w'.heap,ok,Df m n ks⟩ n v)
  {T' :List Nat} (hnd' :T'.Nodup) (hT' :∀b∈T',(b∈U7 m n (S (Z5+n))\/b∈T)/\b∉U7 (Df m n ks) n v):
  Rel X cl ch (upd S (Z5+n) v) (Df m n ks) ok a w' /\Tk X (upd S (Z5+n) v) (Df m n ks) ok w' T' :=by
 have hsep:∀b,b∈U7 m n (S (Z5+n))\/b∈T->(∀t,¬ok b t)/\b<w.heap.size/\(X.w0.heap.size<=b\/b∈X.O)/\∀k,k≠n->b∉U7 m k (S (Z5+k)):=λb h=>by
  rcases h with h|h
  .obtain⟨h1,h2,h3⟩:=R.sep n b h;exact⟨h1,h2,h3,λk e h' =>e (R.inj k n b h' h)⟩
  .obtain⟨h1,h2,h3,h4⟩:=hT.free b h;exact⟨h1,h2,h3,λk _=>h4 k⟩
 have hle:Cx.le ⟨w.heap,ok,m⟩ ⟨w'.heap,ok,Df m n ks⟩:=⟨λ_ _ h=>h,λb t hb=>hkeep b (λe=>(R.sep n b e).1 t hb),λ_ _ h=>h⟩;have hob:∀k,k≠n->U7 (Df m n ks) k (upd S (Z5+n) v (Z5+k))=U7 m k (S (Z5+k)):=λk e=>by rw[bJ _ _ o5];exact FB rfl (VE _ _ e)
 have hobn:U7 (Df m n ks) n (upd S (Z5+n) v (Z5+n))=U7 (Df m n ks) n v:=by rw[lV]
 refine⟨?_,hnd',λb hb=>?_⟩
 .refine { kept:=R.kept,size:=R.size,nodef:=R.nodef,okLt:=λb t hb=>(by rw[hsz];exact R.okLt b t hb),okIn:=R.okIn,okOut:=R.okOut,strict:=R.strict,slot:=λk hk=>(by rw[bJ _ _ o5];exact MZ hle (R.slot k hk)),box:=λk=>?_,inj:=λk k' b h h' =>?_,nd:=λk=>?_,sep:=λk b h=>?_,fresh:=λk h1 h2=>?_,frame:=?_,gl:=λg u hg=>GK.le hle (R.gl g u hg) }
  .by_cases e:k=n
   .subst e;rw[lV];exact hB
   .rw[bJ _ _ o5];refine QE hle (VE _ _ e) (λb hb=>hkeep b (λe' =>e (R.inj k n b hb e'))) (R.box k)
  .by_cases e:k=n
   .by_cases e' :k' =n
    .rw[e,e']
    .subst e;rw[hobn]at h;rw[hob k' e']at h';exact absurd h' ((hsep b (hsub b h)).2.2.2 k' e')
   .by_cases e' :k' =n
    .subst e';rw[hobn]at h';rw[hob k e]at h;exact absurd h ((hsep b (hsub b h')).2.2.2 k e)
    .rw[hob k e]at h;rw[hob k' e']at h';exact R.inj k k' b h h'
  .by_cases e:k=n
   .subst e;rw[hobn];exact hnd
   .rw[hob k e];exact R.nd k
  .by_cases e:k=n
   .subst e;rw[hobn]at h;obtain⟨h1,h2,h3,_⟩:=hsep b (hsub b h);exact⟨h1,by rw[hsz];exact h2,h3⟩
   .rw[hob k e]at h;obtain⟨h1,h2,h3⟩:=R.sep k b h;exact⟨h1,by rw[hsz];exact h2,h3⟩
  .obtain⟨f1,f2,f3,f4,f5⟩:=R.frame;refine⟨hos.trans f1,htp.trans f2,hout.trans f3,by rw[hsz];exact f4,λb hb hO=>?_⟩;rw[hkeep b (λe=>?_)]
   .exact f5 b hb hO
   .rcases(R.sep n b e).2.2 with h|h
    .omega
    .exact hO h
  .by_cases e:k=n
   .subst e;rw[lV]at h2;exact absurd h2 hv
   .rw[bJ _ _ o5]at h2;exact R.fresh k h1 h2
 .obtain⟨h0,h0'⟩:=hT' b hb;obtain⟨h1,h2,h3,h4⟩:=hsep b h0;refine⟨h1,by rw[hsz];exact h2,h3,λk h=>?_⟩;by_cases e:k=n
  .subst e;rw[hobn]at h;exact h0' h
  .rw[hob k e]at h;exact h4 k e h
theorem Rel.mod(R:Rel X cl ch S m ok a w)(ho:U7 m n v=U7 m n (S (Z5+n)))(hv:v≠.undef)
  (hos:w'.os=w.os) (htp:w'.tape=w.tape) (hout:w'.output=w.output) (hsz:w'.heap.size=w.heap.size)
  (hkeep:∀b,b∉U7 m n (S (Z5+n))->w'.heap[b]? =w.heap[b]?) (hB:CP ⟨w'.heap,ok,m⟩ n v):Rel X cl ch (upd S (Z5+n) v) m ok a w' :=by
 have h:=R.modK (T:=[]) Tk.nil (n:=n) (v:=v) (ks:=m.kid n) (w' :=w') (T' :=[]) hv (by rw[wY,ho];exact R.nd n) (by rw[wY,ho];exact λb h=> .inl h) hos htp hout hsz hkeep (by rw[wY];exact hB) dY (λb h=>by cases h);rw[wY]at h;exact h.1
theorem Rel.widen(R:Rel X cl ch S m ok a w)(hv:v≠.undef)(ho:U7 m n v=[]){Ts:List Ty}(hbs:∀b∈bs,b∈U7 m n (S (Z5+n)))
  (hB:CP ⟨w.heap,okW ok bs Ts,m⟩ n v):Rel X cl ch (upd S (Z5+n) v) m (okW ok bs Ts) a w:=by
 have hmono:∀b t,ok b t->okW ok bs Ts b t:=λb t h=> .inl h;have hob:∀k b,b∈U7 m k (upd S (Z5+n) v (Z5+k))->k≠n/\b∈U7 m k (S (Z5+k)):=λk b h=>xZ ho h;have hle:Cx.le ⟨w.heap,ok,m⟩ ⟨w.heap,okW ok bs Ts,m⟩:=⟨hmono,λ_ _ _=>rfl,λ_ _ h=>h⟩;refine { kept:=R.kept,size:=R.size,nodef:=R.nodef,strict:=R.strict,frame:=R.frame,okIn:=λb t h=>hmono b t (R.okIn b t h),slot:=λk hk=>(by rw[bJ _ _ o5];exact MZ hle (R.slot k hk)),box:=λk=>?_,inj:=λk k' b h h' =>R.inj k k' b (hob _ _ h).2 (hob _ _ h').2,nd:=λk=>?_,sep:=λk b h=>?_,okLt:=λb t h=>?_,okOut:=λb t h=>?_,fresh:=λk h1 h2=>?_,gl:=λg u hg=>GK.le hle (R.gl g u hg) }
 .by_cases e:k=n
  .subst e;rw[lV];exact hB
  .rw[bJ _ _ o5];exact QE hle rfl (λb hb=>rfl) (R.box k)
 .by_cases e:k=n
  .subst e;rw[lV,ho];exact dY
  .rw[bJ _ _ o5];exact R.nd k
 .obtain⟨e,h⟩:=hob k b h;obtain⟨h1,h2,h3⟩:=R.sep k b h;refine⟨λt h' =>?_,h2,h3⟩;rcases h' with h'|⟨h',_⟩
  .exact h1 t h'
  .exact e (R.inj k n b h (hbs b h'))
 .rcases h with h|⟨h,_⟩
  .exact R.okLt b t h
  .exact(R.sep n b (hbs b h)).2.1
 .rcases h with h|⟨h,_⟩
  .exact R.okOut b t h
  .exact .inr (R.sep n b (hbs b h)).2.2
 .by_cases e:k=n
  .subst e;rw[lV]at h2;exact absurd h2 hv
  .rw[bJ _ _ o5]at h2;exact R.fresh k h1 h2
theorem Tk.widen(h:Tk X S m ok w T)(ho:U7 m n v=[]){Ts:List Ty}(hbs:∀b∈bs,b∈U7 m n (S (Z5+n))):
  Tk X (upd S (Z5+n) v) m (okW ok bs Ts) w T:=by
 refine⟨h.nodup,λb hb=>?_⟩;obtain⟨h1,h2,h3,h4⟩:=h.free b hb;refine⟨λt e=>?_,h2,h3,λk e=>h4 k (xZ ho e).2⟩;rcases e with e|⟨e,_⟩
 .exact h1 t e
 .exact h4 n (hbs b e)
theorem Rel.backV(R:Rel X cl ch S m ok a w){O1 B:List Nat}(hv:v≠.undef)(hT:Tk X S m ok w (O1++B))(ho:U7 m n v=O1)(hB:CP ⟨w.heap,ok,m⟩ n v):
  Rel X cl ch (upd S (Z5+n) v) m ok a w/\Tk X (upd S (Z5+n) v) m ok w B:=by
 have hnd:=Y4.1 hT.nodup;have h:=R.modK hT (n:=n) (v:=v) (ks:=m.kid n) (w' :=w) (T' :=B) hv (by rw[wY,ho];exact hnd.1) (by rw[wY,ho];exact λb h=> .inr (by simp[h])) rfl rfl rfl rfl (λ_ _=>rfl) (by rw[wY];exact hB) hnd.2.1
  (λb hb=>⟨.inr (by simp[hb]),by rw[wY,ho];exact λh=>hnd.2.2 b h b hb rfl⟩)
 rw[wY]at h;exact h
end
end Go.GP
namespace Go.GP
def Gf:Loc->Option (Nat×Nat)->Loc
 | .arr blk off len cap sz,some (lo,hi)=>if cap=lo then .arr blk off 0 0 sz else .arr blk (off+lo*sz) (hi -lo) (cap -lo) sz|l,_=>l
variable {v:Value}{t:Ty}{l:Loc}
theorem EL{C:Cx}{xs:List t.den}{vw:Option (Nat×Nat)}(ha:arrOk C t xs l)(hv:l.view vw v):
  arrOk C t (jD vw xs) (Gf l vw)/\(Gf l vw).view none v/\(Gf l vw).blks=l.blks:=by
 cases l with
 |st b=>cases ha|mp b=>
  cases vw with
  |none=>exact⟨ha,hv,rfl⟩|some p=>cases hv
 |nil=>
  obtain⟨ha,h0⟩:=ha;subst ha;cases vw with
  |none=>exact⟨⟨rfl,h0⟩,hv,rfl⟩|some p=>obtain⟨lo,hi⟩:=p;obtain⟨rfl,rfl,rfl⟩:=hv;exact⟨⟨rfl,h0⟩,rfl,rfl⟩
 |arr blk off len cap sz=>
  cases vw with
  |none=>exact⟨ha,hv,rfl⟩|some p=>
   obtain⟨lo,hi⟩:=p;obtain⟨h0,rfl,rfl,hc,c,T,f,hh,hz,hs,hx⟩:=ha;obtain⟨h1,h2,rfl⟩:=hv;have hl:(jD (some (lo,hi)) xs).length=hi -lo:=by simp[jD,jY];omega
   by_cases e:cap=lo
   .subst e;have e2:hi=cap:=o5;subst e2;simp only[Gf,if_true,Loc.view,bf];refine⟨⟨h0,rfl,by rw[hl];omega,A7 _,c,T,f,hh,hz,?_,λi x hi=>?_⟩,trivial,rfl⟩
    .have:=aU (hi*t.size);omega
    .have:i<0:=by
      have:=(ai.1 hi).1;rw[hl]at this;omega
     omega
   .simp only[Gf,e,if_false,Loc.view];refine⟨⟨h0,rfl,by rw[hl],o5,c,T,f,hh,hz,?_,λi x hix=>?_⟩,trivial,rfl⟩
    .have:off+lo*t.size+(cap -lo)*t.size=off+cap*t.size:=by
      rw[kP,←J3];congr 2;omega
     rw[this];exact hs
    .have hi' :i<hi -lo:=by rw[←hl];exact(ai.1 hix).1
     have hx' :xs[lo+i]? =some x:=by
      simp only[jD,jY,U8,V6]at hix;split at hix
      .exact hix
      .cases hix
     obtain⟨es,he,hr⟩:=hx _ x hx';refine⟨es,?_,hr⟩;rw[←he];congr 1;rw[J3];omega
def Ot(ag:Bool)(v:Value)(cs:List Value):Prop:=match ag with
 |true=>∃arr,v= .agg arr/\arr.toList=cs|false=>cs=[v]
def sZ(h:Array Obj)(ok:Nat->Ty->Prop):(ms:List MG)->aP ms->List Value->List Nat->Prop
 |[],_,vs,O=>vs=[]/\O=[]|[m],x,vs,O=>∃v cs,vs=[v]/\Ot m.1 v cs/\qg h ok m.2 none x cs O|m::m' ::r,x,vs,O=>∃v cs vs' O1 O2,vs=v::vs' /\O=O1++O2/\Ot m.1 v cs/\qg h ok m.2 none x.1 cs O1/\sZ h ok (m' ::r) x.2 vs' O2
theorem oI{vw:Option (Nat×Nat)}(h:l.view vw v):v.oneCell' =true:=by
 cases l<;>rcases vw with _|⟨lo,hi⟩<;>simp only[Loc.view]at h
 .subst h;rfl
 .obtain⟨_,_,rfl⟩:=h;rfl
 .subst h;rfl
 .obtain⟨_,_,rfl⟩:=h;rfl
 .subst h;rfl
variable {h:Array Obj}
theorem Hg{ok:Nat->Ty->Prop}{x:t.den}{o:Nat}(k:VX h ok t x o v):v.oneCell' =true:=by obtain⟨_,_,_,rfl,_⟩:=k;rfl
variable {α:Type}{ok':Nat->Ty->Prop}{cs:List Value}{O:List Nat}
section
variable {h:Array Obj} {ok:Nat->Ty->Prop}
theorem xu{xs:List t.den} :qg h ok (.own t) none xs cs O↔∃l v,cs=[v]/\l.view none v/\arrOk ⟨h,ok,nom⟩ t xs l/\O=l.blks:=by
 constructor
 .rintro⟨v,e,_,l,hv,ha,ho⟩;exact⟨l,v,e,hv,ha,ho⟩
 .rintro⟨l,v,e,hv,ha,ho⟩;exact⟨v,e,oI hv,l,hv,ha,ho⟩
theorem yf{m:M}{xs:List m.den} :qg h ok (.owns m) none xs cs O↔m.el=true/\∃l v Os,cs=[v]/\l.view none v/\
  AC h m.size (λ_ x es O=>qg h ok m none x es O) xs Os l/\O=l.blks++Os.flatten:=by
 constructor
 .rintro⟨v,e,_,he,l,Os,hv,ha,ho⟩;exact⟨he,l,v,Os,e,hv,ha,ho⟩
 .rintro⟨he,l,v,Os,e,hv,ha,ho⟩;exact⟨v,e,oI hv,he,l,Os,hv,ha,ho⟩
theorem a3q{a b:M}{x:a.den×b.den} :qg h ok (.pair a b) none x cs O↔∃c d O1 O2,cs=c++d/\O=O1++O2/\qg h ok a none x.1 c O1/\qg h ok b none x.2 d O2:=Iff.rfl
theorem pM:∀{m:M} {ho:Option Nat} {x:m.den} {cs:List Value} {O:List Nat},qg h ok m ho x cs O->∀v∈cs,v.oneCell' =true
 | .dat t,_,_,_,_,e=>wo e.1| .own t,_,_,_,_,⟨v,e,hv,_⟩=>by subst e;simp[hv]| .owns t,_,_,_,_,⟨v,e,hv,_⟩=>by subst e;simp[hv]| .ownb t,_,_,_,_,⟨l,v,e,hv,_⟩=>by subst e;simp[oI hv]| .pair a b,_,_,_,_,⟨c,d,_,_,e,_,h1,h2⟩=>by
  subst e;intro v hv;rcases F9.1 hv with hv|hv
  .exact pM h1 v hv
  .exact pM h2 v hv
 | .unit,_,_,_,_,⟨e,_⟩=>by subst e;simp| .box m,_,_,_,_,⟨_,_,_,_,e,_⟩=>by subst e;simp[Value.oneCell']| .rp t,_,_,_,_,⟨v,e,hv,_⟩=>by subst e;simp[Hg hv]| .fn f ts,_,_,_,_,⟨vs,e,_⟩=>by subst e;simp[Value.oneCell']| .ifc t m,_,_,_,_,⟨u,e,_⟩=>by subst e;simp[Value.oneCell']| .cell _,_,_,_,_,⟨v,e,h,_⟩=>by subst e;simp[h]| .fr t,_,_,_,_,⟨l,v,e,hv,_⟩=>by subst e;simp[oI hv]| .lp t,_,_,_,_,⟨v,e,hv,_⟩=>by subst e;simp[Hg hv]| .dv ..,_,_,_,_,⟨v,e,h,_⟩=>by subst e;simp[h]| .sit,_,_,_,_,⟨blk,a,v,e,_⟩=>by subst e;simp[Value.oneCell']| .sbx tb te,_,_,_,_,⟨blk,a,v,l,e,_⟩=>by subst e;simp[Value.oneCell']
theorem NH{α β α' β' :Type}(ea:α=α')(eb:β=β')(e:(α×β)=(α' ×β'))(x:α×β):cast e x=(cast ea x.1,cast eb x.2):=by subst ea;subst eb;rfl
theorem M.ty_size:∀{m:M},m.el=true->m.ty.size=m.size
 | .dat _,_=>rfl| .own _,_=>rfl| .owns _,_=>rfl| .unit,_=>rfl| .pair a b,h=>by
  have h' :a.el=true/\b.el=true:=by simpa[M.el]using h
  simp[M.ty,Ty.size,M.size,M.ty_size h'.1,M.ty_size h'.2]
 | .box _,h=>by simp[M.el]at h| .ownb _,h=>by simp[M.el]at h| .rp _,h=>by simp[M.el]at h| .fn _ _,h=>by simp[M.el]at h| .ifc _ _,h=>by simp[M.el]at h| .cell _,h=>by simp[M.el]at h| .fr _,h=>by simp[M.el]at h| .sbx _ _,h=>by simp[M.el]at h| .lp _,h=>by simp[M.el]at h| .dv ..,h=>by simp[M.el]at h| .sit,h=>by simp[M.el]at h
theorem bU:∀{m:M} {ho:Option Nat} {x:m.den} {cs:List Value} {O:List Nat},qg h ok m ho x cs O->cs.length=m.size
 | .dat t,_,_,_,_,e=>eY e.1| .own t,_,_,_,_,⟨v,e,hv,_⟩=>by subst e;rfl| .owns t,_,_,_,_,⟨v,e,hv,_⟩=>by subst e;rfl| .ownb t,_,_,_,_,⟨l,v,e,hv,_⟩=>by subst e;rfl| .pair a b,_,_,_,_,⟨c,d,_,_,e,_,h1,h2⟩=>by subst e;simp[bU h1,bU h2,M.size]| .unit,_,_,_,_,⟨e,_⟩=>by subst e;rfl| .box m,_,_,_,_,⟨_,_,_,_,e,_⟩=>by subst e;rfl| .rp t,_,_,_,_,⟨v,e,hv,_⟩=>by subst e;rfl| .fn f ts,_,_,_,_,⟨vs,e,_⟩=>by subst e;rfl| .ifc t m,_,_,_,_,⟨u,e,_⟩=>by subst e;rfl| .cell _,_,_,_,_,⟨v,e,_⟩=>by subst e;rfl| .fr t,_,_,_,_,⟨l,v,e,hv,_⟩=>by subst e;rfl| .lp t,_,_,_,_,⟨v,e,_⟩=>by subst e;rfl| .dv ..,_,_,_,_,⟨v,e,_⟩=>by subst e;rfl| .sit,_,_,_,_,⟨blk,a,v,e,_⟩=>by subst e;rfl| .sbx tb te,_,_,_,_,⟨blk,a,v,l,e,_⟩=>by subst e;rfl
theorem XB{sz:Nat}{mp:Mp}(h0:t.isEnt=false)(e:α=t.den)(e' :List α=List t.den)(hs:t.size=sz){R:Nat->α->List Value->List Nat->Prop}{xs:List α}{Os:List (List Nat)}
  (hR:∀i x es O,O∈Os->R i x es O->lw h ok' t (cast e x) es) (ha:AC h sz R xs Os l):arrOk ⟨h,ok',mp⟩ t (cast e' xs) l:=by
 subst e;simp only[cast_eq]at hR ⊢;cases l with
 |nil=>exact⟨ha.1,h0⟩|st b=>exact ha|mp b=>exact ha.elim|arr blk off len cap sz' =>obtain⟨h1,h2,h3,h7,c,T,h4,h5,h6⟩:=ha;refine⟨h0,by rw[hs];exact h1,h2,h3,c,T,_,h4,.inl rfl,by rw[h1];exact h5,λi x hi=>?_⟩;obtain⟨es,O,hO,hc,hr⟩:=h6 i x hi;exact⟨es,by rw[h1];exact hc,hR i x es O (wJ hO) hr⟩
theorem M.ty_ent:∀{m:M},m.el=true->m.ty.isEnt=false
 | .dat t,h=>by simpa[M.el,M.ty]using h| .own _,_=>rfl| .owns _,_=>rfl| .unit,_=>rfl| .pair _ _,_=>rfl| .box _,h=>by simp[M.el]at h| .ownb _,h=>by simp[M.el]at h| .rp _,h=>by simp[M.el]at h| .fn _ _,h=>by simp[M.el]at h| .ifc _ _,h=>by simp[M.el]at h| .cell _,h=>by simp[M.el]at h| .fr _,h=>by simp[M.el]at h| .sbx _ _,h=>by simp[M.el]at h| .lp _,h=>by simp[M.el]at h| .dv ..,h=>by simp[M.el]at h| .sit,h=>by simp[M.el]at h
theorem MX{ok' :Nat->Ty->Prop}(hok:∀b t,ok b t->ok' b t):∀{m:M} (he:m.el=true) {x:m.den} {cs:List Value} {O:List Nat},(∀b∈O,∀t∈m.owned,ok' b t)->qg h ok m none x cs O->lw h ok' m.ty (cast (M.denEq m he) x) cs
 | .dat t,_,_,_,_,_,e=>fA hok (λ_ _ _=>rfl) e.1| .unit,_,_,_,_,_,e=>e.1| .own t,he,xs,_,_,hO,e=>by obtain⟨l,v,rfl,hv,ha,rfl⟩:=xu.1 e;exact pG (C:=⟨h,ok,nom⟩) (vw:=none) ha hv hok (λblk hb=>hO blk hb t (by simp[M.owned]))
 | .pair a b,he,x,_,_,hO,e=>by
  obtain⟨c,d,O1,O2,rfl,rfl,h1,h2⟩:=e;have h' :a.el=true/\b.el=true:=by simpa[M.el]using he
  have e:cast (M.denEq (.pair a b) he) x=(cast (M.denEq a h'.1) x.1,cast (M.denEq b h'.2) x.2):=NH _ _ _ _;refine⟨c,d,rfl,?_,?_⟩
  .rw[e];exact MX hok h'.1 (λb hb t ht=>hO b (by simp[hb]) t (by simp[M.owned,ht])) h1
  .rw[e];exact MX hok h'.2 (λb hb t ht=>hO b (by simp[hb]) t (by simp[M.owned,ht])) h2
 | .owns m,he,xs,_,_,hO,e=>by
  obtain⟨_,l,v,Os,rfl,hv,ha,rfl⟩:=yf.1 e;have he' :m.el=true:=he;have hA:arrOk ⟨h,ok',nom⟩ m.ty (cast (congrArg List (M.denEq m he')) xs) l:=XB (M.ty_ent he') (M.denEq m he') _ (M.ty_size he') (λi x es O hOi hr=>MX hok he' (λb hb t ht=>hO b (by simp only[F9,dJ];exact .inr ⟨O,hOi,hb⟩) t (by simp[M.owned,ht])) hr) ha
  exact pG (C:=⟨h,ok',nom⟩) (t:=m.ty) (vw:=none) hA hv (λ_ _ h=>h) (λblk hb=>hO blk (by simp[hb]) m.ty (by simp[M.owned]))
 | .box _,h,_,_,_,_,_=>by simp[M.el]at h| .ownb _,h,_,_,_,_,_=>by simp[M.el]at h| .rp _,h,_,_,_,_,_=>by simp[M.el]at h| .fn _ _,h,_,_,_,_,_=>by simp[M.el]at h| .ifc _ _,h,_,_,_,_,_=>by simp[M.el]at h| .cell _,h,_,_,_,_,_=>by simp[M.el]at h| .fr _,h,_,_,_,_,_=>by simp[M.el]at h| .sbx _ _,h,_,_,_,_,_=>by simp[M.el]at h| .lp _,h,_,_,_,_,_=>by simp[M.el]at h| .dv ..,h,_,_,_,_,_=>by simp[M.el]at h| .sit,h,_,_,_,_,_=>by simp[M.el]at h
theorem JC{m:M}{mp:Mp}(he:m.el=true)(hok:∀b t,ok b t->ok' b t){xs:List m.den}{Os:List (List Nat)}(hO:∀b∈Os.flatten,∀t∈m.owned,ok' b t)
  (ha:AC h m.size (λ_ x es O=>qg h ok m none x es O) xs Os l):arrOk ⟨h,ok',mp⟩ m.ty (cast (congrArg List (M.denEq m he)) xs) l:=
 XB (M.ty_ent he) (M.denEq m he) _ (M.ty_size he) (λi x es O hOi hr=>MX hok he (λb hb t ht=>hO b (dJ.2 ⟨O,hOi,hb⟩) t ht) hr) ha
end
theorem PS{h h' :Array Obj}{ok ok' :Nat->Ty->Prop}(hok:∀b t,ok b t->ok' b t)(hh:∀b t,ok b t->h'[b]? =h[b]?):
  ∀{ms:List MG} {x:aP ms} {vs:List Value} {O:List Nat},(∀b∈O,h'[b]? =h[b]?)->sZ h ok ms x vs O->sZ h' ok' ms x vs O
 |[],_,_,_,_,e=>e|[m],_,_,_,hb,⟨v,cs,e,hg,hr⟩=>⟨v,cs,e,hg,kF hok hh hb hr⟩|m::m' ::r,_,_,_,hb,⟨v,cs,vs',O1,O2,e,eo,hg,h1,h2⟩=>by subst eo;exact⟨v,cs,vs',O1,O2,e,rfl,hg,kF hok hh (λb h=>hb b (by simp[h])) h1,PS hok hh (λb h=>hb b (by simp[h])) h2⟩
variable {Q:α->Sm->Prop}{c:V}
section
variable {X:Fx} {cl ch:Nat} {S:Sm} {m:Mp} {ok:Nat->Ty->Prop} {a:Act} {w:World} {T:List Nat}
theorem fM{p q:Ty}{xs:List p.den}{k:List q.den->Cmd α}{S:Sm}
  (h:∀e:p=q,(k (e▸xs)).post S Q):(Ty.castL p q xs k .fail).post S Q:=by
 unfold Ty.castL;split
 .rename_i e;exact h e
 .trivial
theorem eH{b:Bool}{c:Cmd α}{S:Sm}(h:b=true->c.post S Q):(bif b then c else Cmd.fail).post S Q:=by
 cases b
 .trivial
 .exact h rfl
theorem BM{p q:Ty}{x:p.den}{k:q.den->Cmd α}{S:Sm}
  (h:∀e:p=q,(k (e▸x)).post S Q):(QX p q x k .fail).post S Q:=by
 unfold QX;split
 .rename_i e;exact h e
 .trivial
theorem QW{p q:M}{xs:List p.den}{k:List q.den->Cmd α}{S:Sm}
  (h:∀e:p=q,(k (e▸xs)).post S Q):(a0V p q xs k .fail).post S Q:=by
 unfold a0V;split
 .rename_i e;exact h (M.beq_eq e)
 .trivial
theorem XR{p:M}{xs:List p.den}{k:List t.den->Cmd α}{S:Sm}
  (h:∀(e:p.el=true) (e' :p.ty=t),(k (e' ▸cast (congrArg List (M.denEq p e)) xs)).post S Q):(h_ p t xs k .fail).post S Q:=by
 unfold h_;split
 .rename_i e;obtain⟨e,rfl⟩:=e;exact h e rfl
 .trivial
theorem FK{ok ok' :Nat->Ty->Prop}{m:Mp}(k:∀b t,ok b t->ok' b t){cs:List V}{vs:List Value}(hr:gu ⟨h,ok,m⟩ cs vs):gu ⟨h,ok',m⟩ cs vs:=
 Dw (C:=⟨h,ok,m⟩) (D:=⟨h,ok',m⟩) ⟨k,λ_ _ _=>rfl,λ_ _ h=>h⟩ hr
theorem Jn{ok ok' :Nat->Ty->Prop}{m:Mp}(k:∀b t,ok b t->ok' b t)(hr:lu ⟨h,ok,m⟩ c v):lu ⟨h,ok',m⟩ c v:=
 MZ (C:=⟨h,ok,m⟩) (D:=⟨h,ok',m⟩) ⟨k,λ_ _ _=>rfl,λ_ _ h=>h⟩ hr
theorem CE{bs:List Nat}{Ts:List Ty} :∀b t,ok b t->okW ok bs Ts b t:=λ_ _ h=> .inl h
def okL(ln:Ty->Bool)(S:Sm)(m:Mp)(ok:Nat->Ty->Prop):Nat->Ty->Prop:=λb t=>ok b t\/(ln t=true/\∃n,b∈U7 m n (S (Z5+n))/\a5n (S (Z5+n)) t)
theorem G_:okL yL S m ok=ok:=by funext b t;simp[okL,yL]
theorem Vo{ln:Ty->Bool}{n:Nat}{v:V}(hv:U7 m n v=[]){Ts:List Ty}{bs:List Nat}(hbs:U7 m n (S (Z5+n)) ⊆ bs)(hTs:∀t,a5n (S (Z5+n)) t->t∈Ts):
  ∀b t,okL ln S m ok b t->okL ln (upd S (Z5+n) v) m (okW ok bs Ts) b t:=by
 intro b t h;rcases h with h|⟨hl,k,hk,ht⟩
 .exact .inl (.inl h)
 .by_cases e:k=n
  .subst e;exact .inl (.inr ⟨hbs hk,hTs _ ht⟩)
  .exact .inr ⟨hl,k,by rw[bJ _ _ o5];exact⟨hk,ht⟩⟩
def aW(S S' :Sm):Prop:=∀n,n<Z5->S' n=S n
theorem aW.refl(S:Sm):aW S S:=λ_ _=>rfl
theorem aW.trans{A B C:Sm}(h:aW A B)(k:aW B C):aW A C:=λn hn=>(k n hn).trans (h n hn)
theorem aW.box(S:Sm)(n:Nat)(v:V):aW S (upd S (Z5+n) v):=λk hk=>bJ _ _ o5
theorem UK{ln:Ty->Bool} :∀{ts:List Ty},Xz ln ts=true->∀t∈ts,ln t=true
 |[],_,_,h=>by cases h|u::r,e,t,h=>by
  unfold Xz at e;cases hl:ln u with
  |false=>rw[hl]at e;cases e|true=>
   rw[hl]at e;rcases C9.1 h with rfl|h
   .exact hl
   .exact UK e t h
theorem AB{α:Type}{Q:α->Sm->Prop}(ln:Ty->Bool):∀(t:Ty) {cs:List V} {K:t.den->List V->Cmd α} {S:Sm} {ok:Nat->Ty->Prop} {vs:List Value} (R:Rel X cl ch S m ok a w) (hT:Tk X S m ok w T)
  (hL:gu ⟨w.heap,ok,m⟩ cs vs)
  (hK:∀S' ok' x r us us',Rel X cl ch S' m ok' a w->Tk X S' m ok' w T->(∀b t,ok b t->ok' b t)->(∀b t,okL ln S m ok b t->okL ln S' m ok' b t)->aW S S' ->vs=us++us' ->lw w.heap (okL ln S' m ok') t x us->gu ⟨w.heap,ok',m⟩ r us' ->(K x r).post S' Q),
  (mJ ln t cs K).post S Q
 | .bool,cs,K,S,ok,vs,R,hT,hL,hK=>by
  unfold mJ;split
  .obtain⟨v,r,rfl,h1,_,h3⟩:=hL;exact hK _ _ _ _ [v] r R hT (λ_ _ h=>h) (λ_ _ h=>h) (aW.refl _) rfl (by simp only[uM]at h1;simp[lw,h1]) h3
  .trivial
 | .int k,cs,K,S,ok,vs,R,hT,hL,hK=>by
  unfold mJ;split
  .rename_i k' n r0;obtain⟨v,r,rfl,h1,_,h3⟩:=hL;by_cases e:k=k'
   .subst e;simp only[decide_true,cond_true];exact hK _ _ _ _ [v] r R hT (λ_ _ h=>h) (λ_ _ h=>h) (aW.refl _) rfl (by simp only[uM]at h1;simp[lw,h1]) h3
   .simp only[e,decide_false,cond_false];trivial
  .trivial
 | .str,cs,K,S,ok,vs,R,hT,hL,hK=>by
  unfold mJ;split
  .obtain⟨v,r,rfl,h1,_,h3⟩:=hL;exact hK _ _ _ _ [v] r R hT (λ_ _ h=>h) (λ_ _ h=>h) (aW.refl _) rfl (by simp only[uM]at h1;simp[lw,h1]) h3
  .trivial
 | .unit,cs,K,S,ok,vs,R,hT,hL,hK=>by unfold mJ;exact hK _ _ _ _ [] vs R hT (λ_ _ h=>h) (λ_ _ h=>h) (aW.refl _) rfl rfl hL| .any none,cs,K,S,ok,vs,R,hT,hL,hK=>by
  unfold mJ;split
  .obtain⟨v,r,rfl,h1,h2,h3⟩:=hL;exact hK _ _ _ _ [v] r R hT (λ_ _ h=>h) (λ_ _ h=>h) (aW.refl _) rfl ⟨v,rfl,h2,trivial⟩ h3
  .trivial
 | .any (some k),cs,K,S,ok,vs,R,hT,hL,hK=>by
  unfold mJ;split
  .rename_i k' n r0;obtain⟨v,r,rfl,h1,h2,h3⟩:=hL;by_cases e:k=k'
   .subst e;simp only[decide_true,cond_true];exact hK _ _ _ _ [v] r R hT (λ_ _ h=>h) (λ_ _ h=>h) (aW.refl _) rfl ⟨v,rfl,h2,n,h1⟩ h3
   .simp only[e,decide_false,cond_false];trivial
  .trivial
 | .prod p q,cs,K,S,ok,vs,R,hT,hL,hK=>by unfold mJ;refine AB ln p R hT hL λS1 ok1 x r us us' R1 T1 k1 g1 s1 e1 h1 l1=>?_;refine AB ln q R1 T1 l1 λS2 ok2 y r' vs2 vs2' R2 T2 k2 g2 s2 e2 h2 l2=>?_;subst e1;subst e2;exact hK _ _ _ _ (us++vs2) vs2' R2 T2 (λb t h=>k2 b t (k1 b t h)) (λb t h=>g2 b t (g1 b t h)) (s1.trans s2) D5 ⟨us,vs2,rfl,fA g2 (λ_ _ _=>rfl) h1,h2⟩ l2| .ent ..,cs,K,S,ok,vs,R,hT,hL,hK=>by unfold mJ;trivial| .sl t,cs,K,S,ok,vs,R,hT,hL,hK=>by
  unfold mJ;split
  .obtain⟨v,r,rfl,h1,_,h3⟩:=hL;simp only[uM]at h1;subst h1;cases ht:t.isEnt
   .exact hK _ _ _ _ [_] r R hT (λ_ _ h=>h) (λ_ _ h=>h) (aW.refl _) rfl (.inl ⟨ht,none,0,rfl,A7 _,λi x hi=>by simp at hi⟩) h3
   .trivial
  .rename_i t' xs r0;obtain⟨v,r,rfl,h1,_,h3⟩:=hL;refine fM λe=>?_;subst e;exact hK _ _ _ _ [v] r R hT (λ_ _ h=>h) (λ_ _ h=>h) (aW.refl _) rfl (fA (λ_ _ h=> .inl h) (λ_ _ _=>rfl) h1) h3
  .rename_i bx vw r0;obtain⟨v,r,rfl,h1,_,h3⟩:=hL;obtain⟨l,hm,hv⟩:=h1;show Cmd.post (match S (Z5+bx)with| .barr t' xs=>_| .bfrz t' xs=>_| .barrs el xs none=>_|_=>_) S Q;have hb:=R.box bx;split
   .rename_i t' xs hS;rw[hS]at hb;obtain⟨l',hm',ha⟩:=hb;simp only at hm hm';rw[hm]at hm';cases hm';refine fM λe=>?_;subst e;have hob:U7 m bx (S (Z5+bx))=l.blks:=by
     rw[hS];cases l<;>first|(simp[U7,hm,Loc.blks];done)|cases ha
    cases hl:ln t'
    .simp only[cond_false];show Cmd.post _ (upd S (Z5+bx) (.bfrz t' xs)) Q;have hbs:∀b∈l.blks,b∈U7 m bx (S (Z5+bx)):=λb h=>by rw[hob];exact h
     refine hK _ (okW ok l.blks [t']) _ _ [v] r (R.widen D5 rfl hbs ?_) (hT.widen rfl hbs) CE (Vo rfl (by rw[hob];exact λ_ h=>h) (by rw[hS];exact λ_ h=>h)) (aW.box _ _ _) rfl ?_ (FK CE h3)
     .exact⟨l,hm,pq CE (λ_ _ _=>rfl) (λ_ _=>rfl) ha,λblk hb=> .inr ⟨hb,D5⟩⟩
     .exact pG (C:=⟨w.heap,ok,m⟩) ha hv (λb t h=> .inl (.inl h)) (λblk hb=> .inl (.inr ⟨hb,D5⟩))
    .simp only[cond_true];refine hK _ _ _ _ [v] r R hT (λ_ _ h=>h) (λ_ _ h=>h) (aW.refl _) rfl ?_ h3;refine pG (C:=⟨w.heap,ok,m⟩) ha hv (λb t h=> .inl h) (λblk hb=> .inr ⟨hl,bx,?_,by rw[hS];simp[a5n,a8P]⟩);rw[hob];exact hb
   .rename_i t' xs hS;rw[hS]at hb;obtain⟨l',hm',ha,hok⟩:=hb;simp only at hm hm';rw[hm]at hm';cases hm';refine fM λe=>?_;subst e;exact hK _ _ _ _ [v] r R hT (λ_ _ h=>h) (λ_ _ h=>h) (aW.refl _) rfl (pG (C:=⟨w.heap,ok,m⟩) ha hv (λ_ _ h=> .inl h) (λblk e=> .inl (hok _ e))) h3
   .rename_i md xs hS;rw[hS]at hb;obtain⟨hel,l',Os,hm',⟨ha,hho⟩,hk⟩:=hb;simp only at hm hm' hk;rw[hm]at hm';cases hm';refine XR λe e' =>?_;subst e';have hob:U7 m bx (S (Z5+bx))=l.blks++Os.flatten:=by
     rw[hS];simp only[U7];rw[hk];cases l<;>first|(simp[hm,Loc.blks];done)|cases ha
    simp only;cases hl:(ln md.ty&&Xz ln md.owned)
    .simp only[cond_false];show Cmd.post _ (upd S (Z5+bx) (.bfrz md.ty _)) Q;have hbs:∀b∈l.blks++Os.flatten,b∈U7 m bx (S (Z5+bx)):=λb h=>by rw[hob];exact h
     have ha' :arrOk ⟨w.heap,okW ok (l.blks++Os.flatten) (md.ty::md.owned),m⟩ md.ty (cast (congrArg List (M.denEq md e)) xs) l:=
      JC e CE (λb hb t ht=> .inr ⟨by simp[hb],by simp[ht]⟩) ha
     refine hK _ (okW ok (l.blks++Os.flatten) (md.ty::md.owned)) _ _ [v] r (R.widen D5 rfl hbs ?_) (hT.widen rfl hbs) CE (Vo rfl (by rw[hob];exact λ_ h=>h) (by rw[hS];exact λ_ h=>h)) (aW.box _ _ _) rfl ?_ (FK CE h3)
     .exact⟨l,hm,ha',λblk hb=> .inr ⟨by simp[hb],D5⟩⟩
     .exact pG (C:=⟨w.heap,okW ok (l.blks++Os.flatten) (md.ty::md.owned),m⟩) ha' hv (λb t h=> .inl h) (λblk hb=> .inl (.inr ⟨by simp[hb],D5⟩))
    .simp only[cond_true];simp only[A8]at hl;have ha' :arrOk ⟨w.heap,okL ln S m ok,m⟩ md.ty (cast (congrArg List (M.denEq md e)) xs) l:=
      JC e (λb t h=> .inl h) (λb hb t ht=> .inr ⟨UK hl.2 t ht,bx,by rw[hob];simp[hb],by rw[hS];simp[a5n,a8P,ht]⟩) ha
     refine hK _ _ _ _ [v] r R hT (λ_ _ h=>h) (λ_ _ h=>h) (aW.refl _) rfl ?_ h3;refine pG (C:=⟨w.heap,okL ln S m ok,m⟩) ha' hv (λb t h=>h) (λblk hb=> .inr ⟨hl.1,bx,?_,by rw[hS];simp[a5n,a8P]⟩);rw[hob];simp[hb]
   .trivial
  .trivial
theorem BH(t:Ty){cs:List V}{K:t.den->List V->Cmd α}{S:Sm}{ok:Nat->Ty->Prop}{vs:List Value}(R:Rel X cl ch S m ok a w)(hT:Tk X S m ok w T)
  (hL:gu ⟨w.heap,ok,m⟩ cs vs)
  (hK:∀S' ok' x r us us',Rel X cl ch S' m ok' a w->Tk X S' m ok' w T->(∀b t,ok b t->ok' b t)->aW S S' ->vs=us++us' ->lw w.heap ok' t x us->gu ⟨w.heap,ok',m⟩ r us' ->(K x r).post S' Q):
  (mJ yL t cs K).post S Q:=
 AB yL t R hT hL λS' ok' x r us us' R' T' k g s e h l=>hK S' ok' x r us us' R' T' k s e (by rw[G_]at h;exact h) l
theorem Loc.blks_nodup(l:Loc):l.blks.Nodup:=by cases l<;>simp[Loc.blks]
theorem YV(t:Ty){K:t.den->Cmd α}{S:Sm}{ok:Nat->Ty->Prop}(R:Rel X cl ch S m ok a w)(hT:Tk X S m ok w T)
  (hv:uM ⟨w.heap,ok,m⟩ c v)
  (hK:∀S' ok' x,Rel X cl ch S' m ok' a w->Tk X S' m ok' w T->(∀b t,ok b t->ok' b t)->aW S S' ->VX w.heap ok' t x 0 v->(K x).post S' Q):(rpC t c K).post S Q:=by
 unfold rpC;split
 .refine BM λe=>?_;subst e;exact hK _ _ _ R hT (λ_ _ h=>h) (aW.refl _) hv
 .rename_i bx;obtain⟨blk,hm,rfl⟩:=hv;show Cmd.post (match S (Z5+bx)with| .bfc t' x=>_| .bcells bs=>_|_=>_) S Q;have hb:=R.box bx;split
  .rename_i t' x hS;rw[hS]at hb;obtain⟨blk',es,hm',hok,hc,hr⟩:=hb;simp only at hm hm';rw[hm]at hm';cases hm';refine BM λe=>?_;subst e;exact hK _ _ _ R hT (λ_ _ h=>h) (aW.refl _) ⟨blk,0,es,rfl,hok,hc,hr⟩
  .rename_i bs hS;rw[hS]at hb;obtain⟨blk',arr,Ty',hm',hh,hl⟩:=hb;simp only at hm hm';rw[hm]at hm';cases hm';refine BH t R hT hl λS1 ok1 x q us us' R1 T1 k1 s1 e1 h1 l1=>?_;cases q with
   |cons c q=>trivial|nil=>
    simp only[gu]at l1;subst l1;simp only[E5]at e1;show Cmd.post (match S1 (Z5+bx)with| .bcells _=>_|_=>_) S1 Q;split
    .rename_i bs' hS';show Cmd.post _ (upd S1 (Z5+bx) (.bfc t x)) Q;have hbs:∀b∈[blk],b∈U7 m bx (S1 (Z5+bx)):=λb h=>by rw[hS'];simp at h;subst h;simp[U7,hm]
     have hce:dE w.heap blk 0 t.size=some us:=by rw[jO hh 0 t.size (by have:=eY h1;rw[←e1]at this;simp at this;omega)];rw[e1,←eY h1];simp
     have hr:=fA (CE (bs:=[blk]) (Ts:=[t])) (λ_ _ _=>rfl) h1;refine hK _ (okW ok1 [blk] [t]) _ (R1.widen D5 rfl hbs ?_) (T1.widen rfl hbs) (λb t h=> .inl (k1 b t h)) (s1.trans (aW.box _ _ _)) ?_
     .exact⟨blk,us,hm,.inr ⟨D5,D5⟩,hce,hr⟩
     .exact⟨blk,0,us,rfl,.inr ⟨D5,D5⟩,hce,hr⟩
    .trivial
  .trivial
 .trivial
theorem Ym(ln:Ty->Bool)(t:Ty){K:t.den->Cmd α}{S:Sm}{ok:Nat->Ty->Prop}(R:Rel X cl ch S m ok a w)(hT:Tk X S m ok w T)
  (hv:uM ⟨w.heap,ok,m⟩ c v)
  (hK:∀S' ok' x,Rel X cl ch S' m ok' a w->Tk X S' m ok' w T->(∀b t,ok b t->ok' b t)->(∀b t,okL ln S m ok b t->okL ln S' m ok' b t)->aW S S' ->VX w.heap (okL ln S' m ok') t x 0 v->(K x).post S' Q):(lpC ln t c K).post S Q:=by
 unfold lpC;split
 .refine BM λe=>?_;subst e;exact hK _ _ _ R hT (λ_ _ h=>h) (λ_ _ h=>h) (aW.refl _) (BA (λ_ _ h=> .inl h) (λ_ _ _=>rfl) hv)
 .rename_i bx;obtain⟨blk,hm,rfl⟩:=hv;show Cmd.post (match S (Z5+bx)with| .bcells bs=>_|_=>_) S Q;have hb:=R.box bx;split
  .rename_i bs hS;rw[hS]at hb;obtain⟨blk',arr,Ty',hm',hh,hl⟩:=hb;simp only at hm hm';rw[hm]at hm';cases hm';cases hlt:ln t
   .trivial
   simp only[cond_true];refine AB ln t R hT hl λS1 ok1 x q us us' R1 T1 k1 g1 s1 e1 h1 l1=>?_;cases q with
   |cons c q=>trivial|nil=>
    simp only[gu]at l1;subst l1;simp only[E5]at e1;show Cmd.post (match S1 (Z5+bx)with| .bcells _=>_|_=>_) S1 Q;split
    .rename_i bs' hS';have hce:dE w.heap blk 0 t.size=some us:=by
      rw[jO hh 0 t.size (by have:=eY h1;rw[←e1]at this;simp at this;omega)];rw[e1,←eY h1];simp
     exact hK _ _ _ R1 T1 k1 g1 s1 ⟨blk,0,us,rfl,.inr ⟨hlt,bx,by rw[hS'];simp[U7,hm],by rw[hS'];trivial⟩,hce,h1⟩
    .trivial
  .trivial
 .trivial
theorem GY{α:Type}{Q:α->Sm->Prop}{h:Array Obj}{ok:Nat->Ty->Prop} :∀(ts:List Ty) {cs:List ((t:Ty)×t.den)} {vs:List Value} {K:OV ts->Cmd α} {S:Sm}
  (hc:BL h ok cs vs) (hK:∀x,BL h ok (OU ts x) vs->(K x).post S Q),(Kr ts cs K).post S Q
 |[],cs,vs,K,S,hc,hK=>by
  unfold Kr;split
  .exact hK _ hc
  .trivial
 |[t],cs,vs,K,S,hc,hK=>by
  unfold Kr;split
  .refine BM λe=>?_;subst e;exact hK _ hc
  .trivial
 |t::t' ::r,cs,vs,K,S,hc,hK=>by
  unfold Kr;split
  .obtain⟨v,vs',rfl,h1,h2⟩:=hc;refine BM λe=>?_;subst e;exact GY (t' ::r) h2 λy hy=>hK _ ⟨v,vs',rfl,h1,hy⟩
  .trivial
theorem a6D{te:Nat}{K:List UInt8->Cmd α}{S:Sm}{ok:Nat->Ty->Prop}{T:List Nat}(R:Rel X cl ch S m ok a w)(hT:Tk X S m ok w T)(hv:uM ⟨w.heap,ok,m⟩ c v)
  (hK:∀S' ys l,Rel X cl ch S' m ok a w->Tk X S' m ok w (T++l.blks)->aW S S' ->(∀n,(∀t xs,S (Z5+n)≠.brow t xs)->S' (Z5+n)=S (Z5+n))->l.view none v->yQ w.heap te ys l->(K ys).post S' Q):(sbC te c K).post S Q:=by
 unfold sbC;split
 .exact hK S [] .nil R (by simpa[Loc.blks]using hT) (aW.refl _) (λ_ _=>rfl) hv rfl
 .rename_i b;obtain⟨l,hm,hvw⟩:=hv;show Cmd.post (match S (Z5+b)with| .brow te' xs=>_|_=>_) S Q;have hb:=R.box b;split
  .rename_i t' xs hS;rw[hS]at hb;obtain⟨l',hm',ha⟩:=hb;simp only at hm hm';rw[hm]at hm';cases hm';cases he:Nat.beq t' te
   .trivial
   have e:=iH he;subst e;show Cmd.post _ (upd S (Z5+b) .dead) Q;refine hK _ xs l (R.kill b) (hT.kill R b (λb' hb' =>?_) (Loc.blks_nodup l)) (aW.box _ _ _) (λn hn=>?_) hvw ha
   .cases l with
    |nil=>simp[Loc.blks]at hb'|st _=>cases ha|arr blk off len cap sz=>simp[Loc.blks]at hb';subst hb';simp[U7,hS,hm]|mp blk=>cases ha
   .by_cases en:n=b
    .subst en;exact absurd hS (hn _ _)
    .rw[bJ _ _ o5]
  .trivial
 .trivial
theorem BV{α:Type}{Q:α->Sm->Prop} :∀(md:M) {cs:List V} {K:md.den->List V->Cmd α} {S:Sm} {ok:Nat->Ty->Prop} {vs:List Value} {T:List Nat} (R:Rel X cl ch S m ok a w) (hT:Tk X S m ok w T)
  (hL:gu ⟨w.heap,ok,m⟩ cs vs)
  (hK:∀S' ok' x r us us' O,Rel X cl ch S' m ok' a w->Tk X S' m ok' w (T++O)->(∀b t,ok b t->ok' b t)->aW S S' ->vs=us++us' ->qg w.heap ok' md none x us O->gu ⟨w.heap,ok',m⟩ r us' ->(K x r).post S' Q),
  (exM yL md cs K).post S Q
 | .dat t,cs,K,S,ok,vs,T,R,hT,hL,hK=>by unfold exM;exact BH t R hT hL λS' ok' x r us us' R' T' k s e h l=>hK S' ok' x r us us' [] R' (by simpa using T') k s e ⟨h,rfl⟩ l| .own t,cs,K,S,ok,vs,T,R,hT,hL,hK=>by
  unfold exM;split
  .obtain⟨v,r,rfl,h1,_,h3⟩:=hL;simp only[uM]at h1;subst h1;cases ht:t.isEnt
   .exact hK _ _ _ _ [_] r [] R (by simpa using hT) (λ_ _ h=>h) (aW.refl _) rfl (xu.2 ⟨.nil,_,rfl,rfl,⟨rfl,ht⟩,rfl⟩) h3
   .trivial
  .rename_i bx vw r0;obtain⟨v,r,rfl,h1,_,h3⟩:=hL;obtain⟨l,hm,hv⟩:=h1;show Cmd.post (match S (Z5+bx)with| .barr t' xs=>_|_=>_) S Q;have hb:=R.box bx;split
   .rename_i t' xs hS;rw[hS]at hb;obtain⟨l',hm',ha⟩:=hb;simp only at hm hm';rw[hm]at hm';cases hm';refine fM λe=>?_;subst e;obtain⟨a1,a2,a3⟩:=EL (C:=⟨w.heap,ok,m⟩) ha hv;show Cmd.post _ (upd S (Z5+bx) .dead) Q;refine hK _ ok _ _ [v] r (Gf l vw).blks (R.kill bx) ?_ (λ_ _ h=>h) (aW.box _ _ _) rfl (xu.2 ⟨_,v,rfl,a2,pq (λ_ _ h=>h) (λ_ _ _=>rfl) (λ_ _=>rfl) a1,rfl⟩) h3;rw[a3];refine hT.kill R bx (λb hb=>?_) (Loc.blks_nodup l);cases l with
    |nil=>simp[Loc.blks]at hb|st _=>cases ha|arr blk off len cap sz=>simp[Loc.blks]at hb;subst hb;simp[U7,hS,hm]|mp blk=>simp[Loc.blks]at hb;subst hb;simp[U7,hS,hm]
   .trivial
  .trivial
 | .ownb t,cs,K,S,ok,vs,T,R,hT,hL,hK=>by
  unfold exM;split
  .obtain⟨v,r,rfl,h1,_,h3⟩:=hL;simp only[uM]at h1;subst h1;cases ht:t.isEnt
   .exact hK _ _ _ _ [_] r [] R (by simpa using hT) (λ_ _ h=>h) (aW.refl _) rfl ⟨.nil,_,rfl,rfl,⟨rfl,ht⟩,rfl⟩ h3
   .trivial
  .rename_i bx r0;obtain⟨v,r,rfl,h1,_,h3⟩:=hL;obtain⟨l,hm,hv⟩:=h1;show Cmd.post (match S (Z5+bx)with| .barr t' xs=>_|_=>_) S Q;have hb:=R.box bx;split
   .rename_i t' xs hS;rw[hS]at hb;obtain⟨l',hm',ha⟩:=hb;simp only at hm hm';rw[hm]at hm';cases hm';refine fM λe=>?_;subst e;show Cmd.post _ (upd S (Z5+bx) (.gone t')) Q;refine hK _ ok _ _ [v] r l.blks (R.killV bx D5 rfl ⟨l,hm,λblk off len cap sz e=>by subst e;exact ha.2.1⟩) ?_ (λ_ _ h=>h) (aW.box _ _ _) rfl ⟨l,v,rfl,hv,pq (λ_ _ h=>h) (λ_ _ _=>rfl) (λ_ _=>rfl) ha,rfl⟩ h3;refine hT.killV R bx rfl (λb hb=>?_) (Loc.blks_nodup l);cases l with
    |nil=>simp[Loc.blks]at hb|st _=>cases ha|arr blk off len cap sz=>simp[Loc.blks]at hb;subst hb;simp[U7,hS,hm]|mp blk=>simp[Loc.blks]at hb;subst hb;simp[U7,hS,hm]
   .trivial
  .trivial
 | .owns md,cs,K,S,ok,vs,T,R,hT,hL,hK=>by
  unfold exM;split
  .obtain⟨v,r,rfl,h1,_,h3⟩:=hL;simp only[uM]at h1;subst h1;refine eH λhe=>?_;exact hK _ _ _ _ [_] r [] R (by simpa using hT) (λ_ _ h=>h) (aW.refl _) rfl (yf.2 ⟨he,.nil,_,[],rfl,rfl,⟨rfl,rfl⟩,rfl⟩) h3
  .rename_i bx r0;obtain⟨v,r,rfl,h1,_,h3⟩:=hL;obtain⟨l,hm,hv⟩:=h1;show Cmd.post (match S (Z5+bx)with| .barrs m' xs none=>_|_=>_) S Q;have hb:=R.box bx;split
   .rename_i md' xs hS;rw[hS]at hb;obtain⟨hel,l',Os,hm',⟨ha,hho⟩,hk⟩:=hb;simp only at hm hm' hk;rw[hm]at hm';cases hm';refine QW λe=>?_;subst e;have hob:U7 m bx (S (Z5+bx))=l.blks++Os.flatten:=by
     rw[hS];simp only[U7];rw[hk];cases l<;>first|(simp[hm,Loc.blks];done)|cases ha
    show Cmd.post _ (upd S (Z5+bx) .dead) Q;refine hK _ ok _ _ [v] r (l.blks++Os.flatten) (R.kill bx) ?_ (λ_ _ h=>h) (aW.box _ _ _) rfl (yf.2 ⟨hel,l,v,Os,rfl,hv,ha,rfl⟩) h3;refine hT.kill R bx (λb hb=>by rw[hob];exact hb) (by rw[←hob];exact R.nd bx)
   .trivial
  .trivial
 | .unit,cs,K,S,ok,vs,T,R,hT,hL,hK=>by unfold exM;exact hK _ _ _ _ [] vs [] R (by simpa using hT) (λ_ _ h=>h) (aW.refl _) rfl ⟨rfl,rfl⟩ hL
 | .pair p q,cs,K,S,ok,vs,T,R,hT,hL,hK=>by unfold exM;refine BV p R hT hL λS1 ok1 x r us us' O1 R1 T1 k1 s1 e1 h1 l1=>?_;refine BV q R1 T1 l1 λS2 ok2 y r' vs2 vs2' O2 R2 T2 k2 s2 e2 h2 l2=>?_;subst e1;subst e2;exact hK _ _ _ _ (us++vs2) vs2' (O1++O2) R2 (by simpa using T2) (λb t h=>k2 b t (k1 b t h)) (s1.trans s2) D5 ⟨us,vs2,O1,O2,rfl,rfl,kF k2 (λ_ _ _=>rfl) (λ_ _=>rfl) h1,h2⟩ l2| .box md,cs,K,S,ok,vs,T,R,hT,hL,hK=>by
  unfold exM;split
  .rename_i bx r0;obtain⟨v,r,rfl,h1,_,h3⟩:=hL;obtain⟨blk,hm,hv⟩:=h1;show Cmd.post (match S (Z5+bx)with| .bcells bs=>_|_=>_) S Q;have hb:=R.box bx;split
   .rename_i bs hS;rw[hS]at hb;obtain⟨blk',arr,Ty',hm',hh,hl⟩:=hb;simp only at hm hm' hv;rw[hm]at hm';cases hm';subst hv;show Cmd.post _ (upd S (Z5+bx) .dead) Q;have hT1:Tk X (upd S (Z5+bx) .dead) m ok w (T++[blk]):=hT.kill R bx (λb hb=>by simp at hb;subst hb;simp[U7,hS,hm]) D5;refine BV md (R.kill bx) hT1 hl λS1 ok1 x q us us' O R1 T1 k1 s1 e1 h1 l1=>?_;cases q with
    |nil=>simp only[gu]at l1;subst l1;simp only[E5]at e1;refine hK _ _ _ _ [_] r (blk::O) R1 (by simpa using T1) k1 ((aW.box _ _ _).trans s1) rfl ⟨blk,arr,Ty',O,rfl,hh,by rw[e1];exact h1,rfl⟩ (FK k1 h3)|cons c q=>trivial
   .trivial
  .trivial
 | .rp t,cs,K,S,ok,vs,T,R,hT,hL,hK=>by
  unfold exM;split
  .obtain⟨v,r,rfl,h1,_,h3⟩:=hL;refine YV t R hT h1 λS1 ok1 x R1 T1 k1 s1 h1=>?_;exact hK _ _ _ _ [v] r [] R1 (by simpa using T1) k1 s1 rfl ⟨v,rfl,h1,rfl⟩ (FK k1 h3)
  .trivial
 | .fn f ts,cs,K,S,ok,vs,T,R,hT,hL,hK=>by
  unfold exM;split
  .rename_i g caps r0;obtain⟨v,r,rfl,⟨us,rfl,hc⟩,_,h3⟩:=hL;cases hb:Nat.beq g f
   .trivial
   .simp only[cond_true];have e:=iH hb;subst e;exact GY ts hc λx hx=>hK _ _ _ _ [_] r [] R (by simpa using hT) (λ_ _ h=>h) (aW.refl _) rfl ⟨us,rfl,hx,rfl⟩ h3
  .rename_i g r0;obtain⟨v,r,rfl,h1,_,h3⟩:=hL;have h1:v= .func (.func g) #[] #[]:=h1;subst h1;cases hb:Nat.beq g f
   .trivial
   .simp only[cond_true];have e:=iH hb;subst e;exact GY (cs:=[]) (vs:=[]) ts rfl λx hx=>hK _ _ _ _ [_] r [] R (by simpa using hT) (λ_ _ h=>h) (aW.refl _) rfl ⟨#[],rfl,hx,rfl⟩ h3
  .trivial
 | .ifc t md,cs,K,S,ok,vs,T,R,hT,hL,hK=>by
  unfold exM;split
  .rename_i t' c r0;obtain⟨v,r,rfl,⟨u,rfl,hu,hc⟩,_,h3⟩:=hL;cases hb:Nat.beq t' t
   .trivial
   .simp only[cond_true];have e:=iH hb;subst e;refine BV md (vs:=[u]) R hT ⟨u,[],rfl,hc,hu,rfl⟩ λS1 ok1 x q us us' O R1 T1 k1 s1 e1 h1 l1=>?_;cases q with
    |cons c q=>trivial|nil=>simp only[gu]at l1;subst l1;simp only[E5]at e1;subst e1;exact hK _ _ _ _ [_] r O R1 T1 k1 s1 rfl ⟨u,rfl,h1⟩ (FK k1 h3)
  .trivial
 | .cell (some none),cs,K,S,ok,vs,T,R,hT,hL,hK=>by
  unfold exM;split
  .obtain⟨v,r,rfl,h1,h2,h3⟩:=hL;exact hK _ _ _ _ [v] r [] R (by simpa using hT) (λ_ _ h=>h) (aW.refl _) rfl ⟨v,rfl,h2,λ_=>h1,(λ_ h=>nomatch h),rfl⟩ h3
  .trivial
 | .cell (some (some b)),cs,K,S,ok,vs,T,R,hT,hL,hK=>by
  unfold exM;split
  .obtain⟨v,r,rfl,h1,h2,h3⟩:=hL;cases b
   .trivial
   .exact hK _ _ _ _ [v] r [] R (by simpa using hT) (λ_ _ h=>h) (aW.refl _) rfl ⟨v,rfl,h2,(λh=>nomatch h),(λb' h=>by cases h;exact h1),rfl⟩ h3
  .obtain⟨v,r,rfl,h1,h2,h3⟩:=hL;cases b
   .exact hK _ _ _ _ [v] r [] R (by simpa using hT) (λ_ _ h=>h) (aW.refl _) rfl ⟨v,rfl,h2,(λh=>nomatch h),(λb' h=>by cases h;exact h1),rfl⟩ h3
   .trivial
  .trivial
 | .cell none,cs,K,S,ok,vs,T,R,hT,hL,hK=>by
  unfold exM;split
  .obtain⟨v,r,rfl,h1,h2,h3⟩:=hL;exact hK _ _ _ _ [v] r [] R (by simpa using hT) (λ_ _ h=>h) (aW.refl _) rfl ⟨v,rfl,h2,(λh=>nomatch h),(λ_ h=>nomatch h),rfl⟩ h3
  .trivial
 | .fr t,cs,K,S,ok,vs,T,R,hT,hL,hK=>by
  unfold exM;split
  .obtain⟨v,r,rfl,h1,_,h3⟩:=hL;simp only[uM]at h1;subst h1;cases ht:t.isEnt
   .exact hK _ _ _ _ [_] r [] R (by simpa using hT) (λ_ _ h=>h) (aW.refl _) rfl ⟨.nil,_,rfl,rfl,⟨rfl,ht⟩,(λb h=>by cases h),rfl⟩ h3
   .trivial
  .rename_i bx r0;obtain⟨v,r,rfl,h1,_,h3⟩:=hL;obtain⟨l,hm,hv⟩:=h1;show Cmd.post (match S (Z5+bx)with| .barr t' xs=>_| .bfrz t' xs=>_|_=>_) S Q;have hb:=R.box bx;split
   .rename_i t' xs hS;rw[hS]at hb;obtain⟨l',hm',ha⟩:=hb;simp only at hm hm';rw[hm]at hm';cases hm';refine fM λe=>?_;subst e;have hob:U7 m bx (S (Z5+bx))=l.blks:=by
     rw[hS];cases l<;>first|(simp[U7,hm,Loc.blks];done)|cases ha
    show Cmd.post _ (upd S (Z5+bx) (.bfrz t' xs)) Q;have hbs:∀b∈l.blks,b∈U7 m bx (S (Z5+bx)):=λb h=>by rw[hob];exact h
    have ha' :arrOk ⟨w.heap,okW ok l.blks [t'],nom⟩ t' xs l:=pq (m:=m) CE (λ_ _ _=>rfl) (λ_ _=>rfl) ha;exact hK _ (okW ok l.blks [t']) _ _ [v] r [] (R.widen D5 rfl hbs ⟨l,hm,pq CE (λ_ _ _=>rfl) (λ_ _=>rfl) ha,λblk hb=> .inr ⟨hb,D5⟩⟩) (by simpa using hT.widen rfl hbs) CE (aW.box _ _ _) rfl ⟨l,v,rfl,hv,ha',λb hb=> .inr ⟨hb,D5⟩,rfl⟩ (FK CE h3)
   .rename_i t' xs hS;rw[hS]at hb;obtain⟨l',hm',ha,hk⟩:=hb;simp only at hm hm';rw[hm]at hm';cases hm';refine fM λe=>?_;subst e;exact hK _ ok _ _ [v] r [] R (by simpa using hT) (λ_ _ h=>h) (aW.refl _) rfl ⟨l,v,rfl,hv,pq (m:=m) (λ_ _ h=>h) (λ_ _ _=>rfl) (λ_ _=>rfl) ha,hk,rfl⟩ h3
   .trivial
  .trivial
 | .lp t,cs,K,S,ok,vs,T,R,hT,hL,hK=>by
  unfold exM;split
  .obtain⟨v,r,rfl,h1,_,h3⟩:=hL;refine Ym yL t R hT h1 λS1 ok1 x R1 T1 k1 g1 s1 h1=>?_;rw[G_]at h1;exact hK _ _ _ _ [v] r [] R1 (by simpa using T1) k1 s1 rfl ⟨v,rfl,h1,rfl⟩ (FK k1 h3)
  .trivial
 | .dv ..,cs,K,S,ok,vs,T,R,hT,hL,hK=>by
  unfold exM;split
  .obtain⟨v,r,rfl,h1,h2,h3⟩:=hL;exact hK _ _ _ _ [v] r [] R (by simpa using hT) (λ_ _ h=>h) (aW.refl _) rfl ⟨v,rfl,h2,rfl⟩ h3
  .trivial
 | .sit,cs,K,S,ok,vs,T,R,hT,hL,hK=>by
  unfold exM;split
  .rename_i bx r0;obtain⟨v,r,rfl,h1,_,h3⟩:=hL;obtain⟨blk,hm,rfl⟩:=h1;have hb:=R.box bx;show Cmd.post (match S (Z5+bx)with| .biter l p=>_|_=>_) S Q;split
   .rename_i l p hS;rw[hS]at hb;obtain⟨blk',s,q,hm',hh,g1,g2⟩:=hb;simp only at hm hm';rw[hm]at hm';cases hm';show Cmd.post _ (upd S (Z5+bx) .dead) Q;have T2:=hT.kill R bx (bs:=[blk]) (λb hb=>by rw[hS];simpa[U7,hm]using hb) D5;exact hK _ ok (l,p) _ _ r [blk] (R.kill bx) T2 (λ_ _ h=>h) (aW.box _ _ _) rfl ⟨blk,s,q,rfl,hh,g1,g2,rfl⟩ h3
   .trivial
  .trivial
 | .sbx tb te,cs,K,S,ok,vs,T,R,hT,hL,hK=>by
  unfold exM;split
  .rename_i bx r0;obtain⟨v,r,rfl,h1,_,h3⟩:=hL;obtain⟨blk,hm,rfl⟩:=h1;have hb:=R.box bx;show Cmd.post (match S (Z5+bx)with| .bsb tb' c=>_|_=>_) S Q;split
   .rename_i tb' c hS;rw[hS]at hb;obtain⟨blk',a0,v0,hm',hh,hs,g2⟩:=hb;simp only at hm hm';rw[hm]at hm';cases hm';cases he:Nat.beq tb' tb
    .trivial
    have e:=iH he;subst e;simp only[cond_true];refine a6D R hT g2 λS1 ys l R1 T1 s1 n1 hv1 ha1=>?_;show Cmd.post _ (upd S1 (Z5+bx) .dead) Q;have T2:=T1.kill R1 bx (bs:=[blk]) (λb hb=>by rw[n1 bx (λ_ _=>by rw[hS];simp),hS];simpa[U7,hm]using hb) D5;refine hK _ ok ys _ _ r (blk::l.blks) (R1.kill bx) (T2.perm ?_) (λ_ _ h=>h) (s1.trans (aW.box _ _ _)) rfl ⟨blk,a0,v0,l,rfl,hh,hs,hv1,ha1,rfl⟩ h3;rw[F7];exact qE _ jo
   .trivial
  .trivial
end
end Go.GP
namespace Go.GP
def iU(C:Cx):List V->List Value->Prop
 |[],vs=>vs=[]|c::cs,vs=>∃v r,vs=v::r/\lu C c v/\iU C cs r
theorem IA{h:Array Obj}{ok ok' :Nat->Ty->Prop}{m:Mp}(k:∀b t,ok b t->ok' b t):∀{cs:List V} {vs:List Value},iU ⟨h,ok,m⟩ cs vs->iU ⟨h,ok',m⟩ cs vs
 |[],_,e=>e|_::_,_,⟨v,r,e,h1,h2⟩=>⟨v,r,e,Jn k h1,IA k h2⟩
theorem AU{h:Array Obj}{ok:Nat->Ty->Prop}{m m' :Mp}(k:∀n l,m n=some l->m' n=some l){cs:List V}{vs:List Value}(hr:gu ⟨h,ok,m⟩ cs vs):gu ⟨h,ok,m'⟩ cs vs:=
 Dw (C:=⟨h,ok,m⟩) (D:=⟨h,ok,m'⟩) ⟨λ_ _ h=>h,λ_ _ _=>rfl,k⟩ hr
variable {C:Cx}
theorem YK{c:V}{v:Value}(h1:c≠.undef)(h2:c≠.un)(h:uM C c v):v.oneCell' =true:=by
 cases c<;>simp only[uM]at h<;>try (subst h;rfl)
 case ne=>obtain⟨_,_,rfl,_⟩:=h;rfl
 .exact absurd rfl h1
 .exact absurd rfl h2
 .rcases h with⟨_,a,cap,e,_⟩|⟨_,mv,e,_⟩<;>(simp at e;subst e;rfl)
 .obtain⟨l,_,hv⟩:=h;exact oI hv
 .obtain⟨b,_,rfl⟩:=h;rfl
 .obtain⟨_,_,_,_,_,_,_,rfl⟩:=h;rfl
 .exact Hg h
 all_goals first|exact h.elim|(obtain⟨_,rfl,_⟩:=h;rfl)|(obtain⟨_,_,rfl⟩:=h;rfl)
theorem Bj{c:V}{v:Value}(h:uM C c v):lu C c v:=by
 cases c<;>simp only[uM]at h<;>try exact h
 all_goals exact h.elim
variable {α:Type}{v:V}{Q:α->Sm->Prop}{x:Value}{ln:Ty->Bool}
section
variable {X:Fx} {cl ch:Nat} {S:Sm} {m:Mp} {ok:Nat->Ty->Prop} {a:Act} {w:World} {T:List Nat}
theorem Ag{ag:Bool}{K:List V->Cmd α}{S:Sm}(hv:lu C v x)
  (hK:∀cs us,Ot ag x us->gu C cs us->(K cs).post S Q):(QY ag v K).post S Q:=by
 unfold QY;split<;>try trivial
 .obtain⟨arr,rfl,hl⟩:=hv;exact hK _ _ ⟨arr,rfl,rfl⟩ hl
 .rename_i h1 h2 h3 h4;have hc:uM C v x:=by cases v<;>first|exact hv|exact absurd rfl (h1 _)|exact absurd rfl (h2 _)
  exact hK [v] [x] rfl ⟨x,[],rfl,hc,YK (λe=>h3 e) (λe=>h4 e) hc,rfl⟩
theorem tJ{K:List V->Cmd α}{S:Sm}(hv:lu C v x)
  (hK:∀cs,gu C cs x.cells.toList->(K cs).post S Q):(DU v K).post S Q:=by
 unfold DU;split<;>try trivial
 .obtain⟨arr,rfl,hl⟩:=hv;exact hK _ hl
 .rename_i h1 h2 h3 h4;have hc:uM C v x:=by cases v<;>first|exact hv|exact absurd rfl (h1 _)|exact absurd rfl (h2 _)
  have h1' :=YK (λe=>h3 e) (λe=>h4 e) hc;have e:x.cells.toList=[x]:=by cases x<;>simp[Value.cells]<;>simp[Value.oneCell']at h1'
  refine hK [v] ?_;rw[e];exact⟨x,[],rfl,hc,h1',rfl⟩
theorem XV{md:MG}{K:md.2.den->Cmd α}(R:Rel X cl ch S m ok a w)(hT:Tk X S m ok w T)(hv:lu ⟨w.heap,ok,m⟩ v x)
  (hK:∀S' ok' y cs O,Rel X cl ch S' m ok' a w->Tk X S' m ok' w (T++O)->(∀b t,ok b t->ok' b t)->aW S S' ->Ot md.1 x cs->qg w.heap ok' md.2 none y cs O->(K y).post S' Q):
  (Rz yL md v K).post S Q:=by
 refine Ag hv λcs us hg hl=>?_;refine BV md.2 R hT hl λS1 ok1 y r us1 us' O R1 T1 k1 s1 e1 h1 l1=>?_;cases r with
 |cons c q=>trivial|nil=>simp only[gu]at l1;subst l1;simp only[E5]at e1;subst e1;exact hK _ _ _ _ _ R1 T1 k1 s1 hg h1
theorem a4l{md:M}(hd:md.isDat=false)(cs:List V)(K:md.den->List V->Cmd α):exM ln md cs K=exM yL md cs K:=by cases md<;>first|rfl|(simp[M.isDat]at hd;done)|(rename_i b;cases b<;>first|rfl|(rename_i b;cases b<;>rfl))
theorem UV{md:MG}(hd:md.2.isDat=true){K:md.2.den->Cmd α}(R:Rel X cl ch S m ok a w)(hT:Tk X S m ok w T)(hv:lu ⟨w.heap,ok,m⟩ v x)
  (hK:∀S' ok' y cs,Rel X cl ch S' m ok' a w->Tk X S' m ok' w T->(∀b t,ok b t->ok' b t)->(∀b t,okL ln S m ok b t->okL ln S' m ok' b t)->aW S S' ->Ot md.1 x cs->qg w.heap (okL ln S' m ok') md.2 none y cs []->(K y).post S' Q):
  (Rz ln md v K).post S Q:=by
 obtain⟨ag,mm⟩:=md;cases mm<;>simp[M.isDat]at hd
 case dat t=>
  refine Ag hv λcs us hg hl=>?_;dsimp only;unfold exM;refine AB ln _ R hT hl λS1 ok1 y r us1 us' R1 T1 k1 g1 s1 e1 h1 l1=>?_;cases r with
  |cons c q=>trivial|nil=>simp only[gu]at l1;subst l1;simp only[E5]at e1;subst e1;exact hK _ _ _ _ R1 T1 k1 g1 s1 hg ⟨h1,rfl⟩
 case lp t=>
  refine Ag hv λcs us hg hl=>?_;dsimp only;unfold exM;cases cs with
  |nil=>trivial|cons c q=>
   obtain⟨u,r',rfl,h1,h2,h3⟩:=hl;refine Ym ln t R hT h1 λS1 ok1 y R1 T1 k1 g1 s1 d1=>?_;cases q with
   |cons c q=>trivial|nil=>simp only[gu]at h3;subst h3;exact hK _ _ _ _ R1 T1 k1 g1 s1 hg ⟨u,rfl,d1,rfl⟩
theorem b0V :∀b t,ok b t->okL ln S m ok b t:=λ_ _ h=> .inl h
theorem EX{α:Type}{Q:α->Sm->Prop}{ln:Ty->Bool} :∀(ms:List MG) {vs:List V} {xs:List Value} {K:aP ms->Cmd α} {S:Sm} {ok:Nat->Ty->Prop} {T:List Nat} (R:Rel X cl ch S m ok a w) (hT:Tk X S m ok w T)
  (hv:iU ⟨w.heap,ok,m⟩ vs xs)
  (hK:∀S' ok' y O,Rel X cl ch S' m ok' a w->Tk X S' m ok' w (T++O)->(∀b t,ok b t->ok' b t)->aW S S' ->sZ w.heap (okL ln S' m ok') ms y xs O->(K y).post S' Q),
  (JI ln ms vs K).post S Q
 |[],vs,xs,K,S,ok,T,R,hT,hv,hK=>by
  unfold JI;split
  .simp only[iU]at hv;subst hv;exact hK _ _ _ [] R (by simpa using hT) (λ_ _ h=>h) (aW.refl _) ⟨rfl,rfl⟩
  .trivial
 |[md],vs,xs,K,S,ok,T,R,hT,hv,hK=>by
  unfold JI;split
  .obtain⟨x,r,rfl,h1,h2⟩:=hv;simp only[iU]at h2;subst h2;cases hd:md.2.isDat
   .unfold Rz;simp only[a4l hd];exact XV R hT h1 λS' ok' y cs O R' T' k s g h=>hK _ _ _ O R' T' k s ⟨x,cs,rfl,g,kF b0V (λ_ _ _=>rfl) (λ_ _=>rfl) h⟩
   .exact UV hd R hT h1 λS' ok' y cs R' T' k g s hg h=>hK _ _ _ [] R' (by simpa using T') k s ⟨x,cs,rfl,hg,h⟩
  .trivial
 |md::md' ::r,vs,xs,K,S,ok,T,R,hT,hv,hK=>by
  unfold JI;split
  .obtain⟨x,xr,rfl,h1,h2⟩:=hv;cases hd:md.2.isDat
   .simp only[cond_false];unfold Rz;simp only[a4l hd];refine XV R hT h1 λS1 ok1 y cs O R1 T1 k1 s1 g1 h1' =>?_;refine EX (md' ::r) R1 T1 (IA k1 h2) λS2 ok2 z O2 R2 T2 k2 s2 h2' =>?_;exact hK _ _ _ (O++O2) R2 (by simpa using T2) (λb t h=>k2 b t (k1 b t h)) (s1.trans s2) ⟨x,cs,xr,O,O2,rfl,rfl,g1,kF (λb t h=> .inl (k2 b t h)) (λ_ _ _=>rfl) (λ_ _=>rfl) h1',h2'⟩
   .simp only[cond_true];refine EX (md' ::r) R hT h2 λS2 ok2 z O2 R2 T2 k2 s2 h2' =>?_;refine UV hd R2 T2 (Jn k2 h1) λS1 ok1 y cs R1 T1 k1 g1 s1 hg h1' =>?_;exact hK _ _ _ ([]++O2) R1 (by simpa using T1) (λb t h=>k1 b t (k2 b t h)) (s2.trans s1) ⟨x,cs,xr,[],O2,rfl,rfl,hg,h1',PS g1 (λ_ _ _=>rfl) (λ_ _=>rfl) h2'⟩
  .trivial
theorem XU(ms:List MG){vs:List V}{xs:List Value}{K:aP ms->Cmd α}{S:Sm}{ok:Nat->Ty->Prop}{T:List Nat}(R:Rel X cl ch S m ok a w)(hT:Tk X S m ok w T)
  (hv:iU ⟨w.heap,ok,m⟩ vs xs)
  (hK:∀S' ok' y O,Rel X cl ch S' m ok' a w->Tk X S' m ok' w (T++O)->(∀b t,ok b t->ok' b t)->aW S S' ->sZ w.heap ok' ms y xs O->(K y).post S' Q):
  (JI yL ms vs K).post S Q:=
 EX ms R hT hv λS' ok' y O R' T' k s h=>hK S' ok' y O R' T' k s (by rw[G_]at h;exact h)
theorem Pm{α:Type}{Q:α->Sm->Prop}{tmps:Array Value}{C:Cx} :∀(ns:List Nat) {K:List V->Cmd α} {S:Sm} (hs:∀n,n<Z5->lu C (S n) (tmps.getD n Go.undef))
  (hK:∀vs,iU C vs (ns.map λn=>tmps.getD n Go.undef)->(K vs).post S Q),(Wh ns K).post S Q
 |[],K,S,hs,hK=>hK [] rfl|n::ns,K,S,hs,hK=>by
  unfold Wh;cases hb:Nat.blt n Z5
  .trivial
  .simp only[cond_true];show Cmd.post _ S Q;refine Pm ns hs λvs hvs=>?_;exact hK _ ⟨_,_,rfl,hs n (by rw[cZ]at hb;exact hb),hvs⟩
def ZF(h:Array Obj)(ok:Nat->Ty->Prop)(sg:Sig)(x:qI sg)(tmps:Array Value)(O:List Nat):Prop:=
 sZ h ok (sg.ms.map (·.2)) x ((sg.ms.map (·.1)).map λn=>tmps.getD n Go.undef) O/\∀p∈sg.als,tmps.getD p.1 Go.undef=tmps.getD p.2 Go.undef
theorem a6C{v u:V}{x y:Value}(h:b0f v u=true)(hv:lu C v x)(hu:lu C u y):x=y:=by
 cases v<;>try (cases h;done)
 case own a vw=>
 cases u<;>try (cases vw<;>cases h;done)
 case own b vu=>
 cases vw<;>cases vu<;>try (cases h;done)
 have:=iH (show Nat.beq a b=true from h);subst this;obtain⟨l,hm,h1⟩:=hv;obtain⟨l',hm',h2⟩:=hu;rw[hm]at hm';cases hm';cases l with
 |nil=>exact(show x=_ from h1).trans (show y=_ from h2).symm|st b=>cases h1|mp b=>exact(show x=_ from h1).trans (show y=_ from h2).symm|arr blk off len cap sz=>exact(show x=_ from h1).trans (show y=_ from h2).symm
theorem UL{α:Type}{Q:α->Sm->Prop}{tmps:Array Value}{C:Cx} :∀(als:List (Nat×Nat)) {K:Cmd α} {S:Sm} (hs:∀n,n<Z5->lu C (S n) (tmps.getD n Go.undef))
  (hK:(∀p∈als,tmps.getD p.1 Go.undef=tmps.getD p.2 Go.undef)->K.post S Q),(a7U als K).post S Q
 |[],K,S,hs,hK=>hK (λp hp=>by cases hp)|(n,k)::r,K,S,hs,hK=>by
  unfold a7U;refine eH λhb=>?_;simp only[A8]at hb;show Cmd.post _ S Q;refine eH λhv=>UL r hs λh=>hK λp hp=>?_;rcases C9.1 hp with rfl|hp
  .have h1:=hb.1;have h2:=hb.2;rw[cZ]at h1 h2;exact a6C hv (hs n h1) (hs k h2)
  .exact h p hp
theorem j_{sg:Sig}{Q:qI sg->Sm->Prop}(R:Rel X cl ch S m ok a w)
  (hK:∀S' ok' y O,Rel X cl ch S' m ok' a w->Tk X S' m ok' w O->(∀b t,ok b t->ok' b t)->aW S S' ->
   ZF w.heap ok' sg y a.tmps O->Q y S'):(a4m sg).post S Q:=by
 unfold a4m;refine UL _ R.slot λhals=>Pm _ R.slot λvs hvs=>?_;refine XU (T:=[]) _ R Tk.nil hvs λS' ok' y O R' T' k s h=>?_;exact hK S' ok' y O R' T' k s ⟨h,hals⟩
theorem Rel.chmono(R:Rel X cl ch S m ok a w){ch' :Nat}(h:ch<=ch'):Rel X cl ch' S m ok a w:={ R with strict:=λn hn=>R.strict n o5 }
theorem qU{n:Nat}{K:Cmd α}(hK:S (Z5+n)= .undef->K.post (upd S (Z5+n) v) Q):(uY n v K).post S Q:=by
 unfold uY;show Cmd.post (match S (Z5+n)with| .undef=>_|_=>_) S Q;split
 .rename_i h;exact hK h
 .trivial
theorem Rel.adopt(R:Rel X cl ch S m ok a w){n:Nat}{l:Loc}{ks:List Nat}{O:List Nat}(hn:S (Z5+n)= .undef)(hcl:cl<=n)(hv:v≠.undef)
  (hT:Tk X S m ok w (O++T)) (ho:∀b∈U7 (nK m n l ks) n v,b∈O) (hnd:(U7 (nK m n l ks) n v).Nodup) (hB:CP ⟨w.heap,ok,nK m n l ks⟩ n v):
  Rel X cl (max ch (n+1)) (upd S (Z5+n) v) (nK m n l ks) ok a w/\Tk X (upd S (Z5+n) v) (nK m n l ks) ok w T/\(∀k l',m k=some l' ->nK m n l ks k=some l'):=by
 have hm:m n=none:=R.fresh n hcl hn;refine⟨(R.chmono (dw ch (n+1))).lay hn hcl o5 hv rfl rfl rfl (A7 _) (λ_ _ _=>rfl) hnd (λb hb=>hT.free b (by simp[ho b hb])) hB,⟨?_,λb hb=>?_⟩,λk l' h=>?_⟩
 .exact(Y4.1 hT.nodup).2.1
 .obtain⟨h1,h2,h3,h4⟩:=hT.free b (by simp[hb]);refine⟨h1,h2,h3,λk e=>?_⟩;by_cases ek:k=n
  .subst ek;rw[lV]at e;exact(Y4.1 hT.nodup).2.2 b (ho b e) b hb rfl
  .rw[bJ _ _ o5]at e;refine h4 k ?_;rw[←FB (m:=m) (jC m l ks ek) (OW m l ks ek)];exact e
 .by_cases ek:k=n
  .subst ek;simp[hm]at h
  .rw[jC _ _ _ ek];exact h
theorem GN{h:Array Obj}{ok:Nat->Ty->Prop}{m m' :Mp}{t:Ty}{xs:List t.den}{l:Loc}(hr:arrOk ⟨h,ok,m⟩ t xs l):arrOk ⟨h,ok,m'⟩ t xs l:=by cases l<;>exact hr
theorem a3u{S:Sm}{k:Nat}{c:Cmd α}(h:c.post (upd S k v) Q):(Cmd.set k v c).post S Q:=h
theorem Ef{α:Type}{Q:α->Sm->Prop} :∀(md:M) {x:md.den} {n:Nat} {r:List V} {K:List V->Nat->Cmd α} {S:Sm} {m:Mp} {ch:Nat} {us us' :List Value} {O T:List Nat}
  (R:Rel X cl ch S m ok a w) (hcl:cl<=n) (hT:Tk X S m ok w (O++T)) (h:qg w.heap ok md none x us O) (hL:gu ⟨w.heap,ok,m⟩ r us')
  (hK:∀S' m' cs n' ch',Rel X cl ch' S' m' ok a w->ch' <=max ch n' ->Tk X S' m' ok w T->(∀k l,m k=some l->m' k=some l)->aW S S' ->gu ⟨w.heap,ok,m'⟩ cs (us++us')->n<=n' ->(K cs n').post S' Q),
  (emM md x n r K).post S Q
 | .dat t,x,n,r,K,S,m,ch,us,us',O,T,R,hcl,hT,h,hL,hK=>by unfold emM;obtain⟨hr,rfl⟩:=h;refine hK S m _ n ch R (dw _ _) (by simpa using hT) (λ_ _ h=>h) (aW.refl _) ?_ (A7 _);rw[lZ];exact vZ (qm (C:=⟨w.heap,ok,m⟩) hr) hL
 | .own t,x,n,r,K,S,m,ch,us,us',O,T,R,hcl,hT,h,hL,hK=>by
  unfold emM;obtain⟨l,v,rfl,hv,ha,rfl⟩:=xu.1 h;refine qU λhn=>?_;have hob:U7 (nK m n l []) n (.barr t x)=l.blks:=by cases l<;>first|(simp[U7,Loc.blks];done)|cases ha
  obtain⟨R',T',k'⟩:=R.adopt (l:=l) (ks:=[]) (v:=.barr t x) hn hcl D5 hT (λb hb=>by rw[hob]at hb;exact hb) (by rw[hob];exact Loc.blks_nodup l) ⟨l,aF _ _ _ _,GN ha⟩;exact hK _ _ _ _ _ R' o5 T' k' (aW.box _ _ _) ⟨v,us',rfl,⟨l,aF _ _ _ _,hv⟩,oI hv,AU k' hL⟩ o5
 | .ownb t,x,n,r,K,S,m,ch,us,us',O,T,R,hcl,hT,h,hL,hK=>by
  unfold emM;obtain⟨l,v,rfl,hv,ha,rfl⟩:=h;refine qU λhn=>?_;have hob:U7 (nK m n l []) n (.barr t x)=l.blks:=by cases l<;>first|(simp[U7,Loc.blks];done)|cases ha
  obtain⟨R',T',k'⟩:=R.adopt (l:=l) (ks:=[]) (v:=.barr t x) hn hcl D5 hT (λb hb=>by rw[hob]at hb;exact hb) (by rw[hob];exact Loc.blks_nodup l) ⟨l,aF _ _ _ _,GN ha⟩;exact hK _ _ _ _ _ R' o5 T' k' (aW.box _ _ _) ⟨v,us',rfl,⟨l,aF _ _ _ _,hv⟩,oI hv,AU k' hL⟩ o5
 | .owns md,x,n,r,K,S,m,ch,us,us',O,T,R,hcl,hT,h,hL,hK=>by
  unfold emM;obtain⟨hw,l,v,Os,rfl,hv,ha,rfl⟩:=yf.1 h;refine qU λhn=>?_;have hob:U7 (nK m n l Os.flatten) n (.barrs md x none)=l.blks++Os.flatten:=by cases l<;>first|(simp[U7,Loc.blks];done)|cases ha
  obtain⟨R',T',k'⟩:=R.adopt (l:=l) (ks:=Os.flatten) (v:=.barrs md x none) hn hcl D5 hT (λb hb=>by rw[hob]at hb;exact hb) (by rw[hob];exact(Y4.1 hT.nodup).1)
   ⟨hw,l,Os,aF _ _ _ _,⟨ha,trivial⟩,D5⟩
  refine a3u ?_;have T2:=T'.killV R' (JY+n) (v:=.blen (x8 x) md.size) rfl (bs:=[]) (λb h=>by cases h) dY;rw[E5]at T2;exact hK _ _ _ _ _ (R'.mark (lV _ _ _)) o5 T2 k' ((aW.box _ _ _).trans (aW.box _ _ _)) ⟨v,us',rfl,⟨l,aF _ _ _ _,hv⟩,oI hv,AU k' hL⟩ o5
 | .pair p q,x,n,r,K,S,m,ch,us,us',O,T,R,hcl,hT,h,hL,hK=>by
  unfold emM;obtain⟨c,d,O1,O2,rfl,rfl,h1,h2⟩:=a3q.1 h;have hT1:Tk X S m ok w (O2++(O1++T)):=hT.perm (by rw[F7];exact(List.perm_append_comm_assoc _ _ _))
  refine Ef q R hcl hT1 h2 hL λS1 m1 cs1 n1 ch1 R1 c1 T1 k1 s1 l1 e1=>?_;refine Ef p R1 o5 T1 h1 l1 λS2 m2 cs2 n2 ch2 R2 c2 T2 k2 s2 l2 e2=>?_;exact hK _ _ _ _ _ R2 o5 T2 (λk l h=>k2 k l (k1 k l h)) (s1.trans s2) (by simpa using l2) o5
 | .unit,x,n,r,K,S,m,ch,us,us',O,T,R,hcl,hT,h,hL,hK=>by unfold emM;obtain⟨rfl,rfl⟩:=h;exact hK S m _ n ch R (dw _ _) (by simpa using hT) (λ_ _ h=>h) (aW.refl _) (by simpa using hL) (A7 _)
 | .box md,x,n,r,K,S,m,ch,us,us',O,T,R,hcl,hT,h,hL,hK=>by
  unfold emM;obtain⟨blk,arr,Tt,O',rfl,hh,hr,rfl⟩:=h;have hT1:Tk X S m ok w (O' ++([blk]++T)):=hT.perm (by simpa using List.perm_middle.symm);refine Ef md (r:=[]) (us' :=[]) R o5 hT1 hr rfl λS1 m1 cs1 n1 ch1 R1 c1 T1 k1 s1 l1 e1=>?_;refine qU λhn=>?_;obtain⟨R',T',k'⟩:=R1.adopt (l:=.st blk) (ks:=[]) (v:=.bcells cs1) hn hcl D5 T1 (λb hb=>by
   simp only[U7,aF]at hb;simp at hb;simp[hb]) (by simp[U7]) ⟨blk,arr,Tt,aF _ _ _ _,hh,AU (λk l (h:m1 k=some l)=>by
    by_cases ek:k=n
    .subst ek;have:=R1.fresh k hcl hn;rw[this]at h;cases h
    .rw[jC _ _ _ ek];exact h) (by simpa using l1)⟩
  refine hK _ _ _ _ _ R' o5 T' (λk l h=>k' k l (k1 k l h)) (s1.trans (aW.box _ _ _)) ⟨_,us',rfl,⟨blk,aF _ _ _ _,rfl⟩,rfl,AU k' (AU k1 hL)⟩ o5
 | .rp t,x,n,r,K,S,m,ch,us,us',O,T,R,hcl,hT,h,hL,hK=>by unfold emM;obtain⟨v,rfl,hv,rfl⟩:=h;exact hK S m _ n ch R (dw _ _) (by simpa using hT) (λ_ _ h=>h) (aW.refl _) ⟨v,us',rfl,hv,Hg hv,hL⟩ (A7 _)
 | .fn f ts,x,n,r,K,S,m,ch,us,us',O,T,R,hcl,hT,h,hL,hK=>by unfold emM;obtain⟨vs,rfl,hv,rfl⟩:=h;exact hK S m _ n ch R (dw _ _) (by simpa using hT) (λ_ _ h=>h) (aW.refl _) ⟨_,us',rfl,⟨vs,rfl,hv⟩,rfl,hL⟩ (A7 _)
 | .ifc t md,x,n,r,K,S,m,ch,us,us',O,T,R,hcl,hT,h,hL,hK=>by
  unfold emM;obtain⟨u,rfl,h1⟩:=h;refine Ef md (r:=[]) (us' :=[]) R hcl hT h1 rfl λS1 m1 cs1 n1 ch1 R1 c1 T1 k1 s1 l1 e1=>?_;split
  .rename_i c;obtain⟨v',r',e,h1',h2',h3'⟩:=l1;simp only[E5,J9,H9,G8]at e;obtain⟨rfl,rfl⟩:=e;exact hK _ _ _ _ _ R1 c1 T1 k1 s1 ⟨_,us',rfl,⟨u,rfl,h2',h1'⟩,rfl,AU k1 hL⟩ e1
  .trivial
 | .cell (some none),x,n,r,K,S,m,ch,us,us',O,T,R,hcl,hT,h,hL,hK=>by unfold emM;obtain⟨v,rfl,hv,h2,h4,rfl⟩:=h;exact hK S m _ n ch R (dw _ _) (by simpa using hT) (λ_ _ h=>h) (aW.refl _) ⟨v,us',rfl,h2 rfl,hv,hL⟩ (A7 _)
 | .cell (some (some b)),x,n,r,K,S,m,ch,us,us',O,T,R,hcl,hT,h,hL,hK=>by unfold emM;obtain⟨v,rfl,hv,h2,h4,rfl⟩:=h;exact hK S m _ n ch R (dw _ _) (by simpa using hT) (λ_ _ h=>h) (aW.refl _) ⟨v,us',rfl,h4 _ rfl,hv,hL⟩ (A7 _)
 | .cell none,x,n,r,K,S,m,ch,us,us',O,T,R,hcl,hT,h,hL,hK=>by unfold emM;obtain⟨v,rfl,hv,h2,h4,rfl⟩:=h;exact hK S m _ n ch R (dw _ _) (by simpa using hT) (λ_ _ h=>h) (aW.refl _) ⟨v,us',rfl,trivial,hv,hL⟩ (A7 _)
 | .lp t,x,n,r,K,S,m,ch,us,us',O,T,R,hcl,hT,h,hL,hK=>by unfold emM;obtain⟨v,rfl,hv,rfl⟩:=h;exact hK S m _ n ch R (dw _ _) (by simpa using hT) (λ_ _ h=>h) (aW.refl _) ⟨v,us',rfl,hv,Hg hv,hL⟩ (A7 _)
 | .dv ..,x,n,r,K,S,m,ch,us,us',O,T,R,hcl,hT,h,hL,hK=>by unfold emM;obtain⟨v,rfl,hv,rfl⟩:=h;exact hK S m _ n ch R (dw _ _) (by simpa using hT) (λ_ _ h=>h) (aW.refl _) ⟨v,us',rfl,trivial,hv,hL⟩ (A7 _)
 | .sit,x,n,r,K,S,m,ch,us,us',O,T,R,hcl,hT,h,hL,hK=>by
  unfold emM;obtain⟨blk,s,q,rfl,hh,h2,h3,rfl⟩:=h;refine qU λhn=>?_;obtain⟨R2,T2,k2⟩:=R.adopt (n:=n) (l:=.st blk) (ks:=[]) (v:=.biter x.1 x.2) hn hcl D5 hT (λb hb=>by simp only[U7,aF]at hb;simp at hb;simp[hb]) (by simp[U7]) ⟨blk,s,q,aF _ _ _ _,hh,h2,h3⟩
  exact hK _ _ _ _ _ R2 o5 T2 k2 (aW.box _ _ _) ⟨_,us',rfl,⟨blk,aF _ _ _ _,rfl⟩,rfl,AU k2 hL⟩ o5
 | .sbx tb te,x,n,r,K,S,m,ch,us,us',O,T,R,hcl,hT,h,hL,hK=>by
  unfold emM;obtain⟨blk,a0,v,l,rfl,hh,hs,hv,ha,rfl⟩:=h;have hT1:Tk X S m ok w (l.blks++([blk]++T)):=hT.perm (by simpa using List.perm_middle.symm);refine qU λhn1=>?_;have hob:U7 (nK m (n+1) l []) (n+1) (.brow te x)=l.blks:=by cases l<;>first|(simp[U7,Loc.blks];done)|cases ha
  obtain⟨R1,T1,k1⟩:=R.adopt (n:=n+1) (l:=l) (ks:=[]) (v:=.brow te x) hn1 o5 D5 hT1 (λb hb=>by rw[hob]at hb;exact hb) (by rw[hob];exact Loc.blks_nodup l) ⟨l,aF _ _ _ _,ha⟩;refine qU λhn=>?_;obtain⟨R2,T2,k2⟩:=R1.adopt (n:=n) (l:=.st blk) (ks:=[]) (v:=.bsb tb (.own (n+1) none)) hn hcl D5 T1 (λb hb=>by simp only[U7,aF]at hb;simp at hb;simp[hb]) (by simp[U7]) ⟨blk,a0,v,aF _ _ _ _,hh,hs,⟨l,(by rw[jC _ _ _ o5];exact aF _ _ _ _),hv⟩⟩
  refine hK _ _ _ _ _ R2 o5 T2 (λk l h=>k2 k l (k1 k l h)) ((aW.box _ _ _).trans (aW.box _ _ _)) ⟨_,us',rfl,⟨blk,aF _ _ _ _,rfl⟩,rfl,AU k2 (AU k1 hL)⟩ o5
 | .fr t,x,n,r,K,S,m,ch,us,us',O,T,R,hcl,hT,h,hL,hK=>by unfold emM;obtain⟨l,v,rfl,hv,ha,hk,rfl⟩:=h;refine qU λhn=>?_;obtain⟨R',T',k'⟩:=R.adopt (l:=l) (ks:=[]) (v:=.bfrz t x) hn hcl D5 hT (λb hb=>by cases hb) dY ⟨l,aF _ _ _ _,GN ha,hk⟩;exact hK _ _ _ _ _ R' o5 T' k' (aW.box _ _ _) ⟨v,us',rfl,⟨l,aF _ _ _ _,hv⟩,oI hv,AU k' hL⟩ o5
theorem Na{ag:Bool}{cs:List V}{us:List Value}(hg:Ot ag x us)(hl:gu C cs us):lu C (mkV ag cs) x:=by
 cases ag
 .simp only[Ot]at hg;subst hg;cases cs with
  |nil=>simp[gu]at hl|cons c r=>
   obtain⟨v,r',e,h1,h2,h3⟩:=hl;simp at e;obtain⟨rfl,rfl⟩:=e;cases r with
   |nil=>exact Bj h1|cons d r=>obtain⟨_,_,e,_⟩:=h3;cases e
 .obtain⟨arr,rfl,rfl⟩:=hg;exact⟨arr,rfl,hl⟩
theorem ET{α:Type}{Q:α->Sm->Prop} :∀(ms:List MG) {x:aP ms} {n:Nat} {K:List V->Nat->Cmd α} {S:Sm} {m:Mp} {ch:Nat} {xs:List Value} {O T:List Nat}
  (R:Rel X cl ch S m ok a w) (hcl:cl<=n) (hT:Tk X S m ok w (O++T)) (h:sZ w.heap ok ms x xs O)
  (hK:∀S' m' vs n' ch',Rel X cl ch' S' m' ok a w->ch' <=max ch n' ->Tk X S' m' ok w T->(∀k l,m k=some l->m' k=some l)->aW S S' ->iU ⟨w.heap,ok,m'⟩ vs xs->n<=n' ->(K vs n').post S' Q),
  (JH ms x n K).post S Q
 |[],x,n,K,S,m,ch,xs,O,T,R,hcl,hT,h,hK=>by unfold JH;obtain⟨rfl,rfl⟩:=h;exact hK S m [] n ch R (dw _ _) (by simpa using hT) (λ_ _ h=>h) (aW.refl _) rfl (A7 _)
 |[md],x,n,K,S,m,ch,xs,O,T,R,hcl,hT,h,hK=>by unfold JH;obtain⟨v,cs,rfl,hg,hr⟩:=h;refine Ef md.2 (us' :=[]) R hcl hT hr rfl λS1 m1 cs1 n1 ch1 R1 c1 T1 k1 s1 l1 e1=>?_;exact hK _ _ _ _ _ R1 c1 T1 k1 s1 ⟨v,[],rfl,Na hg (by simpa using l1),rfl⟩ e1
 |md::md' ::r,x,n,K,S,m,ch,xs,O,T,R,hcl,hT,h,hK=>by unfold JH;obtain⟨v,cs,vs',O1,O2,rfl,rfl,hg,h1,h2⟩:=h;refine Ef md.2 (us' :=[]) R hcl (by simpa using hT) h1 rfl λS1 m1 cs1 n1 ch1 R1 c1 T1 k1 s1 l1 e1=>?_;refine ET (md' ::r) R1 o5 T1 h2 λS2 m2 vs2 n2 ch2 R2 c2 T2 k2 s2 l2 e2=>?_;exact hK _ _ _ _ _ R2 o5 T2 (λk l h=>k2 k l (k1 k l h)) (s1.trans s2) ⟨v,vs',rfl,Na hg (AU k2 (by simpa using l1)),l2⟩ o5
theorem FW{Q:Unit->Sm->Prop} :∀(ns:List Nat) {vs:List V} {S:Sm} {K:Cmd Unit} (R:Rel X cl ch S m ok a w) (hv:iU ⟨w.heap,ok,m⟩ vs (ns.map λn=>a.tmps.getD n Go.undef))
  (hK:∀S',Rel X cl ch S' m ok a w->K.post S' Q),(Jr ns vs K).post S Q
 |[],vs,S,K,R,hv,hK=>by
  simp only[jV]at hv;cases vs with
  |nil=>exact hK S R|cons _ _=>obtain⟨_,_,e,_⟩:=hv;cases e
 |n::ns,vs,S,K,R,hv,hK=>by
  cases vs with
  |nil=>trivial
  |cons v vs=>obtain⟨x,r,e,h1,h2⟩:=hv;simp only[dL,G8]at e;obtain⟨rfl,rfl⟩:=e;unfold Jr;refine eH λhb=>?_;show Cmd.post _ (upd S n v) Q;exact FW ns (R.slotV (by rw[cZ]at hb;exact hb) h1) h2 hK
theorem PV{Q:Unit->Sm->Prop} :∀(als:List (Nat×Nat)) {S:Sm} (R:Rel X cl ch S m ok a w) (h:∀p∈als,a.tmps.getD p.1 Go.undef=a.tmps.getD p.2 Go.undef)
  (hK:∀S',Rel X cl ch S' m ok a w->Q () S'),(Xa als).post S Q
 |[],S,R,h,hK=>hK S R
 |(n,k)::r,S,R,h,hK=>by unfold Xa;refine eH λhb=>?_;simp only[A8]at hb;have h1:=hb.1;have h2:=hb.2;rw[cZ]at h1 h2;show Cmd.post _ (upd S n (S k)) Q;refine PV r (R.slotV h1 ?_) (λp hp=>h p (P7 _ hp)) hK;rw[h (n,k) iy];exact R.slot k h2
theorem b_{sg:Sig}{x:qI sg}{nb lim:Nat}{Q:Unit->Sm->Prop}{O:List Nat}(R:Rel X cl ch S m ok a w)(hcl:cl<=nb)(hT:Tk X S m ok w O)
  (h:ZF w.heap ok sg x a.tmps O)
  (hK:∀S' m',Rel X cl (max ch lim) S' m' ok a w->(∀k l,m k=some l->m' k=some l)->Q () S'):(a4e sg x nb lim).post S Q:=by
 unfold a4e;refine ET (T:=[]) _ R hcl (by simpa using hT) h.1 λS1 m1 vs n1 ch1 R1 c1 T1 k1 s1 l1 e1=>?_;cases hb:Nat.ble n1 lim
 .trivial
 .simp only[cond_true];have:n1<=lim:=V8 hb;exact FW _ (R1.chmono (ch' :=max ch lim) o5) l1 λS' R' =>PV _ R' h.2 λS'' R'' =>hK S'' m1 R'' k1
end
end Go.GP
namespace Go.GP
def a7I(P:Program)(t:TypeId):TD->Prop
 | .bool=>P.underlying t=some .bool| .int k=>P.underlying t=some (.int k)| .str=>P.underlying t=some .string| .sl e=>P.underlying t=some (.slice e)| .ptr e=>P.underlying t=some (.pointer e)| .struct fs=>∃fields,P.underlying t=some (.struct fields)/\fields.toList.map (λf=>(f.type,f.offset))=fs| .arr n e=>P.underlying t=some (.array n e)| .map k e=>P.underlying t=some (.map k e)| .other=>∃d,P.underlying t=some d/\(match d with| .struct _| .array _ _=>False|_=>True)
structure TiOk (P:Program) (t:TypeId) (i:TI):Prop where
 info:∃inf,P.info? t=some inf/\inf.size=i.size/\inf.bytes=i.bytes/\
  (i.zero.length=i.size->∃z,inf.zero=some z/\gu ⟨#[],λ_ _=>False,nom⟩ i.zero z.cells.toList)/\
  (∀u,i.ty=some u->u.size=i.size/\∃z,inf.zero=some z/\lw #[] (λ_ _=>False) u u.zero z.cells.toList)
 td:a7I P t i.td
 one:bK i.td=false->i.size=1
 agg:∀inf z,P.info? t=some inf->inf.zero=some z->(bK i.td=true->∃arr,z= .agg arr)/\(bK i.td=false->z.oneCell' =true)
def ZC(n:Nat)(v:Value)(rs:List Value):Prop:=rs.length=n/\v=(match rs with|[x]=>x|l=> .tuple l.toArray)
def wZ(h:Array Obj):List MG->List Value->List Value->List Nat->Prop
 |[],[],os,B=>os=[]/\B=[]|(_,.box _)::ms,v::vs,os,B=>∃b arr T os' B',v= .pointer (some ⟨b,0,none⟩)/\h[b]? =some (.cells arr T (0,0))/\os= .agg arr::os' /\B=b::B' /\wZ h ms vs os' B'|(_,.ifc _ (.box _))::ms,v::vs,os,B=>∃t b arr T os' B',v= .iface t (.pointer (some ⟨b,0,none⟩))/\h[b]? =some (.cells arr T (0,0))/\os= .agg arr::os' /\B=b::B' /\wZ h ms vs os' B'|(_,.ownb _)::ms,v::vs,os,B=>∃os',os=v::os' /\wZ h ms vs os' B|(_,.sbx _ _)::ms,v::vs,os,B=>∃os',os=v::os' /\wZ h ms vs os' B|_::ms,_::vs,os,B=>wZ h ms vs os B|_,_,_,_=>False
def JZ(h:Array Obj)(x:Value)(off sz fo:Nat)(y:Value):Prop:=∃blk o b bo n c,x= .pointer (some ⟨blk,o,none⟩)/\dE h blk (o+off) 1=some [.slice (some ⟨b,bo,none⟩) n c]/\
 0<=L6 .i64 (n:Int) 1/\L6 .i64 (n:Int) 1<(n:Int)/\y= .pointer (some ⟨b,bo+(L6 .i64 (n:Int) 1).toNat*sz+fo,none⟩)
theorem JZ.det{h:Array Obj}{x y z:Value}{off sz fo:Nat}(h1:JZ h x off sz fo y)(h2:JZ h x off sz fo z):y=z:=by obtain⟨blk,o,b,bo,n,c,rfl,e,_,_,rfl⟩:=h1;obtain⟨blk',o',b',bo',n',c',e1,e',_,_,rfl⟩:=h2;simp only[nP,F8,iK,and_true]at e1;obtain⟨rfl,rfl⟩:=e1;rw[e]at e';simp only[F8,G8,pX,iK,and_true]at e';obtain⟨⟨rfl,rfl⟩,rfl,rfl⟩:=e';rfl
def a2o(h:Array Obj)(all:List Value):List MG->List Value->Prop
 |(_,.dv k off sz fo)::ms,v::vs=>(∃p,all[k]? =some p/\JZ h p off sz fo v)/\a2o h all ms vs|_::ms,_::vs=>a2o h all ms vs|_,_=>True
def Ll(P:Program)(f:FuncId)(off sz:Nat):Prop:=(∃fn,P.funcs[f]? =some fn/\fn.body.isSome=true/\(fn.name== "runtime.NumGoroutine")=false)/\
 ∀(w:World) (x y:Value),JZ w.heap x off sz 0 y->Calls P f #[x] w λe w' =>e= .returned y/\∃n,w' =w.drewN n
def PlP(P:Program)(f:FuncId)(off sz:Nat):Prop:=match sz with|0=>c0V P f off|_+1=>Ll P f off sz
theorem PlP.snd{P:Program}{f:FuncId}{off sz:Nat}(h:PlP P f off sz)(hz:Nat.beq sz 0=false):Ll P f off sz:=by
 cases sz with
 |zero=>cases hz|succ n=>exact h
def ik(P:Program)(gl:List (Nat×(t:Ty)×List t.den))(f:FuncId)(s:FSpec):Prop:=
 ∀(w:World) (ok:Nat->Ty->Prop) (O:List Nat) (vals:List Value) (x:aP s.ps) (r:aP (s.rs++s.outs)),
  (∀b t,ok b t->b<w.heap.size)->O.Nodup->(∀b∈O,(∀t,¬ok b t)/\b<w.heap.size)->(∀g u,dO gl g=some u->GK ⟨w.heap,ok,nom⟩ g u.1 u.2)->
  sZ w.heap ok s.ps x vals O->a2o w.heap vals s.ps vals->s.fn x=some r->
  Calls P f vals.toArray w λe w' =>∃v ok' O' rs os B,e= .returned v/\Frame' w w' O/\(∀b t,ok b t->ok' b t)/\(∀b t,ok' b t->b<w'.heap.size/\(ok b t\/w.heap.size<=b\/b∈O))/\
   (O' ++B).Nodup/\(∀b∈O' ++B,(∀t,¬ok' b t)/\b<w'.heap.size/\(w.heap.size<=b\/b∈O))/\
   ZC s.rs.length v rs/\wZ w'.heap s.ps vals os B/\sZ w'.heap ok' (s.rs++s.outs) r (rs++os) O'
def jM:List Ty->List Value->Prop
 |[],vs=>vs=[]| .bool::ts,vs=>∃b r,vs= .bool b::r/\jM ts r| .int k::ts,vs=>∃b r,vs= .int k b::r/\jM ts r| .str::ts,vs=>∃b r,vs= .string b::r/\jM ts r|_::_,_=>False
def a3I(P:Program)(t:TypeId)(sh:List Ty):Prop:=
 ∀(w:World) (C:Cx) (cs ds:List V) (xs ys:Array Value) (e:Bool) (op:BinOp) (x y:Operand),yT sh cs=true->yT sh ds=true->gu C cs xs.toList->gu C ds ys.toList->yz cs ds=some e->
  (op= .eql\/op= .neq)->(do eqGuard op t x y (.agg xs) (.agg ys);binOp op t (.agg xs) (.agg ys):Sem Value).run P w= .ok (.bool (if op= .eql then e else !e)) w
def Xw(P:Program)(t:TypeId)(sh:List Ty):Prop:=
 (∃fs,P.underlying t=some (.struct fs))/\∀(w:World) (xs:Array Value),jM sh xs.toList->(∀em,(Instr.checkKey em 10000 t (.agg xs)).run P w= .ok () w)/\
  ∀ys:Array Value,jM sh ys.toList->∃r,(Op.equal t (.agg xs) (.agg ys)).run P w= .ok r w/\(r=true↔xs.toList=ys.toList)
def IW(P:Program)(t:TypeId)(sh:List Ty):Prop:=a3I P t sh/\Xw P t sh
def VK(P:Program)(t:Nat)(n:String)(f:Nat)(d:Option Nat):Prop:=
 ∀(v:Value) (w:World),match d with
  |none=>(method (P.types.size+Made.depth) t v n).run P w= .ok (f,v) w
  |some e=>∀ad,v= .pointer (some ad)->(method (P.types.size+Made.depth) t v n).run P w=((loadVar e ad).run P w).andThen λu w' => .ok (f,u) w'
structure FxOk (X:Fx):Prop where
 nt:64*X.E.nt<=999936
 tt:∀t i,dO X.E.tt t=some i->TiOk X.P t i
 fs:∀p∈X.E.fs,ik X.P X.E.gl p.1 p.2
 eqs:∀t sh,dO X.E.eqs t=some sh->IW X.P t sh
 ms:∀p∈X.E.ms,VK X.P p.1.1 p.1.2 p.2.1 p.2.2
 fn:∀p∈X.E.fs,∃fn,X.P.funcs[p.1]? =some fn/\fn.body.isSome=true/\(fn.name== "runtime.NumGoroutine")=false
 pl:∀p∈X.E.pl,PlP X.P p.1 p.2.1 p.2.2
theorem FxOk.ntB{X:Fx}(H:FxOk X):X.E.nt<=Z5:=by have:=H.nt;show X.E.nt<=1000000;omega
def jh(X:Fx)(cl ch:Nat)(o:Oper)(a:Act)(w:World)(m:Mp)(ok:Nat->Ty->Prop)(S' :Sm):Prop:=
 ∀(next:Act->World->Prop) (Q:Exit->Act->World->Prop),
  (∀m' ok' a' w',Rel X cl ch S' m' ok' a' w' ->(∀k l,m k=some l->m' k=some l)->(∀b t,ok b t->ok' b t)->next a' w')->o.wp X.P a w next Q
theorem Et{α:Type}{ι:Sort _}{Q:ι->α->Sm->Prop} :∀{c:Cmd α} {S:Sm},(∀i,c.post S (Q i))->c.post S (λx S' =>∀i,Q i x S')
 | .ret x,S,h=>λi=>h i| .fail,S,h=>trivial| .get k c,S,h=>Et (c:=c (S k)) h| .set k v c,S,h=>Et (c:=c) h
 | .opt o c,S,h=>λx e=>Et (c:=c x) λi=>h i x e| .br b c d,S,h=>⟨λe=>Et (c:=c) λi=>(h i).1 e,λe=>Et (c:=d) λi=>(h i).2 e⟩
variable {x:Operand}{k:IntKind}{y:Operand}{α:Type}{Q:α->Sm->Prop}{C:Cx}{v:Value}{op:BinOp}{t:TypeId}{yt:TypeId}
section
variable {X:Fx} {cl ch:Nat} {S:Sm} {m:Mp} {ok:Nat->Ty->Prop} {a:Act} {w:World} {o:Oper}
theorem bM{b:Bool}{c:Cmd α}{S:Sm}(h:b=true->c.post S Q):(bif b then c else Cmd.fail).post S Q:=by
 cases b
 .trivial
 .exact h rfl
theorem EM{a b:Nat}(h:Nat.blt a b=true):a<b:=by rw[cZ]at h;exact h
theorem sF(H:FxOk X){S:Sm}{m0 m:Mp}{ok0 ok:Nat->Ty->Prop}{w0 w:World}{a:Act}(R:Rel X cl ch S m ok a w)(hm:∀k l,m0 k=some l->m k=some l)(hok:∀b t,ok0 b t->ok b t)
  {v:V} {x:Value} (hv:lu ⟨w.heap,ok,m⟩ v x) (run:(execOp a.eval o).run X.P w0= .ok (.value x) w):
  (dZ X.E o.dst v).post S (λ_ S' =>jh X cl ch o a w0 m0 ok0 S'):=by
 unfold dZ;cases hd:o.dst with
 |none=>
  intro next Q hn
  unfold Oper.wp;rw[run,oC,hd];exact hn m ok a w R hm hok
 |some d=>
  refine bM λhb=>?_;intro next Q hn
  unfold Oper.wp;rw[run,oC,hd];exact hn m ok _ w (R.put H.ntB hb hv) hm hok
theorem ZV(C:Cx)(v:Value):lu C (ZU v) v:=by unfold ZU;split<;>first|exact rfl|trivial
theorem ax(R:Rel X cl ch S m ok a w){K:V->Cmd α}(hK:∀v,lu ⟨w.heap,ok,m⟩ v (a.eval x)->(K v).post S Q):(qG x K).post S Q:=by
 unfold qG;cases x with
 |tmp t=>exact bM λhb=>hK (S t) (R.slot t (EM hb))|const v=>exact hK _ (ZV _ v)|global g=>exact hK _ rfl|func f=>exact hK _ rfl
theorem lM{α:Type}{Q:α->Sm->Prop}(R:Rel X cl ch S m ok a w):∀(xs:List Operand) {K:List V->Cmd α} (hK:∀vs,iU ⟨w.heap,ok,m⟩ vs (xs.map a.eval)->(K vs).post S Q),(MI xs K).post S Q
 |[],K,hK=>hK [] rfl
 |x::r,K,hK=>by unfold MI;refine ax R λv hv=>?_;exact lM R r λvs hvs=>hK _ ⟨_,_,rfl,hv,hvs⟩
theorem aN(H:FxOk X)(R:Rel X cl ch S m ok a w){v:V}{x:Value}(hv:lu ⟨w.heap,ok,m⟩ v x)(run:(execOp a.eval o).run X.P w= .ok (.value x) w):
  (dZ X.E o.dst v).post S (λ_ S' =>jh X cl ch o a w m ok S'):=sF H R (λ_ _ h=>h) (λ_ _ h=>h) hv run
theorem Ou{x:Bool}(h:lu C (.b x) v):v= .bool x:=h
theorem tq{n:Int}(h:lu C (.i k n) v):v= .int k n:=h
theorem Iz{l:List UInt8}(h:lu C (.s l) v):v= .string ⟨l.toArray⟩:=h
theorem a1F(H:FxOk X)(R:Rel X cl ch S m ok a w)(ho:o.op= .move x\/o.op= .assign x):(qG x λv=>dZ X.E o.dst v).post S (λ_ S' =>jh X cl ch o a w m ok S'):=by refine ax R λv hv=>aN H R hv ?_;rcases ho with ho|ho<;>simp[execOp,ho]
theorem a8M(H:FxOk X)(R:Rel X cl ch S m ok a w){c x y:Operand}{q:Nat}(ho:o.op= .pick c x y):(bz X.E q o).post S (λ_ S' =>jh X cl ch o a w m ok S'):=by
 unfold bz;simp only[ho];refine ax R λv hv=>?_;split<;>try trivial
 rename_i t;have hc:=Ou hv;cases t
 .simp only[cond_false];refine ax R λv hv=>aN H R hv ?_;simp[execOp,ho,hc,asBool]
 .simp only[cond_true];refine ax R λv hv=>aN H R hv ?_;simp[execOp,ho,hc,asBool]
theorem fJ{α β:Type}{Q:α->Sm->Prop}{x:Option β}{c:β->Cmd α}{S:Sm}(h:∀y,x=some y->(c y).post S Q):(Cmd.opt x c).post S Q:=h
theorem a2m{yc:Operand}{a:Act}{b:Int}(h:BC yc=false)(he:a.eval yc= .int k b):b≠0:=by
 unfold BC at h;split at h
 .simp[Act.eval]at he;obtain⟨_,rfl⟩:=he;simpa using h
 .simp at h
theorem a4S{yc:Operand}{a:Act}{b:Int}(h:Em yc=false)(he:a.eval yc= .int k b):¬b<0:=by
 unfold Em at h;split at h
 .simp[Act.eval]at he;obtain⟨_,rfl⟩:=he;simpa using h
 .simp at h
theorem a3f(H:FxOk X)(R:Rel X cl ch S m ok a w)(ho:o.op= .binOp op t x y yt){k k' :IntKind}{p q:Int}
  (hx:a.eval x= .int k p) (hy:a.eval y= .int k' q):(GU X.E t op y (.i k p) (.i k' q) λv=>dZ X.E o.dst v).post S (λ_ S' =>jh X cl ch o a w m ok S'):=by
 have run:∀v,(binOp op t (.int k p) (.int k' q)).run X.P w= .ok v w->(execOp a.eval o).run X.P w= .ok (.value v) w:=λv h=>by simp[execOp,ho,hx,hy,eqGuard_at_int,h]
 have fin:∀(v:V) (u:Value),lu ⟨w.heap,ok,m⟩ v u->(binOp op t (.int k p) (.int k' q)).run X.P w= .ok u w->(dZ X.E o.dst v).post S (λ_ S' =>jh X cl ch o a w m ok S'):=
  λv u hv h=>aN H R hv (run u h)
 unfold GU;cases op<;>simp only[]
 case shl=>
  cases hn:Em y
  .simp only[cond_false];have h0:=a4S hn hy;exact fin _ _ rfl (by simp[binOp,Op.shift,h0,a8m])
  .simp only[cond_true];refine fJ λr hr=>?_;unfold a9U at hr;split at hr
   .cases hr
   .rename_i h0;cases hr;exact fin _ _ rfl (by simp[binOp,Op.shift,h0,a8m])
 case shr=>
  cases hn:Em y
  .simp only[cond_false];have h0:=a4S hn hy;exact fin _ _ rfl (by simp[binOp,Op.shift,h0,a8n])
  .simp only[cond_true];refine fJ λr hr=>?_;unfold a9V at hr;split at hr
   .cases hr
   .rename_i h0;cases hr;exact fin _ _ rfl (by simp[binOp,Op.shift,h0,a8n])
 all_goals
  refine bM λhk=>?_;have hk' :k=k' :=of_decide_eq_true hk;subst hk'
 case quo=>
  cases hz:BC y
  .simp only[cond_false];have h0:=a2m hz hy;exact fin _ _ rfl (by simp[binOp,Op.intDiv,h0,gV])
  .simp only[cond_true];refine fJ λr hr=>?_;unfold a9S at hr;split at hr
   .cases hr
   .rename_i h0;cases hr;exact fin _ _ rfl (by simp[binOp,Op.intDiv,h0])
 case rem=>
  cases hz:BC y
  .simp only[cond_false];have h0:=a2m hz hy;exact fin _ _ rfl (by simp[binOp,Op.intDiv,h0,mQ])
  .simp only[cond_true];refine fJ λr hr=>?_;unfold a9T at hr;split at hr
   .cases hr
   .rename_i h0;cases hr;exact fin _ _ rfl (by simp[binOp,Op.intDiv,h0])
 case add=>exact fin _ _ rfl (by simp[binOp,Op.intArith,G9])
 case sub=>exact fin _ _ rfl (by simp[binOp,Op.intArith,L6])
 case mul=>exact fin _ _ rfl (by simp[binOp,Op.intArith,KD])
 case and=>exact fin _ _ rfl (by simp[binOp,Op.intBits,b3E])
 case or=>exact fin _ _ rfl (by simp[binOp,Op.intBits,ior])
 case xor=>exact fin _ _ rfl (by simp[binOp,Op.intBits,a4H])
 case andNot=>exact fin _ _ rfl (by simp[binOp,Op.intBits,a1j])
 case eql=>exact fin _ _ rfl (by simp[binOp,Op.intCmp,D6];rfl)
 case neq=>exact fin _ _ rfl (by simp[binOp,Op.intCmp,D6,G7];rfl)
 case lss=>exact fin _ _ rfl (by simp[binOp,Op.intCmp,J4])
 case leq=>exact fin _ _ rfl (by simp[binOp,Op.intCmp,U6])
 case gtr=>exact fin _ _ rfl (by simp[binOp,Op.intCmp,J4])
 case geq=>exact fin _ _ rfl (by simp[binOp,Op.intCmp,U6])
theorem a3g(H:FxOk X)(R:Rel X cl ch S m ok a w)(ho:o.op= .binOp op t x y yt){p q:List UInt8}
  (hx:a.eval x= .string ⟨p.toArray⟩) (hy:a.eval y= .string ⟨q.toArray⟩):(GU X.E t op y (.s p) (.s q) λv=>dZ X.E o.dst v).post S (λ_ S' =>jh X cl ch o a w m ok S'):=by
 have run:∀v,(Op.stringOp op ⟨p.toArray⟩ ⟨q.toArray⟩).run X.P w= .ok v w->(execOp a.eval o).run X.P w= .ok (.value v) w:=λv h=>by simp[execOp,ho,hx,hy,eqGuard_at_string,binOp,h]
 have fin:∀(v:V) (u:Value),lu ⟨w.heap,ok,m⟩ v u->(Op.stringOp op ⟨p.toArray⟩ ⟨q.toArray⟩).run X.P w= .ok u w->(dZ X.E o.dst v).post S (λ_ S' =>jh X cl ch o a w m ok S'):=
  λv u hv h=>aN H R hv (run u h)
 unfold GU;cases op<;>simp only[]<;>try trivial
 case add=>
  refine fJ λr hr=>?_;unfold U5 at hr;split at hr
  .rename_i hle;cases hr;have e:(⟨p.toArray⟩:ByteArray)++⟨q.toArray⟩=⟨(p++q).toArray⟩:=by
    apply ByteArray.ext;apply kL;simp[ByteArray.data_append]
   refine fin _ (.string ⟨(p++q).toArray⟩) rfl ?_;have hs:¬((9223372036854775807:Int)<(p.length:Int)+(q.length:Int)):=o5;simp[Op.stringOp,e,ByteArray.size,hs]
  .cases hr
 case eql=>exact fin _ _ rfl (by simp only[Op.stringOp,ByteArray.toList_mk,seq,V9];rw[show(p==q)=decide (p=q) by rw[kV];simp])
 case neq=>exact fin _ _ rfl (by simp only[Op.stringOp,ByteArray.toList_mk,seq,G7,V9];rw[show(p==q)=decide (p=q) by rw[kV];simp])
 case lss=>exact fin _ _ rfl (by simp[Op.stringOp,ByteArray.toList_mk,slt])
theorem I_(H:FxOk X)(R:Rel X cl ch S m ok a w)(ho:o.op= .binOp op t x y yt){p q:Bool}
  (hx:a.eval x= .bool p) (hy:a.eval y= .bool q):(GU X.E t op y (.b p) (.b q) λv=>dZ X.E o.dst v).post S (λ_ S' =>jh X cl ch o a w m ok S'):=by
 unfold GU;cases hi:dO X.E.tt t with
 |none=>trivial|some i=>
 have ht' :=(H.tt t i hi).td;simp only[];cases hd:i.td<;>try trivial
 rw[hd]at ht';have ht:X.P.underlying t=some .bool:=ht';have he' :∀d,(Op.equalIn (d+1) t (.bool p) (.bool q)).run X.P w= .ok (p==q) w:=λd=>by simp[Op.equalIn,run_underlying ht]
 have he:(Op.equal t (.bool p) (.bool q)).run X.P w= .ok (p==q) w:=he' 9999;have run:∀v,(binOp op t (.bool p) (.bool q)).run X.P w= .ok v w->(execOp a.eval o).run X.P w= .ok (.value v) w:=λv h=>by simp[execOp,ho,hx,hy,eqGuard_at_bool,h]
 have fin:∀(v:V) (u:Value),lu ⟨w.heap,ok,m⟩ v u->(binOp op t (.bool p) (.bool q)).run X.P w= .ok u w->(dZ X.E o.dst v).post S (λ_ S' =>jh X cl ch o a w m ok S'):=
  λv u hv h=>aN H R hv (run u h)
 cases op<;>try trivial
 case eql=>exact fin _ _ rfl (by simp[binOp,he,QS])
 case neq=>exact fin _ _ rfl (by simp[binOp,he,QS,G7])
end
end Go.GP
namespace Go.GP
variable {x:Operand}{t:TypeId}{q:Nat}
section
variable {X:Fx} {cl ch:Nat} {S:Sm} {m:Mp} {ok:Nat->Ty->Prop} {a:Act} {w:World} {o:Oper}
theorem kX{α:Type}{Q:α->Sm->Prop}(H:FxOk X){t:Nat}{K:TI->Cmd α}(hK:∀i,TiOk X.P t i->(K i).post S Q):(tiC X.E t K).post S Q:=by
 unfold tiC;cases hi:dO X.E.tt t with
 |none=>trivial|some i=>exact hK i (H.tt t i hi)
theorem a3y{P:Program} :∀{d:TD},a7I P t d->∃e,P.underlying t=some e
 | .bool,h=>⟨_,h⟩| .int _,h=>⟨_,h⟩| .str,h=>⟨_,h⟩| .sl _,h=>⟨_,h⟩| .ptr _,h=>⟨_,h⟩| .struct _,⟨_,h,_⟩=>⟨_,h⟩| .arr _ _,h=>⟨_,h⟩| .map _ _,h=>⟨_,h⟩| .other,⟨_,h,_⟩=>⟨_,h⟩
theorem WF(H:FxOk X)(R:Rel X cl ch S m ok a w){op:BinOp}{x y:Operand}{yt:TypeId}(ho:o.op= .binOp op t x y yt){ad:Option Addr}{n c:Nat}
  (hx:a.eval x= .slice ad n c) (hy:a.eval y= .slice none 0 0):(a4T X.E t op ad.isNone λv=>dZ X.E o.dst v).post S (λ_ S' =>jh X cl ch o a w m ok S'):=by
 unfold a4T;cases hi:dO X.E.tt t with
 |none=>trivial|some i=>
 have ht' :=(H.tt t i hi).td;simp only[];cases hd:i.td<;>try trivial
 rename_i e;rw[hd]at ht';have ht:X.P.underlying t=some (.slice e):=ht';have he' :∀d,(Op.equalIn (d+1) t (.slice ad n c) (.slice none 0 0)).run X.P w= .ok ad.isNone w:=λd=>by cases ad<;>simp[Op.equalIn,run_underlying ht]
 have he:(Op.equal t (.slice ad n c) (.slice none 0 0)).run X.P w= .ok ad.isNone w:=he' 9999;have run:∀v,(binOp op t (.slice ad n c) (.slice none 0 0)).run X.P w= .ok v w->(execOp a.eval o).run X.P w= .ok (.value v) w:=λv h=>by simp[execOp,ho,hx,hy,eqGuard_at_slice,h]
 cases op<;>try trivial
 case eql=>exact aN H R (v:=.b ad.isNone) (x:=.bool ad.isNone) rfl (run _ (by simp[binOp,he]))
 case neq=>exact aN H R (v:=.b (G7 ad.isNone)) (x:=.bool (!ad.isNone)) rfl (run _ (by simp[binOp,he]))
theorem a5f(H:FxOk X)(R:Rel X cl ch S m ok a w){op:BinOp}{x y:Operand}{yt:TypeId}(ho:o.op= .binOp op t x y yt):
  (bz X.E q o).post S (λ_ S' =>jh X cl ch o a w m ok S'):=by
 unfold bz;simp only[ho];refine ax R λu hu=>ax R λv hv=>?_;cases u<;>try (unfold GU;trivial)
 case b p=>
  cases v<;>try (unfold GU;trivial)
  exact I_ H R ho (Ou hu) (Ou hv)
 case i k p=>
  cases v<;>try (unfold GU;trivial)
  exact a3f H R ho (tq hu) (tq hv)
 case s p=>
  cases v<;>try (unfold GU;trivial)
  exact a3g H R ho (Iz hu) (Iz hv)
 case nl=>
  cases v<;>try (unfold GU;trivial)
  exact WF H R ho (ad:=none) (show a.eval x= .slice none 0 0 from hu) hv
 case ne=>
  cases v<;>try (unfold GU;trivial)
  obtain⟨ad,c,hx,hb⟩:=hu;subst hb;exact WF H R ho (ad:=ad) hx hv
 case sl t' xs=>
  cases v<;>try (unfold GU;trivial)
  unfold GU;simp only[];cases ht:t'.isEnt
  .simp only[cond_false];obtain⟨ad,c,hx,hle,hx'⟩:=(xQ ht).1 (show lw w.heap ok (.sl t') xs [a.eval x]from hu);cases xs with
   |nil=>exact⟨λ_=>trivial,λh=>by simp[D6,x8]at h⟩|cons z zs=>obtain⟨blk,off,es,rfl,_⟩:=hx' 0 z rfl;exact⟨λ_=>trivial,λ_=>WF H R ho (ad:=some _) (by simpa using hx) hv⟩
  .trivial
 case agg cs=>
  cases v<;>try (unfold GU;trivial)
  case agg ds=>
  obtain⟨xs,hx,hl⟩:=hu;obtain⟨ys,hy,hl'⟩:=hv;unfold GU;simp only[];cases hq:dO X.E.eqs t with
  |none=>trivial|some sh=>
  simp only[];refine bM λhm=>?_;simp only[A8]at hm;have hE:=(H.eqs t sh hq).1;cases he:yz cs ds with
  |none=>cases op<;>trivial|some e=>
   cases op<;>try trivial
   case eql=>refine aN H R (v:=.b e) (x:=.bool e) rfl ?_;have h:=hE w _ cs ds xs ys e .eql x y hm.1 hm.2 hl hl' he (.inl rfl);simp only[execOp,ho,hx,hy];rw[I4,h];rfl
   case neq=>refine aN H R (v:=.b (G7 e)) (x:=.bool (!e)) rfl ?_;have h:=hE w _ cs ds xs ys e .neq x y hm.1 hm.2 hl hl' he (.inr rfl);simp only[execOp,ho,hx,hy];rw[I4,h];rfl
theorem a8O(H:FxOk X)(R:Rel X cl ch S m ok a w){op:UnOp}(ho:o.op= .unOp op t x):
  (bz X.E q o).post S (λ_ S' =>jh X cl ch o a w m ok S'):=by
 unfold bz;simp only[ho];refine ax R λu hu=>?_;cases u<;>cases op<;>try (unfold unC;trivial)
 case b.not p=>exact aN H R (v:=.b (G7 p)) (x:=.bool (!p)) rfl (by simp[execOp,ho,Ou hu,Op.unary])
 case i.neg k p=>exact aN H R (v:=.i k (L6 k 0 p)) (x:=.int k (k.wrap (0 -p))) rfl (by simp[execOp,ho,tq hu,Op.unary,Op.intArith])
 case i.xor k p=>exact aN H R (v:=.i k (a4H k (bif k.signed then -1 else k.max) p)) rfl (by simp only[execOp,ho,tq hu,Op.unary,Op.intBits,a4H];cases k.signed<;>simp)
theorem a5r{α:Type}{Q:α->Sm->Prop}(R:Rel X cl ch S m ok a w){u:Ty}{y:V}{vy:Value}{K:List u.den->Cmd α}(hy:lu ⟨w.heap,ok,m⟩ y vy)
  (hK:∀xs,lw w.heap (λ_ _=>True) (.sl u) xs [vy]->(K xs).post S Q):(YG u y K).post S Q:=by
 unfold YG;split<;>try trivial
 .have hv:vy= .slice none 0 0:=hy;subst hv;cases ht:u.isEnt
  .exact hK [] (.inl ⟨ht,none,0,rfl,A7 _,λi x hi=>by simp at hi⟩)
  .trivial
 .obtain⟨ad,c,rfl,_⟩:=(show ∃a c,vy=Value.slice a 0 c/\a.isNone=_ from hy);cases ht:u.isEnt
  .exact hK [] (.inl ⟨ht,ad,c,rfl,aU _,λi x hi=>by simp at hi⟩)
  .trivial
 .refine fM λe=>?_;subst e;exact hK _ (fA (λ_ _ _=>trivial) (λ_ _ _=>rfl) (show lw w.heap ok (.sl _) _ [vy]from hy))
 .rename_i bx vw;obtain⟨l,hm,hv⟩:=hy;show Cmd.post (match S (Z5+bx)with| .barr t' xs=>_| .bfrz t' xs=>_|_=>_) S Q;have hb:=R.box bx;split<;>try trivial
  .rename_i t' xs hS;rw[hS]at hb;obtain⟨l',hm',ha⟩:=hb;simp only at hm hm';rw[hm]at hm';cases hm';refine fM λe=>?_;subst e;exact hK _ (pG (C:=⟨w.heap,ok,m⟩) ha hv (λ_ _ _=>trivial) (λ_ _=>trivial))
  .rename_i t' xs hS;rw[hS]at hb;obtain⟨l',hm',ha,hok⟩:=hb;simp only at hm hm';rw[hm]at hm';cases hm';refine fM λe=>?_;subst e;exact hK _ (pG (C:=⟨w.heap,ok,m⟩) ha hv (λ_ _ _=>trivial) (λ_ _=>trivial))
theorem YB(H:FxOk X)(R:Rel X cl ch S m ok a w){src t:TypeId}(ho:o.op= .convert src t x)
  (hB:∀l,a.eval x= .string ⟨l.toArray⟩->X.P.underlying src=some .string->(a3U X.E (O5 q o.dst) t l λv=>dZ X.E o.dst v).post S (λ_ S' =>jh X cl ch o a w m ok S')):
  (bz X.E q o).post S (λ_ S' =>jh X cl ch o a w m ok S'):=by
 unfold bz;simp only[ho];refine ax R λu hu=>kX H λj hj=>kX H λi hi=>?_;obtain⟨e,he⟩:=a3y hj.td;have hd:=hi.td;split<;>try trivial
 .rename_i k' n k htd;rw[htd]at hd;exact aN H R (v:=.i k (wrap k n)) (x:=.int k (k.wrap n)) rfl (by simp[execOp,ho,tq hu,convert,run_underlying he,run_underlying (show X.P.underlying t=some (.int k)from hd),Conv.intToInt])
 .rename_i l htd;rw[htd]at hd;refine aN H R (v:=.s l) (x:=.string ⟨l.toArray⟩) rfl ?_;simp only[execOp,ho,Iz hu,convert,I4,run_underlying he,run_underlying (show X.P.underlying t=some .string from hd),I5];cases e<;>simp
 .split<;>try trivial
  rename_i l _ _ _ hjd;have hjs:=hj.td;rw[hjd]at hjs;exact hB l (Iz hu) hjs
 .rename_i hns htd;rw[htd]at hd;split<;>try trivial
  rename_i el hjd;have hjs:=hj.td;rw[hjd]at hjs;refine kX H λk hk=>?_;have hkd:=hk.td;split<;>try trivial
  rename_i hke;rw[hke]at hkd;refine a5r R hu λxs hr=>?_;obtain⟨ad,cap,hv,hcap,hcells⟩:=(xQ rfl).1 hr;have hv:=(U0 hv).1;refine aN H R (v:=.s (XG xs)) (x:=.string ⟨(XG xs).toArray⟩) rfl ?_;have hh:(convert src t (a.eval x)).run X.P w= .ok (.string ⟨(XG xs).toArray⟩) w:=by
   rw[hv];cases xs with
   |nil=>
    have:=run_convert_bytes_nil (P:=X.P) w src el hjs hkd 0 cap t hd;cases ad with
    |none=>exact this|some ad=>obtain⟨b,o,s⟩:=ad;rw[run_convert_bytes_string w src t el _ _ cap hjs hkd hd];simp[Conv.bytesToString,XG];rfl
   |cons y ys=>
    obtain⟨blk,off,es,rfl,_,_,_⟩:=hcells 0 y rfl;have:=run_convert_bytes_arg (P:=X.P) w src el hjs hkd blk off (y::ys).length cap (y::ys) rfl (λi hi=>?_) t hd
    .exact this
    .obtain⟨blk2,off2,es2,e2,_,hc,hr2⟩:=hcells i _ (mW hi);simp only[F8,iK]at e2;obtain⟨rfl,rfl,_⟩:=e2;obtain⟨c,T,f,hb,hn,rfl⟩:=uf hc;have hr3:((c.toList.drop (off+i*1)).take 1)=[.int .u8 (y::ys)[i]]:=hr2;have h5:=congrArg (λl=>l[0]?) hr3;simp only[jU (show 0<1 by omega),U8,Z8,dG,fU,Y9]at h5;simp only[World.cell?,hb,h5,Option.isSome_none];simp[List.getD,mW hi]
  simp only[execOp,ho];rw[I4,hh];rfl
theorem K_(H:FxOk X)(R:Rel X cl ch S m ok a w){n:Nat}(ho:o.op= .extract x n):
  (bz X.E q o).post S (λ_ S' =>jh X cl ch o a w m ok S'):=by
 unfold bz;simp only[ho];refine ax R λu hu=>?_;cases u<;>try trivial
 case tup vs=>
 obtain⟨arr,hx,hl⟩:=hu;have key:∀(vs:List V) (us:List Value) (n:Nat) (v:V),WQ ⟨w.heap,ok,m⟩ vs us->vs[n]? =some v->∃u,us[n]? =some u/\lu ⟨w.heap,ok,m⟩ v u:=by
  intro vs;induction vs with
  |nil=>intro us n v _ h;simp at h|cons c cs ih=>
   rintro us n v ⟨u,r,rfl,h1,h2⟩ h;cases n with
   |zero=>simp at h;subst h;refine⟨u,rfl,?_⟩;cases c<;>first|exact h1|exact h1.elim
   |succ n=>simpa using ih r n v h2 (by simpa using h)
 simp only[];split
 .rename_i v hv;obtain⟨u,hu,hr⟩:=key vs arr.toList n v hl hv;refine aN H R hr ?_;have:arr[n]? =some u:=by simpa using hu
  simp[execOp,ho,hx,Instr.extract,this]
 .trivial
theorem a5j(H:FxOk X)(R:Rel X cl ch S m ok a w){x ix:Operand}(ho:o.op= .index t x ix):
  (bz X.E q o).post S (λ_ S' =>jh X cl ch o a w m ok S'):=by
 unfold bz;simp only[ho];refine ax R λu hu=>ax R λv hv=>kX H λi hi=>?_;have hd:=hi.td;split<;>try trivial
 rename_i l k n htd;rw[htd]at hd;refine fJ λc hc=>?_;unfold sat at hc;split at hc
 .rename_i h0;cases hl:l[n.toNat]? with
  |none=>simp[hl]at hc|some b=>
   simp[hl]at hc;subst hc;refine aN H R (v:=.i .u8 b.toNat) (x:=.int .u8 b.toNat) rfl ?_;have e:(⟨l.toArray⟩:ByteArray)[n.toNat]? =some b:=by
    obtain⟨h1,h2⟩:=ai.1 hl;have hs:n.toNat<(⟨l.toArray⟩:ByteArray).size:=by simpa[ByteArray.size]using h1
    show decidableGetElem? _ _=_;unfold decidableGetElem?;rw[dif_pos hs,←h2];rfl
   simp[execOp,ho,Iz hu,tq hv,Instr.index,asIntOf,run_underlying (show X.P.underlying t=some .string from hd),h0,e]
 .cases hc
theorem YD(H:FxOk X)(R:Rel X cl ch S m ok a w)(ho:o.op= .nilCheck x):
  (bz X.E q o).post S (λ_ S' =>jh X cl ch o a w m ok S'):=by
 unfold bz;simp only[ho];refine ax R λu hu=>?_;cases u<;>try trivial
 case ptr bx f=>obtain⟨b,h1,h2⟩:=hu;exact aN H R (v:=.ptr bx f) ⟨b,h1,h2⟩ (by simp[execOp,ho,h2])
 case ep bx ix f=>obtain⟨_,_,_,_,_,h1,h2,h3⟩:=hu;exact aN H R (v:=.ep bx ix f) ⟨_,_,_,_,_,h1,h2,h3⟩ (by simp[execOp,ho,h3])
 case dp u y f=>obtain⟨_,_,_,h1,h2⟩:=hu;exact aN H R (v:=.dp u y f) ⟨_,_,_,h1,h2⟩ (by simp[execOp,ho,h1])
 case glob g=>exact aN H R (v:=.glob g) hu (by have hu:a.eval x=_:=hu;simp[execOp,ho,hu])
end
end Go.GP
namespace Go.GP
variable {n:Nat}{off:Nat}{blk:Nat}{es:List Value}
theorem uF{w:World}(e:dE w.heap blk off n=some es){j:Nat}{v:Value}(h:es[j]? =some v):w.cell? ⟨blk,off+j,none⟩=some v:=by
 obtain⟨c,T,f,hb,hn,rfl⟩:=uf e;rw[cell_of_row w blk (off+j) c T f hb];have hj:j<n:=by have:=(ai.1 h).1;simp at this;omega
 rw[V6,if_pos hj,U8]at h;simpa using h
variable {t:TypeId}{P:Program}
theorem BG{d:TD}(h:a7I P t d)(w:World):(isAgg t).run P w= .ok (bK d) w:=by
 unfold isAgg;cases d<;>simp only[a7I]at h
 case struct fs=>obtain⟨fields,hu,_⟩:=h;rw[I4,run_underlying hu];rfl
 case other=>obtain⟨e,hu,hn⟩:=h;rw[I4,run_underlying hu];cases e<;>first|rfl|exact hn.elim
 all_goals (rw[I4,run_underlying h];rfl)
variable {i:TI}
theorem qH(h:TiOk P t i)(w:World):(sizeOf t).run P w= .ok i.size w:=by obtain⟨inf,h1,h2,_⟩:=h.info;simp[sizeOf,typeInfo,h1,h2]
def Nw(ag:Bool)(es:List Value):Value:=match ag with|true=> .agg es.toArray|false=>es.headD Go.undef
theorem ww(hi:TiOk P t i)(w:World)(e:dE w.heap blk off i.size=some es):
  (loadVar t ⟨blk,off,none⟩).run P w= .ok (Nw (bK i.td) es) w:=by
 have hl:=qp e;unfold loadVar;rw[I4,BG hi.td];simp only[I5];cases ha:bK i.td
 .have h1:=hi.one ha;rw[h1]at hl;obtain⟨v,rfl⟩:∃v,es=[v]:=by
   cases es with
   |nil=>simp at hl
   |cons v r=>cases r with
    |nil=>exact⟨v,rfl⟩|cons _ _=>simp at hl
  have hc:=uF e (j:=0) (v:=v) rfl;simp only[Z8]at hc;simp[hc,Nw]
 .have hc:=run_loadCells_list (P:=P) w ⟨blk,off,none⟩ es (λj v h=>by rw[iG];exact uF e h);rw[hl]at hc;simp[qH hi,hc,Nw]
variable {C:Cx}{cs:List V}
theorem zO{ag:Bool}(h:gu C cs es)(h1:ag=false->es.length=1):lu C (mkV ag cs) (Nw ag es):=by
 refine Na (us:=es) ?_ h;cases ag
 .have:=h1 rfl;obtain⟨v,rfl⟩:∃v,es=[v]:=by
   cases es with
   |nil=>simp at this
   |cons v r=>cases r with
    |nil=>exact⟨v,rfl⟩|cons _ _=>simp at this
  rfl
 .exact⟨es.toArray,rfl,D5⟩
theorem Ry:∀(n:Nat) (cs r:List V),Rx n cs=some r->n<=cs.length/\r=cs.drop n
 |0,cs,r,h=>by simp[Rx]at h;simp[h]|n+1,[],r,h=>by simp[Rx]at h|n+1,c::cs,r,h=>by obtain⟨h1,h2⟩:=Ry n cs r (by simpa[Rx]using h);exact⟨by simp;omega,by simpa using h2⟩
theorem TY{α:Type}{Q:α->Sm->Prop}{S:Sm} :∀(n:Nat) (cs:List V) {K:List V->Cmd α} (hK:n<=cs.length->(K (cs.take n)).post S Q),(Zq n cs K .fail).post S Q
 |0,cs,K,hK=>by simpa[Zq]using hK (aU _)|n+1,[],K,hK=>trivial
 |n+1,c::cs,K,hK=>by unfold Zq;exact TY n cs λh=>by simpa using hK G5
variable {α:Type}{Q:α->Sm->Prop}
theorem yj{S:Sm}{K:List V->Cmd α}(hK:off+n<=cs.length->(K ((cs.drop off).take n)).post S Q):(Qm off n cs K .fail).post S Q:=by
 unfold Qm;split
 .rename_i r hr;obtain⟨h1,rfl⟩:=Ry _ _ _ hr;refine TY n _ λh=>hK ?_;simp at h;omega
 .trivial
def aO(off:Nat)(vs cs:List α):List α:=cs.take off++vs++cs.drop (off+vs.length)
theorem zH{α:Type}{Q:α->Sm->Prop}{S:Sm} :∀(off:Nat) (vs cs:List V) {K:List V->Cmd α} (hK:off+vs.length<=cs.length->(K (aO off vs cs)).post S Q),(MN off vs cs K .fail).post S Q
 |0,[],cs,K,hK=>by have:=hK D5;cases cs<;>simpa[MN,aO]using this|0,v::vs,[],K,hK=>by simp[MN];trivial
 |0,v::vs,c::cs,K,hK=>by unfold MN;exact zH 0 vs cs λh=>by simpa[aO]using hK (by simp at h ⊢;omega)|n+1,vs,[],K,hK=>by cases vs<;>simp[MN]<;>trivial|n+1,vs,c::cs,K,hK=>by
  have e:MN (n+1) vs (c::cs) K Cmd.fail=MN n vs cs (λr=>K (c::r)) Cmd.fail:=by cases vs<;>rfl
  rw[e];refine zH n vs cs λh=>?_;have:=hK G5;have e2:n+1+vs.length=(n+vs.length)+1:=o5;simpa[aO,e2]using this
theorem Ar{vs cs:List V}{us xs:List Value}(hv:gu C vs us)(hc:gu C cs xs):gu C (aO off vs cs) (aO off us xs):=by unfold aO;rw[←kw hv];exact vZ (vZ (uT off hc) hv) (sW _ hc)
theorem wX{P:Program}(g o:Nat)(t:TypeId):∀(vs:List Value) (i:Nat) (cur:Array Value) (f:Nat×Nat) (w:World),w.heap[g]? =some (.cells cur t f)->(f=(0,0)\/f=(cur.size,cur.size+1))->o+i+vs.length<=cur.size->(∀v∈vs,v.oneCell' =true)->
  (storeCells ⟨g,o,none⟩ vs i).run P w= .ok () (w.setRow g (cur.toList.take (o+i)++vs++cur.toList.drop (o+i+vs.length)).toArray)
 |[],i,cur,f,w,hg,_,_,_=>by simp only[storeCells,E5,O7,Z8,X6,Array.toArray_toList];rw[setRow_self w g cur t f hg];rfl|v::rest,i,cur,f,w,hg,hf,hl,h1=>by
  have hi:o+i<cur.size:=by simp at hl;omega
  have hadd:(⟨g,o,none⟩:Addr).add i=⟨g,o+i,none⟩:=by unfold Addr.add;split<;>simp_all
  have hcell:w.cell? ⟨g,o+i,none⟩=some cur[o+i]:=by simp[World.cell?,hg,hi]
  have hfro:w.frozen? ⟨g,o+i,none⟩=false:=by rcases hf with rfl|rfl<;>simp[World.frozen?,hg];omega
  have hst:(store ((⟨g,o,none⟩:Addr).add i) v).run P w= .ok () (w.setRow g (cur.setIfInBounds (o+i) v)):=by rw[hadd,run_store P w _ v _ (h1 v D5),hcell];simp[hfro,setCell_eq_setRow w g (o+i) cur t f v hg]
  have ih:=wX (P:=P) g o t rest (i+1) (cur.setIfInBounds (o+i) v) f (w.setRow g (cur.setIfInBounds (o+i) v)) (setRow_heap w g cur _ t _ hg) (by simpa using hf) (by simp at hl ⊢;omega) (λx hx=>h1 x (by simp[hx]));simp only[storeCells,I4,hst,I5,ih,setRow_setRow];congr 3;have e:=list_seg_step cur.toList (o+i) v rest (by simp at hl ⊢;omega);simpa[mD,kP]using e
theorem Bl(hi:TiOk P t i)(w:World){c:Array Value}{T:TypeId}{f:Nat×Nat}(hb:w.heap[blk]? =some (.cells c T f))(hf:f=(0,0)\/f=(c.size,c.size+1)){v:Value}
  (hs:v.cells.size=i.size) (ho:off+i.size<=c.size) (h1:∀u∈v.cells.toList,u.oneCell' =true):
  (storeVar t ⟨blk,off,none⟩ v).run P w= .ok () (w.setRow blk (aO off v.cells.toList c.toList).toArray):=by
 have h:=wX (P:=P) blk off T v.cells.toList 0 c f w hb hf G5 h1;simp only[Z8]at h;unfold storeVar;simp[qH hi,hs,h,aO]
variable {v:V}{l:Loc}{obj:Obj}{q:Nat}{ks:List Nat}
section
variable {X:Fx} {cl ch:Nat} {S:Sm} {m:Mp} {ok:Nat->Ty->Prop} {a:Act} {w:World} {o:Oper}
theorem Rel.own_cells(R:Rel X cl ch S m ok a w)(h:S (Z5+n)= .bcells cs):∃blk arr T,m n=some (.st blk)/\w.heap[blk]? =some (.cells arr T (0,0))/\gu ⟨w.heap,ok,m⟩ cs arr.toList:=by have:=R.box n;rw[h]at this;exact this
theorem Rel.own_arr(R:Rel X cl ch S m ok a w){t:Ty}{xs:List t.den}(h:S (Z5+n)= .barr t xs):∃l,m n=some l/\arrOk ⟨w.heap,ok,m⟩ t xs l:=by have:=R.box n;rw[h]at this;exact this
theorem Rel.own_frz(R:Rel X cl ch S m ok a w){t:Ty}{xs:List t.den}(h:S (Z5+n)= .bfrz t xs):∃l,m n=some l/\arrOk ⟨w.heap,ok,m⟩ t xs l/\(∀blk,blk∈l.blks->ok blk t):=by have:=R.box n;rw[h]at this;exact this
theorem Rel.own_barrs(R:Rel X cl ch S m ok a w){md:M}{xs:List md.den}{hole:Option (Nat×Nat×Option Nat)}(h:S (Z5+n)= .barrs md xs hole):md.el=true/\∃l Os,m n=some l/\a0U ⟨w.heap,ok,m⟩ md xs hole Os l/\m.kid n=Os.flatten:=by have:=R.box n;rw[h]at this;exact this
theorem Rel.own_fc(R:Rel X cl ch S m ok a w){t:Ty}{x:t.den}(h:S (Z5+n)= .bfc t x):∃blk es,m n=some (.st blk)/\ok blk t/\dE w.heap blk 0 t.size=some es/\lw w.heap ok t x es:=by have:=R.box n;rw[h]at this;exact this
theorem yA:∀(m:M) (x:m.den) (r:List V),Gj m x r=Gj m x []++r
 | .dat t,x,r=>lZ t x r| .pair a b,x,r=>by simp only[Gj];rw[yA a x.1 (Gj b x.2 r),yA b x.2 r,yA a x.1 (Gj b x.2 [])];simp| .unit,_,_=>rfl| .own _,_,_=>rfl| .owns _,_,_=>rfl| .box _,_,_=>rfl| .ownb _,_,_=>rfl| .rp _,_,_=>rfl| .fn _ _,_,_=>rfl| .ifc _ _,_,_=>rfl| .cell _,_,_=>rfl| .fr _,_,_=>rfl| .sbx _ _,_,_=>rfl| .lp _,_,_=>rfl| .dv ..,_,_=>rfl| .sit,_,_=>rfl
theorem EY:∀(m:M) (x:m.den),(Gj m x []).length=m.size
 | .dat t,x=>oh t x| .pair a b,x=>by simp only[Gj,M.size];rw[yA a,E8,EY a x.1,EY b x.2]| .unit,_=>rfl| .own _,_=>rfl| .owns _,_=>rfl| .box _,_=>rfl| .ownb _,_=>rfl| .rp _,_=>rfl| .fn _ _,_=>rfl| .ifc _ _,_=>rfl| .cell _,_=>rfl| .fr _,_=>rfl| .sbx _ _,_=>rfl| .lp _,_=>rfl| .dv ..,_=>rfl| .sit,_=>rfl
theorem nJ{cs:List Value}(h:cs.length=1)(h1:∀v∈cs,v.oneCell' =true):gu C [.undef] cs:=by
 match cs,h with
 |[v],_=>exact⟨v,[],rfl,trivial,h1 v D5,rfl⟩
theorem KU{C:Cx} :∀{m:M} {ho:Option Nat} {x:m.den} {cs:List Value} {O:List Nat},qg C.h C.ok m ho x cs O->gu C (Gj m x []) cs
 | .dat t,_,_,_,_,h=>qm h.1| .pair a b,_,x,_,_,h=>by obtain⟨c,d,O1,O2,rfl,rfl,h1,h2⟩:=h;simp only[Gj];rw[yA a];exact vZ (KU h1) (KU h2)
 | .unit,_,_,_,_,h=>by obtain⟨rfl,_⟩:=h;rfl
 | .own _,_,_,_,_,h=>nJ (bU h) (pM h)| .owns _,_,_,_,_,h=>nJ (bU h) (pM h)| .box _,_,_,_,_,h=>nJ (bU h) (pM h)| .ownb _,_,_,_,_,h=>nJ (bU h) (pM h)| .rp _,_,_,_,_,h=>nJ (bU h) (pM h)| .fn _ _,_,_,_,_,h=>nJ (bU h) (pM h)| .ifc _ _,_,_,_,_,h=>nJ (bU h) (pM h)| .cell _,_,_,_,_,h=>nJ (bU h) (pM h)| .fr _,_,_,_,_,h=>nJ (bU h) (pM h)| .sbx _ _,_,_,_,_,h=>nJ (bU h) (pM h)| .lp _,_,_,_,_,h=>nJ (bU h) (pM h)| .dv ..,_,_,_,_,h=>nJ (bU h) (pM h)| .sit,_,_,_,_,h=>nJ (bU h) (pM h)
theorem bP{S:Sm}{k:Nat}{c:V->Cmd α}(h:(c (S k)).post S Q):(Cmd.get k c).post S Q:=h
theorem jf{S:Sm}{k:Nat}{c:Cmd α}(h:c.post (upd S k v) Q):(Cmd.set k v c).post S Q:=h
theorem Fq(H:FxOk X)(R:Rel X cl ch S m ok a w){t:Nat}{p:V}{x:Value}(hp:lu ⟨w.heap,ok,m⟩ p x){K:V->Cmd α}
  (hK:∀v u ad,lu ⟨w.heap,ok,m⟩ v u->x= .pointer (some ad)->(loadVar t ad).run X.P w= .ok u w->(K v).post S Q):(JK X.E t p K).post S Q:=by
 unfold JK;refine kX H λi hi=>?_;cases p<;>try trivial
 case ptr bx off=>
  obtain⟨blk,hm,rfl⟩:=hp;refine bP ?_;split<;>try trivial
  .rename_i cs hS;obtain⟨blk',arr,T,hm',hh,hl⟩:=R.own_cells hS;simp only at hm;rw[hm]at hm';cases hm';refine yj λhle=>?_;have hlen:=kw hl;have e:=jO hh off i.size (by simp at hlen;omega);refine hK _ _ _ (zO (uT _ (sW _ hl)) (λha=>by have:=qp e;rw[hi.one ha]at this;rw[hi.one ha];exact this)) rfl ?_;exact ww hi w e
  .rename_i u y hS;obtain⟨blk',es,hm',hok,he,hr⟩:=R.own_fc hS;simp only at hm;rw[hm]at hm';cases hm';refine yj λhle=>?_;rw[oh]at hle;have e:=xU he off i.size hle;rw[dH]at e;refine hK _ _ _ (zO (uT _ (sW _ (qm (C:=⟨w.heap,ok,m⟩) hr))) (λha=>by have:=qp e;rw[hi.one ha]at this;rw[hi.one ha];exact this)) rfl ?_;exact ww hi w e
 case ep bx ix off=>
  obtain⟨blk,o',len,cap,sz,hm,hlt,rfl⟩:=hp;refine bP ?_;have key:∀{u:Ty} {xs:List u.den},arrOk ⟨w.heap,ok,m⟩ u xs (.arr blk o' len cap sz)->(Cmd.opt (eQ xs ix) λx=>Qm off i.size (flat u x []) (λr=>K (mkV (bK i.td) r)) Cmd.fail).post S Q:=by intro u xs ha;obtain⟨_,rfl,rfl,h3,c,T,f,hh,hz,hs,hx⟩:=ha;refine fJ λy hy=>?_;obtain⟨es,he,hr⟩:=hx ix y hy;refine yj λhle=>?_;rw[oh]at hle;have e:=xU he off i.size hle;refine hK _ _ _ (zO (uT _ (sW _ (qm (C:=⟨w.heap,ok,m⟩) hr))) (λha=>by have:=qp e;rw[hi.one ha]at this;rw[hi.one ha];exact this)) rfl ?_;exact ww hi w e
  split<;>try trivial
  .rename_i u xs hS;obtain⟨l,hm',ha⟩:=R.own_arr hS;simp only at hm;rw[hm]at hm';cases hm';exact key ha
  .rename_i u xs hS;obtain⟨l,hm',ha,_⟩:=R.own_frz hS;simp only at hm;rw[hm]at hm';cases hm';exact key ha
  .rename_i md xs hole hS;obtain⟨_,l,Os,hm',⟨ha,hho⟩,_⟩:=R.own_barrs hS;simp only at hm;rw[hm]at hm';cases hm';obtain⟨rfl,rfl,h3,h7,c,T,hh,hs,hx⟩:=ha;refine fJ λy hy=>?_;obtain⟨es,O,hO,he,hr⟩:=hx ix y hy;refine yj λhle=>?_;rw[EY]at hle;have e:=xU he off i.size hle;refine hK _ _ _ (zO (uT _ (sW _ (KU (C:=⟨w.heap,ok,m⟩) hr))) (λha=>by have:=qp e;rw[hi.one ha]at this;rw[hi.one ha];exact this)) rfl ?_;exact ww hi w e
 case dp u y off=>obtain⟨blk,o',es,rfl,hb,he,hr⟩:=hp;refine yj λhle=>?_;rw[oh]at hle;have e:=xU he off i.size hle;refine hK _ _ _ (zO (uT _ (sW _ (qm (C:=⟨w.heap,ok,m⟩) hr))) (λha=>by have:=qp e;rw[hi.one ha]at this;rw[hi.one ha];exact this)) rfl ?_;exact ww hi w e
theorem xm(h:Array Obj)(o:Obj){b:Nat}(hb:b<h.size):(h.push o)[b]? =h[b]?:=by rw[Array.getElem?_push,if_neg o5]
theorem Rel.new(R:Rel X cl ch S m ok a w)(hn:S (Z5+n)= .undef)(hcl:cl<=n)(hch:n<ch)(hv:v≠.undef)
  (hb:U7 (nK m n l ks) n v=[w.heap.size]) (hB:CP ⟨(w.alloc obj).heap,ok,nK m n l ks⟩ n v):
  Rel X cl ch (upd S (Z5+n) v) (nK m n l ks) ok a (w.alloc obj):=by
 refine R.lay hn hcl hch hv rfl rfl rfl D5 (λb hb' _=>xm _ _ hb') (by rw[hb];simp) (λb h=>?_) hB;rw[hb]at h;simp only[N9]at h;subst h;refine⟨λt h' =>qF _ (R.okLt _ t h'),D5,.inl R.frame.size,λk h' =>qF _ (R.sep k _ h').2.1⟩
theorem Rel.newK(R:Rel X cl ch S m ok a w){T:List Nat}(hT:Tk X S m ok w T)(hn:S (Z5+n)= .undef)(hcl:cl<=n)(hch:n<ch)(hv:v≠.undef)
  (hb:U7 (nK m n l ks) n v=w.heap.size::ks) (hnd:ks.Nodup) (hks:∀b∈ks,b∈T) (hB:CP ⟨(w.alloc obj).heap,ok,nK m n l ks⟩ n v):
  Rel X cl ch (upd S (Z5+n) v) (nK m n l ks) ok a (w.alloc obj):=by
 refine R.lay hn hcl hch hv rfl rfl rfl D5 (λb hb' _=>xm _ _ hb') (by rw[hb];exact eG.2 ⟨λh=>qF _ (hT.free _ (hks _ h)).2.1,hnd⟩) (λb h=>?_) hB;rw[hb]at h;rcases C9.1 h with rfl|h
 .exact⟨λt h' =>qF _ (R.okLt _ t h'),D5,.inl R.frame.size,λk h' =>qF _ (R.sep k _ h').2.1⟩
 .obtain⟨h1,h2,h3,h4⟩:=hT.free b (hks b h);exact⟨h1,by simp;omega,h3,h4⟩
theorem Rel.le_new(R:Rel X cl ch S m ok a w)(hn:S (Z5+n)= .undef)(hcl:cl<=n):Cx.le ⟨w.heap,ok,m⟩ ⟨(w.alloc obj).heap,ok,nK m n l ks⟩:=
 ⟨λ_ _ h=>h,λb t hb=>xm _ _ (R.okLt b t hb),λk x h=>by
  by_cases e:k=n
  .subst e;have:=R.fresh k hcl hn;simp only at h;rw[this]at h;cases h
  .show nK m n l ks k=some x;rw[jC _ _ _ e];exact h⟩
theorem rF(H:FxOk X)(d:Option Tmp)(hd:∀t,d=some t->t<X.E.nt):CB*q<=O5 q d/\O5 q d+64<=CB*q+CB:=by
 have:=H.nt;cases d with
 |none=>simp only[O5];show 1000000*q<=1000000*q+999936/\1000000*q+999936+64<=1000000*q+1000000;omega|some t=>simp only[O5];have h2:LT.lt (α:=Nat) t X.E.nt:=hd t rfl;clear hd;generalize X.E.nt=n at*;revert this h2;generalize (t:Nat)=t';intro this h2;show 1000000*q<=1000000*q+64*t' /\1000000*q+64*t' +64<=1000000*q+1000000;omega
theorem Ep(H:FxOk X)(R:Rel X (CB*q) (CB*q+CB) S m ok a w){vv:V}{x:Value}(hv:v≠.undef)
  (hb:U7 (nK m (O5 q o.dst) l []) (O5 q o.dst) v=[w.heap.size]) (hB:S (Z5+O5 q o.dst)= .undef->CB*q<=O5 q o.dst->CP ⟨(w.alloc obj).heap,ok,nK m (O5 q o.dst) l []⟩ (O5 q o.dst) v)
  (hx:lu ⟨(w.alloc obj).heap,ok,nK m (O5 q o.dst) l []⟩ vv x) (run:(execOp a.eval o).run X.P w= .ok (.value x) (w.alloc obj)):
  (uY (O5 q o.dst) v (dZ X.E o.dst vv)).post S (λ_ S' =>jh X (CB*q) (CB*q+CB) o a w m ok S'):=by
 refine qU λhn=>?_;cases hd:o.dst with
 |none=>have hin:=rF H (q:=q) none (λt h=>by cases h);rw[hd]at hn hB hb hx;have R' :=R.new hn hin.1 o5 hv hb (hB hn hin.1);have:=sF (o:=o) H R' (m0:=m) (ok0:=ok) (λk l' h=>(R.le_new (obj:=obj) hn hin.1).m k l' h) (λ_ _ h=>h) hx run;rw[hd]at this;exact this
 |some t=>unfold dZ;refine bM λhb' =>?_;have hin:=rF H (q:=q) (some t) (λt' h=>by cases h;exact(zF hb').1);rw[hd]at hn hB hb hx;have R' :=R.new hn hin.1 o5 hv hb (hB hn hin.1);have:=sF (o:=o) H R' (m0:=m) (ok0:=ok) (λk l' h=>(R.le_new (obj:=obj) hn hin.1).m k l' h) (λ_ _ h=>h) hx run;rw[hd]at this;unfold dZ at this;simp only[hb',cond_true]at this;exact this
theorem KT :∀{cs:List V} {vs:List Value},gu ⟨#[],λ_ _=>False,nom⟩ cs vs->gu C cs vs:=by intro cs vs h;exact Dw (C:=⟨#[],λ_ _=>False,nom⟩) ⟨λ_ _ h=>h.elim,λ_ _ h=>h.elim,λ_ _ h=>by cases h⟩ h
theorem a5e(H:FxOk X)(R:Rel X (CB*q) (CB*q+CB) S m ok a w)(ho:o.op= .alloc t):(bz X.E q o).post S (λ_ S' =>jh X (CB*q) (CB*q+CB) o a w m ok S'):=by
 unfold bz;simp only[ho];refine kX H λi hi=>bM λhz=>?_;obtain⟨inf,h1,h2,h3,h4,h5⟩:=hi.info;obtain⟨z,hz1,hz2⟩:=h4 (iH hz);have hex:(execOp a.eval o).run X.P w= .ok (.value (.pointer (some ⟨w.heap.size,0,none⟩))) (w.alloc (.cells z.cells t)):=by simp[execOp,ho,Instr.alloc,zeroValue,typeInfo,h1,hz1,newVar,newRow]
 unfold b3v;split
 .rename_i hz0;rw[hz0]at hz2;obtain⟨a0,r1,e1,g1,_,v0,r2,rfl,g2,_,g3⟩:=hz2;simp only[gu]at g3;subst g3;refine Ep (l:=.st w.heap.size) (obj:=.cells z.cells t) H R D5 (by simp[U7]) (λhn hc=>?_) ⟨w.heap.size,D5,rfl⟩ hex;refine⟨w.heap.size,a0,v0,D5,?_,.inl g1,g2⟩;have:=heap_alloc_new w (.cells z.cells t);rw[show z.cells=#[a0,v0]from Array.toList_inj.1 e1]at this ⊢;exact this
 .refine Ep (l:=.st w.heap.size) (obj:=.cells z.cells t) H R D5 (by simp[U7]) (λhn hc=>?_) ⟨w.heap.size,D5,rfl⟩ hex;exact⟨w.heap.size,z.cells,t,D5,heap_alloc_new w _,KT hz2⟩
theorem b0X(H:FxOk X)(R:Rel X (CB*q) (CB*q+CB) S m ok a w){x:Operand}(ho:o.op= .box t x):(bz X.E q o).post S (λ_ S' =>jh X (CB*q) (CB*q+CB) o a w m ok S'):=by
 unfold bz;simp only[ho];refine ax R λu hu=>tJ hu λcs hcs=>?_;refine Ep (l:=.st w.heap.size) (obj:=.cells (a.eval x).cells t) H R D5 (by simp[U7]) (λhn hc=>?_) ⟨w.heap.size,D5,rfl⟩ ?_
 .exact⟨w.heap.size,(a.eval x).cells,t,D5,heap_alloc_new w _,Dw (R.le_new hn hc) hcs⟩
 .simp[execOp,ho,Instr.box,newVar,newRow]
end
end Go.GP
namespace Go.GP
variable {α:Type}{us:List α}{L:List α}{p:Nat}
theorem rV(h:p+us.length<=L.length)(i:Nat):
  (aO p us L)[i]? =if i<p then L[i]? else if i<p+us.length then us[i -p]? else L[i]?:=by
 unfold aO;rw[F7];by_cases h1:i<p
 .rw[if_pos h1,J5 G5,V6,if_pos h1]
 .rw[if_neg h1,G6 G5];have e:(L.take p).length=p:=by simp;omega
  rw[e];by_cases h2:i<p+us.length
  .rw[if_pos h2,J5 o5]
  .rw[if_neg h2,G6 o5,U8];congr 1;omega
theorem uU(h:p+us.length<=L.length):(aO p us L).length=L.length:=by unfold aO;simp;omega
variable {b:Nat}{n:Nat}
theorem a0z(h:p+us.length<=L.length)(hd:b+n<=p\/p+us.length<=b):((aO p us L).drop b).take n=(L.drop b).take n:=by
 apply gm;intro i;rw[V6,V6];split
 .rw[U8,U8,rV h];rcases hd with hd|hd
  .rw[if_pos o5]
  .rw[if_neg o5,if_neg o5]
 .rfl
variable {off:Nat}
theorem Jt(h:b+n<=L.length)(ho:off+us.length<=n):((aO (b+off) us L).drop b).take n=aO off us ((L.drop b).take n):=by
 have hl:((L.drop b).take n).length=n:=by simp;omega
 apply gm;intro i;rw[V6,rV (by rw[hl];exact ho)];by_cases hi:i<n
 .rw[if_pos hi,U8,rV o5,V6,if_pos hi,U8];by_cases h1:i<off
  .rw[if_pos o5,if_pos h1]
  .rw[if_neg o5,if_neg h1];by_cases h2:i<off+us.length
   .rw[if_pos o5,if_pos h2];congr 1;omega
   .rw[if_neg o5,if_neg h2]
 .rw[if_neg hi,if_neg o5,if_neg o5,V6,if_neg hi]
variable {blk:Nat}
theorem IM{w:World}{c:Array Value}{T:TypeId}{f:Nat×Nat}(hb:w.heap[blk]? =some (.cells c T f))(L:List Value)(off n:Nat)(h:off+n<=L.length):
  dE (w.setRow blk L.toArray).heap blk off n=some ((L.drop off).take n):=by
 rw[jO (setRow_heap w blk c L.toArray T f hb) off n (by simpa using h)]
theorem a3R{a b:Nat}(h:a<b):Nat.blt a b=true:=by unfold Nat.blt;exact Nat.ble_eq_true_of_le h
theorem a3Q{a b:Nat}(h:¬a<b):Nat.blt a b=false:=by
 cases e:Nat.blt a b
 .rfl
 .exact absurd (EM e) h
theorem Be{α:Type} :∀{Os:List (List α)} {i:Nat} {O1 P O2:List α},Os[i]? =some (O1++P++O2)->Os.flatten.Perm ((Os.set i (O1++O2)).flatten++P)
 |[],i,_,_,_,h=>by simp at h|A::Os,0,O1,P,O2,h=>by simp at h;subst h;simp only[List.set_cons_zero,List.flatten_cons,F7];refine qE O1 ?_;have:=(jo (l₁:=P) (l₂:=O2++Os.flatten));simpa using this|A::Os,i+1,O1,P,O2,h=>by simp at h;simp only[List.set_cons_succ,List.flatten_cons,F7];exact qE A (Be (by simpa using h))
variable {t:TypeId}{Op:List Nat}{k:Option Nat}{q:Nat}{x:Operand}
section
variable {X:Fx} {cl ch:Nat} {S:Sm} {m:Mp} {ok:Nat->Ty->Prop} {a:Act} {w:World} {o:Oper}
theorem b1a{h h' :Array Obj}{ok:Nat->Ty->Prop}{m:Mp}(k:∀b t,ok b t->h'[b]? =h[b]?){cs:List V}{vs:List Value}(hr:gu ⟨h,ok,m⟩ cs vs):gu ⟨h',ok,m⟩ cs vs:=
 Dw (C:=⟨h,ok,m⟩) (D:=⟨h',ok,m⟩) ⟨λ_ _ h=>h,k,λ_ _ h=>h⟩ hr
theorem KO{α:Type}{Q:α->Sm->Prop}{S:Sm}{h:Array Obj}{ok:Nat->Ty->Prop} :∀(md:M) (off:Nat) {x:md.den} {es:List Value} {O:List Nat} {K:V->Cmd α} (hr:qg h ok md none x es O)
  (hK:∀v l ks u O1 Op O2,O=O1++Op++O2->qg h ok md (some off) x es (O1++O2)->es[off]? =some u->l.view none u->
   (∀mp n,CP ⟨h,ok,nK mp n l ks⟩ n v/\U7 (nK mp n l ks) n v=Op/\nK mp n l ks n=some l)->v≠.undef->(K v).post S Q),
  (Tc md off x K .fail).post S Q
 | .own t,off,x,es,O,K,hr,hK=>by unfold Tc;refine bM λhb=>?_;have:=iH hb;subst this;obtain⟨l,v,rfl,hv,ha,rfl⟩:=xu.1 hr;refine hK _ l [] v [] l.blks [] D5 ⟨v,rfl,oI hv,rfl⟩ rfl hv (λmp n=>⟨⟨l,D5,GN ha⟩,?_,D5⟩) D5;cases l<;>first|(simp[U7,Loc.blks];done)|cases ha
 | .owns md,off,x,es,O,K,hr,hK=>by unfold Tc;refine bM λhb=>?_;have:=iH hb;subst this;obtain⟨he,l,v,Os,rfl,hv,ha,rfl⟩:=yf.1 hr;refine hK _ l Os.flatten v [] (l.blks++Os.flatten) [] D5 ⟨v,rfl,oI hv,rfl⟩ rfl hv (λmp n=>⟨⟨he,l,Os,D5,⟨ha,trivial⟩,D5⟩,?_,D5⟩) D5;cases l<;>first|(simp[U7,Loc.blks];done)|cases ha
 | .pair p q,off,x,es,O,K,hr,hK=>by
  unfold Tc;obtain⟨c,d,O1,O2,rfl,rfl,h1,h2⟩:=hr;have hc:=bU h1;by_cases hlt:off<p.size
  .have hb:Nat.blt off p.size=true:=a3R hlt;simp only[hb,cond_true];refine KO p off h1 λv l ks u A Op B e1 e2 e3 e4 e5 e6=>?_;refine hK v l ks u A Op (B++O2) (by subst e1;simp) ⟨c,d,A++B,O2,rfl,D5,?_,?_⟩ (by rw[J5 (by rw[hc];exact hlt)];exact e3) e4 e5 e6
   .simp only[hlt,if_true];exact e2
   .simp only[hlt,if_true];exact h2
  .have hb:Nat.blt off p.size=false:=a3Q hlt;simp only[hb,cond_false];refine KO q (off -p.size) h2 λv l ks u A Op B e1 e2 e3 e4 e5 e6=>?_;refine hK v l ks u (O1++A) Op B (by subst e1;simp) ⟨c,d,O1,A++B,rfl,D5,?_,?_⟩ (by rw[G6 o5,hc];exact e3) e4 e5 e6
   .simp only[hlt,if_false];exact h1
   .simp only[hlt,if_false];exact e2
 | .dat _,_,_,_,_,_,_,_=>trivial| .unit,_,_,_,_,_,_,_=>trivial| .box _,_,_,_,_,_,_,_=>trivial| .ownb _,_,_,_,_,_,_,_=>trivial| .cell _,_,_,_,_,_,_,_=>trivial| .fr _,_,_,_,_,_,_,_=>trivial| .sbx _ _,_,_,_,_,_,_,_=>trivial| .lp _,_,_,_,_,_,_,_=>trivial| .dv ..,_,_,_,_,_,_,_=>trivial| .sit,_,_,_,_,_,_,_=>trivial| .rp _,_,_,_,_,_,_,_=>trivial| .fn _ _,_,_,_,_,_,_,_=>trivial| .ifc _ _,_,_,_,_,_,_,_=>trivial
def VL(h:Array Obj)(ok:Nat->Ty->Prop)(v:V)(u:Value)(Op:List Nat):Prop:=
 (v= .nl/\u= .slice none 0 0/\Op=[])\/(∃t ys l,v= .barr t ys/\l.view none u/\arrOk ⟨h,ok,nom⟩ t ys l/\Op=l.blks)\/
 (∃md ys l Os,v= .barrs md ys none/\md.el=true/\l.view none u/\AC h md.size (λ_ x es O=>qg h ok md none x es O) ys Os l/\Op=l.blks++Os.flatten)
theorem VL.one{h:Array Obj}{v:V}{u:Value}(k:VL h ok v u Op):u.oneCell' =true:=by
 rcases k with⟨_,rfl,_⟩|⟨_,_,l,_,hv,_⟩|⟨_,_,l,_,_,_,hv,_⟩
 .rfl
 .exact oI hv
 .exact oI hv
theorem Oe{α:Type}{Q:α->Sm->Prop}{S:Sm}{h:Array Obj}{ok:Nat->Ty->Prop}{v:V}{u:Value}{Op:List Nat}(hp:VL h ok v u Op):∀(md:M) (off:Nat) {ho:Option Nat} {x:md.den} {es:List Value} {O:List Nat} {K:md.den->Cmd α}
  (hr:qg h ok md ho x es O) (hh:ho=none\/ho=some off) (hel:md.el=true)
  (hK:∀y O1 Old O2,O=O1++Old++O2->qg h ok md none y (es.set off u) (O1++Op++O2)->off<es.length->(K y).post S Q),
  (v_ md off v x K .fail).post S Q
 | .own t,off,ho,x,es,O,K,hr,hh,hel,hK=>by
  unfold v_;refine bM λhb=>?_;have:=iH hb;subst this;obtain⟨v0,rfl,_,_⟩:=hr;rcases hp with⟨rfl,rfl,rfl⟩|⟨t',ys,l,rfl,hv,ha,rfl⟩|⟨md',ys,l,Os,rfl,_,hv,ha,rfl⟩
  .have ht:t.isEnt=false:=by simpa[M.el]using hel
   simp only[ht,cond_false];exact hK [] [] O [] D5 ⟨_,rfl,rfl,.nil,rfl,⟨rfl,ht⟩,rfl⟩ D5
  .simp only;refine fM λe=>?_;subst e;exact hK _ [] O [] D5 ⟨u,rfl,oI hv,l,hv,ha,D5⟩ D5
  .trivial
 | .owns md,off,ho,x,es,O,K,hr,hh,hel,hK=>by
  unfold v_;refine bM λhb=>?_;have:=iH hb;subst this;obtain⟨v0,rfl,_,_⟩:=hr;rcases hp with⟨rfl,rfl,rfl⟩|⟨t',ys,l,rfl,hv,ha,rfl⟩|⟨md',ys,l,Os,rfl,he,hv,ha,rfl⟩
  .exact hK [] [] O [] D5 ⟨_,rfl,rfl,by simpa[M.el]using hel,.nil,[],rfl,⟨rfl,rfl⟩,rfl⟩ D5
  .trivial
  .simp only;refine QW λe=>?_;subst e;exact hK _ [] O [] D5 ⟨u,rfl,oI hv,he,l,Os,hv,ha,D5⟩ D5
 | .pair p q,off,ho,x,es,O,K,hr,hh,hel,hK=>by
  unfold v_;obtain⟨c,d,O1,O2,rfl,rfl,h1,h2⟩:=hr;have hc:=bU h1;have hel' :p.el=true/\q.el=true:=by simpa[M.el]using hel
  by_cases hlt:off<p.size
  .have hb:Nat.blt off p.size=true:=a3R hlt;simp only[hb,cond_true];have h2' :qg h ok q none x.2 d O2:=by
    rcases hh with rfl|rfl
    .exact h2
    .simpa only[hlt,if_true]using h2
   refine Oe hp p off h1 (by rcases hh with rfl|rfl<;>first|exact .inl rfl|(right;simp only[hlt,if_true])) hel'.1 λy A Old B e1 e2 e3=>?_;refine hK _ A Old (B++O2) (by subst e1;simp) ⟨c.set off u,d,A++Op++B,O2,?_,D5,e2,h2'⟩ G5;rw[List.set_append_left _ _ o5]
  .have hb:Nat.blt off p.size=false:=a3Q hlt;simp only[hb,cond_false];have h1' :qg h ok p none x.1 c O1:=by
    rcases hh with rfl|rfl
    .exact h1
    .simpa only[hlt,if_false]using h1
   refine Oe hp q (off -p.size) h2 (by rcases hh with rfl|rfl<;>first|exact .inl rfl|(right;simp only[hlt,if_false])) hel'.2 λy A Old B e1 e2 e3=>?_;refine hK _ (O1++A) Old B (by subst e1;simp) ⟨c,d.set (off -p.size) u,O1,A++Op++B,?_,D5,h1',e2⟩ G5;rw[lI _ _ o5,hc]
 | .dat _,_,_,_,_,_,_,_,_,_,_=>trivial| .unit,_,_,_,_,_,_,_,_,_,_=>trivial| .box _,_,_,_,_,_,_,_,_,_,_=>trivial| .ownb _,_,_,_,_,_,_,_,_,_,_=>trivial| .cell _,_,_,_,_,_,_,_,_,_,_=>trivial| .fr _,_,_,_,_,_,_,_,_,_,_=>trivial| .sbx _ _,_,_,_,_,_,_,_,_,_,_=>trivial| .lp _,_,_,_,_,_,_,_,_,_,_=>trivial| .dv ..,_,_,_,_,_,_,_,_,_,_=>trivial| .sit,_,_,_,_,_,_,_,_,_,_=>trivial| .rp _,_,_,_,_,_,_,_,_,_,_=>trivial| .fn _ _,_,_,_,_,_,_,_,_,_,_=>trivial| .ifc _ _,_,_,_,_,_,_,_,_,_,_=>trivial
theorem DI{α:Type}{Q:α->Sm->Prop}{C:Cx}{ln:Ty->Bool} :∀(t:Ty) {cs:List V} {K:t.den->List V->Cmd α} {S:Sm} {vs:List Value} (hf:t.flat=true) (hL:gu C cs vs)
  (hK:∀x r us us',vs=us++us' ->(∀h ok,lw h ok t x us)->gu C r us' ->(K x r).post S Q),(mJ ln t cs K).post S Q
 | .bool,cs,K,S,vs,hf,hL,hK=>by
  unfold mJ;split
  .obtain⟨v,r,rfl,h1,_,h3⟩:=hL;exact hK _ _ [v] r rfl (λ_ _=>by simp only[uM]at h1;simp[lw,h1]) h3
  .trivial
 | .int k,cs,K,S,vs,hf,hL,hK=>by
  unfold mJ;split
  .obtain⟨v,r,rfl,h1,_,h3⟩:=hL;refine eH λe=>?_;have e:=of_decide_eq_true e;subst e;exact hK _ _ [v] r rfl (λ_ _=>by simp only[uM]at h1;simp[lw,h1]) h3
  .trivial
 | .str,cs,K,S,vs,hf,hL,hK=>by
  unfold mJ;split
  .obtain⟨v,r,rfl,h1,_,h3⟩:=hL;exact hK _ _ [v] r rfl (λ_ _=>by simp only[uM]at h1;simp[lw,h1]) h3
  .trivial
 | .unit,cs,K,S,vs,hf,hL,hK=>by unfold mJ;exact hK _ _ [] vs rfl (λ_ _=>rfl) hL
 | .prod p q,cs,K,S,vs,hf,hL,hK=>by unfold mJ;simp[Ty.flat]at hf;refine DI p hf.1 hL λx r us us' e1 h1 l1=>?_;refine DI q hf.2 l1 λy r' vs2 vs2' e2 h2 l2=>?_;subst e1;subst e2;exact hK _ _ (us++vs2) vs2' D5 (λh ok=>⟨us,vs2,rfl,h1 h ok,h2 h ok⟩) l2| .sl t,cs,K,S,vs,hf,hL,hK=>by simp[Ty.flat]at hf
theorem Zk{us c d:List α}(h:off+us.length<=c.length):aO off us (c++d)=aO off us c++d:=by
 apply gm;intro i;have hs:=uU h;rw[rV G5];by_cases hi:i<c.length
 .rw[J5 hi,J5 (l₁:=aO off us c) (by rw[hs];exact hi),rV h]
 .rw[G6 o5,G6 (l₁:=aO off us c) (by rw[hs];omega),hs,if_neg o5,if_neg o5]
theorem Xi{us c d:List α}(h:(off -c.length)+us.length<=d.length)(h' :c.length<=off):aO off us (c++d)=c++aO (off -c.length) us d:=by
 apply gm;intro i;rw[rV G5];by_cases hi:i<c.length
 .rw[J5 hi,if_pos o5,J5 hi]
 .rw[G6 o5,G6 (l₂:=aO (off -c.length) us d) o5,rV h];by_cases h1:i<off
  .simp only[h1,if_true,show i -c.length<off -c.length by omega]
  .by_cases h2:i<off+us.length
   .simp only[h1,if_false,h2,if_true,show ¬(i -c.length<off -c.length) by omega,show i -c.length<off -c.length+us.length by omega];congr 1;omega
   .simp only[h1,if_false,h2,show ¬(i -c.length<off -c.length) by omega,show ¬(i -c.length<off -c.length+us.length) by omega]
theorem NK{α:Type}{Q:α->Sm->Prop}{h:Array Obj}{ok:Nat->Ty->Prop}{m:Mp} :∀(md:M) (off:Nat) {ho:Option Nat} {x:md.den} {es us:List Value} {vs:List V} {O:List Nat} {K:md.den->Cmd α} {S:Sm}
  (hr:qg h ok md ho x es O) (hv:gu ⟨h,ok,m⟩ vs us)
  (hK:∀y,off+us.length<=es.length->qg h ok md ho y (aO off us es) O->(K y).post S Q),(a2v md off vs x K).post S Q
 | .dat t,off,ho,x,es,us,vs,O,K,S,hr,hv,hK=>by
  unfold a2v;refine eH λhf=>zH _ _ _ λhle=>?_;rw[oh]at hle;obtain⟨hr,rfl⟩:=hr;have hl:=eY hr;have hlv:=kw hv;have hnew:=Ar (off:=off) hv (qm (C:=⟨h,ok,m⟩) hr);refine DI t hf hnew λy q vs1 vs2 e1 h1 l1=>?_;cases q with
  |cons _ _=>trivial|nil=>
  simp only[gu]at l1;subst l1;simp only[E5]at e1;subst e1;exact hK y o5 ⟨h1 _ _,rfl⟩
 | .pair p q,off,ho,x,es,us,vs,O,K,S,hr,hv,hK=>by
  unfold a2v;obtain⟨c,d,O1,O2,rfl,rfl,h1,h2⟩:=hr;have hc:=bU h1;by_cases hlt:off<p.size
  .have hb:Nat.blt off p.size=true:=a3R hlt;simp only[hb,cond_true];refine NK p off h1 hv λy hle e2=>?_;exact hK _ G5 ⟨_,d,O1,O2,Zk hle,rfl,e2,h2⟩
  .have hb:Nat.blt off p.size=false:=a3Q hlt;simp only[hb,cond_false];refine NK q (off -p.size) h2 hv λy hle e2=>?_;refine hK _ G5 ⟨c,_,O1,O2,?_,rfl,h1,e2⟩;rw[Xi o5 o5,hc]
 | .own _,_,_,_,_,_,_,_,_,_,_,_,_=>trivial| .owns _,_,_,_,_,_,_,_,_,_,_,_,_=>trivial| .unit,_,_,_,_,_,_,_,_,_,_,_,_=>trivial| .box _,_,_,_,_,_,_,_,_,_,_,_,_=>trivial| .ownb _,_,_,_,_,_,_,_,_,_,_,_,_=>trivial| .cell _,_,_,_,_,_,_,_,_,_,_,_,_=>trivial| .fr _,_,_,_,_,_,_,_,_,_,_,_,_=>trivial| .sbx _ _,_,_,_,_,_,_,_,_,_,_,_,_=>trivial| .lp _,_,_,_,_,_,_,_,_,_,_,_,_=>trivial| .dv ..,_,_,_,_,_,_,_,_,_,_,_,_=>trivial| .sit,_,_,_,_,_,_,_,_,_,_,_,_=>trivial| .rp _,_,_,_,_,_,_,_,_,_,_,_,_=>trivial| .fn _ _,_,_,_,_,_,_,_,_,_,_,_,_=>trivial| .ifc _ _,_,_,_,_,_,_,_,_,_,_,_,_=>trivial
theorem a2K(i:Nat):Ux none i=none:=rfl
theorem RS{i o j:Nat}(h:j≠i):Ux (some (i,o,k)) j=none:=by simp[Ux,h]
theorem Vb{i o:Nat} :Ux (some (i,o,k)) i=some o:=by simp[Ux]
theorem TB{C:Cx}{md:M}{xs:List md.den}{hole:Option (Nat×Nat×Option Nat)}{blk off len cap sz:Nat}{Os:List (List Nat)}(he:md.el=true)(hm:C.m n=some (.arr blk off len cap sz))
  (ha:AC C.h md.size (λi x es O=>qg C.h C.ok md (Ux hole i) x es O) xs Os (.arr blk off len cap sz)) (hk:C.m.kid n=Os.flatten) (hh:RU C md.size (.arr blk off len cap sz) hole):CP C n (.barrs md xs hole):=⟨he,_,Os,hm,⟨ha,hh⟩,hk⟩
theorem Hu{j o2 idx off:Nat}(h:Wi (some (j,o2,k)) idx off=true):j=idx/\o2=off:=by
 simp only[Wi]at h;cases hb:Nat.beq o2 off<;>rw[hb]at h
 .cases h
 .exact⟨iH h,iH hb⟩
theorem a2Y(H:FxOk X){S1:Sm}{m1:Mp}{ok1:Nat->Ty->Prop}{w0:World}(R:Rel X (CB*q) (CB*q+CB) S1 m1 ok1 a w)(hT:Tk X S1 m1 ok1 w Op)
  (hm:∀k l,m k=some l->m1 k=some l) (hok:∀b t,ok b t->ok1 b t) {v:V} {l:Loc} {ks:List Nat} {x:Value} (hv:v≠.undef)
  (ho:U7 (nK m1 (O5 q o.dst) l ks) (O5 q o.dst) v=Op) (hB:CP ⟨w.heap,ok1,nK m1 (O5 q o.dst) l ks⟩ (O5 q o.dst) v)
  (hx:l.view none x) {bx idx off:Nat} {md:M} {xs:List md.den} (hS:S1 (Z5+bx)= .barrs md xs (some (idx,off,none))) {blk o' len cap sz:Nat} (hmb:m1 bx=some (.arr blk o' len cap sz))
  (hc:dE w.heap blk (o' +idx*md.size+off) 1=some [x]) (hsz:sz=md.size)
  (run:(execOp a.eval o).run X.P w0= .ok (.value x) w):
  (uY (O5 q o.dst) v (Cmd.set (Z5+bx) (.barrs md xs (some (idx,off,some (O5 q o.dst)))) (dZ X.E o.dst (.own (O5 q o.dst) none)))).post S1 (λ_ S' =>jh X (CB*q) (CB*q+CB) o a w0 m ok S'):=by
 refine qU λhn=>?_;have key:∀n,n=O5 q o.dst->CB*q<=n->n<CB*q+CB->∃R2:Rel X (CB*q) (CB*q+CB) (upd (upd S1 (Z5+n) v) (Z5+bx) (.barrs md xs (some (idx,off,some n)))) (nK m1 n l ks) ok1 a w,∀k l',m k=some l' ->nK m1 n l ks k=some l' :=by
  rintro n rfl h1 h2;obtain⟨R',_,hm'⟩:=R.adopt (T:=[]) hn h1 hv (by simpa using hT) (λb h=>by rw[ho]at h;exact h) (by rw[ho];exact hT.nodup) hB;rw[Nat.max_eq_left o5]at R';have hne:bx≠O5 q o.dst:=λe=>by have:=R.fresh _ h1 hn;rw[←e,hmb]at this;cases this
  have hS' :upd S1 (Z5+O5 q o.dst) v (Z5+bx)= .barrs md xs (some (idx,off,none)):=by rw[bJ _ _ o5];exact hS
  have hb:=R'.box bx;rw[hS']at hb;obtain⟨hel,l0,Os,hm0,⟨ha,_⟩,hk⟩:=hb;have hmb' :=hm' _ _ hmb;simp only at hm0;rw[hmb']at hm0;cases hm0;refine⟨R'.mod (by rw[hS'];rfl) D5 rfl rfl rfl rfl (λ_ _=>rfl) ⟨hel,_,Os,hmb',⟨?_,?_⟩,hk⟩,λk l' h=>hm' k l' (hm k l' h)⟩
  .exact Dh (λ_ _=>rfl) (λi x es O _ hr=>hr) ha
  .exact⟨blk,o',len,cap,x,l,by rw[hsz],hc,aF _ _ _ _,hx⟩
 cases hd:o.dst with
 |none=>have hin:=rF H (q:=q) none (λt h=>by cases h);obtain⟨R2,hm2⟩:=key (O5 q none) (by rw[hd]) hin.1 o5;have:=sF (o:=o) H R2 (m0:=m) (ok0:=ok) hm2 hok (v:=.own (O5 q none) none) ⟨l,aF _ _ _ _,hx⟩ run;rw[hd]at this;exact this
 |some t=>unfold dZ;refine jf (bM λhb' =>?_);have hin:=rF H (q:=q) (some t) (λt' h=>by cases h;exact(zF hb').1);obtain⟨R2,hm2⟩:=key (O5 q (some t)) (by rw[hd]) hin.1 o5;have:=sF (o:=o) H R2 (m0:=m) (ok0:=ok) hm2 hok (v:=.own (O5 q (some t)) none) ⟨l,aF _ _ _ _,hx⟩ run;rw[hd]at this;unfold dZ at this;simp only[hb',cond_true]at this;exact this
theorem a8K(H:FxOk X)(R:Rel X (CB*q) (CB*q+CB) S m ok a w)(ho:o.op= .load t x):(bz X.E q o).post S (λ_ S' =>jh X (CB*q) (CB*q+CB) o a w m ok S'):=by
 unfold bz;simp only[ho];refine ax R λp hp=>?_;have plain:(JK X.E t p λv=>dZ X.E o.dst v).post S (λ_ S' =>jh X (CB*q) (CB*q+CB) o a w m ok S'):=by refine Fq H R hp λv u ad hv hx hr=>aN H R hv ?_;simp[execOp,ho,hx,Instr.loadAt,Instr.sureAddr,hr]
 unfold a9X;split
 .rename_i bx idx off;refine bP ?_;split
  .rename_i md xs hS;cases hown:md.ownAt off
   .simpa only[cond_false]using plain
   simp only[cond_true];refine kX H λi hi=>eH λhi1=>?_;simp only[A8,dh]at hi1;obtain⟨hsz,hagg⟩:=hi1;have hsz:=iH hsz;have hp' :=hp;obtain⟨blk,o',len,cap,sz,hm,hlt,hx⟩:=hp;obtain⟨hel,l,Os,hm',⟨ha,hho⟩,hk⟩:=R.own_barrs hS;simp only at hm;rw[hm]at hm';cases hm';cases Cf (match o.dst with|some d=>d|none=>Z5) X.E.tk<;>simp only[cond_true,cond_false]
   .refine BH (T:=[]) (.sl md.ty) R Tk.nil (cs:=[.own bx none]) (vs:=[.slice (some ⟨blk,o',none⟩) len cap]) ⟨_,_,rfl,⟨_,hm,rfl⟩,rfl,rfl⟩ λS1 ok1 _ _ us us' R1 T1 k1 s1 e1 h1 l1=>?_;refine Fq H R1 (Jn k1 hp') λv u ad hv hx hr=>sF H R1 (λ_ _ h=>h) k1 hv ?_;simp[execOp,ho,hx,Instr.loadAt,Instr.sureAddr,hr]
   .refine fJ λe0 he0=>?_;obtain⟨rfl,rfl,h3,h7,c,T,hh,hs,hxs⟩:=ha;obtain⟨es,O,hO,he,hr⟩:=hxs idx e0 he0;refine KO md off hr λv l2 ks u O1 Op O2 eO hr' hu hv hB hvu=>?_;refine jf ?_;have hOs:Os.flatten.Perm ((Os.set idx (O1++O2)).flatten++Op):=Be (by rw[hO,eO]);have hown0:U7 m bx (S (Z5+bx))=blk::Os.flatten:=by simp[U7,hS,hm,hk]
    have hown1:U7 (Df m bx (Os.set idx (O1++O2)).flatten) bx (.barrs md xs (some (idx,off,none)))=blk::(Os.set idx (O1++O2)).flatten:=by simp[U7,hm]
    have hnd:=R.nd bx;rw[hown0]at hnd;have hperm:(blk::Os.flatten).Perm ((blk::(Os.set idx (O1++O2)).flatten)++Op):=by simpa using hOs.cons blk
    have hnd' :=Y4.1 (hperm.nodup_iff.1 hnd);have hB1:CP ⟨w.heap,ok,Df m bx (Os.set idx (O1++O2)).flatten⟩ bx (.barrs md xs (some (idx,off,none))):=by
     refine TB (Os:=Os.set idx (O1++O2)) hel hm ⟨rfl,rfl,h3,by simp[h7],c,T,hh,hs,λj z hz=>?_⟩ D5 trivial;by_cases hj:j=idx
     .subst hj;rw[show xs[j]? =some e0 from he0]at hz;cases hz;refine⟨es,O1++O2,?_,he,by simp only[Vb];exact hr'⟩;rw[af,if_pos rfl,if_pos (by rw[h7];exact hlt)]
     .obtain⟨es2,O',hO2,he2,hr2⟩:=hxs j z hz;refine⟨es2,O',?_,he2,by simp only[RS hj];exact hr2⟩;rw[af,if_neg (λe=>hj e.symm)];exact hO2
    obtain⟨R1,T1⟩:=R.modK (T:=[]) Tk.nil (n:=bx) (v:=.barrs md xs (some (idx,off,none))) (ks:=(Os.set idx (O1++O2)).flatten) (w' :=w) (T' :=Op) D5 (by rw[hown1];exact hnd'.1)
     (λb hb=> .inl (by rw[hown0];rw[hown1]at hb;exact hperm.mem_iff.2 (iI _ hb))) rfl rfl rfl rfl (λ_ _=>rfl) hB1 hnd'.2.1
     (λb hb=>⟨.inl (by rw[hown0];exact hperm.mem_iff.2 (lH _ hb)),λh=>hnd'.2.2 b (by rw[hown1]at h;exact h) b hb rfl⟩)
    obtain⟨hB2,hB3,hB4⟩:=hB (Df m bx (Os.set idx (O1++O2)).flatten) (O5 q o.dst);have hlt2:=(ai.1 hu);have hle:off+1<=md.size:=by have:=bU hr;have:=hlt2.1;omega
    have e:=xU he off i.size o5;have hr2:=ww hi w e;have h1:(es.drop off).take i.size=[u]:=by obtain⟨hlt3,rfl⟩:=hlt2;rw[hsz,bY hlt3];rfl
    refine a2Y (ok:=ok) (m:=m) H R1 T1 (λ_ _ h=>h) (λ_ _ h=>h) hvu hB3 hB2 hv (by rw[lV]) hm (by rw[←h1,←hsz];exact e) rfl ?_;rw[h1,hagg]at hr2;simp[execOp,ho,hx,Instr.loadAt,Instr.sureAddr,hr2,Nw]
  .rename_i md xs i2 o2 n2 hS;cases hown:md.ownAt off
   .simpa only[cond_false]using plain
   simp only[cond_true];refine kX H λi hi=>eH λhi1=>⟨λhat=>?_,λ_=>trivial⟩;simp only[A8,dh]at hi1;obtain⟨hsz,hagg⟩:=hi1;have hsz:=iH hsz;obtain⟨e1,e2⟩:=Hu hat
   subst e1;subst e2;obtain⟨blk,o',len,cap,sz,hm,hlt,hx⟩:=hp;obtain⟨hel,l,Os,hm',⟨ha,blk',off',len',cap',u,l',hl,hc,hmn,hvw⟩,hk⟩:=R.own_barrs hS;simp only at hm;rw[hm]at hm';cases hm';cases hl;have e:dE w.heap blk (o' +i2*md.size+o2) i.size=some [u]:=by rw[hsz];exact hc
   have hr2:=ww hi w e;rw[hagg]at hr2;refine aN H R (v:=.own n2 none) (x:=u) ⟨l',hmn,hvw⟩ ?_;simp[execOp,ho,hx,Instr.loadAt,Instr.sureAddr,hr2,Nw]
  .exact plain
 .exact plain
theorem FZ{S' :Sm}{x y:Operand}{w' :World}{m' :Mp}{ok' :Nat->Ty->Prop}(ho:o.op= .store t x y)(hd:o.dst=none)(run:(Instr.storeAt t (a.eval x) (a.eval y)).run X.P w= .ok () w')
  (R:Rel X cl ch S' m' ok' a w') (hm:∀k l,m k=some l->m' k=some l) (hok:∀b t,ok b t->ok' b t):jh X cl ch o a w m ok S' :=by
 intro next Q hn
 unfold Oper.wp;have e:(execOp a.eval o).run X.P w= .ok .skip w' :=by simp[execOp,ho,run]
 rw[e,Oper.upon_skip,hd];exact hn m' ok' a w' R hm hok
theorem a0y{u:α}(h:off<L.length):aO off [u] L=L.set off u:=by
 apply gm;intro i;rw[rV G5,af];by_cases h1:i=off
 .subst h1;rw[if_neg o5,if_pos D5,if_pos rfl,if_pos h];simp
 .by_cases h2:i<off
  .rw[if_pos h2,if_neg o5]
  .rw[if_neg h2,if_neg G5,if_neg o5]
theorem a2t{u:Value}(h:u.oneCell' =true):u.cells.toList=[u]:=by cases u<;>simp[Value.oneCell',Value.cells]at*
theorem TK{w:World}{blk o' sz len cap off idx:Nat}{c:Array Value}{T:TypeId}{f:Nat×Nat}(hh:w.heap[blk]? =some (.cells c T f))(hs:o' +cap*sz<=c.size)(hlc:len<=cap)(hlt:idx<len){us es:List Value}
  (he:dE w.heap blk (o' +idx*sz) sz=some es) (hf:off+us.length<=sz):
  o' +idx*sz+off+us.length<=c.size/\(aO (o' +idx*sz+off) us c.toList).length=c.size/\
  dE (w.setRow blk (aO (o' +idx*sz+off) us c.toList).toArray).heap blk (o' +idx*sz) sz=some (aO off us es)/\
  (∀j,j<len->j≠idx->dE (w.setRow blk (aO (o' +idx*sz+off) us c.toList).toArray).heap blk (o' +j*sz) sz=dE w.heap blk (o' +j*sz) sz):=by
 have hcap:(idx+1)*sz<=cap*sz:=F5 _ o5;rw[J3,ah]at hcap;have hfit:o' +idx*sz+off+us.length<=c.size:=o5;have hcl:c.toList.length=c.size:=D5;have hsp:(aO (o' +idx*sz+off) us c.toList).length=c.size:=by rw[uU (by rw[hcl];exact hfit)];exact hcl
 refine⟨hfit,hsp,?_,λj hj hne=>?_⟩
 .rw[IM hh _ _ _ (by rw[hsp];omega),Jt (by rw[hcl];omega) o5];obtain⟨c2,T2,f2,hb2,hn2,rfl⟩:=uf he;rw[hh]at hb2;cases hb2;rfl
 .have hcap' :(j+1)*sz<=cap*sz:=F5 _ o5;rw[J3,ah]at hcap';rw[IM hh _ _ _ (by rw[hsp];omega),jO hh _ _ o5,a0z (by rw[hcl];exact hfit)];rcases Nat.lt_or_gt_of_ne hne with hlt'|hgt
  .left;have:(j+1)*sz<=idx*sz:=F5 _ o5;rw[J3,ah]at this;omega
  .right;have:(idx+1)*sz<=j*sz:=F5 _ o5;rw[J3,ah]at this;omega
theorem PX{Q:Unit->Sm->Prop}(R:Rel X cl ch S m ok a w)(hT:Tk X S m ok w Op){i:TI}(hi:TiOk X.P t i)(h1:i.size=1){bx idx off:Nat}{md:M}{xs:List md.den}{hole:Option (Nat×Nat×Option Nat)}
  (hS:S (Z5+bx)= .barrs md xs hole) {blk o' len cap sz:Nat} (hm:m bx=some (.arr blk o' len cap sz)) {v:V} {u:Value} (hp:VL w.heap ok v u Op)
  (hK:∀S' m' w',Rel X cl ch S' m' ok a w' ->(∀k l,m k=some l->m' k=some l)->(storeVar t ⟨blk,o' +idx*sz+off,none⟩ u).run X.P w= .ok () w' ->Q () S'):
  (Xk bx idx off md xs hole v (.ret ())).post S Q:=by
 unfold Xk;refine⟨λhb=>?_,λ_=>trivial⟩;refine fJ λe0 he0=>?_;have he0' :xs[idx]? =some e0:=he0;obtain⟨hel,l,Os,hm',⟨ha,hho⟩,hk⟩:=R.own_barrs hS;rw[hm]at hm';cases hm';obtain⟨rfl,rfl,h3,h7,c,T,hh,hs,hxs⟩:=ha;obtain⟨es,O,hO,he,hr⟩:=hxs idx e0 he0';have hho:Ux hole idx=none\/Ux hole idx=some off:=by
  rcases hole with _|⟨j,o2,o3⟩
  .exact .inl rfl
  .obtain⟨e1,e2⟩:=Hu hb;subst e1;subst e2;exact .inr Vb
 have hho' :∀j,j≠idx->Ux hole j=none:=λj hj=>by
  rcases hole with _|⟨j',o2,o3⟩
  .rfl
  .obtain⟨e1,_⟩:=Hu hb;subst e1;exact RS hj
 refine Oe hp md off hr hho hel λy O1 Old O2 eO hr' hoff=>jf ?_;have hlt:idx<xs.length:=(ai.1 he0').1;have hes:es.length=md.size:=bU hr;have hu1:=hp.one;have huc:=a2t hu1;obtain⟨hfit,hsp,hnew,hold⟩:=TK (us:=[u]) (off:=off) hh hs h3 hlt he G5;have run:=Bl hi w (off:=o' +idx*md.size+off) hh (.inl rfl) (v:=u) (by have:=congrArg List.length huc;simp at this;omega) (by simpa[h1]using hfit) (by rw[huc];simp[hu1]);rw[huc]at run;generalize hw' :w.setRow blk (aO (o' +idx*md.size+off) [u] c.toList).toArray=w' at run hnew hold;have hrow:w'.heap[blk]? =some (.cells (aO (o' +idx*md.size+off) [u] c.toList).toArray T (0,0)):=by subst hw';exact setRow_heap w blk c _ T (0,0) hh
 have hoth:∀b,b≠blk->w'.heap[b]? =w.heap[b]?:=λb hb=>by subst hw';exact setRow_other w blk b _ hb
 have hsize:w'.heap.size=w.heap.size:=by subst hw';simp
 have hos:w'.os=w.os:=by subst hw';rfl
 have htp:w'.tape=w.tape:=by subst hw';rfl
 have hout:w'.output=w.output:=by subst hw';rfl
 have hO1:Os.flatten.Perm ((Os.set idx (O1++O2)).flatten++Old):=Be (by rw[hO,eO]);have hO2:(Os.set idx (O1++Op++O2)).flatten.Perm ((Os.set idx (O1++O2)).flatten++Op):=by have:=Be (Os:=Os.set idx (O1++Op++O2)) (i:=idx) (O1:=O1) (P:=Op) (O2:=O2) (by rw[af,if_pos rfl,if_pos (by rw[h7];exact hlt)]);rwa[List.set_set]at this
 have hown0:U7 m bx (S (Z5+bx))=blk::Os.flatten:=by simp[U7,hS,hm,hk]
 have hown1:U7 (Df m bx (Os.set idx (O1++Op++O2)).flatten) bx (.barrs md (rM xs idx y) none)=blk::(Os.set idx (O1++Op++O2)).flatten:=by simp[U7,hm]
 have hnd:=R.nd bx;rw[hown0]at hnd;have hnd0:=eG.1 hnd;have hndA:=Y4.1 (hO1.nodup_iff.1 hnd0.2);have hfreeOp:∀b∈Op,b∉blk::Os.flatten:=λb hb h=>(hT.free b hb).2.2.2 bx (by rw[hown0];exact h);have hsubA:∀b∈(Os.set idx (O1++O2)).flatten,b∈Os.flatten:=λb hb=>hO1.mem_iff.2 (iI _ hb);have hneO:∀b∈Os.flatten,b≠blk:=λb hb e=>hnd0.1 (e▸hb);have hneP:∀b∈Op,b≠blk:=λb hb e=>hfreeOp b hb (by simp[e]);have hkeep:∀b t,ok b t->w'.heap[b]? =w.heap[b]?:=λb t hb=>hoth b (λe=>(R.sep bx blk (by rw[hown0];simp)).1 t (e▸hb));have hB:CP ⟨w'.heap,ok,Df m bx (Os.set idx (O1++Op++O2)).flatten⟩ bx (.barrs md (rM xs idx y) none):=by
  refine TB (Os:=Os.set idx (O1++Op++O2)) hel hm ⟨rfl,by simp[rM],h3,by simp[h7,rM],_,T,hrow,by simp[hsp];exact hs,λj z hz=>?_⟩ D5 trivial;unfold rM at hz;rw[af]at hz;split at hz
  .rename_i hj;subst hj;cases hz;refine⟨_,O1++Op++O2,by rw[af,if_pos rfl,if_pos (by rw[h7];exact hlt)],hnew,?_⟩;rw[a0y o5];refine kF (λ_ _ h=>h) hkeep (λb hb=>hoth b ?_) hr';rcases F9.1 hb with hb|hb
   .rcases F9.1 hb with hb|hb
    .exact hneO b (dJ.2 ⟨O,wJ hO,by rw[eO];simp[hb]⟩)
    .exact hneP b hb
   .exact hneO b (dJ.2 ⟨O,wJ hO,by rw[eO];simp[hb]⟩)
  .rename_i hj;obtain⟨es2,O',hO2',he2,hr2⟩:=hxs j z hz;refine⟨es2,O',by rw[af,if_neg hj];exact hO2',by rw[←he2];exact hold j (ai.1 hz).1 (λe=>hj e.symm),?_⟩;simp only[a2K];rw[hho' j (λe=>hj e.symm)]at hr2;exact kF (λ_ _ h=>h) hkeep (λb hb=>hoth b (hneO b (dJ.2 ⟨O',wJ hO2',hb⟩))) hr2
 have hmod:=R.modK hT (n:=bx) (v:=.barrs md (rM xs idx y) none) (ks:=(Os.set idx (O1++Op++O2)).flatten) (w' :=w') (T' :=[]) D5
  (by
   rw[hown1];refine eG.2 ⟨λh=>?_,hO2.nodup_iff.2 (Y4.2 ⟨hndA.1,hT.nodup,λx hx z hz e=>?_⟩)⟩
   .rcases F9.1 (hO2.mem_iff.1 h)with h|h
    .exact hnd0.1 (hsubA _ h)
    .exact hneP _ h rfl
   .subst e;exact hfreeOp x hz (by simp[hsubA x hx]))
  (λb hb=>by
   rw[hown1]at hb;rw[hown0];rcases C9.1 hb with hb|hb
   .exact .inl (by simp[hb])
   .rcases F9.1 (hO2.mem_iff.1 hb)with h|h
    .exact .inl (by simp[hsubA _ h])
    .exact .inr h)
  hos htp hout hsize (λb hb=>hoth b (λe=>hb (by rw[hown0,e];simp))) hB dY (λb hb=>by cases hb)
 exact hK _ _ w' hmod.1 (λ_ _ h=>h) run
theorem a5m(H:FxOk X)(R:Rel X cl ch S m ok a w){x y:Operand}(ho:o.op= .store t x y):(bz X.E q o).post S (λ_ S' =>jh X cl ch o a w m ok S'):=by
 unfold bz;simp only[ho];cases hd:o.dst with
 |some d=>trivial|none=>
 refine ax R λp hp=>ax R λv hv=>?_;unfold a7z;refine kX H λi hi=>?_;cases p<;>try trivial
 case ptr bx off=>
  obtain⟨blk,hm,hx⟩:=hp;refine bP ?_;split<;>try trivial
  rename_i cs hS;obtain⟨blk',arr,T,hm',hh,hl⟩:=R.own_cells hS;simp only at hm hm';rw[hm]at hm';cases hm';refine tJ hv λvs hvs=>eH λhlen=>zH _ _ _ λhle=>jf ?_;have hlen' :=iH hlen;have hL:=kw hl;have hL2:=kw hvs;have hsz:(a.eval y).cells.size=i.size:=by simp at hL2;omega
  have hown:U7 m bx (S (Z5+bx))=[blk]:=by simp[U7,hS,hm]
  have hfit:off+i.size<=arr.size:=by simp at hL;omega
  have run:=Bl hi w hh (.inl rfl) (v:=a.eval y) hsz hfit (MW hvs);refine FZ ho hd (w' :=w.setRow blk (aO off (a.eval y).cells.toList arr.toList).toArray) (by simp[Instr.storeAt,Instr.sureAddr,hx,run]) ?_ (λ_ _ h=>h) (λ_ _ h=>h);refine R.mod (by rw[hown];simp[U7,hm]) D5 rfl rfl rfl D5 (λb hb=>setRow_other w blk b _ (by rw[hown]at hb;simpa using hb)) ?_;refine⟨blk,_,T,hm,setRow_heap w blk arr _ T (0,0) hh,?_⟩;refine b1a (λb t hb=>setRow_other w blk b _ (λe=>(R.sep bx blk (by rw[hown];simp)).1 t (e▸hb))) ?_;simpa using Ar hvs hl
 case ep bx ix off=>
  obtain⟨blk,o',len,cap,sz,hm,hlt,hx⟩:=hp;simp only at hm;refine bP ?_;split<;>try trivial
  .rename_i u xs hS;obtain⟨l,hm',ha⟩:=R.own_arr hS;rw[hm]at hm';cases hm';obtain⟨hE0,rfl,rfl,h3,c,T,f,hh,hz,hs,hxs⟩:=ha;refine fJ λe0 he0=>?_;obtain⟨es,he,hr⟩:=hxs ix e0 he0;refine tJ hv λvs hvs=>eH λhlen=>zH _ _ _ λhle=>?_;rw[oh]at hle;have hlen' :=iH hlen;have hL2:=kw hvs;have hsz:(a.eval y).cells.size=i.size:=by simp at hL2;omega
   have hes:=qp he;have hnew:=Ar (off:=off) hvs (qm (C:=⟨w.heap,ok,m⟩) hr);refine BH (T:=[]) u R Tk.nil hnew λS1 ok1 y1 q1 us us' R1 T1 k1 s1 e1 h1 l1=>?_;cases q1 with
   |cons _ _=>trivial|nil=>
   simp only[gu]at l1;subst l1;simp only[E5]at e1;subst e1;refine bP ?_;split<;>try trivial
   rename_i u' xs' hS1;refine fM λe=>?_;subst e;refine jf ?_;obtain⟨l,hm',ha⟩:=R1.own_arr hS1;rw[hm]at hm';cases hm';obtain⟨_,hszu,hlen2,h3',c',T',f',hh',hz',hs',hxs'⟩:=ha;rw[hh]at hh';cases hh';have hown:U7 m bx (S1 (Z5+bx))=[blk]:=by simp[U7,hS1,hm]
   have hvl:(a.eval y).cells.toList.length=i.size:=by simpa using hsz
   obtain⟨hfit,hsp,hnew2,hold⟩:=TK (us:=(a.eval y).cells.toList) (off:=off) hh hs h3 hlt he (by rw[hvl];omega);have run:=Bl hi w (off:=o' +ix*u'.size+off) hh hz.of (v:=a.eval y) hsz (by rw[hvl]at hfit;exact hfit) (MW hvs);refine FZ ho hd (w' :=w.setRow blk (aO (o' +ix*u'.size+off) (a.eval y).cells.toList c.toList).toArray) (by simp[Instr.storeAt,Instr.sureAddr,hx,run]) ?_ (λ_ _ h=>h) k1;refine R1.mod (by rw[hown];simp[U7,hm]) D5 rfl rfl rfl D5 (λb hb=>setRow_other w blk b _ (by rw[hown]at hb;simpa using hb)) ?_;have hkeep:∀b t,ok1 b t->(w.setRow blk (aO (o' +ix*u'.size+off) (a.eval y).cells.toList c.toList).toArray).heap[b]? =w.heap[b]?:=
    λb t hb=>setRow_other w blk b _ (λe=>(R1.sep bx blk (by rw[hown];simp)).1 t (e▸hb))
   refine⟨_,hm,hE0,rfl,by simp[rM,hlen2],h3,_,T,f,setRow_heap w blk c _ T f hh,by rw[aK,hsp];exact hz,by simp[hsp];exact hs,λj z hz=>?_⟩;unfold rM at hz;rw[af]at hz;split at hz
   .rename_i hj;subst hj;split at hz
    .cases hz;exact⟨_,hnew2,fA (λ_ _ h=>h) hkeep h1⟩
    .cases hz
   .rename_i hj;obtain⟨es2,he2,hr2⟩:=hxs' j z hz;have hj2:=(ai.1 hz).1;exact⟨_,(hold j (by rw[hlen2];exact hj2) (λe=>hj e.symm)).trans he2,fA (λ_ _ h=>h) hkeep hr2⟩
  .rename_i md xs hole hS;cases hcd:(md.ownAt off&&Nat.beq i.size 1&&!bK i.td)
   .simp only[cond_false];cases hole with
    |some _=>trivial|none=>
    refine tJ hv λvs hvs=>eH λhlen=>fJ λe0 he0=>?_;have he0' :xs[ix]? =some e0:=he0;obtain⟨hel,l,Os,hm',⟨ha,hho⟩,hk⟩:=R.own_barrs hS;rw[hm]at hm';cases hm';obtain⟨rfl,rfl,h3,h7,c,T,hh,hs,hxs⟩:=ha;obtain⟨es,O,hO,he,hr⟩:=hxs ix e0 he0';refine NK md off hr hvs λy1 hle hr' =>jf ?_;have hes:es.length=md.size:=bU hr;have hlen' :=iH hlen;have hL2:=kw hvs;have hsz:(a.eval y).cells.size=i.size:=by simp at hL2;omega
    have hvl:(a.eval y).cells.toList.length=i.size:=by simpa using hsz
    obtain⟨hfit,hsp,hnew2,hold⟩:=TK (us:=(a.eval y).cells.toList) (off:=off) hh hs h3 hlt he o5;have run:=Bl hi w (off:=o' +ix*md.size+off) hh (.inl rfl) (v:=a.eval y) hsz (by rw[hvl]at hfit;exact hfit) (MW hvs);have hown:U7 m bx (S (Z5+bx))=blk::Os.flatten:=by simp[U7,hS,hm,hk]
    have hnd:=R.nd bx;rw[hown]at hnd;have hnd0:=eG.1 hnd;have hneO:∀b∈Os.flatten,b≠blk:=λb hb e=>hnd0.1 (e▸hb);refine FZ ho hd (w' :=w.setRow blk (aO (o' +ix*md.size+off) (a.eval y).cells.toList c.toList).toArray) (by simp[Instr.storeAt,Instr.sureAddr,hx,run]) ?_ (λ_ _ h=>h) (λ_ _ h=>h);have hkeep:∀b t,ok b t->(w.setRow blk (aO (o' +ix*md.size+off) (a.eval y).cells.toList c.toList).toArray).heap[b]? =w.heap[b]?:=
     λb t hb=>setRow_other w blk b _ (λe=>(R.sep bx blk (by rw[hown];simp)).1 t (e▸hb))
    refine R.mod (by rw[hown];simp[U7,hm,hk]) D5 rfl rfl rfl D5 (λb hb=>setRow_other w blk b _ (λe=>hb (by rw[hown,e];simp))) ?_;refine TB (Os:=Os) hel hm ⟨rfl,by simp[rM],h3,by simp[h7,rM],_,T,setRow_heap w blk c _ T (0,0) hh,by simp[hsp];exact hs,λj z hz=>?_⟩ hk trivial;unfold rM at hz;rw[af]at hz;split at hz
    .rename_i hj;subst hj;cases hz;exact⟨_,O,hO,hnew2,kF (λ_ _ h=>h) hkeep (λb hb=>setRow_other w blk b _ (hneO b (dJ.2 ⟨O,wJ hO,hb⟩))) hr'⟩
    .rename_i hj;obtain⟨es2,O2,hO2,he2,hr2⟩:=hxs j z hz;have hj2:=(ai.1 hz).1;exact⟨_,O2,hO2,(hold j o5 (λe=>hj e.symm)).trans he2,kF (λ_ _ h=>h) hkeep (λb hb=>setRow_other w blk b _ (hneO b (dJ.2 ⟨O2,wJ hO2,hb⟩))) hr2⟩
   .simp only[cond_true];simp only[A8,dh]at hcd;obtain⟨⟨_,hsz1⟩,_⟩:=hcd;have hsz1:=iH hsz1;have fin:∀{S' :Sm} {m' :Mp} {w' :World},Rel X cl ch S' m' ok a w' ->(∀k l,m k=some l->m' k=some l)->(storeVar t ⟨blk,o' +ix*sz+off,none⟩ (a.eval y)).run X.P w= .ok () w' ->jh X cl ch o a w m ok S' :=
     λR' hm' run=>FZ ho hd (by simp[Instr.storeAt,Instr.sureAddr,hx,run]) R' hm' (λ_ _ h=>h)
    split
    .have hv' :a.eval y= .slice none 0 0:=hv;exact PX (Op:=[]) R Tk.nil hi hsz1 hS hm (.inl ⟨rfl,hv',rfl⟩) (λS' m' w' R' h' run=>fin R' h' run)
    .rename_i b2;obtain⟨l2,hm2,hv2⟩:=hv;simp only at hm2;refine bP ?_;refine eH λharr=>jf (bP ?_);split<;>try trivial
     rename_i md2 xs2 hole2 hS2;have T1:=Tk.kill R (T:=[]) Tk.nil b2 (bs:=U7 m b2 (S (Z5+b2))) (λ_ h=>h) (R.nd b2);rw[H9]at T1;refine PX (R.kill b2) T1 hi hsz1 hS2 hm ?_ (λS' m' w' R' h' run=>fin R' h' run);cases hb2:S (Z5+b2)<;>rw[hb2]at harr<;>try cases harr
     .rename_i t2 ys;obtain⟨l',hm',ha'⟩:=R.own_arr hb2;rw[hm2]at hm';cases hm';refine .inr (.inl ⟨t2,ys,l2,rfl,hv2,GN ha',?_⟩);cases l2<;>first|(simp[U7,hm2,Loc.blks];done)|cases ha'
     .rename_i md3 ys hole3;obtain⟨hel3,l',Os,hm',⟨ha',hho⟩,hk'⟩:=R.own_barrs hb2;rw[hm2]at hm';cases hm';rcases hole3 with _|⟨p1,p2,p3⟩
      .refine .inr (.inr ⟨md3,ys,l2,Os,rfl,hel3,hv2,ha',?_⟩);cases l2<;>first|(simp[U7,hm2,Loc.blks,hk'];done)|cases ha'
      .cases harr
    .trivial
end
end Go.GP
namespace Go.GP
variable {α:Type}{t:TypeId}{q:Nat}{sz:Nat}{f:Nat}{P:Program}{j:TI}{x:Operand}{Q:α->Sm->Prop}
section
variable {X:Fx} {cl ch:Nat} {S:Sm} {m:Mp} {ok:Nat->Ty->Prop} {a:Act} {w:World} {o:Oper}
theorem DV(H:FxOk X){t f off n:Nat}{ag:Bool}(h:Hl X.E t f=some (off,n,ag)):
  ∃fields fld j,X.P.underlying t=some (.struct fields)/\fields[f]? =some fld/\fld.offset=off/\TiOk X.P fld.type j/\j.size=n/\n≠0/\ag=bK j.td:=by
 unfold Hl at h;cases hi:dO X.E.tt t with
 |none=>simp[hi]at h|some i=>
  have Hi:=H.tt t i hi;have htd:=Hi.td;simp only[hi]at h;cases hd:i.td<;>simp only[hd]at h<;>try (simp at h;done)
  rename_i fs;rw[hd]at htd;obtain⟨fields,hu,hf⟩:=htd;cases hfs:fs[f]? with
  |none=>simp[hfs]at h|some x=>
   obtain⟨ft,off'⟩:=x;simp only[hfs]at h;cases hj:dO X.E.tt ft with
   |none=>simp[hj]at h|some j=>
    simp only[hj]at h;cases hb:Nat.beq j.size 0
    .simp only[hb,cond_false,F8,jr]at h;obtain⟨rfl,rfl,rfl⟩:=h;rw[←hf]at hfs;simp only[iL,gG]at hfs;obtain⟨fld,hfl,he⟩:=hfs;simp only[jr]at he;obtain⟨rfl,rfl⟩:=he;refine⟨fields,fld,j,hu,by simpa using hfl,rfl,H.tt _ _ hj,rfl,λe=>?_,rfl⟩;rw[e]at hb;simp at hb
    .simp[hb]at h
theorem IJ{t f off:Nat}{fields:Array Field}{fld:Field}(w:World)(hu:P.underlying t=some (.struct fields))(hf:fields[f]? =some fld)(ho:fld.offset=off)
  (hj:TiOk P fld.type j) (hn:j.size≠0) (b p:Nat):(Instr.fieldAt t (.pointer (some ⟨b,p,none⟩)) f).run P w= .ok (.pointer (some ⟨b,p+off,none⟩)) w:=by
 simp[Instr.fieldAt,run_underlying hu,hf,Instr.sureAddr,fieldPlace,qH hj,hn,iG,ho]
theorem WB(H:FxOk X)(R:Rel X cl ch S m ok a w)(ho:o.op= .fieldAddr t x f):(bz X.E q o).post S (λ_ S' =>jh X cl ch o a w m ok S'):=by
 unfold bz;simp only[ho];refine ax R λp hp=>?_;split<;>try trivial
 rename_i off n ag hfo;obtain⟨fields,fld,j,hu,hf,hoff,hj,hn,hn0,_⟩:=DV H hfo;have hj0:j.size≠0:=o5;cases p<;>try trivial
 case ptr bx o' =>obtain⟨blk,h1,h2⟩:=hp;exact aN H R (v:=.ptr bx (o' +off)) ⟨blk,h1,rfl⟩ (by simp[execOp,ho,h2,IJ w hu hf hoff hj hj0])
 case ep bx ix o' =>obtain⟨blk,o2,len,cap,sz,h1,h2,h3⟩:=hp;exact aN H R (v:=.ep bx ix (o' +off)) ⟨blk,o2,len,cap,sz,h1,h2,rfl⟩ (by simp[execOp,ho,h3,IJ w hu hf hoff hj hj0,kP])
 case dp u y o' =>obtain⟨blk,o2,es,h1,h2⟩:=hp;exact aN H R (v:=.dp u y (o' +off)) ⟨blk,o2,es,rfl,h2⟩ (by simp[execOp,ho,h1,IJ w hu hf hoff hj hj0,kP])
theorem a5i(H:FxOk X)(R:Rel X cl ch S m ok a w)(ho:o.op= .field t x f):(bz X.E q o).post S (λ_ S' =>jh X cl ch o a w m ok S'):=by
 unfold bz;simp only[ho];refine ax R λp hp=>?_;split<;>try trivial
 rename_i off n ag hfo;obtain⟨fields,fld,j,hu,hf,hoff,hj,hn,hn0,rfl⟩:=DV H hfo;refine Ag hp λps us hg hl=>yj λhle=>?_;obtain⟨arr,hx,rfl⟩:=hg;have hL:=kw hl;have hlen:((arr.toList.drop off).take n).length=n:=by simp at hL ⊢;omega
 refine aN H R (zO (uT n (sW off hl)) (λha=>by rw[hlen,←hn];exact hj.one ha)) ?_;have hpart:(part fld.type arr off).run X.P w= .ok (Nw (bK j.td) ((arr.toList.drop off).take n)) w:=by
  unfold part;rw[I4,BG hj.td];simp only[I5];cases ha:bK j.td
  .have h1:=hj.one ha;have hlt:off<arr.size:=by simp at hL;omega
   simp only[fD,if_false,Nw];rw[show arr[off]? =some arr[off]from by simp[hlt]];have:n=1:=o5;subst this;simp[List.take_one,hlt]
  .simp only[if_true,Nw,I4,qH hj,I5,hn,V9];congr 2;apply kL;simp[nz]
 simp[execOp,ho,hx,Instr.field,run_underlying hu,hf,asAgg,hoff,hpart]
theorem ES(H:FxOk X){t n sz:Nat}(h:ER X.E t=some (false,n,sz)):∃e j,X.P.underlying t=some (.slice e)/\TiOk X.P e j/\j.size=sz:=by
 unfold ER at h;cases hi:dO X.E.tt t with
 |none=>simp[hi]at h|some i=>
  have htd:=(H.tt t i hi).td;simp only[hi]at h;cases hd:i.td<;>simp only[hd]at h<;>try (simp at h;done)
  .rename_i e;rw[hd]at htd;cases hj:dO X.E.tt e with
   |none=>simp[hj]at h|some j=>simp[hj]at h;exact⟨e,j,htd,H.tt _ _ hj,h.2⟩
  .rename_i l e;cases hj:dO X.E.tt e<;>simp[hj]at h
theorem a_(H:FxOk X){t n sz:Nat}(h:ER X.E t=some (true,n,sz)):∃e j,X.P.underlying t=some (.array n e)/\TiOk X.P e j/\j.size=sz:=by
 unfold ER at h;cases hi:dO X.E.tt t with
 |none=>simp[hi]at h|some i=>
  have htd:=(H.tt t i hi).td;simp only[hi]at h;cases hd:i.td<;>simp only[hd]at h<;>try (simp at h;done)
  .rename_i e;cases hj:dO X.E.tt e<;>simp[hj]at h
  .rename_i l e;rw[hd]at htd;cases hj:dO X.E.tt e with
   |none=>simp[hj]at h|some j=>simp[hj]at h;obtain⟨rfl,h⟩:=h;exact⟨e,j,htd,H.tt _ _ hj,h⟩
theorem yD{l:List α}{n:Int}{y:α}(h:O0 l n=some y):0<=n/\l[n.toNat]? =some y/\n.toNat<l.length/\n<l.length:=by
 unfold O0 at h;split at h
 .rename_i h0;have:=(ai.1 h).1;exact⟨h0,h,this,o5⟩
 .cases h
theorem wu{t e:TypeId}(w:World)(hu:P.underlying t=some (.slice e))(hj:TiOk P e j){k:IntKind}{n:Int}{b p len cap:Nat}(h0:0<=n)(hlt:n<len):
  (Instr.indexAt t (.slice (some ⟨b,p,none⟩) len cap) (.int k n)).run P w= .ok (.pointer (some ⟨b,p+n.toNat*j.size,none⟩)) w:=by
 simp[Instr.indexAt,asIntOf,run_underlying hu,h0,hlt,qH hj,iG]
theorem Nj{t e:TypeId}(w:World){len:Nat}(hu:P.underlying t=some (.array len e))(hj:TiOk P e j){k:IntKind}{n:Int}{b p:Nat}(h0:0<=n)(hlt:n<len):
  (Instr.indexAt t (.pointer (some ⟨b,p,none⟩)) (.int k n)).run P w= .ok (.pointer (some ⟨b,p+n.toNat*j.size,none⟩)) w:=by
 simp[Instr.indexAt,asIntOf,run_underlying hu,h0,hlt,qH hj,iG,Instr.sureAddr]
theorem Fa{w:World}{r:Nat}{es:Array MapEntry}{ck:Nat}(hb:w.heap[r]? =some (.map es ck)):(getObj r).run P w= .ok (.map es ck) w:=by simp[getObj,Sem.run,hb]
theorem AA{u:Ty}(h:szB sz u=true):u.isEnt=false/\sz=u.size:=by
 unfold szB at h;cases hu:u.isEnt<;>rw[hu]at h
 .exact⟨rfl,iH h⟩
 .cases h
theorem a3D{C:Cx}{t:Ty}{xs:List t.den}{l:Loc}{vw:Option (Nat×Nat)}{v:Value}(h0:t.isEnt=false)(ha:arrOk C t xs l)(hv:l.view vw v){i:Nat}{y:t.den}(hy:(jD vw xs)[i]? =some y):
  ∃blk off len cap,l= .arr blk off len cap t.size/\xs[Yk vw+i]? =some y/\∃p c,v= .slice (some ⟨blk,p,none⟩) (jD vw xs).length c/\p+i*t.size=off+(Yk vw+i)*t.size:=by
 cases l with
 |nil=>obtain⟨ha,_⟩:=ha;subst ha;rcases vw with _|⟨lo,hi⟩<;>simp[jD,jY]at hy
 |st b=>cases ha|mp b=>exact absurd ha.1 (by simp[h0])|arr blk off len cap sz=>
  obtain⟨_,rfl,rfl,hc,_⟩:=ha;rcases vw with _|⟨lo,hi⟩
  .simp only[Loc.view]at hv;subst hv;exact⟨blk,off,_,cap,rfl,by simpa[Yk,jD]using hy,off,cap,rfl,by simp[Yk]⟩
  .obtain⟨h1,h2,rfl⟩:=hv;have hl:(jD (some (lo,hi)) xs).length=hi -lo:=by simp[jD,jY];omega
   have hi' :i<hi -lo:=by rw[←hl];exact(ai.1 hy).1
   have hx' :xs[lo+i]? =some y:=by
    simp only[jD,jY,U8,V6]at hy;split at hy
    .exact hy
    .cases hy
   have hne:cap≠lo:=o5;exact⟨blk,off,_,cap,rfl,hx',off+lo*t.size,cap -lo,by rw[hl];simp[hne],by simp[Yk,J3];omega⟩
theorem WC(H:FxOk X)(R:Rel X cl ch S m ok a w){x ix:Operand}(ho:o.op= .indexAddr t x ix):(bz X.E q o).post S (λ_ S' =>jh X cl ch o a w m ok S'):=by
 unfold bz;simp only[ho];refine ax R λu hu=>ax R λv hv=>?_;unfold RY;split<;>try trivial
 ·
  rename_i k n l sz hsz;obtain⟨e,j,hut,hj,hjs⟩:=ES H hsz;have hix:=tq hv;cases u<;>try trivial
  case sl u xs=>refine bM λhb=>fJ λy hy=>?_;obtain⟨hE0,hb'⟩:=AA hb;obtain⟨h0,hget,hlt,hlt'⟩:=yD hy;obtain⟨ad,cap,hx,hc,hel⟩:=(xQ hE0).1 hu;simp only[G8,and_true]at hx;obtain⟨blk,off,es,rfl,hok,he,hr⟩:=hel _ y hget;refine aN H R (v:=.dp u y 0) (x:=.pointer (some ⟨blk,off+n.toNat*u.size,none⟩)) ⟨blk,off+n.toNat*u.size,es,rfl,hok,he,hr⟩ ?_;simp[execOp,ho,hx,hix,wu w hut hj h0 hlt',hjs,hb']
  case own bx vw=>
   obtain⟨loc,hm,hview⟩:=hu;refine bP ?_;split
   .rename_i ln sz' hSl;split<;>try trivial
    refine eH λhb=>⟨λhin=>?_,λ_=>trivial⟩;have hb' :=iH hb;have hin' :=of_decide_eq_true (show decide (0<=n/\n<ln)=true from hin);have hbx:=R.box (JY+bx);rw[hSl]at hbx;obtain⟨k',l',e,hm',hl⟩:=hbx;have e' :k' =bx:=o5;subst e';simp only at hm hm';rw[hm]at hm';cases hm';cases loc with
    |nil=>simp only at hl;omega|st b=>cases hl|mp b=>cases hl|arr blk off len cap sz2=>obtain⟨rfl,rfl⟩:=hl;simp only[Loc.view]at hview;refine aN H R (v:=.ep k' (bH n) 0) (x:=.pointer (some ⟨blk,off+n.toNat*sz',none⟩)) ⟨blk,off,len,cap,sz',hm,by unfold bH;omega,rfl⟩ ?_;simp[execOp,ho,hview,hix,wu w hut hj hin'.1 hin'.2,hjs,hb']
   refine bP ?_;split<;>try trivial
   .rename_i u xs hS;refine bM λhb=>fJ λy hy=>?_;obtain⟨hE0,hb'⟩:=AA hb;obtain⟨h0,hget,hlt,hlt'⟩:=yD hy;obtain⟨loc',hm',ha⟩:=R.own_arr hS;simp only at hm;rw[hm]at hm';cases hm';obtain⟨blk,off,len,cap,rfl,hx2,p,c,hvv,hp⟩:=a3D hE0 ha hview hget;have hlen:=ha.2.2.1;have hlt2:=(ai.1 hx2).1;rw[a8q];refine aN H R (v:=.ep bx (Yk vw+bH n) 0) (x:=.pointer (some ⟨blk,p+n.toNat*u.size,none⟩)) ⟨blk,off,len,cap,u.size,hm,by rw[hlen];exact hlt2,by rw[hp];rfl⟩ ?_;simp[execOp,ho,hvv,hix,wu w hut hj h0 hlt',hjs,hb']
   .rename_i u xs hS;refine bM λhb=>fJ λy hy=>?_;obtain⟨hE0,hb'⟩:=AA hb;obtain⟨h0,hget,hlt,hlt'⟩:=yD hy;obtain⟨loc',hm',ha,hok⟩:=R.own_frz hS;simp only at hm;rw[hm]at hm';cases hm';obtain⟨ad,cap,hx,hc,hel⟩:=(xQ hE0).1 (pG (C:=⟨w.heap,ok,m⟩) ha hview (λ_ _ h=>h) hok);simp only[G8,and_true]at hx;obtain⟨blk,off,es,rfl,hok',he,hr⟩:=hel _ y hget;refine aN H R (v:=.dp u y 0) (x:=.pointer (some ⟨blk,off+n.toNat*u.size,none⟩)) ⟨blk,off+n.toNat*u.size,es,rfl,hok',he,hr⟩ ?_;simp[execOp,ho,hx,hix,wu w hut hj h0 hlt',hjs,hb']
   .rename_i md xs hole hS;split<;>try trivial
    refine eH λhb=>fJ λy hy=>?_;have hb' :=iH hb;obtain⟨h0,hget,hlt,hlt'⟩:=yD hy;obtain⟨hel,loc',Os,hm',⟨ha,hho⟩,hk⟩:=R.own_barrs hS;simp only at hm;rw[hm]at hm';cases hm';cases loc with
    |st b=>cases ha|mp b=>cases ha|nil=>obtain⟨e1,_⟩:=ha;subst e1;simp at hlt
    |arr blk off len cap sz' =>obtain⟨rfl,rfl,h3,_⟩:=ha;simp only[Loc.view]at hview;refine aN H R (v:=.ep bx (bH n) 0) (x:=.pointer (some ⟨blk,off+n.toNat*md.size,none⟩)) ⟨blk,off,xs.length,cap,md.size,hm,hlt,rfl⟩ ?_;simp[execOp,ho,hview,hix,wu w hut hj h0 hlt',hjs,hb']
 ·
  rename_i k n l sz hsz;obtain⟨e,j,hut,hj,hjs⟩:=a_ H hsz;have hix:=tq hv;cases u<;>try trivial
  case glob g=>
   cases hg:dO X.E.gl g with
   |none=>simp only[hg];trivial|some p=>
   obtain⟨u,xs⟩:=p;simp only[hg];refine bM λhb=>fJ λy hy=>?_;simp only[A8]at hb;have hb1:=iH hb.1;have hb2:=iH hb.2;obtain⟨h0,hget,hlt,hlt'⟩:=yD hy;obtain⟨hok,_,hel⟩:=R.gl g _ hg;obtain⟨es,he,hr⟩:=hel _ y hget;have hx:a.eval x= .pointer (some ⟨g,0,none⟩):=hu;refine aN H R (v:=.dp u y 0) (x:=.pointer (some ⟨g,0+n.toNat*u.size,none⟩)) ⟨g,n.toNat*u.size,es,D5,hok,he,hr⟩ ?_;have:=Nj w hut hj (k:=k) (b:=g) (p:=0) h0 (by rw[hb2];exact hlt');simp only[hjs,hb1]at this;simp[execOp,ho,hx,hix,this]
  case ptr bx off=>refine⟨λhin=>?_,λ_=>trivial⟩;have hin' :=of_decide_eq_true (show decide (0<=n/\n<(l:Int))=true from hin);obtain⟨blk,hm,hx⟩:=hu;refine aN H R (v:=.ptr bx (off+bH n*sz)) (x:=.pointer (some ⟨blk,off+n.toNat*sz,none⟩)) ⟨blk,hm,rfl⟩ ?_;have:=Nj w hut hj (k:=k) (b:=blk) (p:=off) hin'.1 hin'.2;simp only[hjs]at this;simp[execOp,ho,hx,hix,this]
theorem Sj(R:Rel X cl ch S m ok a w){sz fo:Nat}{c:V}{u:Value}(hu:uM ⟨w.heap,ok,m⟩ c u){K:V->Cmd α}
  (hK:∀r y,lu ⟨w.heap,ok,m⟩ r y->(∃b bo n k,u= .slice (some ⟨b,bo,none⟩) n k/\0<=L6 .i64 (n:Int) 1/\L6 .i64 (n:Int) 1<(n:Int)/\y= .pointer (some ⟨b,bo+(L6 .i64 (n:Int) 1).toNat*sz+fo,none⟩))->(K r).post S Q):
  (a1r sz fo c K).post S Q:=by
 unfold a1r;split<;>try trivial
 .rename_i u' xs;refine bM λhb=>fJ λy hy=>?_;obtain⟨hE0,hb'⟩:=AA hb;obtain⟨h0,hget,hlt,hlt'⟩:=yD hy;obtain⟨ad,cap,hx,hc,hel⟩:=(xQ hE0).1 hu;simp only[G8,and_true]at hx;obtain⟨blk,off,es,rfl,hok,he,hr⟩:=hel _ y hget;refine hK (.dp u' y fo) _ ⟨blk,off+(L6 .i64 (x8 xs) 1).toNat*u'.size,es,rfl,hok,he,hr⟩ ⟨blk,off,xs.length,cap,hx,h0,hlt',?_⟩;rw[hb'];rfl
 .rename_i bx;obtain⟨loc,hm,hview⟩:=hu;refine bP ?_;split
  .rename_i ln sz' hSl;refine eH λhb=>⟨λhin=>?_,λ_=>trivial⟩;have hb' :=iH hb;have hin' :=of_decide_eq_true (show decide (0<=L6 .i64 ln 1/\L6 .i64 ln 1<ln)=true from hin);have hbx:=R.box (JY+bx);rw[hSl]at hbx;obtain⟨k',l',e,hm',hl⟩:=hbx;have e' :k' =bx:=o5;subst e';simp only at hm hm';rw[hm]at hm';cases hm';cases loc with
   |nil=>simp only at hl;omega|st b=>cases hl|mp b=>cases hl|arr blk off len cap sz2=>obtain⟨rfl,rfl⟩:=hl;simp only[Loc.view]at hview;refine hK (.ep k' (bH (L6 .i64 (len:Int) 1)) fo) (.pointer (some ⟨blk,off+(L6 .i64 (len:Int) 1).toNat*sz' +fo,none⟩)) ⟨blk,off,len,cap,sz',hm,by unfold bH;omega,rfl⟩ ⟨blk,off,len,cap,hview,hin'.1,hin'.2,?_⟩;rw[hb']
  refine bP ?_;split<;>try trivial
  .rename_i u xs hS;refine bM λhb=>fJ λy hy=>?_;obtain⟨hE0,hb'⟩:=AA hb;obtain⟨h0,hget,hlt,hlt'⟩:=yD hy;obtain⟨loc',hm',ha⟩:=R.own_arr hS;simp only at hm;rw[hm]at hm';cases hm';cases loc with
   |nil=>obtain⟨e1,_⟩:=ha;subst e1;simp at hlt
   |st b=>cases ha|mp b=>rw[ha.1]at hE0;cases hE0|arr blk off len cap sz2=>obtain⟨_,rfl,rfl,_⟩:=ha;simp only[Loc.view]at hview;refine hK (.ep bx (bH (L6 .i64 (x8 xs) 1)) fo) (.pointer (some ⟨blk,off+(L6 .i64 (x8 xs) 1).toNat*u.size+fo,none⟩)) ⟨blk,off,xs.length,cap,u.size,hm,hlt,rfl⟩ ⟨blk,off,xs.length,cap,hview,h0,hlt',?_⟩;rw[hb'];rfl
  .rename_i u xs hS;refine bM λhb=>fJ λy hy=>?_;obtain⟨hE0,hb'⟩:=AA hb;obtain⟨h0,hget,hlt,hlt'⟩:=yD hy;obtain⟨loc',hm',ha,hok⟩:=R.own_frz hS;simp only at hm;rw[hm]at hm';cases hm';obtain⟨ad,cap,hx,hc,hel⟩:=(xQ hE0).1 (pG (C:=⟨w.heap,ok,m⟩) (vw:=none) ha hview (λ_ _ h=>h) hok);simp only[G8,and_true]at hx;obtain⟨blk,off,es,rfl,hok',he,hr⟩:=hel _ y hget;refine hK (.dp u y fo) _ ⟨blk,off+(L6 .i64 (x8 xs) 1).toNat*u.size,es,rfl,hok',he,hr⟩ ⟨blk,off,xs.length,cap,hx,h0,hlt',?_⟩;rw[hb'];rfl
  .rename_i md xs hole hS;refine eH λhb=>fJ λy hy=>?_;have hb' :=iH hb;obtain⟨h0,hget,hlt,hlt'⟩:=yD hy;obtain⟨hel,loc',Os,hm',⟨ha,hho⟩,hk⟩:=R.own_barrs hS;simp only at hm;rw[hm]at hm';cases hm';cases loc with
   |st b=>cases ha|mp b=>cases ha|nil=>obtain⟨e1,_⟩:=ha;subst e1;simp at hlt
   |arr blk off len cap sz' =>obtain⟨rfl,rfl,h3,_⟩:=ha;simp only[Loc.view]at hview;refine hK (.ep bx (bH (L6 .i64 (x8 xs) 1)) fo) (.pointer (some ⟨blk,off+(L6 .i64 (x8 xs) 1).toNat*md.size+fo,none⟩)) ⟨blk,off,xs.length,cap,md.size,hm,hlt,rfl⟩ ⟨blk,off,xs.length,cap,hview,h0,hlt',?_⟩;rw[hb'];rfl
theorem PR{C:Cx}{c:V}{vs:List Value}(h:gu C [c] vs):∃v,vs=[v]/\uM C c v:=by obtain⟨v,r,rfl,h1,h2,h3⟩:=h;simp only[gu]at h3;subst h3;exact⟨v,rfl,h1⟩
theorem KP(R:Rel X cl ch S m ok a w){off sz fo:Nat}{p:V}{x:Value}(hp:lu ⟨w.heap,ok,m⟩ p x){K:V->Cmd α}
  (hK:∀r y,lu ⟨w.heap,ok,m⟩ r y->JZ w.heap x off sz fo y->(K r).post S Q):(YF off sz fo p K).post S Q:=by
 unfold YF;split<;>try trivial
 .rename_i bx o;obtain⟨blk,hm,rfl⟩:=hp;refine bP ?_;split<;>try trivial
  rename_i cs hS;obtain⟨blk',arr,T,hm',hh,hl⟩:=R.own_cells hS;simp only at hm;rw[hm]at hm';cases hm';refine yj λhle=>?_;have hlen:=kw hl;have e:=jO hh (o+off) 1 (by simp at hlen;omega);have hl1:=uT 1 (sW (o+off) hl);split<;>try trivial
  rename_i c hc;rw[hc]at hl1;obtain⟨u,hu,hr⟩:=PR hl1;rw[hu]at e;refine Sj R hr λr y h1 ⟨b,bo,n,k,h2,h3,h4,h5⟩=>hK r y h1 ⟨blk,o,b,bo,n,k,rfl,by rw[e,h2],h3,h4,h5⟩
 .rename_i t z o;obtain⟨blk,o',es,rfl,hb,he,hr⟩:=hp;refine yj λhle=>?_;rw[oh]at hle;have e:=xU he (o+off) 1 hle;have hl1:=uT 1 (sW (o+off) (qm (C:=⟨w.heap,ok,m⟩) hr));split<;>try trivial
  rename_i c hc;rw[hc]at hl1;obtain⟨u,hu,hr⟩:=PR hl1;rw[hu]at e;refine Sj R hr λr y h1 ⟨b,bo,n,k,h2,h3,h4,h5⟩=>hK r y h1 ⟨blk,o' +o,b,bo,n,k,rfl,by rw[kP,e,h2],h3,h4,h5⟩
theorem Yv{C:Cx} :∀{vs:List V} {xs:List Value} (k:Nat),iU C vs xs->a8F vs k= .un\/∃x,xs[k]? =some x/\lu C (a8F vs k) x
 |[],_,k,_=> .inl (by cases k<;>rfl)|v::r,_,0,⟨x,xr,e,h1,h2⟩=> .inr ⟨x,by subst e;rfl,h1⟩|v::r,_,k+1,⟨x,xr,e,h1,h2⟩=>by subst e;rw[pF];exact Yv k h2
theorem a4d(R:Rel X cl ch S m ok a w){all:List V}{xall:List Value}(hall:iU ⟨w.heap,ok,m⟩ all xall):∀(ms:List MG) {vs:List V} {xs:List Value} {K:Cmd α}
  (hv:iU ⟨w.heap,ok,m⟩ vs xs) (hK:a2o w.heap xall ms xs->K.post S Q),(dvC all ms vs K).post S Q:=by
 intro ms;induction ms with
 |nil=>
  intro vs xs K hv hK;cases vs with
  |nil=>exact hK trivial|cons v vs=>trivial
 |cons md ms ih=>
  intro vs xs K hv hK;obtain⟨g,md⟩:=md;cases vs with
  |nil=>cases md<;>trivial|cons v vs=>
   obtain⟨x,r,rfl,h1,h2⟩:=hv;cases md
   case dv k off sz fo=>
    unfold dvC;rcases Yv k hall with e|⟨p,hp,hr⟩
    .rw[e];trivial
    .refine KP R hr λr0 y h3 h4=>?_;unfold b3A;split<;>try trivial
     rename_i n i o n' i' o';refine bM λhb=>⟨λhi=>?_,λ_=>trivial⟩;simp only[A8]at hb;have e1:=iH hb.1;have e2:=iH hb.2;have e3:=iH hi;subst e1;subst e2;subst e3;obtain⟨b1,o1,l1,c1,s1,m1,_,rfl⟩:=h1;obtain⟨b2,o2,l2,c2,s2,m2,_,rfl⟩:=h3;simp only at m1 m2;rw[m1]at m2;cases m2;exact ih h2 λhd=>hK ⟨⟨p,hp,h4⟩,hd⟩
   all_goals
    unfold dvC;exact ih h2 λhd=>hK hd
theorem a4J{α β:Type}{f:α->β}{args:Array α}{u:β}(h:args.toList.map f=[u]):∃y,args=#[y]/\f y=u:=by obtain⟨l⟩:=args;simp only[List.map_eq_cons_iff,List.map_eq_nil_iff]at h;obtain⟨y,r,h1,h2,h3⟩:=h;subst h3;exact⟨y,by rw[h1],h2⟩
theorem Sr{α β:Type}{f:α->β}{args:Array α}{u v:β}(h:args.toList.map f=[u,v]):∃y z,args=#[y,z]/\f y=u/\f z=v:=by obtain⟨l⟩:=args;simp only[List.map_eq_cons_iff,List.map_eq_nil_iff]at h;obtain⟨y,r,h1,h2,z,r',h3,h4,h5⟩:=h;subst h5;subst h3;exact⟨y,z,by rw[h1],h2,h4⟩
theorem b0Y(H:FxOk X)(R:Rel X cl ch S m ok a w){c:Call}(ho:o.op= .call c)(hc:c.callee= .builtin .len):(bz X.E q o).post S (λ_ S' =>jh X cl ch o a w m ok S'):=by
 obtain⟨cal,args,ats⟩:=c;simp only at hc;subst hc;unfold bz;simp only[ho];refine lM R _ λvs hvs=>?_;split<;>try trivial
 rename_i t rt x hat
 obtain⟨u,r,he,hx,hr⟩:=hvs;simp only[iU]at hr;subst hr;refine kX H λi hi=>?_;have htd:=hi.td;obtain⟨y,rfl,rfl⟩:=a4J he;have h0:ats[0]? =some t:=by
  obtain⟨l⟩:=ats;simp only at hat
  simp[hat]
 have fin:∀(v:V) (n:Nat),lu ⟨w.heap,ok,m⟩ v (.int .i64 n)->(Builtin.len_ ats o.type #[a.eval y]).run X.P w= .ok (.int .i64 n) w->(dZ X.E o.dst v).post S (λ_ S' =>jh X cl ch o a w m ok S'):=λv n hv h=>
  aN H R hv (by simp[execOp,ho,resolve,invoke,builtin,h])
 have mapLen:∀{ke e n:Nat},X.P.underlying t=some (.map ke e)->(∃mv,a.eval y= .map mv/\(mv=none->n=0)/\∀blk,mv=some blk->∃es ck,w.heap[blk]? =some (.map es ck)/\es.size=n)->
   (dZ X.E o.dst (.i .i64 n)).post S (λ_ S' =>jh X cl ch o a w m ok S'):=λ{ke e n} hu ⟨mv,hv,h1,h2⟩=>by
  refine fin _ n rfl ?_;cases mv with
  |none=>rw[h1 rfl];simp[Builtin.len_,h0,run_underlying hu,hv,goInt]|some blk=>obtain⟨es,ck,h3,h4⟩:=h2 blk rfl;simp[Builtin.len_,h0,run_underlying hu,hv,goInt,Fa h3,h4]
 unfold b3G;split<;>try trivial
 .rename_i l htd';rw[htd']at htd;refine fin _ l.length rfl ?_;simp[Builtin.len_,h0,run_underlying (show X.P.underlying t=some .string from htd),Iz hx,goInt];rfl
 .rename_i e u xs htd';rw[htd']at htd;cases hE0:u.isEnt
  .simp only[cond_false];obtain⟨ad,cap,hv,_⟩:=(xQ hE0).1 hx;simp only[G8,and_true]at hv;refine fin _ xs.length rfl ?_;simp[Builtin.len_,h0,run_underlying (show X.P.underlying t=some (.slice e)from htd),hv,goInt]
  .trivial
 .rename_i ke e u xs htd';rw[htd']at htd;cases hE0:u.isEnt
  .trivial
  .simp only[cond_true];refine mapLen htd ?_;obtain⟨mv,hv,h1,h2⟩:=(X_ hE0).1 hx;exact⟨mv,by simpa using hv,(λe=>by simp[h1 e]),λblk hb=>by obtain⟨_,es,ck,h3,h4,_⟩:=h2 blk hb;exact⟨es,ck,h3,h4⟩⟩
 .rename_i ke e bx htd';rw[htd']at htd;obtain⟨loc,hm,hview⟩:=hx;simp only at hm;refine bP ?_;have key:∀{u:Ty} {xs:List u.den},u.isEnt=true->arrOk ⟨w.heap,ok,m⟩ u xs loc->(dZ X.E o.dst (.i .i64 (x8 xs))).post S (λ_ S' =>jh X cl ch o a w m ok S'):=λ{u xs} hE0 ha=>by
   refine mapLen htd ?_;cases loc with
   |nil=>exact absurd ha.2 (by simp[hE0])|st b=>cases ha|arr blk off len cap sz=>exact absurd ha.1 (by simp[hE0])|mp b=>simp only[Loc.view]at hview;obtain⟨_,es,ck,h3,h4,_⟩:=ha;exact⟨some b,hview,(λh=>nomatch h),λblk hb=>by cases hb;exact⟨es,ck,h3,h4⟩⟩
  split<;>try trivial
  .rename_i u xs hS;obtain⟨loc',hm',ha⟩:=R.own_arr hS;rw[hm]at hm';cases hm';cases hE0:u.isEnt
   .trivial
   .exact key hE0 ha
  .rename_i u xs hS;obtain⟨loc',hm',ha,_⟩:=R.own_frz hS;rw[hm]at hm';cases hm';cases hE0:u.isEnt
   .trivial
   .exact key hE0 ha
 .rename_i e htd';rw[htd']at htd;have hv:a.eval y= .slice none 0 0:=hx;refine fin _ 0 rfl ?_;simp[Builtin.len_,h0,run_underlying (show X.P.underlying t=some (.slice e)from htd),hv,goInt]
 .rename_i e bx vw htd';rw[htd']at htd;obtain⟨loc,hm,hview⟩:=hx;refine bP ?_;split
  .rename_i ln sz' hSl;split<;>try trivial
   have hbx:=R.box (JY+bx);rw[hSl]at hbx;obtain⟨k',l',e',hm',hl⟩:=hbx;have e2:k' =bx:=o5;subst e2;simp only at hm hm';rw[hm]at hm';cases hm';cases loc with
   |nil=>simp only at hl;subst hl;simp only[Loc.view]at hview;refine fin _ 0 rfl ?_;simp[Builtin.len_,h0,run_underlying (show X.P.underlying t=some (.slice e)from htd),hview,goInt]|st b=>cases hl|mp b=>cases hl|arr blk off len cap sz2=>obtain⟨rfl,rfl⟩:=hl;simp only[Loc.view]at hview;refine fin _ len rfl ?_;simp[Builtin.len_,h0,run_underlying (show X.P.underlying t=some (.slice e)from htd),hview,goInt]
  refine bP ?_;have key:∀{u:Ty} {xs:List u.den},u.isEnt=false->arrOk ⟨w.heap,ok,m⟩ u xs loc->(dZ X.E o.dst (.i .i64 (x8 (jD vw xs)))).post S (λ_ S' =>jh X cl ch o a w m ok S'):=λ{u xs} hE0 ha=>by obtain⟨ad,cap,hv,_⟩:=(xQ hE0).1 (pG (C:=⟨w.heap,ok,m⟩) (ok' :=λ_ _=>True) ha hview (λ_ _ _=>trivial) (λ_ _=>trivial));simp only[G8,and_true]at hv;refine fin _ (jD vw xs).length rfl ?_;simp[Builtin.len_,h0,run_underlying (show X.P.underlying t=some (.slice e)from htd),hv,goInt]
  split<;>try trivial
  .rename_i u xs hS;obtain⟨loc',hm',ha⟩:=R.own_arr hS;simp only at hm;rw[hm]at hm';cases hm';cases hE0:u.isEnt
   .exact key hE0 ha
   .trivial
  .rename_i u xs hS;obtain⟨loc',hm',ha,_⟩:=R.own_frz hS;simp only at hm;rw[hm]at hm';cases hm';cases hE0:u.isEnt
   .exact key hE0 ha
   .trivial
  .rename_i md xs hole hS;split<;>try trivial
   obtain⟨hel,loc',Os,hm',⟨ha,hho⟩,hk⟩:=R.own_barrs hS;simp only at hm;rw[hm]at hm';cases hm';cases loc with
   |st b=>cases ha|mp b=>cases ha|nil=>obtain⟨e1,_⟩:=ha;subst e1;simp only[Loc.view]at hview;refine fin _ 0 rfl ?_;simp[Builtin.len_,h0,run_underlying (show X.P.underlying t=some (.slice e)from htd),hview,goInt]
   |arr blk off len cap sz' =>obtain⟨rfl,rfl,h3,_⟩:=ha;simp only[Loc.view]at hview;refine fin _ xs.length rfl ?_;simp[Builtin.len_,h0,run_underlying (show X.P.underlying t=some (.slice e)from htd),hview,goInt]
theorem Vp(H:FxOk X)(R:Rel X cl ch S m ok a w){c:Call}(ho:o.op= .call c)(hc:c.callee= .builtin .min\/c.callee= .builtin .max):(bz X.E q o).post S (λ_ S' =>jh X cl ch o a w m ok S'):=by
 obtain⟨cal,args,ats⟩:=c;simp only at hc;rcases hc with rfl|rfl
 all_goals
  unfold bz;simp only[ho];refine lM R _ λvs hvs=>?_;split<;>try trivial
  rename_i k p k' r;obtain⟨u,r',he,hx,v,r'',he',hy,hr⟩:=hvs;simp only[iU]at hr;subst hr;rw[he']at he;refine bM λhk=>?_;have hk' :k=k' :=of_decide_eq_true hk;subst hk';obtain⟨y,z,rfl,rfl,rfl⟩:=Sr he
 .refine aN H R (v:=.i k (zk p r)) rfl ?_;simp[execOp,ho,resolve,invoke,builtin,Builtin.min_,Builtin.min2,tq hx,tq hy,zk]
 .refine aN H R (v:=.i k (zi p r)) rfl ?_;simp[execOp,ho,resolve,invoke,builtin,Builtin.max_,Builtin.max2,tq hx,tq hy,zi]
end
end Go.GP
