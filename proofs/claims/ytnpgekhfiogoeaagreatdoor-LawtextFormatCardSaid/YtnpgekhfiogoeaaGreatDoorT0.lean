import Derived.ProofKit
import Derived.Below
import Derived.Laws.CopyRow
import Derived.Laws.BytesArg
import Derived.Laws.Cells
import Derived.Laws.Append
import Derived.Laws.Strings
import Derived.Lib.SmallJoins
set_option linter.all false
namespace Go.GP
variable {p:Prop}
theorem o5(h:p:=by omega):p:=h
theorem x9(h:p:=by simp):p:=h
theorem J3(h:p:=by decide):p:=h
theorem G6(h:p:=by simp;omega):p:=h
theorem F9:True:=trivial
def U4:=@List.take_succ_eq_append_getElem
def X7:=@List.take_append_of_le_length
def jF:=@Array.getElem?_setIfInBounds
def W9:=@Array.getD_eq_getD_getElem?
def J7:=@Array.getElem?_eq_some_iff
def kz:=@Array.toList_setIfInBounds
def I5:=@List.getElem?_append_right
def gU:=@Array.getElem?_append_left
def U0:=@List.getElem?_append_left
def cZ:=@List.drop_eq_getElem_cons
def kP:=@List.extract_eq_take_drop
def N9:=@Array.getElem?_eq_getElem
def dJ:=@List.getElem?_take_of_lt
def bM:=@List.getElem?_cons_zero
def mf:=@List.getElem?_cons_succ
def ai:=@List.length_eq_zero_iff
def ed:=@Option.map_eq_some_iff
def aT:=@List.drop_eq_nil_of_le
def P9:=@List.take_of_length_le
def jM:=@List.mem_append_right
def nZ:=@List.Perm.append_left
def gX:=@List.perm_append_comm
def U6:=@Nat.le_of_ble_eq_true
def X5:=@Array.getElem?_toList
def eX:=@List.take_append_drop
def og:=@List.set_append_right
def jK:=@Array.getElem?_modify
def gV:=@List.getElem?_eq_none
def dA:=@List.length_filter_le
def jL:=@List.findSome?_append
def eU:=@List.length_singleton
def fK:=@List.mem_append_left
def O9:=@List.mem_cons_of_mem
def D7:=@Nat.mul_le_mul_right
def oJ:=@List.replicate_succ'
def oI:=@List.mem_of_mem_take
def oK:=@MapKept.run_checkKey
def kZ:=@Value.pointer.injEq
def jg:=@List.flatten_append
def af:=@List.getElem_of_mem
def ae:=@Array.length_toList
def fZ:=@List.map_congr_left
def fV:=@Int.toNat_of_nonneg
def D8:=@List.length_append
def U2:=@List.getElem?_drop
def U3:=@List.getElem?_take
def gI:=@List.mem_cons_self
def gJ:=@List.mem_singleton
def dI:=@Bool.false_eq_true
def gK:=@Nat.eq_zero_or_pos
def eY:=@List.zip_cons_cons
def fA:=@Nat.lt_of_lt_of_le
def U5:=@List.pairwise_cons
def X0:=@List.nodup_append
def bg:=@Bool.not_eq_true'
def E8:=@List.append_assoc
def E5:=@Option.some.injEq
def nG:=@Value.slice.injEq
def G9:=@Result.andThen_ok
def dV:=@List.ext_getElem?
def Y2:=@List.getElem?_set
def aj:=@List.size_toArray
def fP:=@List.getElem?_map
def nC:=@List.zip_nil_left
def nz:=@Function.comp_def
def fQ:=@List.length_range
def Y1:=@Int.toNat_natCast
def iG:=@List.any_eq_false
def ny:=@Bool.not_eq_false
def bJ:=@List.mem_flatten
def A7:=@Bool.and_eq_true
def L8:=@List.cons_append
def D9:=@List.length_cons
def kG:=@Array.toList_map
def kH:=@List.ext_getElem
def kJ:=@List.range'_succ
def bI:=@List.length_take
def dF:=@List.take_length
def jd:=@List.length_drop
def je:=@Nat.le_add_right
def jb:=@List.all_eq_true
def O5:=@List.getElem_mem
def gq:=@Option.bind_some
def Z5:=@Option.getD_some
def aQ:=@List.not_mem_nil
def jc:=@List.filter_cons
def yu:=@List.drop_length
def rW:=@Bool.not_eq_true
def oG:=@List.any_eq_true
def O8:=@List.mem_append
def F6:=@List.append_nil
def bu:=@Nat.le_max_left
def F7:=@List.nil_append
def F8:=@List.cons.injEq
def lF:=@Oper.upon_value
def jy:=@Bool.eq_iff_iff
def L6:=@List.length_nil
def bZ:=@List.nodup_cons
def bz:=@Nat.min_eq_left
def gW:=@List.map_append
def V7:=@List.foldl_cons
def X6:=@List.length_map
def Y8:=@Option.map_some
def fH:=@List.range_succ
def lC:=@Bool.or_eq_true
def pz:=@List.mem_filter
def tJ:=@Option.some.inj
def tH:=@List.any_append
def gm:=@List.drop_take
def eP:=@List.take_take
def V6:=@List.drop_drop
def bU:=@List.nodup_nil
def jY:=@List.drop_zero
def eH:=@List.mem_range
def A8:=@List.mem_cons
def dY:=@Nat.add_assoc
def jm:=@List.map_cons
def fO:=@Addr.mk.injEq
def P8:=@List.cons.inj
def oh:=@Nat.lt_irrefl
def jo:=@Prod.mk.injEq
def kN:=@Bool.true_and
def qP:=@List.any_cons
def jl:=@Bool.not_true
def kM:=@Bool.false_or
def gy:=@Nat.sub_self
def U7:=@Sem.run_pure
def G8:=@Sem.run_bind
def aC:=@Nat.add_zero
def fC:=@Addr.add_lit
def bH:=@Nat.zero_add
def iU:=@List.mem_map
def aU:=@Nat.le_trans
def F5:=@Nat.le_refl
def I7:=@Nat.add_mul
def fB:=@Nat.zero_le
def bG:=@Nat.mul_one
def Y3:=@Nat.one_mul
def yF:=@Int.le_refl
def dh:=@Nat.blt_eq
def jk:=@Array.ext'
def rF:=@Int.not_lt
def rE:=@Int.not_le
def uY:=@Prod.ext
variable {i:Nat}
theorem ax{α:Type _}{l:List α}{a:α} :l[i]? =some a↔∃h:i<l.length,l[i]=a:=List.getElem?_eq_some_iff
theorem lw{α:Type _}{l:List α}(h:i<l.length):l[i]? =some l[i]:=List.getElem?_eq_getElem h
theorem fG{n m:Nat}(h:Nat.beq n m=true):n=m:=Nat.eq_of_beq_eq_true h
theorem mJ{α:Type _}{l:List α}{a:α}(h:l[i]? =some a):a∈l:=List.mem_of_getElem? h
theorem Me{α:Type _}{l:List α}{a:α} :l.getD i a=l[i]?.getD a:=List.getD_eq_getElem?_getD
universe u
set_option linter.unusedVariables false
inductive Ty where
 |bool|int (k:IntKind)|str|sl (t:Ty)|prod (a b:Ty)|unit|ent (ka va:Bool) (k v:Ty)|any (o:Option IntKind)
def tbb(a b:Bool):Bool:=bif a then b else !b
theorem r_:∀{a b:Bool},tbb a b=true->a=b:=by decide
theorem Yh:∀(a:Bool),tbb a a=true:=by decide
def Ty.beq:Ty->Ty->Bool
 | .bool,b=>match b with| .bool=>true|_=>false
 | .int k,b=>match b with| .int k' =>decide (k=k')|_=>false
 | .str,b=>match b with| .str=>true|_=>false
 | .sl t,b=>match b with| .sl u=>Ty.beq t u|_=>false
 | .prod p q,b=>match b with| .prod p' q' =>bif Ty.beq p p' then Ty.beq q q' else false|_=>false
 | .unit,b=>match b with| .unit=>true|_=>false
 | .any o,b=>match b with| .any o' =>decide (o=o')|_=>false
 | .ent x y p q,b=>match b with| .ent x' y' p' q' =>bif tbb x x' &&tbb y y' then(bif Ty.beq p p' then Ty.beq q q' else false)else false|_=>false
theorem Ty.beq_eq:∀{a b:Ty},Ty.beq a b=true->a=b
 | .bool,b,h=>by cases b<;>first|rfl|cases h
 | .int k,b,h=>by cases b<;>first|(cases h;done)|(rename_i k';have:=of_decide_eq_true (show decide (k=k')=true from h);subst this;rfl)
 | .str,b,h=>by cases b<;>first|rfl|cases h
 | .sl t,b,h=>by cases b<;>first|(cases h;done)|(rename_i u;have:=Ty.beq_eq (show Ty.beq t u=true from h);subst this;rfl)
 | .prod p q,b,h=>by
  cases b<;>try (cases h;done)
  rename_i p' q';cases hp:Ty.beq p p'
  .have h' :(bif Ty.beq p p' then Ty.beq q q' else false)=true:=h;rw[hp]at h';cases h'
  .have h' :(bif Ty.beq p p' then Ty.beq q q' else false)=true:=h;rw[hp]at h';rw[Ty.beq_eq hp,Ty.beq_eq (show Ty.beq q q' =true from h')]
 | .unit,b,h=>by cases b<;>first|rfl|cases h
 | .any o,b,h=>by cases b<;>first|(cases h;done)|(rename_i o';have:=of_decide_eq_true (show decide (o=o')=true from h);subst this;rfl)
 | .ent x y p q,b,h=>by
  cases b<;>try (cases h;done)
  rename_i x' y' p' q';have h0:(bif tbb x x' &&tbb y y' then(bif Ty.beq p p' then Ty.beq q q' else false)else false)=true:=h;cases hx:tbb x x'<;>cases hy:tbb y y'<;>rw[hx,hy]at h0<;>try (cases h0;done)
  cases hp:Ty.beq p p'<;>rw[hp]at h0
  .cases h0
  .rw[r_ hx,r_ hy,Ty.beq_eq hp,Ty.beq_eq (show Ty.beq q q' =true from h0)]
theorem Ty.beq_refl:∀(a:Ty),Ty.beq a a=true
 | .bool=>rfl| .int k=>by show decide (k=k)=true;simp| .str=>rfl| .sl t=>Ty.beq_refl t| .prod p q=>by show(bif Ty.beq p p then Ty.beq q q else false)=true;rw[Ty.beq_refl p,Ty.beq_refl q];rfl| .unit=>rfl| .any o=>by show decide (o=o)=true;simp| .ent x y p q=>by show(bif tbb x x&&tbb y y then(bif Ty.beq p p then Ty.beq q q else false)else false)=true;rw[Yh,Yh,Ty.beq_refl p,Ty.beq_refl q];rfl
instance:DecidableEq Ty:=λa b=>match h:Ty.beq a b with
 |true=> .isTrue (Ty.beq_eq h)|false=> .isFalse (λe=>by subst e;rw[Ty.beq_refl]at h;cases h)
@[reducible] def Ty.den:Ty->Type
 | .bool=>Bool| .int _=>Int| .str=>List UInt8| .sl t=>List t.den| .prod a b=>a.den×b.den| .unit=>Unit| .any _=>Unit| .ent _ _ a b=>a.den×b.den
def Ty.isEnt:Ty->Bool| .ent ..=>true|_=>false
def Ty.size:Ty->Nat
 | .bool| .int _| .str| .sl _=>1| .prod a b=>a.size+b.size| .unit=>0| .any _=>1| .ent _ _ a b=>a.size+b.size
def Ty.flat:Ty->Bool
 | .bool| .int _| .str| .unit=>true| .sl _=>false| .prod a b=>a.flat&&b.flat
 | .ent ..=>false| .any _=>false
def Ty.zero:(t:Ty)->t.den
 | .bool=>false| .int _=>(0:Int)| .str=>[]| .sl _=>[]| .prod a b=>(a.zero,b.zero)| .unit=>()| .any _=>()| .ent _ _ a b=>(a.zero,b.zero)
inductive M where
 |dat (t:Ty)|own (t:Ty)|pair (a b:M)|unit|box (m:M)
 |owns (el:M)|ownb (t:Ty)|rp (t:Ty)|fn (f:Nat) (ts:List Ty)|ifc (t:Nat) (m:M)|cell (n:Option (Option Bool))|fr (t:Ty)|sbx (tb te:Nat)|sit|lp (t:Ty)|dv (k off sz fo:Nat)
def M.beq:M->M->Bool
 | .dat t,b=>match b with| .dat u=>Ty.beq t u|_=>false
 | .own t,b=>match b with| .own u=>Ty.beq t u|_=>false
 | .pair p q,b=>match b with| .pair p' q' =>bif M.beq p p' then M.beq q q' else false|_=>false
 | .unit,b=>match b with| .unit=>true|_=>false
 | .owns m,b=>match b with| .owns m' =>M.beq m m'|_=>false
 |_,_=>false
theorem M.beq_eq:∀{a b:M},M.beq a b=true->a=b
 | .dat t,b,h=>by cases b<;>first|(cases h;done)|(rename_i u;have:=Ty.beq_eq (show Ty.beq t u=true from h);subst this;rfl)
 | .own t,b,h=>by cases b<;>first|(cases h;done)|(rename_i u;have:=Ty.beq_eq (show Ty.beq t u=true from h);subst this;rfl)
 | .pair p q,b,h=>by
  cases b<;>try (cases h;done)
  rename_i p' q';cases hp:M.beq p p'
  .have h' :(bif M.beq p p' then M.beq q q' else false)=true:=h;rw[hp]at h';cases h'
  .have h' :(bif M.beq p p' then M.beq q q' else false)=true:=h;rw[hp]at h';rw[M.beq_eq hp,M.beq_eq (show M.beq q q' =true from h')]
 | .unit,b,h=>by cases b<;>first|rfl|cases h
 | .owns m,b,h=>by cases b<;>first|(cases h;done)|(rename_i u;have:=M.beq_eq (show M.beq m u=true from h);subst this;rfl)
 | .box _,b,h=>by cases h| .ownb _,b,h=>by cases h| .rp _,b,h=>by cases h| .fn _ _,b,h=>by cases h| .ifc _ _,b,h=>by cases h| .cell _,b,h=>by cases h| .fr _,b,h=>by cases h| .sbx _ _,b,h=>by cases h| .lp _,b,h=>by cases h| .dv ..,b,h=>by cases h| .sit,b,h=>by cases h
@[reducible] def Nz:List Ty->Type
 |[]=>Unit|[t]=>t.den|t::t' ::r=>t.den×Nz (t' ::r)
@[reducible] def M.den:M->Type
 | .dat t=>t.den| .own t=>List t.den| .pair a b=>a.den×b.den| .unit=>Unit| .box m=>m.den| .owns el=>List el.den| .ownb t=>List t.den| .rp t=>t.den| .fn _ ts=>Nz ts| .ifc _ m=>m.den| .cell _=>Unit| .fr t=>List t.den| .sbx _ _=>List UInt8| .sit=>List UInt8×Int| .lp t=>t.den| .dv ..=>Unit
def M.size:M->Nat
 | .dat t=>t.size| .own _=>1| .pair a b=>a.size+b.size| .unit=>0| .box _=>1| .owns _| .ownb _| .rp _| .fn _ _| .ifc _ _| .cell _| .fr _| .sbx _ _| .sit| .lp _| .dv ..=>1
def M.el:M->Bool
 | .unit=>true| .dat t| .own t=> !t.isEnt| .owns m=>m.el| .pair a b=>a.el&&b.el|_=>false
def M.ty:M->Ty
 | .dat t=>t| .own t=> .sl t| .owns m=> .sl m.ty| .pair a b=> .prod a.ty b.ty|_=> .unit
theorem M.denEq:∀(m:M),m.el=true->m.den=m.ty.den
 | .dat _,_=>rfl| .own _,_=>rfl| .unit,_=>rfl| .owns m,h=>congrArg List (M.denEq m h)| .pair a b,h=>by
  have h' :a.el=true/\b.el=true:=by simpa[M.el]using h
  show(a.den×b.den)=(a.ty.den×b.ty.den);rw[M.denEq a h'.1,M.denEq b h'.2]
 | .box _,h=>by simp[M.el]at h| .ownb _,h=>by simp[M.el]at h| .rp _,h=>by simp[M.el]at h| .fn _ _,h=>by simp[M.el]at h| .ifc _ _,h=>by simp[M.el]at h| .cell _,h=>by simp[M.el]at h| .fr _,h=>by simp[M.el]at h| .sbx _ _,h=>by simp[M.el]at h| .lp _,h=>by simp[M.el]at h| .dv ..,h=>by simp[M.el]at h| .sit,h=>by simp[M.el]at h
def M.zero:(m:M)->m.el=true->m.den
 |m,h=>cast (M.denEq m h).symm m.ty.zero
abbrev MG:=Bool×M
@[reducible] def X4:List MG->Type
 |[]=>Unit|[m]=>m.2.den|m::m' ::r=>m.2.den×X4 (m' ::r)
inductive V where
 |undef
 |un
 |b (x:Bool)|i (k:IntKind) (n:Int)|s (l:List UInt8)
 |nl
 |sl (t:Ty) (xs:List t.den)
 |own (bx:Nat) (vw:Option (Nat×Nat))
 |ptr (bx off:Nat)
 |ep (bx idx off:Nat)
 |dp (t:Ty) (x:t.den) (off:Nat)
 |agg (cs:List V)|tup (cs:List V)
 |glob (g:Nat)|fnv (f:Nat)|clos (f:Nat) (caps:List ((t:Ty)×t.den))|ifc (t:Nat) (v:V)
 |bcells (cs:List V)|barr (t:Ty) (xs:List t.den)|bfrz (t:Ty) (xs:List t.den)|biter (l:List UInt8) (pos:Int)
 |barrs (el:M) (xs:List el.den) (hole:Option (Nat×Nat×Option Nat))|bfc (t:Ty) (x:t.den)
 |dead|gone (t:Ty)|blen (n:Int) (sz:Nat)
 |ne (b:Bool)
 |npt|bsb (tb:Nat) (c:V)|brow (te:Nat) (xs:List UInt8)
variable {α:Type}{β:Type}
def l9(o:Option α)(f:α->Option β):Option β:=match o with|some x=>f x|none=>none
def l7(b:Bool)(x y:α):α:=match b with|true=>x|false=>y
def H9(a b:Int):Bool:=decide (a<b)
def U1(a b:Int):Bool:=decide (a<=b)
def C9(a b:Int):Bool:=decide (a=b)
def PO(a b:Bool):Bool:=a==b
def G7(a:Bool):Bool:=!a
def jE(a b:Bool):Bool:=a&&b
def seq(a b:List UInt8):Bool:=decide (a=b)
def slt(a b:List UInt8):Bool:=Op.bytesLess a b
def wrap(k:IntKind)(n:Int):Int:=k.wrap n
def G5(k:IntKind)(a b:Int):Int:=k.wrap (a+b)
def O6(k:IntKind)(a b:Int):Int:=k.wrap (a -b)
def Tj(k:IntKind)(a b:Int):Int:=k.wrap (a*b)
def fF(k:IntKind)(a b:Int):Int:=k.wrap (a.tdiv b)
def kw(a b:Int):Int:=a.tmod b
def a7y(k:IntKind)(a b:Int):Option Int:=if b=0 then none else some (k.wrap (a.tdiv b))
def a7z(a b:Int):Option Int:=if b=0 then none else some (a.tmod b)
def b1I(k:IntKind)(a b:Int):Int:=k.wrap (BitVec.ofInt k.bits a&&& BitVec.ofInt k.bits b).toNat
def ior(k:IntKind)(a b:Int):Int:=k.wrap (BitVec.ofInt k.bits a ||| BitVec.ofInt k.bits b).toNat
def a2M(k:IntKind)(a b:Int):Int:=k.wrap (BitVec.ofInt k.bits a^^^BitVec.ofInt k.bits b).toNat
def T_(k:IntKind)(a b:Int):Int:=k.wrap (BitVec.ofInt k.bits a&&& ~~~(BitVec.ofInt k.bits b)).toNat
def a5W(k:IntKind)(a b:Int):Int:=k.wrap (a*2^(min b.toNat k.bits))
def a5X(k:IntKind)(a b:Int):Int:=a.fdiv (2^(min b.toNat k.bits))
def a7A(k:IntKind)(a b:Int):Option Int:=if b<0 then none else some (a5W k a b)
def a7B(k:IntKind)(a b:Int):Option Int:=if b<0 then none else some (a5X k a b)
def yD(a b:Int):Int:=if b<a then b else a
def yC(a b:Int):Int:=if a<b then b else a
def o8(l:List α):Int:=l.length
def O7(a b:List UInt8):Option (List UInt8):=if a.length+b.length<=4611686018427387904 then some (a++b)else none
def JB(a b:Nat):Bool:=Nat.beq a b
def inb(i n:Int):Bool:=decide (0<=i/\i<n)
def J8(l:List α)(i:Int):Option α:=if 0<=i then l[i.toNat]? else none
def Ee(l:List UInt8)(p:Int):Int:=((Utf8.decode ⟨l.toArray⟩ p.toNat).1:Int)
def Hl(l:List UInt8)(p:Int):Int:=p+((Utf8.decode ⟨l.toArray⟩ p.toNat).2:Int)
def sat(l:List UInt8)(i:Int):Option Int:=if 0<=i then(l[i.toNat]?).map (λc=>(c.toNat:Int))else none
def di(l:List α)(i:Nat):Option α:=l[i]?
def qR(l:List α)(i:Nat)(x:α):List α:=l.set i x
def iD(l:List α)(lo hi:Int):Option (List α):=if 0<=lo/\lo<=hi/\hi<=l.length then some ((l.take hi.toNat).drop lo.toNat)else none
def iY(l:List α)(lo hi:Nat):List α:=(l.take hi).drop lo
def jV(lo hi n:Int):Bool:=decide (0<=lo/\lo<=hi/\hi<=n)
def Kz(xs ys:List α):List α:=ys.take xs.length++xs.drop ys.length
def aX(xs ys:List α):Option (List α):=if xs.length+ys.length<=1073741824 then some (xs++ys)else none
def Gs(n:Int)(x:α):Option (List α):=if 0<=n/\n<=1073741824 then some (List.replicate n.toNat x)else none
def aW(i:Int):Nat:=i.toNat
def a7k(n:Int):UInt8:=UInt8.ofNat n.toNat
def WJ(l:List Int):List UInt8:=l.map a7k
def Tm(l:List UInt8):List Int:=l.map λc=>(c.toNat:Int)
def a0g{α β:Type}(eq:α->α->Bool):List (α×β)->α->β->β
 |[],_,z=>z|p::r,k,z=>bif eq k p.1 then p.2 else a0g eq r k z
def a0h{α β:Type}(eq:α->α->Bool):List (α×β)->α->Bool
 |[],_=>false|p::r,k=>bif eq k p.1 then true else a0h eq r k
def a0k{α β:Type}(eq:α->α->Bool):List (α×β)->α->β->List (α×β)
 |[],k,x=>[(k,x)]|p::r,k,x=>bif eq k p.1 then(k,x)::r else p::a0k eq r k x
def a6d(eq:α->α->Bool)(l:List (α×β))(k:α)(z:β):β:=a0g eq l k z
def a6e(eq:α->α->Bool)(l:List (α×β))(k:α):Bool:=a0h eq l k
def a1q(eq:α->α->Bool)(l:List (α×β))(k:α)(x:β):List (α×β):=a0k eq l k x
def keq:(t:Ty)->t.den->t.den->Bool
 | .bool=>λa b=>PO a b
 | .int _=>λa b=>C9 a b
 | .str=>λa b=>seq a b
 | .prod p q=>λa b=>jE (keq p a.1 b.1) (keq q a.2 b.2)
 |_=>λ_ _=>true
def a5R{α:Type}(eq:α->α->Bool):List α->List α->Bool
 |[],[]=>true|a::r,b::q=>eq a b&&a5R eq r q|_,_=>false
def Qd:(t:Ty)->t.den->t.den->Bool
 | .bool=>λa b=>tbb a b
 | .int _=>λa b=>decide (a=b)
 | .str=>λa b=>decide (a=b)
 | .sl t=>λa b=>a5R (Qd t) a b
 | .prod p q=>λa b=>Qd p a.1 b.1&&Qd q a.2 b.2
 | .unit=>λ_ _=>true
 | .any _=>λ_ _=>true
 | .ent _ _ p q=>λa b=>Qd p a.1 b.1&&Qd q a.2 b.2
def deq(t:Ty)(a b:t.den):Bool:=Qd t a b
inductive Out (σ ε ρ:Type) where
 |nx (s:σ)|ex (e:ε)|rt (r:ρ)
variable {σ:Type}{ε:Type}
def ah(o:σ⊕ε)(f:σ->α)(g:ε->α):α:=match o with| .inl s=>f s| .inr e=>g e
def jO{σ ε ρ:Type}(f:σ->Option (Out σ ε ρ)):Nat->σ->Option (ε⊕ρ)
 |0,_=>none
 |n+1,s=>match f s with
  |some (.nx s')=>jO f n s'|some (.ex e)=>some (.inl e)|some (.rt r)=>some (.inr r)|none=>none
def xF{σ ε:Type}(f:σ->Option (σ⊕ε)):Nat->σ->Option ε
 |0,_=>none
 |n+1,s=>match f s with
  |some (.inl s')=>xF f n s'|some (.inr e)=>some e|none=>none
def ji:Nat:=18446744073709551616
variable {ρ:Type}
def U8(f:σ->Option (Out σ ε ρ))(s:σ):Option (ε⊕ρ):=jO f ji s
def aG(f:σ->Option (σ⊕ε))(s:σ):Option ε:=xF f ji s
inductive Cmd (α:Type):Type 1 where
 |ret (x:α)
 |fail
 |get (k:Nat) (c:V->Cmd α)
 |set (k:Nat) (v:V) (c:Cmd α)
 |opt {β:Type} (o:Option β) (c:β->Cmd α)
 |br (b:Bool) (c d:Cmd α)
inductive Ent where
 |kv (k:Nat) (v:V)|mask (lo hi:Nat)
abbrev St:=List Ent
def dG:St->Nat->V
 |[],_=> .undef| .kv k v::r,n=>bif Nat.beq k n then v else dG r n| .mask lo hi::r,n=>bif Nat.ble lo n&&Nat.blt n hi then .undef else dG r n
abbrev Tr:=List Nat×List Nat
variable {R:Type}
def V.force(v:V)(K:V->R):R:=
 match v with
 | .undef=>K .undef| .un=>K .un| .b x=>K (.b x)
 | .i k n=>match k with
  | .i8=>K (.i .i8 n)| .i16=>K (.i .i16 n)| .i32=>K (.i .i32 n)| .i64=>K (.i .i64 n)| .u8=>K (.i .u8 n)| .u16=>K (.i .u16 n)| .u32=>K (.i .u32 n)| .u64=>K (.i .u64 n)
 | .s l=>K (.s l)| .nl=>K .nl| .ne z=>K (.ne z)| .sl t xs=>K (.sl t xs)
 | .own bx vw=>match vw with|none=>K (.own bx none)|some p=>K (.own bx (some p))
 | .ptr bx off=>K (.ptr bx off)| .ep bx idx off=>K (.ep bx idx off)| .dp t x off=>K (.dp t x off)| .agg cs=>K (.agg cs)| .tup cs=>K (.tup cs)| .glob g=>K (.glob g)| .fnv f=>K (.fnv f)| .clos f bs=>K (.clos f bs)
 | .ifc t v=>v.force λv=>K (.ifc t v)
 | .barrs t xs h=>match h with|none=>K (.barrs t xs none)|some (p1,p2,p3)=>match p3 with|none=>K (.barrs t xs (some (p1,p2,none)))|some p3=>K (.barrs t xs (some (p1,p2,some p3)))
 | .bfc t x=>K (.bfc t x)| .bcells cs=>K (.bcells cs)| .barr t xs=>K (.barr t xs)| .bfrz t xs=>K (.bfrz t xs)| .biter l p=>K (.biter l p)| .dead=>K .dead| .gone t=>K (.gone t)| .blen n sz=>K (.blen n sz)| .npt=>K .npt
 | .bsb tb c=>c.force λc=>K (.bsb tb c)| .brow te xs=>K (.brow te xs)
def Md{R:Type} :List V->(List V->R)->R
 |[],K=>K []
 |v::r,K=>v.force λv' =>Md r λr' =>K (v' ::r')
def V.force2(v:V)(K:V->R):R:=
 v.force λv=>match v with
  | .agg cs=>Md cs λcs=>K (.agg cs)
  | .bcells cs=>Md cs λcs=>K (.bcells cs)
  | .tup cs=>Md cs λcs=>K (.tup cs)|v=>K v
def Cmd.runK :Cmd α->St->Tr->(α->St->Tr->Option R)->Option R
 | .ret x,s,t,K=>K x s t| .fail,_,_,_=>none
 | .get k c,s,t,K=>(dG s k).force λv=>(c v).runK s (k::t.1,t.2) K
 | .set k v c,s,t,K=>v.force2 λv=>c.runK (.kv k v::s) (t.1,k::t.2) K
 | .opt o c,s,t,K=>l9 o λx=>(c x).runK s t K| .br b c d,s,t,K=>l7 b (c.runK s t K) (d.runK s t K)
def Cmd.bind :Cmd α->(α->Cmd β)->Cmd β
 | .ret x,f=>f x| .fail,_=> .fail
 | .get k c,f=> .get k λv=>(c v).bind f| .set k v c,f=> .set k v (c.bind f)
 | .opt o c,f=> .opt o λx=>(c x).bind f| .br b c d,f=> .br b (c.bind f) (d.bind f)
inductive TD where
 |bool|int (k:IntKind)|str
 |sl (elem:Nat)|ptr (elem:Nat)
 |struct (fs:List (Nat×Nat))
 |arr (n elem:Nat)
 |map (key elem:Nat)
 |other
structure TI where
 size:Nat
 bytes:Nat
 td:TD
 ty:Option Ty
 zero:List V
def bP{α:Type} :List (Nat×α)->Nat->Option α
 |[],_=>none|(k,v)::r,n=>bif Nat.beq k n then some v else bP r n
structure FSpec where
 ps:List MG
 rs:List MG
 outs:List MG
 fn:X4 ps->Option (X4 (rs++outs))
structure Env where
 nt:Nat
 eqs:List (Nat×List Ty)
 tt:List (Nat×TI)
 gl:List (Nat×(t:Ty)×List t.den)
 fs:List (Nat×FSpec)
 om:List (Nat×M):=[]
 tk:List Nat:=[]
 ms:List ((Nat×String)×Nat×Option Nat):=[]
 kp:List Nat:=[]
 rc:List Nat:=[]
 pl:List (Nat×Nat×Nat):=[]
abbrev X9:Nat:=1000000
abbrev CB:Nat:=1000000
abbrev Ji:Nat:=1000000000000
def Ty.castL{R:Type u}(a b:Ty)(xs:List a.den)(k:List b.den->R)(f:R):R:=if h:a=b then k (h▸xs)else f
def PT{R:Type u}(a b:Ty)(x:a.den)(k:b.den->R)(f:R):R:=if h:a=b then k (h▸x)else f
def flat:(t:Ty)->t.den->List V->List V
 | .bool,x,r=> .b x::r| .int k,n,r=> .i k n::r| .str,l,r=> .s l::r| .sl t,xs,r=> .sl t xs::r| .prod a b,x,r=>flat a x.1 (flat b x.2 r)| .unit,_,r=>r| .any _,_,r=> .undef::r| .ent _ _ a b,x,r=>flat a x.1 (flat b x.2 r)
def iq(vw:Option (Nat×Nat))(xs:List α):List α:=match vw with|none=>xs|some (lo,hi)=>iY xs lo hi
def Fp:(m:M)->m.den->List V->List V
 | .dat t,x,r=>flat t x r| .pair a b,x,r=>Fp a x.1 (Fp b x.2 r)| .unit,_,r=>r|_,_,r=> .undef::r
def J_{R:Type u}(a b:M)(xs:List a.den)(k:List b.den->R)(f:R):R:=match h:M.beq a b with
 |true=>k (M.beq_eq h▸xs)|false=>f
def YS{R:Type u}(m:M)(t:Ty)(xs:List m.den)(k:List t.den->R)(f:R):R:=
 if h:m.el=true/\m.ty=t then k (cast (congrArg List ((M.denEq m h.1).trans (congrArg Ty.den h.2))) xs)else f
def M.owned:M->List Ty
 | .own t=>[t]| .owns m=>m.ty::m.owned| .pair a b=>a.owned++b.owned|_=>[]
def WC(ln:Ty->Bool):List Ty->Bool|[]=>true|t::r=>bif ln t then WC ln r else false
def kC{α:Type}(ln:Ty->Bool):(t:Ty)->List V->(t.den->List V->Cmd α)->Cmd α
 | .bool,cs,K=>match cs with| .b x::r=>K x r|_=> .fail
 | .int k,cs,K=>match cs with| .i k' n::r=>(bif decide (k=k')then K n r else Cmd.fail)|_=> .fail
 | .str,cs,K=>match cs with| .s l::r=>K l r|_=> .fail
 | .prod a b,cs,K=>kC ln a cs λx r=>kC ln b r λy r' =>K (x,y) r'| .unit,cs,K=>K () cs
 | .any none,cs,K=>match cs with|_::r=>K () r|_=> .fail
 | .any (some k),cs,K=>match cs with| .i k' _::r=>bif decide (k=k')then K () r else Cmd.fail|_=> .fail
 | .ent ..,_,_=> .fail
 | .sl t,cs,K=>match cs with
  | .nl::r=>bif t.isEnt then .fail else K [] r| .sl t' xs::r=>Ty.castL t' t xs (λys=>K ys r) Cmd.fail
  | .own bx vw::r=> .get (X9+bx) λ
   | .barr t' xs=>Ty.castL t' t xs (λys=>bif ln t then K (iq vw ys) r else Cmd.set (X9+bx) (.bfrz t ys) (K (iq vw ys) r)) Cmd.fail| .bfrz t' xs=>Ty.castL t' t xs (λys=>K (iq vw ys) r) Cmd.fail| .barrs el xs none=>YS el t xs (λys=>bif ln t&&WC ln el.owned then K (iq vw ys) r else Cmd.set (X9+bx) (.bfrz t ys) (K (iq vw ys) r)) Cmd.fail|_=> .fail
  |_=> .fail
def xG:Ty->Bool:=λ_=>false
def Xx(t:Ty)(v:V)(K:List t.den->Cmd α):Cmd α:=match v with
 | .nl=>bif t.isEnt then .fail else K []| .ne _=>bif t.isEnt then .fail else K []| .sl t' xs=>Ty.castL t' t xs K Cmd.fail
 | .own bx vw=> .get (X9+bx) λ
  | .barr t' xs=>Ty.castL t' t xs (λys=>K (iq vw ys)) Cmd.fail| .bfrz t' xs=>Ty.castL t' t xs (λys=>K (iq vw ys)) Cmd.fail|_=> .fail
 |_=> .fail
def rpC(t:Ty)(v:V)(K:t.den->Cmd α):Cmd α:=match v with
 | .dp t' x 0=>PT t' t x K .fail
 | .ptr bx 0=> .get (X9+bx) λ
  | .bfc t' x=>PT t' t x K .fail
  | .bcells bs=>kC xG t bs λx q=>(match q with
   |[]=> .get (X9+bx) λ
    | .bcells _=>Cmd.set (X9+bx) (.bfc t x) (K x)|_=> .fail
   |_=> .fail)
  |_=> .fail
 |_=> .fail
def lpC(ln:Ty->Bool)(t:Ty)(v:V)(K:t.den->Cmd α):Cmd α:=match v with
 | .dp t' x 0=>PT t' t x K .fail
 | .ptr bx 0=> .get (X9+bx) λ
  | .bcells bs=>bif ln t then kC ln t bs λx q=>(match q with
   |[]=> .get (X9+bx) λ
    | .bcells _=>K x|_=> .fail
   |_=> .fail)else .fail
  |_=> .fail
 |_=> .fail
def Jl{α:Type} :(ts:List Ty)->List ((t:Ty)×t.den)->(Nz ts->Cmd α)->Cmd α
 |[],cs,K=>match cs with|[]=>K ()|_=> .fail
 |[t],cs,K=>match cs with|[⟨t',x⟩]=>PT t' t x K .fail|_=> .fail
 |t::t' ::r,cs,K=>match cs with
  |⟨u,x⟩::cs=>PT u t x (λx=>Jl (t' ::r) cs λy=>K (x,y)) .fail|[]=> .fail
def Nu:(ts:List Ty)->Nz ts->List ((t:Ty)×t.den)
 |[],_=>[]|[t],x=>[⟨t,x⟩]|t::t' ::r,x=>⟨t,x.1⟩::Nu (t' ::r) x.2
def sbC(te:Nat)(c:V)(K:List UInt8->Cmd α):Cmd α:=match c with
 | .nl=>K []
 | .own b none=> .get (X9+b) λ
  | .brow te' xs=>bif Nat.beq te' te then Cmd.set (X9+b) .dead (K xs)else .fail|_=> .fail
 |_=> .fail
def exM{α:Type}(ln:Ty->Bool):(m:M)->List V->(m.den->List V->Cmd α)->Cmd α
 | .dat t,cs,K=>kC ln t cs K
 | .own t,cs,K=>match cs with
  | .nl::r=>bif t.isEnt then .fail else K [] r
  | .own bx vw::r=> .get (X9+bx) λ
   | .barr t' xs=>Ty.castL t' t xs (λys=>Cmd.set (X9+bx) .dead (K (iq vw ys) r)) Cmd.fail|_=> .fail
  |_=> .fail
 | .pair a b,cs,K=>exM xG a cs λx r=>exM xG b r λy r' =>K (x,y) r'| .unit,cs,K=>K () cs
 | .box m,cs,K=>match cs with
  | .ptr bx 0::r=> .get (X9+bx) λ
   | .bcells bs=>Cmd.set (X9+bx) .dead (exM xG m bs λx q=>match q with|[]=>K x r|_=> .fail)|_=> .fail
  |_=> .fail
 | .owns m,cs,K=>match cs with
  | .nl::r=>bif m.el then K [] r else .fail
  | .own bx none::r=> .get (X9+bx) λ
   | .barrs m' xs none=>J_ m' m xs (λys=>Cmd.set (X9+bx) .dead (K ys r)) Cmd.fail|_=> .fail
  |_=> .fail
 | .ownb t,cs,K=>match cs with
  | .nl::r=>bif t.isEnt then .fail else K [] r
  | .own bx none::r=> .get (X9+bx) λ
   | .barr t' xs=>Ty.castL t' t xs (λys=>Cmd.set (X9+bx) (.gone t) (K ys r)) Cmd.fail|_=> .fail
  |_=> .fail
 | .rp t,cs,K=>match cs with
  |v::r=>rpC t v λx=>K x r|_=> .fail
 | .fn f ts,cs,K=>match cs with
  | .clos g caps::r=>bif Nat.beq g f then Jl ts caps λx=>K x r else .fail
  | .fnv g::r=>bif Nat.beq g f then Jl ts [] λx=>K x r else .fail|_=> .fail
 | .ifc t m,cs,K=>match cs with
  | .ifc t' v::r=>bif Nat.beq t' t then exM xG m [v] λx q=>(match q with|[]=>K x r|_=> .fail)else .fail|_=> .fail
 | .cell (some none),cs,K=>match cs with
  | .nl::r=>K () r|_=> .fail
 | .cell (some (some b)),cs,K=>match cs with
  | .ne true::r=>bif b then K () r else .fail| .ne false::r=>bif b then .fail else K () r|_=> .fail
 | .cell none,cs,K=>match cs with
  |_::r=>K () r|_=> .fail
 | .fr t,cs,K=>match cs with
  | .nl::r=>bif t.isEnt then .fail else K [] r
  | .own bx none::r=> .get (X9+bx) λ
   | .barr t' xs=>Ty.castL t' t xs (λys=>Cmd.set (X9+bx) (.bfrz t ys) (K ys r)) Cmd.fail| .bfrz t' xs=>Ty.castL t' t xs (λys=>K ys r) Cmd.fail|_=> .fail
  |_=> .fail
 | .sit,cs,K=>match cs with
  | .ptr bx 0::r=> .get (X9+bx) λ
   | .biter l p=>Cmd.set (X9+bx) .dead (K (l,p) r)|_=> .fail
  |_=> .fail
 | .lp t,cs,K=>match cs with
  |v::r=>lpC ln t v λx=>K x r|_=> .fail
 | .dv ..,cs,K=>match cs with
  |_::r=>K () r|_=> .fail
 | .sbx tb te,cs,K=>match cs with
  | .ptr bx 0::r=> .get (X9+bx) λ
   | .bsb tb' c=>bif Nat.beq tb' tb then(sbC te c λys=>Cmd.set (X9+bx) .dead (K ys r))else .fail|_=> .fail
  |_=> .fail
def cellsOf(v:V):List V:=match v with| .agg cs=>cs|v=>[v]
def rX(n:Nat)(v:V)(K:Cmd α):Cmd α:=.get (X9+n) λ
 | .undef=> .set (X9+n) v K|_=> .fail
def emM{α:Type} :(m:M)->m.den->Nat->List V->(List V->Nat->Cmd α)->Cmd α
 | .dat t,x,n,r,K=>K (flat t x r) n| .own t,xs,n,r,K=>rX n (.barr t xs) (K (.own n none::r) (n+1))
 | .pair a b,x,n,r,K=>emM b x.2 n r λr' n' =>emM a x.1 n' r' K| .unit,_,n,r,K=>K r n
 | .box m,x,n,r,K=>emM m x (n+1) [] λcs n' =>rX n (.bcells cs) (K (.ptr n 0::r) n')| .owns m,xs,n,r,K=>rX n (.barrs m xs none) (.set (X9+(Ji+n)) (.blen (o8 xs) m.size) (K (.own n none::r) (n+1)))| .ownb t,xs,n,r,K=>rX n (.barr t xs) (K (.own n none::r) (n+1))| .rp t,x,n,r,K=>K (.dp t x 0::r) n| .fn f ts,x,n,r,K=>K (.clos f (Nu ts x)::r) n
 | .ifc t m,x,n,r,K=>emM m x n [] λcs n' =>match cs with|[c]=>K (.ifc t c::r) n'|_=> .fail
 | .cell (some none),_,n,r,K=>K (.nl::r) n| .cell (some (some b)),_,n,r,K=>K (.ne b::r) n| .cell none,_,n,r,K=>K (.undef::r) n| .fr t,xs,n,r,K=>rX n (.bfrz t xs) (K (.own n none::r) (n+1))| .sit,x,n,r,K=>rX n (.biter x.1 x.2) (K (.ptr n 0::r) (n+1))| .lp t,x,n,r,K=>K (.dp t x 0::r) n| .dv ..,_,n,r,K=>K (.undef::r) n| .sbx tb te,xs,n,r,K=>rX (n+1) (.brow te xs) (rX n (.bsb tb (.own (n+1) none)) (K (.ptr n 0::r) (n+2)))
structure Sig where
 ms:List (Nat×MG)
 als:List (Nat×Nat)
@[reducible] def oC (s:Sig):Type:=X4 (s.ms.map (·.2))
def PU(ag:Bool)(v:V)(K:List V->Cmd α):Cmd α:=match ag,v with
 |true,.agg cs=>K cs|true,_=> .fail|false,.agg _=> .fail|false,.tup _=> .fail|false,.undef=> .fail|false,.un=> .fail|false,v=>K [v]
def Df(v:V)(K:List V->Cmd α):Cmd α:=match v with
 | .agg cs=>K cs| .tup _=> .fail| .undef=> .fail| .un=> .fail|v=>K [v]
def M.isDat:M->Bool| .dat _=>true| .lp _=>true|_=>false
def Qk(ln:Ty->Bool)(m:MG)(v:V)(K:m.2.den->Cmd α):Cmd α:=
 PU m.1 v λcs=>exM ln m.2 cs λx q=>match q with|[]=>K x|_=> .fail
def IU{α:Type}(ln:Ty->Bool):(ms:List MG)->List V->(X4 ms->Cmd α)->Cmd α
 |[],vs,K=>match vs with|[]=>K ()|_=> .fail
 |[m],vs,K=>match vs with
  |[v]=>Qk ln m v K|_=> .fail
 |m::m' ::r,vs,K=>match vs with
  |v::vs=>bif m.2.isDat then IU ln (m' ::r) vs λy=>Qk ln m v λx=>K (x,y)
   else Qk ln m v λx=>IU ln (m' ::r) vs λy=>K (x,y)
  |[]=> .fail
def Vj{α:Type} :List Nat->(List V->Cmd α)->Cmd α
 |[],K=>K []
 |s::r,K=>bif Nat.blt s X9 then .get s λv=>Vj r λvs=>K (v::vs)else .fail
def a7L:V->V->Bool
 | .own a none,.own b none=>Nat.beq a b|_,_=>false
def a5N{α:Type} :List (Nat×Nat)->Cmd α->Cmd α
 |[],K=>K
 |(n,k)::r,K=>bif Nat.blt n X9&&Nat.blt k X9 then .get n λv=> .get k λu=>bif a7L v u then a5N r K else .fail else .fail
def a2E(s:Sig):Cmd (oC s):=a5N s.als (Vj (s.ms.map (·.1)) λvs=>IU xG (s.ms.map (·.2)) vs .ret)
def mkV(ag:Bool)(cs:List V):V:=match ag,cs with|true,cs=> .agg cs|false,[v]=>v|false,_=> .undef
def IR{α:Type} :(ms:List MG)->X4 ms->Nat->(List V->Nat->Cmd α)->Cmd α
 |[],_,n,K=>K [] n
 |[m],x,n,K=>emM m.2 x n [] λcs n' =>K [mkV m.1 cs] n'
 |m::m' ::r,x,n,K=>emM m.2 x.1 n [] λcs n' =>IR (m' ::r) x.2 n' λvs n'' =>K (mkV m.1 cs::vs) n''
def Iy:List Nat->List V->Cmd Unit->Cmd Unit
 |[],[],K=>K|n::ns,v::vs,K=>bif Nat.blt n X9 then .set n v (Iy ns vs K)else .fail|_,_,_=> .fail
def VU:List (Nat×Nat)->Cmd Unit
 |[]=> .ret ()
 |(n,k)::r=>bif Nat.blt n X9&&Nat.blt k X9 then .get k λv=> .set n v (VU r)else .fail
def a2x(s:Sig)(x:oC s)(nb lim:Nat):Cmd Unit:=
 IR (s.ms.map (·.2)) x nb λvs n=>bif Nat.ble n lim then Iy (s.ms.map (·.1)) vs (VU s.als)else .fail
def YJ:Value->V
 | .bool b=> .b b| .int k n=> .i k n| .string s=> .s s.data.toList| .slice none 0 0=> .nl|_=> .undef
def ou(x:Operand)(K:V->Cmd α):Cmd α:=
 match x with
 | .tmp t=>bif Nat.blt t X9 then .get t K else .fail| .const v=>K (YJ v)| .global g=>K (.glob g)| .func f=>K (.fnv f)
def KP{α:Type} :List Operand->(List V->Cmd α)->Cmd α
 |[],K=>K []
 |x::r,K=>ou x λv=>KP r λvs=>K (v::vs)
def Qg(n:Nat)(cs:List V):Option (List V):=match n,cs with
 |0,cs=>some cs|n+1,_::cs=>Qg n cs|_+1,[]=>none
def Yg{R:Type u}(n:Nat)(cs:List V)(K:List V->R)(f:R):R:=match n,cs with
 |0,_=>K []|n+1,c::cs=>Yg n cs (λr=>K (c::r)) f|_+1,[]=>f
def OW{R:Type u}(off n:Nat)(cs:List V)(K:List V->R)(f:R):R:=match Qg off cs with|some r=>Yg n r K f|none=>f
def KU{R:Type u}(off:Nat)(vs cs:List V)(K:List V->R)(f:R):R:=match off,vs,cs with
 |0,[],cs=>K cs|0,v::vs,_::cs=>KU 0 vs cs (λr=>K (v::r)) f|n+1,vs,c::cs=>KU n vs cs (λr=>K (c::r)) f|_,_,[]=>f
def Ap:Operand->Bool
 | .const (.int _ n)=>decide (n=0)|_=>true
def DT:Operand->Bool
 | .const (.int _ n)=>decide (n<0)|_=>true
def eq1:V->V->Option Bool
 | .b x,.b y=>some (PO x y)| .i j x,.i k y=>bif decide (j=k)then some (C9 x y)else none| .s x,.s y=>some (seq x y)|_,_=>none
def xf:List V->List V->Option Bool
 |[],[]=>some true
 |a::r,b::q=>match eq1 a b with
  |none=>none
  |some e=>match r,q with
   |[],[]=>some e|_,_=>(match xf r q with|some e' =>some (jE e e')|none=>none)
 |_,_=>none
def xU:List Ty->List V->Bool
 |[],[]=>true| .bool::ts,.b _::cs=>xU ts cs| .int k::ts,.i k' _::cs=>decide (k=k')&&xU ts cs| .str::ts,.s _::cs=>xU ts cs|_,_=>false
def Bf(n:Nat):List Nat->Bool|[]=>false|k::r=>bif Nat.beq k n then true else Bf n r
def a2Z(E:Env)(t:Nat)(op:BinOp)(b:Bool)(K:V->Cmd α):Cmd α:=
 match bP E.tt t with
 |some i=>match i.td,op with
  | .sl _,.eql=>K (.b b)| .sl _,.neq=>K (.b (G7 b))|_,_=> .fail
 |none=> .fail
def FT(E:Env)(t:Nat)(op:BinOp)(yc:Operand)(x y:V)(K:V->Cmd α):Cmd α:=
 match x,y with
 | .i k a,.i k' b=>
  match op with
  | .shl=>bif DT yc then Cmd.opt (a7A k a b) λr=>K (.i k r)else K (.i k (a5W k a b))
  | .shr=>bif DT yc then Cmd.opt (a7B k a b) λr=>K (.i k r)else K (.i k (a5X k a b))|_=>
  bif decide (k=k')then
   match op with
   | .add=>K (.i k (G5 k a b))| .sub=>K (.i k (O6 k a b))| .mul=>K (.i k (Tj k a b))
   | .quo=>bif Ap yc then Cmd.opt (a7y k a b) λr=>K (.i k r)else K (.i k (fF k a b))
   | .rem=>bif Ap yc then Cmd.opt (a7z a b) λr=>K (.i k r)else K (.i k (kw a b))| .and=>K (.i k (b1I k a b))| .or=>K (.i k (ior k a b))| .xor=>K (.i k (a2M k a b))| .andNot=>K (.i k (T_ k a b))| .eql=>K (.b (C9 a b))| .neq=>K (.b (G7 (C9 a b)))| .lss=>K (.b (H9 a b))| .leq=>K (.b (U1 a b))| .gtr=>K (.b (H9 b a))| .geq=>K (.b (U1 b a))|_=> .fail
  else .fail
 | .s a,.s b=>
  match op with
  | .add=>Cmd.opt (O7 a b) λr=>K (.s r)| .eql=>K (.b (seq a b))| .neq=>K (.b (G7 (seq a b)))| .lss=>K (.b (slt a b))|_=> .fail
 | .b a,.b b=>
  match bP E.tt t with
  |some i=>match i.td,op with
   | .bool,.eql=>K (.b (PO a b))| .bool,.neq=>K (.b (G7 (PO a b)))|_,_=> .fail
  |none=> .fail
 | .agg xs,.agg ys=>
  match bP E.eqs t with
  |some sh=>bif xU sh xs&&xU sh ys then(match op,xf xs ys with
   | .eql,some e=>K (.b e)| .neq,some e=>K (.b (G7 e))
   |_,_=> .fail)else .fail
  |none=> .fail
 | .nl,.nl=>a2Z E t op true K| .ne b,.nl=>a2Z E t op b K| .sl u xs,.nl=>bif u.isEnt then .fail else .br (C9 (o8 xs) 0) .fail (a2Z E t op false K)|_,_=> .fail
def unC(op:UnOp)(x:V)(K:V->Cmd α):Cmd α:=
 match op,x with
 | .neg,.i k a=>K (.i k (O6 k 0 a))| .xor,.i k a=>K (.i k (a2M k (bif k.signed then -1 else k.max) a))| .not,.b a=>K (.b (G7 a))|_,_=> .fail
def Un(E:Env)(t:Nat):Bool:=bif Nat.blt t E.nt then !(Bf t E.kp)else false
def bY(E:Env)(d:Option Tmp)(v:V):Cmd Unit:=match d with|some t=>bif Un E t then .set t v (.ret ())else .fail|none=> .ret ()
def J9(q:Nat)(d:Option Tmp):Nat:=match d with|some t=>CB*q+64*t|none=>CB*q+999936
def tiC(E:Env)(t:Nat)(K:TI->Cmd α):Cmd α:=match bP E.tt t with|some i=>K i|none=> .fail
def aN:TD->Bool| .struct _| .arr _ _=>true|_=>false
def IW(E:Env)(t:Nat)(p:V)(K:V->Cmd α):Cmd α:=
 tiC E t λi=>match p with
 | .ptr bx off=> .get (X9+bx) λ
  | .bcells cs=>OW off i.size cs (λr=>K (mkV (aN i.td) r)) Cmd.fail| .bfc u x=>OW off i.size (flat u x []) (λr=>K (mkV (aN i.td) r)) Cmd.fail|_=> .fail
 | .ep bx idx off=> .get (X9+bx) λ
  | .barr u xs=>Cmd.opt (di xs idx) λx=>OW off i.size (flat u x []) (λr=>K (mkV (aN i.td) r)) Cmd.fail
  | .bfrz u xs=>Cmd.opt (di xs idx) λx=>OW off i.size (flat u x []) (λr=>K (mkV (aN i.td) r)) Cmd.fail
  | .barrs m xs _=>Cmd.opt (di xs idx) λx=>OW off i.size (Fp m x []) (λr=>K (mkV (aN i.td) r)) Cmd.fail|_=> .fail
 | .dp u x off=>OW off i.size (flat u x []) (λr=>K (mkV (aN i.td) r)) Cmd.fail|_=> .fail
def QS{R:Type u} :(m:M)->Nat->m.den->(V->R)->R->R
 | .own t,off,xs,K,f=>bif Nat.beq off 0 then K (.barr t xs)else f| .owns m,off,xs,K,f=>bif Nat.beq off 0 then K (.barrs m xs none)else f| .pair a b,off,x,K,f=>bif Nat.blt off a.size then QS a off x.1 K f else QS b (off -a.size) x.2 K f|_,_,_,_,f=>f
def Ze{R:Type u} :(m:M)->Nat->V->m.den->(m.den->R)->R->R
 | .own t,off,v,_,K,f=>bif Nat.beq off 0 then(match v with| .barr t' ys=>Ty.castL t' t ys K f| .nl=>bif t.isEnt then f else K []|_=>f)else f| .owns m,off,v,_,K,f=>bif Nat.beq off 0 then(match v with| .barrs m' ys none=>J_ m' m ys K f| .nl=>K []|_=>f)else f| .pair a b,off,v,x,K,f=>bif Nat.blt off a.size then Ze a off v x.1 (λy=>K (y,x.2)) f else Ze b (off -a.size) v x.2 (λy=>K (x.1,y)) f|_,_,_,_,_,f=>f
def a1a{α:Type} :(m:M)->Nat->List V->m.den->(m.den->Cmd α)->Cmd α
 | .dat t,off,vs,x,K=>bif t.flat then KU off vs (flat t x []) (λr=>kC xG t r λy q=>match q with|[]=>K y|_=> .fail) .fail else .fail| .pair a b,off,vs,x,K=>bif Nat.blt off a.size then a1a a off vs x.1 (λy=>K (y,x.2))else a1a b (off -a.size) vs x.2 (λy=>K (x.1,y))|_,_,_,_,_=> .fail
def M.ownAt:M->Nat->Bool
 | .own _,off=>Nat.beq off 0| .owns _,off=>Nat.beq off 0| .pair a b,off=>bif Nat.blt off a.size then a.ownAt off else b.ownAt (off -a.size)|_,_=>false
def Vk(h:Option (Nat×Nat×Option Nat))(idx off:Nat):Bool:=match h with|none=>true|some (i,o,_)=>bif Nat.beq o off then JB i idx else false
def a7D(E:Env)(d:Option Tmp)(nm t:Nat)(p:V)(K:V->Cmd α):Cmd α:=
 match p with
 | .ep bx idx off=> .get (X9+bx) λ
  | .barrs m xs none=>bif m.ownAt off then tiC E t λi=>(bif Nat.beq i.size 1&&!aN i.td then
     (bif Bf (match d with|some d=>d|none=>X9) E.tk then
      Cmd.opt (di xs idx) λx=>QS m off x (λv=>Cmd.set (X9+bx) (.barrs m xs (some (idx,off,none))) (rX nm v (Cmd.set (X9+bx) (.barrs m xs (some (idx,off,some nm))) (K (.own nm none))))) .fail
     else kC xG (.sl m.ty) [.own bx none] λ_ _=>IW E t p K)else .fail)
    else IW E t p K
  | .barrs m xs (some (i,o,some n))=>bif m.ownAt off then tiC E t λj=>(bif Nat.beq j.size 1&&!aN j.td then
     .br (Vk (some (i,o,some n)) idx off) (K (.own n none)) .fail else .fail)
    else IW E t p K
  |_=>IW E t p K
 |_=>IW E t p K
def Wj(bx idx off:Nat)(m:M)(xs:List m.den)(hole:Option (Nat×Nat×Option Nat))(v:V)(K:Cmd Unit):Cmd Unit:=
 .br (Vk hole idx off) (Cmd.opt (di xs idx) λx=>Ze m off v x (λy=>Cmd.set (X9+bx) (.barrs m (qR xs idx y) none) K) .fail) .fail
def b1J:V->Bool| .barr ..=>true| .barrs _ _ none=>true|_=>false
def a5A(E:Env)(t:Nat)(p v:V):Cmd Unit:=
 tiC E t λi=>match p with
 | .ptr bx off=> .get (X9+bx) λ
  | .bcells cs=>Df v λvs=>bif Nat.beq vs.length i.size then KU off vs cs (λr=>Cmd.set (X9+bx) (.bcells r) (.ret ())) Cmd.fail else .fail|_=> .fail
 | .ep bx idx off=> .get (X9+bx) λ
  | .barr u xs=>Cmd.opt (di xs idx) λx=>Df v λvs=>bif Nat.beq vs.length i.size then KU off vs (flat u x []) (λr=>
    kC xG u r λy q=>match q with
     |[]=> .get (X9+bx) λ
      | .barr u' xs' =>Ty.castL u' u xs' (λxs' =>Cmd.set (X9+bx) (.barr u (qR xs' idx y)) (.ret ())) Cmd.fail|_=> .fail
     |_=> .fail) Cmd.fail else .fail
  | .barrs m xs hole=>bif m.ownAt off&&Nat.beq i.size 1&&!aN i.td then(match v with
    | .nl=>Wj bx idx off m xs hole .nl (.ret ())
    | .own b2 none=> .get (X9+b2) λw=>bif b1J w then Cmd.set (X9+b2) .dead (.get (X9+bx) λ
     | .barrs m xs hole=>Wj bx idx off m xs hole w (.ret ())
     |_=> .fail)else .fail
    |_=> .fail)
   else match hole with
    |none=>Df v λvs=>bif Nat.beq vs.length i.size then Cmd.opt (di xs idx) λx=>a1a m off vs x λy=>Cmd.set (X9+bx) (.barrs m (qR xs idx y) none) (.ret ())else .fail|some _=> .fail
  |_=> .fail
 |_=> .fail
def szB(sz:Nat)(u:Ty):Bool:=bif u.isEnt then false else Nat.beq sz u.size
def Gf(E:Env)(t f:Nat):Option (Nat×Nat×Bool):=
 match bP E.tt t with
 |some i=>match i.td with
  | .struct fs=>match fs[f]? with
   |some (ft,off)=>match bP E.tt ft with|some j=>bif Nat.beq j.size 0 then none else some (off,j.size,aN j.td)|none=>none
   |none=>none
  |_=>none
 |none=>none
def Xg(vw:Option (Nat×Nat)):Nat:=match vw with|none=>0|some (lo,_)=>lo
def a8p(vw:Option (Nat×Nat))(n:Nat):Nat:=match vw with|none=>n|some (lo,_)=>lo+n
theorem a5Z(vw:Option (Nat×Nat))(n:Nat):a8p vw n=Xg vw+n:=by cases vw<;>simp[a8p,Xg]
def En(E:Env)(t:Nat):Option (Bool×Nat×Nat):=
 match bP E.tt t with
 |some i=>match i.td with
  | .sl e=>match bP E.tt e with|some j=>some (false,0,j.size)|none=>none
  | .arr n e=>match bP E.tt e with|some j=>some (true,n,j.size)|none=>none
  |_=>none
 |none=>none
def Qx(E:Env)(t:Nat)(x ix:V)(K:V->Cmd α):Cmd α:=
 match ix,En E t with
 | .i _ n,some (false,_,sz)=>match x with
  | .sl u xs=>bif szB sz u then Cmd.opt (J8 xs n) λy=>K (.dp u y 0)else .fail
  | .own bx vw=> .get (X9+(Ji+bx)) λ
   | .blen ln sz' =>(match vw with|none=>bif Nat.beq sz sz' then .br (inb n ln) (K (.ep bx (aW n) 0)) .fail else .fail|_=> .fail)
   |_=> .get (X9+bx) λ
   | .barr u xs=>bif szB sz u then Cmd.opt (J8 (iq vw xs) n) λ_=>K (.ep bx (a8p vw (aW n)) 0)else .fail
   | .bfrz u xs=>bif szB sz u then Cmd.opt (J8 (iq vw xs) n) λy=>K (.dp u y 0)else .fail| .barrs m xs _=>(match vw with|none=>bif Nat.beq sz m.size then Cmd.opt (J8 xs n) λ_=>K (.ep bx (aW n) 0)else .fail|_=> .fail)|_=> .fail
  |_=> .fail
 | .i _ n,some (true,l,sz)=>match x with
  | .glob g=>match bP E.gl g with
   |some ⟨u,xs⟩=>bif Nat.beq sz u.size&&Nat.beq l xs.length then Cmd.opt (J8 xs n) λy=>K (.dp u y 0)else .fail|none=> .fail
  | .ptr bx off=> .br (inb n l) (K (.ptr bx (off+aW n*sz))) .fail|_=> .fail
 |_,_=> .fail
def b1K(td:TD)(x:V)(K:V->Cmd α):Cmd α:=
 match td,x with
 | .str,.s l=>K (.i .i64 (o8 l))| .sl _,.sl t xs=>bif t.isEnt then .fail else K (.i .i64 (o8 xs))| .map ..,.sl t xs=>bif t.isEnt then K (.i .i64 (o8 xs))else .fail
 | .map ..,.own bx none=> .get (X9+bx) λ
  | .barr t xs=>bif t.isEnt then K (.i .i64 (o8 xs))else .fail| .bfrz t xs=>bif t.isEnt then K (.i .i64 (o8 xs))else .fail|_=> .fail
 | .sl _,.nl=>K (.i .i64 0)
 | .sl _,.own bx vw=> .get (X9+(Ji+bx)) λ
  | .blen ln _=>(match vw with|none=>K (.i .i64 ln)|_=> .fail)
  |_=> .get (X9+bx) λ
  | .barr t xs=>bif t.isEnt then .fail else K (.i .i64 (o8 (iq vw xs)))| .bfrz t xs=>bif t.isEnt then .fail else K (.i .i64 (o8 (iq vw xs)))| .barrs _ xs _=>(match vw with|none=>K (.i .i64 (o8 xs))|_=> .fail)|_=> .fail
 |_,_=> .fail
def yx(d:Int):Option V->Option Int
 |none=>some d|some (.i _ n)=>some n|some _=>none
def Nh(E:Env)(t:Nat)(x:V)(lo hi:Option V)(K:V->Cmd α):Cmd α:=
 match x with
 | .s l=>tiC E t λi=>match i.td,yx 0 lo,yx (o8 l) hi with
  | .str,some a,some b=>Cmd.opt (iD l a b) λr=>K (.s r)|_,_,_=> .fail
 | .sl u l=>match En E t,yx 0 lo,yx (o8 l) hi with
  |some (false,_,sz),some a,some b=>bif szB sz u then Cmd.opt (iD l a b) λr=>K (.sl u r)else .fail|_,_,_=> .fail
 | .own bx none=> .get (X9+bx) λ
  | .barr u xs=>match En E t,yx 0 lo,yx (o8 xs) hi with
   |some (false,_,sz),some a,some b=>bif szB sz u then .br (jV a b (o8 xs)) (K (.own bx (some (aW a,aW b)))) .fail else .fail|_,_,_=> .fail
  | .bfrz u xs=>match En E t,yx 0 lo,yx (o8 xs) hi with
   |some (false,_,sz),some a,some b=>bif szB sz u then .br (jV a b (o8 xs)) (K (.own bx (some (aW a,aW b)))) .fail else .fail|_,_,_=> .fail
  |_=> .fail
 |_=> .fail
def Yi{α:Type}(u:Ty):Nat->List V->(List u.den->Cmd α)->Cmd α
 |0,cs,K=>match cs with|[]=>K []|_=> .fail
 |n+1,cs,K=>kC xG u cs λx r=>Yi u n r λxs=>K (x::xs)
def RP(E:Env)(nm t bx:Nat)(K:V->Cmd Unit):Cmd Unit:=tiC E t λi=>match i.td with
 | .arr n e=>tiC E e λj=>(match j.ty with
  |some u=>bif u.flat then .get (X9+bx) λ
   | .bcells cs=>Yi u n cs λxs=>Cmd.set (X9+bx) .dead (rX nm (.barr u xs) (K (.own nm none)))|_=> .fail
   else .fail
  |none=> .fail)
 |_=> .fail
def zD(E:Env)(t:Nat):Option (Nat×Ty):=
 match bP E.tt t with
 |some i=>match i.td with
  | .sl e=>match bP E.tt e with
   |some j=>match j.ty with|some u=>bif (Nat.beq u.size j.size&&Nat.ble j.bytes 65536&&!u.isEnt)then some (e,u)else none|none=>none
   |none=>none
  |_=>none
 |none=>none
def OY(nm:Nat)(u:Ty)(x:V)(ys:List u.den)(K:V->Cmd Unit):Cmd Unit:=
 match x with
 | .nl=>Cmd.opt (aX [] ys) λzs=>rX nm (.barr u zs) (K (.own nm none))
 | .own bx vw=> .get (X9+bx) λ
  | .barr u' xs=>Ty.castL u' u xs (λxs=>Cmd.opt (aX (iq vw xs) ys) λzs=>Cmd.set (X9+bx) .dead (rX nm (.barr u zs) (K (.own nm none)))) Cmd.fail|_=> .fail
 |_=> .fail
def a7v(E:Env)(t:Nat)(x y:V)(K:V->Cmd Unit):Cmd Unit:=
 match zD E t with
 |none=> .fail
 |some (_,u)=>match bP E.om t with
  |none=>Xx u y λys=>(match x with
   | .own bx none=> .get (X9+bx) λ
    | .barr u' xs=>Ty.castL u' u xs (λxs=>Cmd.set (X9+bx) (.barr u (Kz xs ys)) (K (.i .i64 (yD (o8 xs) (o8 ys))))) Cmd.fail|_=> .fail
   |_=> .fail)
  |some _=> .fail
def F_(E:Env)(nm:Nat)(t:Nat)(x:V)(l:List UInt8)(K:V->Cmd Unit):Cmd Unit:=
 match zD E t with
 |some (_,.int .u8)=>(match bP E.om t with|none=>OY nm (.int .u8) x (Tm l) K|some _=> .fail)|_=> .fail
def a2r(E:Env)(nm:Nat)(t:Nat)(l:List UInt8)(K:V->Cmd Unit):Cmd Unit:=
 match zD E t with
 |some (e,.int .u8)=>tiC E e λk=>(match k.td with
  | .int .u8=>rX nm (.barr (.int .u8) (Tm l)) (K (.own nm none))
  |_=> .fail)
 |_=> .fail
def E_(E:Env)(nm:Nat)(t:Nat)(x y:V)(K:V->Cmd Unit):Cmd Unit:=
 match zD E t with
 |none=> .fail
 |some (_,u)=>match bP E.om t with
  |none=>Xx u y λys=>OY nm u x ys K
  |some m=>bif Nat.beq m.size u.size then exM xG (.owns m) [y] λys _=>exM xG (.owns m) [x] λxs _=>Cmd.opt (aX xs ys) λzs=>rX nm (.barrs m zs none) (K (.own nm none))else .fail
def wo{α:Type}(u:Ty):List (Nat×V)->Nat->Nat->(List u.den->Cmd α)->Cmd α
 |[],_,0,K=>K []
 |(i,v)::r,n,m+1,K=>bif Nat.beq i n then Df v λcs=>kC xG u cs λx q=>match q with|[]=>wo u r (n+1) m λxs=>K (x::xs)|_=> .fail else .fail
 |_,_,_,_=> .fail
def sS{α:Type}(m:M):List (Nat×V)->Nat->Nat->(List m.den->Cmd α)->Cmd α
 |[],_,0,K=>K []
 |(i,v)::r,n,k+1,K=>bif Nat.beq i n then Df v λcs=>exM xG m cs λx q=>match q with|[]=>sS m r (n+1) k λxs=>K (x::xs)|_=> .fail else .fail
 |_,_,_,_=> .fail
def D_(E:Env):List (Nat×Nat)->Bool
 |[]=>true
 |(t,_)::r=>match bP E.tt t with|some _=>D_ E r|none=>false
def zy{α:Type}(E:Env)(t:Nat):List (Nat×V)->List V->(List V->Cmd α)->Cmd α
 |[],cs,K=>K cs
 |(f,v)::r,cs,K=>match Gf E t f with
  |some (off,n,_)=>Df v λvs=>bif Nat.beq vs.length n then KU off vs cs (λcs' =>zy E t r cs' K) .fail else .fail|none=> .fail
def FP{α:Type}(sz:Nat):List (Nat×V)->List V->(List V->Cmd α)->Cmd α
 |[],cs,K=>K cs
 |(i,v)::r,cs,K=>Df v λvs=>bif Nat.beq vs.length sz then KU (i*sz) vs cs (λcs' =>FP sz r cs' K) .fail else .fail
def Y0{α:Type} :List MG->List V->List V->Cmd α->Cmd α
 |(_,.box _)::ms,.ptr bx _::vs,.agg cs::os,K=> .get (X9+bx) λ
  | .dead=>Cmd.set (X9+bx) (.bcells cs) (Y0 ms vs os K)|_=> .fail
 |(_,.box _)::_,_,_,_=> .fail
 |(_,.ifc _ (.box _))::ms,.ifc _ (.ptr bx _)::vs,.agg cs::os,K=> .get (X9+bx) λ
  | .dead=>Cmd.set (X9+bx) (.bcells cs) (Y0 ms vs os K)|_=> .fail
 |(_,.ifc _ (.box _))::_,_,_,_=> .fail
 |(_,.ownb _)::ms,.own bx none::vs,.own nm none::os,K=> .get (X9+nm) λ
  | .barr u xs=>Cmd.set (X9+nm) .dead (.get (X9+bx) λ
   | .gone t=>Ty.castL u t xs (λxs=>Cmd.set (X9+bx) (.barr t xs) (Y0 ms vs os K)) .fail
   |_=> .fail)
  |_=> .fail
 |(_,.ownb _)::ms,.nl::vs,.own nm none::os,K=>Cmd.set (X9+nm) .dead (Y0 ms vs os K)|(_,.ownb _)::_,_,_,_=> .fail
 |(_,.sbx _ _)::ms,.ptr bx _::vs,.ptr nm _::os,K=> .get (X9+nm) λ
  | .bsb tb c=>Cmd.set (X9+nm) .dead (.get (X9+bx) λ
   | .dead=>Cmd.set (X9+bx) (.bsb tb c) (Y0 ms vs os K)
   |_=> .fail)
  |_=> .fail
 |(_,.sbx _ _)::_,_,_,_=> .fail|(_,.sit)::_,_,_,_=> .fail|_::ms,_::vs,os,K=>Y0 ms vs os K|[],[],[],K=>K|_,_,_,_=> .fail
def Ty.occ(t:Ty):Ty->Bool
 | .sl u=>decide (t=u) || Ty.occ t u| .prod a b=>Ty.occ t a || Ty.occ t b| .ent _ _ a b=>Ty.occ t a || Ty.occ t b|_=>false
def Ob(t:Ty):List Ty->Bool|[]=>false|u::r=>decide (t=u) || Ty.occ t u || Ob t r
def M.occ(t:Ty):M->Bool
 | .dat u=>Ty.occ t u| .own u=>Ty.occ t u| .pair a b=>a.occ t || b.occ t| .unit=>false| .box m=>m.occ t| .owns m=>m.occ t| .ownb u=>Ty.occ t u| .rp u=>decide (t=u) || Ty.occ t u| .fn _ ts=>Ob t ts| .ifc _ m=>m.occ t| .cell _=>false| .fr u=>decide (t=u) || Ty.occ t u| .sbx _ _=>false| .sit=>false| .lp u=>decide (t=u) || Ty.occ t u| .dv ..=>false
def Gy(t:Ty):List MG->Bool|[]=>false|m::r=>m.2.occ t || Gy t r
def Vo(s:FSpec):Ty->Bool:=λt=> !(Gy t s.rs || Gy t s.outs)
def EZ:Nat->List V->Option (List V×List V)
 |0,vs=>some ([],vs)
 |n+1,v::vs=>match EZ n vs with|some (a,b)=>some (v::a,b)|none=>none
 |_+1,[]=>none
def Dc:List V->Bool|[]=>false| .tup _::_=>true|_::r=>Dc r
def a6E:List V->V|[v]=>v|vs=> .tup vs
def Jq:List MG->List V->Bool
 |(_,.fn g _)::ms,.clos f _::vs=>Nat.beq f g&&Jq ms vs|(_,.fn g _)::ms,.fnv f::vs=>Nat.beq f g&&Jq ms vs|(_,.ifc t _)::ms,.ifc t' _::vs=>Nat.beq t t' &&Jq ms vs|(_,.dv _ _ _ fo)::ms,v::vs=>(match v with| .ep _ _ o=>Nat.beq o fo|_=>false)&&Jq ms vs|_::ms,_::vs=>Jq ms vs|_,_=>true
def Xy:List (Nat×FSpec)->Nat->List V->Option FSpec
 |[],_,_=>none|(g,s)::r,f,vs=>bif Nat.beq g f&&Jq s.ps vs then some s else Xy r f vs
def Z_(sz fo:Nat)(c:V)(K:V->Cmd α):Cmd α:=match c with
 | .sl u xs=>bif szB sz u then Cmd.opt (J8 xs (O6 .i64 (o8 xs) 1)) λy=>K (.dp u y fo)else .fail
 | .own bx none=> .get (X9+(Ji+bx)) λ
  | .blen ln sz' =>bif Nat.beq sz sz' then .br (inb (O6 .i64 ln 1) ln) (K (.ep bx (aW (O6 .i64 ln 1)) fo)) .fail else .fail
  |_=> .get (X9+bx) λ
   | .barr u xs=>bif szB sz u then Cmd.opt (J8 xs (O6 .i64 (o8 xs) 1)) λ_=>K (.ep bx (aW (O6 .i64 (o8 xs) 1)) fo)else .fail
   | .bfrz u xs=>bif szB sz u then Cmd.opt (J8 xs (O6 .i64 (o8 xs) 1)) λy=>K (.dp u y fo)else .fail
   | .barrs m xs _=>bif Nat.beq sz m.size then Cmd.opt (J8 xs (O6 .i64 (o8 xs) 1)) λ_=>K (.ep bx (aW (O6 .i64 (o8 xs) 1)) fo)else .fail|_=> .fail
 |_=> .fail
def Xw(off sz fo:Nat)(v:V)(K:V->Cmd α):Cmd α:=match v with
 | .ptr bx o=> .get (X9+bx) λ
  | .bcells cs=>OW (o+off) 1 cs (λr=>match r with|[c]=>Z_ sz fo c K|_=> .fail) .fail|_=> .fail
 | .dp u x o=>OW (o+off) 1 (flat u x []) (λr=>match r with|[c]=>Z_ sz fo c K|_=> .fail) .fail|_=> .fail
def b1G(a b:V)(K:Cmd α):Cmd α:=match a,b with
 | .ep n i o,.ep n' i' o' =>bif Nat.beq n n' &&Nat.beq o o' then .br (JB i i') K .fail else .fail|_,_=> .fail
def a6j:List V->Nat->V
 |[],_=> .un|v::_,0=>v|_::r,n+1=>a6j r n
def dvC{α:Type}(all:List V):List MG->List V->Cmd α->Cmd α
 |(_,.dv k off sz fo)::ms,v::vs,K=>Xw off sz fo (a6j all k) λr=>b1G r v (dvC all ms vs K)|_::ms,_::vs,K=>dvC all ms vs K|[],[],K=>K|_,_,_=> .fail
def TQ(E:Env)(q:Nat)(d:Option Tmp)(f:Nat)(vs:List V):Cmd Unit:=
 match Xy E.fs f vs with
 |none=> .fail|some s=>dvC vs s.ps vs<|
  IU (Vo s) s.ps vs λx=>Cmd.opt (s.fn x) λr=>
   IR (s.rs++s.outs) r (J9 q d) λws n' =>bif Nat.ble n' (J9 q d+64)then(match EZ s.rs.length ws with
    |some (a,o)=>bif Dc a then .fail else Y0 s.ps vs o (bY E d (a6E a))
    |none=> .fail)else .fail
def sV{α:Type} :List MG->List V->(List ((t:Ty)×t.den)->Cmd α)->Cmd α
 |(_,.rp t)::ms,v::vs,K=>rpC t v λx=>sV ms vs λcs=>K (⟨t,x⟩::cs)|[],[],K=>K []|_,_,_=> .fail
def b1F(c:(t:Ty)×t.den):V:=.dp c.1 c.2 0
def QH:List ((Nat×String)×Nat×Option Nat)->Nat->String->Option (Nat×Option Nat)
 |[],_,_=>none|((t,n),r)::l,u,m=>bif Nat.beq t u&&(n==m)then some r else QH l u m
def Ty.leaves:Ty->List Ty
 | .prod a b=>a.leaves++b.leaves| .unit=>[]|t=>[t]
def Nb:List Ty->List Ty->Bool
 |[],[]=>true|a::r,b::q=>bif Ty.beq a b then Nb r q else false|_,_=>false
def Xc(E:Env)(ke:Nat)(td:TD)(k:Ty):Bool:=
 match td,k with
 | .bool,.bool=>true| .int i,.int j=>decide (i=j)| .str,.str=>true| .struct _,k=>bif k.flat then(match bP E.eqs ke with|some sh=>Nb sh k.leaves|none=>false)else false|_,_=>false
structure MT where
 ke:Nat
 el:Nat
 ka:Bool
 va:Bool
 k:Ty
 v:Ty
abbrev MT.ent(m:MT):Ty:=.ent m.ka m.va m.k m.v
def KD(E:Env)(t:Nat):Option MT:=
 match bP E.tt t with
 |some i=>match i.td with
  | .map ke el=>match bP E.tt ke,bP E.tt el with
   |some a,some b=>(match a.ty,b.ty with
    |some k,some v=>bif Xc E ke a.td k&&k.flat then some ⟨ke,el,aN a.td,aN b.td,k,v⟩else none
    |_,_=>none)
   |_,_=>none
  |_=>none
 |none=>none
def a2t(ag:Bool)(t:Ty)(v:V)(K:t.den->Cmd α):Cmd α:=
 PU ag v λcs=>kC xG t cs λx q=>match q with|[]=>K x|_=> .fail
def a3r(u:Ty)(v:V)(K:List u.den->Cmd α):Cmd α:=
 match v with
 | .sl t xs=>Ty.castL t u xs K .fail
 | .own bx none=> .get (X9+bx) λ
  | .barr t xs=>Ty.castL t u xs K .fail| .bfrz t xs=>Ty.castL t u xs K .fail|_=> .fail
 |_=> .fail
def Gv(E:Env)(nm t:Nat)(K:V->Cmd Unit):Cmd Unit:=
 match KD E t with
 |some m=>rX nm (.barr m.ent []) (K (.own nm none))|none=> .fail
def a0c(E:Env)(t:Nat)(ok:Bool)(x ix:V)(K:V->Cmd Unit):Cmd Unit:=
 match KD E t with
 |some m=>a2t m.ka m.k ix λkey=>a3r m.ent x λes=>
   bif ok then K (.tup [mkV m.va (flat m.v (a6d (keq m.k) es key m.v.zero) []),.b (a6e (keq m.k) es key)])
   else K (mkV m.va (flat m.v (a6d (keq m.k) es key m.v.zero) []))
 |none=> .fail
def Ws(E:Env)(t:Nat)(x ix y:V):Cmd Unit:=
 match KD E t with
 |some m=>a2t m.ka m.k ix λkey=>a2t m.va m.v y λz=>match x with
  | .own bx none=> .get (X9+bx) λ
   | .barr u xs=>Ty.castL u m.ent xs (λes=>Cmd.set (X9+bx) (.barr m.ent (a1q (keq m.k) es key z)) (.ret ())) .fail|_=> .fail
  |_=> .fail
 |none=> .fail
def Oa:M->List V->Bool
 | .dat _,_=>true| .unit,_=>true
 | .own t,cs=>match cs with| .nl::_=> !t.isEnt|_=>false
 | .owns _,cs=>match cs with| .nl::_=>true|_=>false
 | .pair a b,cs=>match Qg a.size cs with|some r=>bif Oa a cs then Oa b r else false|none=>false
 |_,_=>false
def a0Q(E:Env)(t:Nat)(m:M):Bool:=
 match zD E t with
 |some (e,_)=>match bP E.tt e with|some j=>bif Nat.beq j.zero.length j.size then Oa m j.zero else false|none=>false
 |none=>false
def RD:Operand->Operand->Bool
 | .tmp a,.tmp b=>Nat.beq a b|_,_=>false
def b1E(t:Nat)(zs:List V):V:=match zs with
 |[.npt,.nl]=> .bsb t .nl|zs=> .bcells zs
def aH(E:Env)(q:Nat)(o:Oper):Cmd Unit:=
 match o.op with
 | .move x| .assign x=>ou x λv=>bY E o.dst v
 | .pick c a b=>ou c λ
  | .b t=>bif t then ou a λva=>bY E o.dst va else ou b λvb=>bY E o.dst vb|_=> .fail
 | .alloc t=>tiC E t λi=>bif Nat.beq i.zero.length i.size then rX (J9 q o.dst) (b1E t i.zero) (bY E o.dst (.ptr (J9 q o.dst) 0))else .fail
 | .box _ x=>ou x λv=>Df v λcs=>rX (J9 q o.dst) (.bcells cs) (bY E o.dst (.ptr (J9 q o.dst) 0))
 | .build t ps=>tiC E t λi=>match i.td with
  | .struct fs=>bif D_ E fs&&Nat.beq i.zero.length i.size then(KP (ps.toList.map (·.2)) λvs=>
    zy E t ((ps.toList.map (·.1)).zip vs) i.zero (λcs=>bY E o.dst (.agg cs)))else .fail
  | .arr _ e=>tiC E e λj=>bif Nat.beq i.zero.length i.size then(KP (ps.toList.map (·.2)) λvs=>
    FP j.size ((ps.toList.map (·.1)).zip vs) i.zero (λcs=>bY E o.dst (.agg cs)))else .fail
  |_=> .fail
 | .buildSlice t n ps=>match zD E t with
  |some (_,u)=>bif Nat.ble (n*u.size) 16777216 then(KP (ps.toList.map (·.2)) λvs=>match bP E.om t with
    |none=>wo u ((ps.toList.map (·.1)).zip vs) 0 n λxs=>rX (J9 q o.dst) (.barr u xs) (bY E o.dst (.own (J9 q o.dst) none))
    |some m=>bif Nat.beq m.size u.size&&m.el then sS m ((ps.toList.map (·.1)).zip vs) 0 n λxs=>rX (J9 q o.dst) (.barrs m xs none) (bY E o.dst (.own (J9 q o.dst) none))else .fail)else .fail
  |none=> .fail
 | .load t x=>ou x λp=>a7D E o.dst (J9 q o.dst) t p λv=>bY E o.dst v
 | .store t x y=>match o.dst with|none=>ou x λp=>ou y λv=>a5A E t p v|some _=> .fail
 | .binOp op t x y _=>ou x λa=>ou y λb=>FT E t op y a b λv=>bY E o.dst v
 | .unOp op _ x=>ou x λa=>unC op a λv=>bY E o.dst v
 | .convert src t x=>ou x λa=>tiC E src λj=>tiC E t λi=>match a,i.td with
  | .i _ n,.int k=>bY E o.dst (.i k (wrap k n))| .s l,.str=>bY E o.dst (.s l)| .s l,.sl _=>(match j.td with| .str=>a2r E (J9 q o.dst) t l λv=>bY E o.dst v|_=> .fail)
  |_,.str=>(match j.td with
   | .sl e=>tiC E e λk=>(match k.td with
    | .int .u8=>Xx (.int .u8) a λxs=>bY E o.dst (.s (WJ xs))
    |_=> .fail)
   |_=> .fail)
  |_,_=> .fail
 | .makeSlice t l c=>match bP E.om t with
  |some m=>(match zD E t with
   |some (_,u)=>ou l λ
    | .i _ n=>bif RD l c&&Nat.beq m.size u.size&&a0Q E t m then(if h:m.el=true/\m.ty=u then Cmd.opt (Gs n (m.zero h.1)) λxs=>rX (J9 q o.dst) (.barrs m xs none) (.set (X9+(Ji+J9 q o.dst)) (.blen (o8 xs) m.size) (bY E o.dst (.own (J9 q o.dst) none)))else .fail)else .fail|_=> .fail
   |none=> .fail)
  |none=>match zD E t with
  |some (_,u)=>ou l λ
   | .i _ n=>bif RD l c then
     Cmd.opt (Gs n u.zero) λxs=>rX (J9 q o.dst) (.barr u xs) (bY E o.dst (.own (J9 q o.dst) none))
    else ou c λ
     | .i _ k=>Cmd.br (jV n k 1073741824) (Cmd.opt (Gs n u.zero) λxs=>rX (J9 q o.dst) (.barr u xs) (bY E o.dst (.own (J9 q o.dst) none))) .fail|_=> .fail
   |_=> .fail
  |none=> .fail
 | .slice t x lo hi none=>ou x λv=>KP (lo.toList++hi.toList) λbs=>
   match lo,hi,bs with
   |none,none,[]=>(match v with
    | .ptr bx 0=>RP E (J9 q o.dst) t bx λr=>bY E o.dst r
    |_=>Nh E t v none none λr=>bY E o.dst r)
   |some _,none,[a]=>Nh E t v (some a) none λr=>bY E o.dst r
   |none,some _,[b]=>Nh E t v none (some b) λr=>bY E o.dst r
   |some _,some _,[a,b]=>Nh E t v (some a) (some b) λr=>bY E o.dst r|_,_,_=> .fail
 | .fieldAddr t x f=>ou x λp=>match Gf E t f with
  |some (off,_,_)=>match p with
   | .ptr bx o' =>bY E o.dst (.ptr bx (o' +off))| .ep bx ix o' =>bY E o.dst (.ep bx ix (o' +off))| .dp u y o' =>bY E o.dst (.dp u y (o' +off))|_=> .fail
  |none=> .fail
 | .field t x f=>ou x λp=>match Gf E t f with
  |some (off,n,ag)=>PU true p λps=>OW off n ps (λcs=>bY E o.dst (mkV ag cs)) Cmd.fail|none=> .fail
 | .indexAddr t x ix=>ou x λv=>ou ix λn=>Qx E t v n λr=>bY E o.dst r
 | .index t x ix=>ou x λv=>ou ix λn=>tiC E t λi=>match i.td,v,n with
  | .str,.s l,.i _ k=>Cmd.opt (sat l k) λc=>bY E o.dst (.i .u8 c)|_,_,_=> .fail
 | .extract x n=>ou x λ
  | .tup vs=>match vs[n]? with|some v=>bY E o.dst v|none=> .fail
  |_=> .fail
 | .nilCheck x=>ou x λv=>match v with
  | .ptr ..| .ep ..| .dp ..| .glob _=>bY E o.dst v|_=> .fail
 | .call c=>KP c.args.toList λvs=>match c.callee with
  | .builtin .len=>(match c.argTypes.toList,vs with
   |t::_,[x]=>tiC E t λi=>b1K i.td x λv=>bY E o.dst v
   |_,_=> .fail)
  | .builtin .append=>(match c.argTypes.toList,vs with
   |[t,t'],[x,y]=>bif Nat.beq t t' then E_ E (J9 q o.dst) t x y λv=>bY E o.dst v else(match y with
    | .s l=>tiC E t' λi=>(match i.td with| .str=>F_ E (J9 q o.dst) t x l λv=>bY E o.dst v|_=> .fail)
    |_=> .fail)
   |_,_=> .fail)
  | .builtin .copy=>(match c.argTypes.toList,vs with
   |[t,t'],[x,y]=>bif Nat.beq t t' then a7v E t x y λv=>bY E o.dst v else .fail
   |_,_=> .fail)
  | .builtin .min=>(match vs with|[.i k a,.i k' b]=>bif decide (k=k')then bY E o.dst (.i k (yD a b))else .fail|_=> .fail)| .builtin .max=>(match vs with|[.i k a,.i k' b]=>bif decide (k=k')then bY E o.dst (.i k (yC a b))else .fail|_=> .fail)
  | .value (.func f)=>(match bP E.pl f with
   |some (off,sz)=>(match vs with|[v]=>Xw off sz 0 v λr=>bY E o.dst r|_=> .fail)
   |none=>TQ E q o.dst f vs)
  | .value x=>ou x λ
   | .clos f caps=>TQ E q o.dst f (vs++caps.map b1F)|_=> .fail
  | .invoke x n=>ou x λ
   | .ifc t v=>(match QH E.ms t n with
    |some (f,none)=>TQ E q o.dst f (v::vs)
    |some (f,some e)=>IW E e v λr=>TQ E q o.dst f (r::vs)
    |none=> .fail)
   |_=> .fail
  |_=> .fail
 | .makeFunc (.func f) first caps=>bif Nat.beq first.size 0 then(match bP E.fs f with
   |some s=>KP caps.toList λvs=>sV (s.ps.drop (s.ps.length -vs.length)) vs λcs=>bY E o.dst (.clos f cs)
   |none=> .fail)else .fail
 | .makeInterface t x=>tiC E t λi=>(match i.td with
  | .bool| .int _| .str| .ptr _=>ou x λv=>(match v with
   | .b ..| .i ..| .s ..| .ptr ..=>bY E o.dst (.ifc t v)
   |_=> .fail)
  |_=> .fail)
 | .typeAssert x _ t ok=>tiC E t λi=>(match i.td with
  | .other=> .fail
  |_=>ou x λ
   | .ifc t' v=>bif Nat.beq t' t then bY E o.dst (bif ok then .tup [v,.b true]else v)else .fail
   |_=> .fail)
 | .makeMap t r=>(match r with
  |none=>Gv E (J9 q o.dst) t λv=>bY E o.dst v
  |some h=>ou h λ
   | .i _ _=>Gv E (J9 q o.dst) t λv=>bY E o.dst v
   |_=> .fail)
 | .range t x=>ou x λv=>tiC E t λi=>match i.td,v with
  | .str,.s l=>rX (J9 q o.dst) (.biter l 0) (bY E o.dst (.ptr (J9 q o.dst) 0))|_,_=> .fail
 | .next x isS=>bif isS then(ou x λ
   | .ptr bx 0=> .get (X9+bx) λ
    | .biter l p=> .br (H9 p (o8 l)) (Cmd.set (X9+bx) (.biter l (Hl l p)) (bY E o.dst (.tup [.b true,.i .i64 p,.i .i32 (Ee l p)]))) (bY E o.dst (.tup [.b false]))|_=> .fail
   |_=> .fail)else .fail
 | .lookup t x ix ok=>ou x λm=>ou ix λk=>a0c E t ok m k λv=>bY E o.dst v
 | .mapUpdate t x ix y| .insert t x ix y=>match o.dst with|none=>ou x λm=>ou ix λk=>ou y λv=>Ws E t m k v|some _=> .fail
 |_=> .fail
def lT(E:Env)(q:Nat)(ops:List Oper)(o:Oper):Cmd Unit:=
 match o.guard with
 |none=>aH E q o
 |some (j,want)=>match ops[j]? with
  |some p=>match p.dst with
   |some t=>bif Nat.blt t X9 then(.get t λ
    | .b y=>bif (bif want then y else !y)then aH E q o else bY E o.dst .un| .un=>bY E o.dst .un
    |_=> .fail)else .fail
   |none=> .fail
  |none=> .fail
def Pm(t:Nat)(s:St)(K:St->Option R):Option R:=
 (dG s t).force λ
  | .b y=>l7 y (K (.kv t (.b true)::s)) (K (.kv t (.b false)::s))| .un=>K s|_=>none
def a7t(ops:List Oper)(o:Oper):Option Nat:=
 match o.guard with
 |some (j,_)=>match ops[j]? with|some p=>p.dst|none=>none
 |none=>match o.op with| .pick (.tmp t) _ _=>some t|_=>none
abbrev Trs:=List Tr
def JI{R:Type}(E:Env)(q:Nat)(all:List Oper):List Oper->St->Trs->(St->Trs->Option R)->Option R
 |[],s,t,K=>K s t
 |o::r,s,t,K=>match a7t all o with
  |none=>(lT E q all o).runK s ([],[]) λ_ s' tr=>JI E q all r s' (tr::t) K
  |some p=>Pm p s λs=>(lT E q all o).runK s ([],[]) λ_ s' tr=>JI E q all r s' (tr::t) K
def Ha:List Nat->List Nat->Bool
 |[],[]=>true|a::r,b::q=>bif Nat.beq a b then Ha r q else false|_,_=>false
def mG(o:Oper):Bool:=match o.op with| .call ..=>true|_=>false
def Vd(E:Env)(o:Oper):Bool:=!mG o&&(match o.dst with|some d=>Bf d E.rc|none=>false)
def a2C(E:Env)(all:List Oper)(i:Nat):Bool:=match all[i]? with|some o=>Vd E o|none=>false
def UU(all:List Oper)(i:Nat):Bool:=match all[i]? with|some o=>mG o|none=>false
def a5J(a b:V)(K:Option R):Option R:=
 a.force λa=>b.force λb=>match a with
  | .i k n=>(match b with| .i k' n' =>bif decide (k=k')then l7 (C9 n n') K none else none|_=>none)| .sl t xs=>(match b with| .sl u ys=>Ty.castL u t ys (λys=>l7 (deq (.sl t) xs ys) K none) none|_=>none)| .b x=>(match b with| .b y=>l7 (PO x y) K none|_=>none)| .s x=>(match b with| .s y=>l7 (seq x y) K none|_=>none)|_=>none
abbrev a0S:=List (Oper×Tr×V)
def Uy{R:Type}(E:Env)(q:Nat)(all:List Oper)(s:St):a0S->Option R->Option R
 |[],K=>K
 |(o,tr,v)::p,K=>(lT E q all o).runK s ([],[]) λ_ s2 tr2=>match o.dst with
  |some d=>bif Ha tr.1 tr2.1&&Ha tr.2 tr2.2&&Ha tr2.2 [d]then a5J v (dG s2 d) (Uy E q all s p K)else none|none=>none
def QU(E:Env)(o:Oper)(s:St)(tr:Tr)(p:a0S):a0S:=
 bif Vd E o then(match o.dst with|some d=>(o,tr,dG s d)::p|none=>p)else p
def xR{R:Type}(E:Env)(q:Nat)(all:List Oper):List Oper->St->Trs->a0S->(St->Trs->Option R)->Option R
 |[],s,t,_,K=>K s t
 |o::r,s,t,p,K=>match a7t all o with
  |none=>(lT E q all o).runK s ([],[]) λ_ s' tr=>bif mG o then Uy E q all s' p (xR E q all r s' (tr::t) p K)else xR E q all r s' (tr::t) (QU E o s' tr p) K
  |some g=>Pm g s λs=>(lT E q all o).runK s ([],[]) λ_ s' tr=>bif mG o then Uy E q all s' p (xR E q all r s' (tr::t) p K)else xR E q all r s' (tr::t) (QU E o s' tr p) K
def OM(a b:List Nat):Bool:=match a with|[]=>true|k::r=>bif Bf k b then false else OM r b
def Zl(ordered:Bool)(x y:Tr):Bool:=bif ordered then true else(OM x.2 y.1&&OM x.2 y.2&&OM x.1 y.2)
def Ph(mask:Nat)(y:Tr):Trs->Nat->Bool
 |[],_=>true|x::r,i=>Zl (Nat.testBit mask (i -1)) x y&&Ph mask y r (i -1)
def QQ:List Nat->Trs->Bool
 |m::ms,y::r=>Ph m y r r.length&&QQ ms r|[],[]=>true|_,_=>false
def a0i(mask:Nat)(x:Tr):List (Nat×Tr)->Bool
 |[]=>true|(m,z)::r=>(Nat.testBit mask m || OM x.1 z.2)&&a0i mask x r
def a0m(ordered ex:Bool)(mask:Nat)(x y:Tr)(mids:List (Nat×Tr)):Bool:=
 bif ordered then true else(OM x.2 y.1&&OM x.2 y.2&&(bif OM x.1 y.2 then true else(ex&&OM x.2 x.1&&a0i mask x mids)))
def KI(E:Env)(all:List Oper)(mask:Nat)(y:Tr)(cy:Bool):Trs->Nat->List (Nat×Tr)->Bool
 |[],_,_=>true|x::r,i,mids=>a0m (Nat.testBit mask (i -1)) (cy&&a2C E all (i -1)) mask x y mids&&KI E all mask y cy r (i -1) ((i -1,x)::mids)
def KL(E:Env)(all:List Oper):List Nat->Trs->Bool
 |m::ms,y::r=>KI E all m y (UU all r.length) r r.length []&&KL E all ms r|[],[]=>true|_,_=>false
inductive Flow (ρ:Type) where
 |nm|ex (id:Nat)|rt (r:ρ)
def IQ(acc:List Nat)(n:Nat):List Edge->Nat->Option Nat
 |[],m=>some m
 |e::r,m=>match e.ground with
  | .textOnly _=>IQ acc n r m| .gcOnly _=>IQ acc n r m|_=>bif Nat.blt e.on n then IQ acc n r (m ||| 2^e.on ||| acc.getD (n -1 -e.on) 0)else none
def Vy:List Oper->Nat->List Nat->Option (List Nat)
 |[],_,acc=>some acc
 |o::r,n,acc=>match IQ acc n o.after.toList 0 with
  |some m=>Vy r (n+1) (m::acc)|none=>none
def JF(md:Region.Mode)(done:List Nat):List Edge->Bool
 |[]=>true|e::r=>bif (!Region.binds md e || Bf e.on done)then JF md done r else false
def tC(md:Region.Mode)(done:List Nat):List Oper->Nat->Option Nat
 |[],_=>none|o::r,n=>bif Bf n done then tC md done r (n+1)else bif JF md done o.after.toList then some n else tC md done r (n+1)
def C_:Nat->List Nat->Bool
 |0,_=>true|n+1,d=>Bf n d&&C_ n d
def Wp(md:Region.Mode)(ops:List Oper):Nat->List Nat->Bool
 |0,d=>C_ ops.length d
 |k+1,done=>match tC md done ops 0 with|some n=>Wp md ops k (n::done)|none=>false
def MN:List Edge->Bool
 |[]=>true
 |e::r=>match e.ground with| .textOnly _=>false| .gcOnly _=>false|_=>MN r
def Bl:List Oper->Bool|[]=>true|o::r=>bif MN o.after.toList then Bl r else false
def a2v(ops:List Oper)(t:Trs):Bool:=
 match Vy ops 0 []with
 |some ms=>bif QQ ms t then(bif Bl ops then true else Wp .text ops ops.length []&&Wp .gc ops ops.length [])else false|none=>false
def O_(E:Env)(ops:List Oper)(t:Trs):Bool:=
 match Vy ops 0 []with
 |some ms=>bif KL E ops ms t then(bif Bl ops then true else Wp .text ops ops.length []&&Wp .gc ops ops.length [])else false|none=>false
abbrev Rgs:=List (Nat×Nat)
inductive Ann where
 |leaf
 |seq (a b:Ann)|cond (a b:Ann)|blk (a:Ann)
 |loop (rs:Rgs) (hd:Sig) (xid:Nat) (xs:Sig) (body:Ann)
 |loopR (rs:Rgs) (hd:Sig) (xid:Nat) (xs:Sig) (body:Ann)
 |join (rs:Rgs) (nm:Sig) (inner:Ann)
 |joinR (rs:Rgs) (nm:Sig) (inner:Ann)
structure Ret where
 rs:List (ResultVar×MG)
 outs:List (Nat×MG)
@[reducible] def Ret.den (r:Ret):Type:=X4 (r.rs.map (·.2)++r.outs.map (·.2))
def MZ{α:Type}(E:Env):List ResultVar->(List V->Cmd α)->Cmd α
 |[],K=>K []| .tmp t::r,K=>bif Nat.blt t X9 then(.get t λv=>MZ E r λvs=>K (v::vs))else .fail| .cell a t::r,K=>bif Nat.blt a X9 then(.get a λp=>IW E t p λv=>MZ E r λvs=>K (v::vs))else .fail
def ML{α:Type} :List Nat->(List V->Cmd α)->Cmd α
 |[],K=>K []
 |n::r,K=>bif Nat.blt n X9 then .get n λv=>(match v with
  | .ptr bx 0=> .get (X9+bx) λ
   | .bcells cs=>Cmd.set (X9+bx) .dead (ML r λvs=>K (.agg cs::vs))|_=> .fail
  | .ifc _ u=>(match u with
   | .ptr bx 0=> .get (X9+bx) λ
    | .bcells cs=>Cmd.set (X9+bx) .dead (ML r λvs=>K (.agg cs::vs))|_=> .fail
   |_=> .fail)
  | .own bx none=>ML r λvs=>K (.own bx none::vs)
  |_=> .fail)else .fail
def a6G(E:Env)(r:Ret):Cmd r.den:=
 MZ E (r.rs.map (·.1)) λvs=>ML (r.outs.map (·.1)) λws=>IU xG (r.rs.map (·.2)++r.outs.map (·.2)) (vs++ws) .ret
def Ann.l:Ann->Ann| .seq a _=>a| .cond a _=>a| .blk a=>a|_=> .leaf
def Ann.r:Ann->Ann| .seq _ b=>b| .cond _ b=>b|_=> .leaf
def wz:Code->Nat
 | .region ..=>2| .seq x y=>1+wz x+wz y| .cond _ x y=>1+wz x+wz y| .block _ x=>1+wz x| .loop x=>3+wz x|_=>1
abbrev Den(ρ:Type):=Nat->Ann->St->Rgs->(R:Type)->(Flow ρ->St->Rgs->Option R)->Option R
def a1l(lo hi:Nat):Rgs->Bool|[]=>false|(a,b)::r=>bif Nat.ble a lo&&Nat.ble hi b then true else a1l lo hi r
def PZ(lim:Nat)(rs:Rgs):Rgs->Bool|[]=>true|(a,b)::w=>bif Nat.ble lim a || a1l a b rs then PZ lim rs w else false
def Kv(ks:List Nat)(w:Rgs):Rgs:=match ks with|[]=>w|k::r=>(k,k+1)::Kv r w
def Bd(rs:Rgs)(s:St):St:=match rs with|[]=>s|(a,b)::r=> .mask a b::Bd r s
def IV(q:Nat)(sg:Sig)(rs:Rgs)(s:St)(w:Rgs)(K:oC sg->Option R):Option R:=
 (a2E sg).runK s ([],[]) λx _ tr=>bif PZ (X9+CB*q) rs (Kv tr.2 w)then K x else none
def enter(q:Nat)(sg:Sig)(rs:Rgs)(s:St)(x:oC sg)(K:St->Rgs->Option R):Option R:=
 (a2x sg x (CB*q) (CB*q+CB)).runK (Bd rs s) ([],[]) λ_ s' tr=>K s' (Kv tr.2 rs)
def PK(a b:Rgs):Rgs:=match a with|[]=>b|x::r=>x::PK r b
def FD(core:Den ρ):Den ρ:=λq a s w R K=>
 match a with
 | .join rs nm a=>l9 (core (q+1) a s [] (oC nm) λfl s' w' =>match fl with
   | .nm=>IV q nm rs s' w' some
   |_=>none) λx=>enter q nm rs s x λs' w' =>K .nm s' (PK w' w)
 | .joinR rs nm a=>l9 (core (q+1) a s [] (oC nm⊕ρ) λfl s' w' =>match fl with
   | .nm=>IV q nm rs s' w' λx=>some (Sum.inl x)| .rt r=>some (Sum.inr r)
   |_=>none) λo=>ah o (λx=>enter q nm rs s x λs' w' =>K .nm s' (PK w' w)) (λr=>K (.rt r) [] [])
 |a=>core (q+1) a s w R K
def a4c(core:Den ρ)(q:Nat)(rs:Rgs)(hd:Sig)(xid:Nat)(xs:Sig)(a:Ann)(s:St)(x:oC hd):Option (oC hd⊕oC xs):=
 enter q hd rs s x λs w=>core (q+2) a s w (oC hd⊕oC xs) λfl s' w' =>match fl with
  | .nm=>IV q hd rs s' w' λx=>some (Sum.inl x)
  | .ex id=>bif Nat.beq id xid then IV q xs rs s' w' λy=>some (Sum.inr y)else none| .rt _=>none
def a4d(core:Den ρ)(q:Nat)(rs:Rgs)(hd:Sig)(xid:Nat)(xs:Sig)(a:Ann)(s:St)(x:oC hd):Option (Out (oC hd) (oC xs) ρ):=
 enter q hd rs s x λs w=>core (q+2) a s w (Out (oC hd) (oC xs) ρ) λfl s' w' =>match fl with
  | .nm=>IV q hd rs s' w' λx=>some (.nx x)
  | .ex id=>bif Nat.beq id xid then IV q xs rs s' w' λy=>some (.ex y)else none| .rt r=>some (.rt r)
def Xh(core:Den ρ):Den ρ:=λq a s w R K=>
 match a with
 | .loop rs hd xid xs a=>IV q hd rs s [] λx0=>
  l9 (aG (λx=>a4c core q rs hd xid xs a s x) x0) λy=>enter (q+1) xs rs s y λs' w' =>K (.ex xid) s' (PK w' w)
 | .loopR rs hd xid xs a=>IV q hd rs s [] λx0=>
  l9 (U8 (λx=>a4d core q rs hd xid xs a s x) x0) λo=>ah o (λy=>enter (q+1) xs rs s y λs' w' =>K (.ex xid) s' (PK w' w)) (λr=>K (.rt r) [] [])
 |_=>none
def zI(t:Trs)(w:Rgs):Rgs:=match t with|[]=>w|x::r=>Kv x.2 (zI r w)
def VE(E:Env)(q:Nat)(ops:Array Oper)(draw:Bool)(s:St)(w:Rgs)(K:St->Rgs->Option R):Option R:=
 match E.rc with
 |[]=>JI E q ops.toList ops.toList s [] λs' t=>
  bif draw then(bif a2v ops.toList t then K s' (zI t w)else none)else K s' (zI t w)
 |_::_=>xR E q ops.toList ops.toList s [] [] λs' t=>
  bif draw then(bif O_ E ops.toList t then K s' (zI t w)else none)else K s' (zI t w)
def den(E:Env)(rt:Ret):Code->Den rt.den
 | .skip=>FD λ_ _ s w _ K=>K .nm s w
 | .label _=>FD λ_ _ s w _ K=>K .nm s w
 | .region _ ops draw=>FD λq _ s w _ K=>VE E q ops draw s w λs' w' =>K .nm s' w'
 | .seq x y=>FD λq a s w R K=>den E rt x q a.l s w R λfl s' w' =>match fl with
   | .nm=>den E rt y (q+wz x) a.r s' w' R K| .ex id=>K (.ex id) s' w'| .rt r=>K (.rt r) s' w'
 | .cond c x y=>FD λq a s w R K=>(ou c λv=>Cmd.ret v:Cmd V).runK s ([],[]) λv s' _=>match v with
   | .b t=>l7 t (den E rt x q a.l s' w R K) (den E rt y (q+wz x) a.r s' w R K)|_=>none
 | .block id x=>FD λq a s w R K=>den E rt x q a.l s w R λfl s' w' =>match fl with
   | .nm=>K .nm s' w'| .ex j=>bif Nat.beq j id then K .nm s' w' else K (.ex j) s' w'| .rt r=>K (.rt r) s' w'
 | .loop x=>FD (Xh λq a s w R K=>den E rt x q a s w R K)
 | .exit id=>FD λ_ _ s w _ K=>K (.ex id) s w
 | .ret=>FD λ_ _ s _ _ K=>(a6G E rt).runK s ([],[]) λr _ _=>K (.rt r) [] []
 |_=>λ_ _ _ _ _ _=>none
def jR:List MG->Nat->List Nat
 |[],_=>[]|(_,.box _)::ms,n=>n::jR ms (n+1)|(_,.ifc _ (.box _))::ms,n=>n::jR ms (n+1)|(_,.ownb _)::ms,n=>n::jR ms (n+1)|_::ms,n=>jR ms (n+1)
def a5C:List Nat->List Nat->Bool
 |[],_=>true|a::r,b=>bif Bf a b then a5C r b else false
def a6f:List MG->Bool
 |[]=>true|(_,.sbx _ _)::_=>false|(_,.sit)::_=>false|_::r=>a6f r
def YL:List MG->Nat->Cmd Unit->Cmd Unit
 |[],_,K=>K
 |(_,.dv k off sz fo)::ms,n,K=>bif Nat.blt k X9&&Nat.blt n X9 then .get k λv=>Xw off sz fo v λr=> .set n r (YL ms (n+1) K)else .fail|_::ms,n,K=>YL ms (n+1) K
def a1b(E:Env)(ps:List MG)(rt:Ret)(body:Code)(a:Ann)(x:X4 ps):Option rt.den:=
 bif Nat.ble ps.length E.nt&&Ha (rt.outs.map (·.1)) (jR ps 0)&&a5C (rt.outs.map (·.1)) E.kp&&a6f ps then
 (IR ps x 0 λvs n=>bif Nat.ble n CB then Iy (List.range vs.length) vs (YL ps 0 (.ret ()))else .fail).runK [] ([],[]) λ_ s _=>
  den E rt body 1 a s [] rt.den λfl s' _=>match fl with
   | .rt r=>some r
   | .nm=>(a6G E rt).runK s' ([],[]) λr _ _=>some r| .ex _=>none
 else none
end Go.GP
namespace Go.GP
open RowKit
def bF(h:Array Obj)(blk off n:Nat):Option (List Value):=
 match h[blk]? with
 |some (.cells c _ _)=>if off+n<=c.size then some ((c.toList.drop off).take n)else none|_=>none
variable {h:Array Obj}{h':Array Obj}{blk:Nat}
theorem pM(e:h'[blk]? =h[blk]?)(off n:Nat):bF h' blk off n=bF h blk off n:=by simp[bF,e]
variable {n:Nat}{off:Nat}{es:List Value}
theorem nV(e:bF h blk off n=some es):es.length=n:=by
 unfold bF at e;split at e
 .split at e
  .cases e;simp;omega
  .cases e
 .cases e
theorem iO{c:Array Value}{T:TypeId}{f:Nat×Nat}(hb:h[blk]? =some (.cells c T f))(off n:Nat)(hn:off+n<=c.size):
  bF h blk off n=some ((c.toList.drop off).take n):=by simp[bF,hb,hn]
theorem qN(e:bF h blk off n=some es):
  ∃c T f,h[blk]? =some (.cells c T f)/\off+n<=c.size/\es=(c.toList.drop off).take n:=by
 unfold bF at e;split at e
 .rename_i c T f hb;split at e
  .cases e;exact⟨c,T,f,hb,by assumption,rfl⟩
  .cases e
 .cases e
theorem wG(e:bF h blk off n=some es)(a k:Nat)(hk:a+k<=n):
  bF h blk (off+a) k=some ((es.drop a).take k):=by
 obtain⟨c,T,f,hb,hn,rfl⟩:=qN e;rw[iO hb _ _ o5];congr 1;rw[gm,eP,V6];congr 1;omega
def qi(ag:Bool)(v:Value):List Value:=match ag with
 |true=>v.cells.toList|false=>[v]
def gok(ag:Bool)(v:Value):Prop:=match ag with
 |true=>∃arr,v= .agg arr|false=>v.oneCell' =true
def xe(t:Ty)(e:MapEntry):List Value:=match t with
 | .ent ka va _ _=>qi ka e.key++qi va e.val|_=>[]
def JX(t:Ty)(e:MapEntry):Prop:=match t with
 | .ent ka va k v=>gok ka e.key/\gok va e.val/\(qi ka e.key).length=k.size|_=>False
def b1B:Option IntKind->Value->Prop
 |none,_=>True|some k,v=>∃n,v= .int k n
def jH(h:Array Obj)(ok:Nat->Ty->Prop):(t:Ty)->t.den->List Value->Prop
 | .ent _ _ a b,x,cs=>∃c d,cs=c++d/\jH h ok a x.1 c/\jH h ok b x.2 d| .bool,x,cs=>cs=[.bool x]| .int k,n,cs=>cs=[.int k n]| .str,l,cs=>cs=[.string ⟨l.toArray⟩]| .prod a b,x,cs=>∃c d,cs=c++d/\jH h ok a x.1 c/\jH h ok b x.2 d| .unit,_,cs=>cs=[]| .any o,_,cs=>∃v,cs=[v]/\v.oneCell' =true/\b1B o v
 | .sl t,xs,cs=>(t.isEnt=false/\∃a cap,cs=[.slice a xs.length cap]/\xs.length<=cap/\
   ∀i x,xs[i]? =some x->∃blk off es,a=some ⟨blk,off,none⟩/\ok blk t/\bF h blk (off+i*t.size) t.size=some es/\jH h ok t x es)\/
   (t.isEnt=true/\∃mv,cs=[.map mv]/\(mv=none->xs=[])/\∀blk,mv=some blk->ok blk t/\∃(es:Array MapEntry) (ck:Nat),h[blk]? =some (.map es ck)/\es.size=(xs:List t.den).length/\
    ∀(i:Nat) (x:t.den),(xs:List t.den)[i]? =some x->∃e:MapEntry,es[i]? =some e/\JX t e/\jH h ok t x (xe t e))
variable {t:Ty}{xs:List t.den}{ok:Nat->Ty->Prop}
theorem wE{cs:List Value}(ht:t.isEnt=false):jH h ok (.sl t) xs cs↔∃a cap,cs=[.slice a xs.length cap]/\xs.length<=cap/\
   ∀i x,xs[i]? =some x->∃blk off es,a=some ⟨blk,off,none⟩/\ok blk t/\bF h blk (off+i*t.size) t.size=some es/\jH h ok t x es:=by
 constructor
 .rintro(h|h)
  .exact h.2
  .rw[ht]at h;cases h.1
 .exact λh=> .inl ⟨ht,h⟩
theorem ZC{cs:List Value}(ht:t.isEnt=true):jH h ok (.sl t) xs cs↔∃mv,cs=[.map mv]/\(mv=none->xs=[])/\∀blk,mv=some blk->ok blk t/\∃(es:Array MapEntry) (ck:Nat),h[blk]? =some (.map es ck)/\es.size=(xs:List t.den).length/\
    ∀(i:Nat) (x:t.den),(xs:List t.den)[i]? =some x->∃e:MapEntry,es[i]? =some e/\JX t e/\jH h ok t x (xe t e):=by
 constructor
 .rintro(h|h)
  .rw[ht]at h;cases h.1
  .exact h.2
 .exact λh=> .inr ⟨ht,h⟩
theorem dD{h:Array Obj}{ok:Nat->Ty->Prop} :∀{t:Ty} {x:t.den} {cs:List Value},jH h ok t x cs->cs.length=t.size
 | .bool,_,_,e=>by simp[jH]at e;simp[e,Ty.size]| .int _,_,_,e=>by simp[jH]at e;simp[e,Ty.size]| .str,_,_,e=>by simp[jH]at e;simp[e,Ty.size]| .unit,_,_,e=>by simp[jH]at e;simp[e,Ty.size]| .any _,_,_,e=>by obtain⟨v,rfl,_⟩:=e;rfl
 | .prod a b,_,_,e=>by obtain⟨c,d,rfl,h1,h2⟩:=e;simp[dD h1,dD h2,Ty.size]
 | .ent _ _ a b,_,_,e=>by obtain⟨c,d,rfl,h1,h2⟩:=e;simp[dD h1,dD h2,Ty.size]
 | .sl t,_,_,e=>by rcases e with⟨_,a,cap,rfl,_⟩|⟨_,mv,rfl,_⟩<;>simp[Ty.size]
theorem dE{h h' :Array Obj}{ok ok' :Nat->Ty->Prop}(hok:∀b t,ok b t->ok' b t)(hh:∀b t,ok b t->h'[b]? =h[b]?):
  ∀{t:Ty} {x:t.den} {cs:List Value},jH h ok t x cs->jH h' ok' t x cs
 | .bool,_,_,e=>e| .int _,_,_,e=>e| .str,_,_,e=>e| .unit,_,_,e=>e| .any _,_,_,e=>e| .prod a b,_,_,e=>by obtain⟨c,d,rfl,h1,h2⟩:=e;exact⟨c,d,rfl,dE hok hh h1,dE hok hh h2⟩
 | .ent _ _ a b,_,_,e=>by obtain⟨c,d,rfl,h1,h2⟩:=e;exact⟨c,d,rfl,dE hok hh h1,dE hok hh h2⟩
 | .sl t,xs,_,e=>by
  rcases e with⟨ht,a,cap,rfl,hc,hx⟩|⟨ht,mv,rfl,hn,hx⟩
  .refine .inl ⟨ht,a,cap,rfl,hc,λi x hi=>?_⟩;obtain⟨blk,off,es,ha,hb,he,hr⟩:=hx i x hi;exact⟨blk,off,es,ha,hok _ _ hb,by rw[pM (hh _ _ hb)];exact he,dE hok hh hr⟩
  .refine .inr ⟨ht,mv,rfl,hn,λblk hb=>?_⟩;obtain⟨ho,es,ck,he,hs,hi⟩:=hx blk hb;refine⟨hok _ _ ho,es,ck,by rw[hh _ _ ho];exact he,hs,λi x hx=>?_⟩;obtain⟨e,h1,h2,h3⟩:=hi i x hx;exact⟨e,h1,h2,dE hok hh h3⟩
theorem xP{h h' :Array Obj}{ok ok' :Nat->Ty->Prop} :∀{t:Ty} {x:t.den} {cs:List Value},t.flat=true->jH h ok t x cs->jH h' ok' t x cs
 | .bool,_,_,_,e=>e| .int _,_,_,_,e=>e| .str,_,_,_,e=>e| .unit,_,_,_,e=>e| .prod a b,_,_,f,e=>by simp[Ty.flat]at f;obtain⟨c,d,rfl,h1,h2⟩:=e;exact⟨c,d,rfl,xP f.1 h1,xP f.2 h2⟩
 | .sl t,xs,_,f,e=>by simp[Ty.flat]at f| .ent ..,xs,_,f,e=>by simp[Ty.flat]at f| .any _,xs,_,f,e=>by simp[Ty.flat]at f
theorem uf{h:Array Obj}{ok:Nat->Ty->Prop} :∀{t:Ty} {x:t.den} {cs:List Value},jH h ok t x cs->∀v∈cs,v.oneCell' =true
 | .bool,_,_,e=>by simp[jH]at e;subst e;simp[Value.oneCell']| .int _,_,_,e=>by simp[jH]at e;subst e;simp[Value.oneCell']| .str,_,_,e=>by simp[jH]at e;subst e;simp[Value.oneCell']| .unit,_,_,e=>by simp[jH]at e;subst e;simp| .any _,_,_,e=>by obtain⟨v,rfl,h,_⟩:=e;simp[h]
 | .prod a b,_,_,e=>by
  obtain⟨c,d,rfl,h1,h2⟩:=e;intro v hv;rcases O8.1 hv with hv|hv
  .exact uf h1 v hv
  .exact uf h2 v hv
 | .ent _ _ a b,_,_,e=>by
  obtain⟨c,d,rfl,h1,h2⟩:=e;intro v hv;rcases O8.1 hv with hv|hv
  .exact uf h1 v hv
  .exact uf h2 v hv
 | .sl t,xs,_,e=>by rcases e with⟨_,a,cap,rfl,_⟩|⟨_,mv,rfl,_⟩<;>simp[Value.oneCell']
theorem uG{h:Array Obj}{ok ok' :Nat->Ty->Prop} :∀{t:Ty} {x:t.den} {cs:List Value},(∀b u,ok b u->Ty.occ u t=true->ok' b u)->jH h ok t x cs->jH h ok' t x cs
 | .bool,_,_,_,e=>e| .int _,_,_,_,e=>e| .str,_,_,_,e=>e| .unit,_,_,_,e=>e| .any _,_,_,_,e=>e| .prod a b,_,_,f,e=>by obtain⟨c,d,rfl,h1,h2⟩:=e;exact⟨c,d,rfl,uG (λb u h k=>f b u h (by simp[Ty.occ,k])) h1,uG (λb u h k=>f b u h (by simp[Ty.occ,k])) h2⟩
 | .ent _ _ a b,_,_,f,e=>by obtain⟨c,d,rfl,h1,h2⟩:=e;exact⟨c,d,rfl,uG (λb u h k=>f b u h (by simp[Ty.occ,k])) h1,uG (λb u h k=>f b u h (by simp[Ty.occ,k])) h2⟩
 | .sl t,xs,_,f,e=>by
  rcases e with⟨ht,a,cap,rfl,hc,hx⟩|⟨ht,mv,rfl,hn,hx⟩
  .refine .inl ⟨ht,a,cap,rfl,hc,λi x hi=>?_⟩;obtain⟨blk,off,es,ha,hb,he,hr⟩:=hx i x hi;exact⟨blk,off,es,ha,f _ _ hb (by simp[Ty.occ]),he,uG (λb u h k=>f b u h (by simp[Ty.occ,k])) hr⟩
  .refine .inr ⟨ht,mv,rfl,hn,λblk hb=>?_⟩;obtain⟨ho,es,ck,he,hs,hi⟩:=hx blk hb;refine⟨f _ _ ho (by simp[Ty.occ]),es,ck,he,hs,λi x hx=>?_⟩;obtain⟨e,h1,h2,h3⟩:=hi i x hx;exact⟨e,h1,h2,uG (λb u h k=>f b u h (by simp[Ty.occ,k])) h3⟩
inductive Loc where
 |nil|arr (blk off len cap sz:Nat)|st (blk:Nat)|mp (blk:Nat)
structure Mp where
 loc:Nat->Option Loc
 kid:Nat->List Nat
instance:CoeFun Mp (λ_=>Nat->Option Loc):=⟨Mp.loc⟩
def nom:Mp:=⟨λ_=>none,λ_=>[]⟩
structure Cx where
 h:Array Obj
 ok:Nat->Ty->Prop
 m:Mp
def Loc.view:Loc->Option (Nat×Nat)->Value->Prop
 | .nil,none,v=>v= .slice none 0 0| .nil,some (lo,hi),v=>lo=0/\hi=0/\v= .slice none 0 0| .arr blk off len cap _,none,v=>v= .slice (some ⟨blk,off,none⟩) len cap| .arr blk off len cap sz,some (lo,hi),v=>lo<=hi/\hi<=len/\v= .slice (some (if cap=lo then⟨blk,off,none⟩else⟨blk,off+lo*sz,none⟩)) (hi -lo) (cap -lo)| .st _,_,_=>False| .mp b,none,v=>v= .map (some b)| .mp _,some _,_=>False
def Loc.blks:Loc->List Nat
 | .nil=>[]| .arr b _ _ _ _=>[b]| .st b=>[b]| .mp b=>[b]
def UZ(h:Array Obj)(ok:Nat->Ty->Prop)(t:Ty)(x:t.den)(o:Nat)(v:Value):Prop:=
 ∃blk off es,v= .pointer (some ⟨blk,off+o,none⟩)/\ok blk t/\bF h blk off t.size=some es/\jH h ok t x es
def AC(h:Array Obj)(ok:Nat->Ty->Prop):List ((t:Ty)×t.den)->List Value->Prop
 |[],vs=>vs=[]|c::cs,vs=>∃v r,vs=v::r/\UZ h ok c.1 c.2 0 v/\AC h ok cs r
def rJ(C:Cx):V->Value->Prop
 | .undef,_=>True| .un,v=>v=Go.undef| .b x,v=>v= .bool x| .i k n,v=>v= .int k n| .s l,v=>v= .string ⟨l.toArray⟩| .nl,v=>v= .slice none 0 0| .npt,v=>v= .pointer none| .ne b,v=>∃a c,v= .slice a 0 c/\a.isNone=b| .sl t xs,v=>jH C.h C.ok (.sl t) xs [v]| .own bx vw,v=>∃loc,C.m bx=some loc/\loc.view vw v| .ptr bx o,v=>∃blk,C.m bx=some (.st blk)/\v= .pointer (some ⟨blk,o,none⟩)| .ep bx ix o,v=>∃blk off len cap sz,C.m bx=some (.arr blk off len cap sz)/\ix<len/\v= .pointer (some ⟨blk,off+ix*sz+o,none⟩)| .dp t x o,v=>UZ C.h C.ok t x o v| .glob g,v=>v= .pointer (some ⟨g,0,none⟩)| .fnv f,v=>v= .func (.func f) #[] #[]| .clos f caps,v=>∃vs,v= .func (.func f) #[] vs/\AC C.h C.ok caps vs.toList| .ifc t c,v=>∃u,v= .iface t u/\u.oneCell' =true/\rJ C c u|_,_=>False
def dX(C:Cx):List V->List Value->Prop
 |[],vs=>vs=[]|c::cs,vs=>∃v r,vs=v::r/\rJ C c v/\v.oneCell' =true/\dX C cs r
def Rk(C:Cx):V->Value->Prop
 | .agg cs,v=>∃arr,v= .agg arr/\dX C cs arr.toList|c,v=>rJ C c v
def VI(C:Cx):List V->List Value->Prop
 |[],vs=>vs=[]|c::cs,vs=>∃v r,vs=v::r/\Rk C c v/\VI C cs r
def jG(C:Cx):V->Value->Prop
 | .tup cs,v=>∃arr,v= .tuple arr/\VI C cs arr.toList|c,v=>Rk C c v
def fzo(t:Ty)(n:Nat)(f:Nat×Nat):Prop:=f=(0,0)\/(t= .int .u8/\f=(n,n+1))
theorem fzo.of{f:Nat×Nat}(h:fzo t n f):f=(0,0)\/f=(n,n+1):=h.elim .inl λh=> .inr h.2
def arrOk(C:Cx)(t:Ty)(xs:List t.den):Loc->Prop
 | .nil=>xs=[]/\t.isEnt=false| .arr blk off len cap sz=>t.isEnt=false/\sz=t.size/\len=xs.length/\len<=cap/\∃c T f,C.h[blk]? =some (.cells c T f)/\fzo t c.size f/\off+cap*sz<=c.size/\
   ∀i x,xs[i]? =some x->∃es,bF C.h blk (off+i*sz) sz=some es/\jH C.h C.ok t x es
 | .st _=>False| .mp blk=>t.isEnt=true/\∃(es:Array MapEntry) (ck:Nat),C.h[blk]? =some (.map es ck)/\es.size=xs.length/\
   ∀(i:Nat) (x:t.den),(xs:List t.den)[i]? =some x->∃e:MapEntry,es[i]? =some e/\JX t e/\jH C.h C.ok t x (xe t e)
def zC{α:Type}(h:Array Obj)(sz:Nat)(R:Nat->α->List Value->List Nat->Prop)(xs:List α)(Os:List (List Nat)):Loc->Prop
 | .nil=>xs=[]/\Os=[]| .arr blk off len cap sz' =>sz' =sz/\len=xs.length/\len<=cap/\Os.length=xs.length/\∃c T,h[blk]? =some (.cells c T (0,0))/\off+cap*sz<=c.size/\
   ∀i x,xs[i]? =some x->∃es O,Os[i]? =some O/\bF h blk (off+i*sz) sz=some es/\R i x es O
 | .st _=>False| .mp _=>False
def xQ(h:Array Obj)(te:Nat)(xs:List UInt8):Loc->Prop
 | .nil=>xs=[]
 | .arr g off len cap sz=>off=0/\sz=1/\len=xs.length/\len<=cap/\cap<=maxLen/\∃cur fz,h[g]? =some (.cells cur te fz)/\fz.2<=len/\cur.size=cap/\cur.toList.take len=xs.map λc=>Value.int .u8 (c.toNat:Int)| .st _=>False| .mp _=>False
variable {l:Loc}
theorem BB{te:Nat}{xs:List UInt8}(hh:∀b∈l.blks,h'[b]? =h[b]?)(hr:xQ h te xs l):xQ h' te xs l:=by
 cases l with
 |nil=>exact hr|st b=>exact hr|mp b=>exact hr|arr g off len cap sz=>obtain⟨h1,h2,h3,h4,h5,cur,fz,h6,h7⟩:=hr;exact⟨h1,h2,h3,h4,h5,cur,fz,by rw[hh g (by simp[Loc.blks])];exact h6,h7⟩
def nJ(h:Array Obj)(ok:Nat->Ty->Prop):(m:M)->Option Nat->m.den->List Value->List Nat->Prop
 | .dat t,_,x,cs,O=>jH h ok t x cs/\O=[]| .own t,ho,xs,cs,O=>∃v,cs=[v]/\v.oneCell' =true/\(match ho with|some 0=>O=[]|_=>∃l,l.view none v/\arrOk ⟨h,ok,nom⟩ t xs l/\O=l.blks)| .pair a b,ho,x,cs,O=>∃c d O1 O2,cs=c++d/\O=O1++O2/\nJ h ok a (match ho with|some o=>if o<a.size then some o else none|none=>none) x.1 c O1/\
   nJ h ok b (match ho with|some o=>if o<a.size then none else some (o -a.size)|none=>none) x.2 d O2
 | .unit,_,_,cs,O=>cs=[]/\O=[]| .box m,_,x,cs,O=>∃blk arr T O',cs=[.pointer (some ⟨blk,0,none⟩)]/\h[blk]? =some (.cells arr T (0,0))/\nJ h ok m none x arr.toList O' /\O=blk::O'| .owns m,ho,xs,cs,O=>∃v,cs=[v]/\v.oneCell' =true/\(match ho with|some 0=>O=[]|_=>m.el=true/\∃l Os,l.view none v/\zC h m.size (λ_ x es O=>nJ h ok m none x es O) xs Os l/\O=l.blks++Os.flatten)| .ownb t,_,xs,cs,O=>∃l v,cs=[v]/\l.view none v/\arrOk ⟨h,ok,nom⟩ t xs l/\O=l.blks| .rp t,_,x,cs,O=>∃v,cs=[v]/\UZ h ok t x 0 v/\O=[]| .fn f ts,_,x,cs,O=>∃vs,cs=[.func (.func f) #[] vs]/\AC h ok (Nu ts x) vs.toList/\O=[]| .ifc t m,_,x,cs,O=>∃u,cs=[.iface t u]/\nJ h ok m none x [u] O| .lp t,_,x,cs,O=>∃v,cs=[v]/\UZ h ok t x 0 v/\O=[]| .dv ..,_,x,cs,O=>∃v,cs=[v]/\v.oneCell' =true/\O=[]| .cell b,_,x,cs,O=>∃v,cs=[v]/\v.oneCell' =true/\(b=some none->v= .slice none 0 0)/\(∀b',b=some (some b')->∃a c,v= .slice a 0 c/\a.isNone=b')/\O=[]| .fr t,_,xs,cs,O=>∃l v,cs=[v]/\l.view none v/\arrOk ⟨h,ok,nom⟩ t xs l/\(∀b∈l.blks,ok b t)/\O=[]| .sit,_,x,cs,O=>∃blk s q,cs=[.pointer (some ⟨blk,0,none⟩)]/\h[blk]? =some (.stringIter s q)/\s.data.toList=x.1/\x.2=((q:Nat):Int)/\O=[blk]| .sbx tb te,_,xs,cs,O=>∃blk a v l,cs=[.pointer (some ⟨blk,0,none⟩)]/\h[blk]? =some (.cells #[a,v] tb (0,0))/\(a= .pointer none\/a= .pointer (some ⟨blk,0,none⟩))/\l.view none v/\xQ h te xs l/\O=blk::l.blks
def Ti(hole:Option (Nat×Nat×Option Nat))(i:Nat):Option Nat:=match hole with|some (j,o,_)=>if i=j then some o else none|none=>none
def Qw(C:Cx)(sz:Nat)(l:Loc):Option (Nat×Nat×Option Nat)->Prop
 |none=>True|some (_,_,none)=>True|some (i,o,some n)=>∃blk off len cap u l',l= .arr blk off len cap sz/\bF C.h blk (off+i*sz+o) 1=some [u]/\C.m n=some l' /\l'.view none u
def I_(C:Cx)(m:M)(xs:List m.den)(hole:Option (Nat×Nat×Option Nat))(Os:List (List Nat))(l:Loc):Prop:=
 zC C.h m.size (λi x es O=>nJ C.h C.ok m (Ti hole i) x es O) xs Os l/\Qw C m.size l hole
def Bv(C:Cx)(n:Nat):V->Prop
 | .bcells cs=>∃blk arr T,C.m n=some (.st blk)/\C.h[blk]? =some (.cells arr T (0,0))/\dX C cs arr.toList| .biter l p=>∃blk s q,C.m n=some (.st blk)/\C.h[blk]? =some (.stringIter s q)/\s.data.toList=l/\p=((q:Nat):Int)| .bsb tb c=>∃blk a v,C.m n=some (.st blk)/\C.h[blk]? =some (.cells #[a,v] tb (0,0))/\(a= .pointer none\/a= .pointer (some ⟨blk,0,none⟩))/\rJ C c v| .brow te xs=>∃loc,C.m n=some loc/\xQ C.h te xs loc| .barr t xs=>∃loc,C.m n=some loc/\arrOk C t xs loc| .bfrz t xs=>∃loc,C.m n=some loc/\arrOk C t xs loc/\(∀blk,blk∈loc.blks->C.ok blk t)| .barrs m xs hole=>m.el=true/\∃loc Os,C.m n=some loc/\I_ C m xs hole Os loc/\C.m.kid n=Os.flatten| .bfc t x=>∃blk es,C.m n=some (.st blk)/\C.ok blk t/\bF C.h blk 0 t.size=some es/\jH C.h C.ok t x es| .gone t=>∃l,C.m n=some l/\∀blk off len cap sz,l= .arr blk off len cap sz->sz=t.size| .blen ln sz=>∃k l,n=Ji+k/\C.m k=some l/\(match l with| .arr _ _ len _ sz' =>ln=(len:Int)/\sz=sz'| .nil=>ln=0| .st _=>False| .mp _=>False)|_=>True
def S9(m:Mp)(n:Nat):V->List Nat
 | .bcells _=>match m n with|some (.st blk)=>[blk]|_=>[]
 | .biter _ _=>match m n with|some (.st blk)=>[blk]|_=>[]
 | .bsb _ _=>match m n with|some (.st blk)=>[blk]|_=>[]
 | .brow _ _=>match m n with|some (.arr blk _ _ _ _)=>[blk]|_=>[]
 | .barr _ _=>match m n with|some (.arr blk _ _ _ _)=>[blk]|some (.mp blk)=>[blk]|_=>[]
 | .barrs _ _ _=>(match m n with|some (.arr blk _ _ _ _)=>[blk]|_=>[])++m.kid n|_=>[]
def a6s:V->List Ty
 | .barr t _=>[t]| .barrs m _ _=>m.ty::m.owned|_=>[]
def a3p(v:V)(t:Ty):Prop:=match v with
 | .bcells _=>True|v=>t∈a6s v
structure Cx.le (C D:Cx):Prop where
 ok:∀b t,C.ok b t->D.ok b t
 h:∀b t,C.ok b t->D.h[b]? =C.h[b]?
 m:∀n l,C.m n=some l->D.m n=some l
theorem Cx.le.refl(C:Cx):C.le C:=⟨λ_ _ h=>h,λ_ _ _=>rfl,λ_ _ h=>h⟩
theorem Cx.le.trans{A B C:Cx}(h:A.le B)(k:B.le C):A.le C:=
 ⟨λb t x=>k.ok _ _ (h.ok _ _ x),λb t x=>(k.h _ _ (h.ok _ _ x)).trans (h.h _ _ x),λn l x=>k.m _ _ (h.m _ _ x)⟩
variable {v:Value}{ok':Nat->Ty->Prop}
theorem Ak(hok:∀b t,ok b t->ok' b t)(hh:∀b t,ok b t->h'[b]? =h[b]?){x:t.den}{o:Nat}(hr:UZ h ok t x o v):UZ h' ok' t x o v:=by obtain⟨b,o',es,hv,hb,hc,hp⟩:=hr;exact⟨b,o',es,hv,hok _ _ hb,by rw[pM (hh _ _ hb)];exact hc,dE hok hh hp⟩
theorem FV{h h' :Array Obj}{ok ok' :Nat->Ty->Prop}(hok:∀b t,ok b t->ok' b t)(hh:∀b t,ok b t->h'[b]? =h[b]?):∀{cs:List ((t:Ty)×t.den)} {vs:List Value},AC h ok cs vs->AC h' ok' cs vs
 |[],_,hr=>hr|_::_,_,⟨v,r,e,h1,h2⟩=>⟨v,r,e,Ak hok hh h1,FV hok hh h2⟩
variable {C:Cx}{D:Cx}
theorem VH(h:C.le D):∀{c:V} {v:Value},rJ C c v->rJ D c v:=by
 intro c;induction c using V.rec (motive_2:=λ_=>True)<;>try trivial
 all_goals
  intro v hr;simp only[rJ]at hr ⊢
  try exact hr
 case sl t xs=>exact dE h.ok h.h hr
 case own bx vw=>obtain⟨l,hm,hv⟩:=hr;exact⟨l,h.m _ _ hm,hv⟩
 case ptr bx o=>obtain⟨b,hm,hv⟩:=hr;exact⟨b,h.m _ _ hm,hv⟩
 case ep bx ix o=>obtain⟨b,o',l,c,s,hm,hv⟩:=hr;exact⟨b,o',l,c,s,h.m _ _ hm,hv⟩
 case dp t x o=>exact Ak h.ok h.h hr
 case clos f caps=>obtain⟨vs,e,hc⟩:=hr;exact⟨vs,e,FV h.ok h.h hc⟩
 case ifc t c ih=>obtain⟨u,e,h1,hc⟩:=hr;exact⟨u,e,h1,ih hc⟩
theorem CO{C D:Cx}(h:C.le D):∀{cs:List V} {vs:List Value},dX C cs vs->dX D cs vs
 |[],_,hr=>hr|_::_,_,⟨v,r,e,h1,h2,h3⟩=>⟨v,r,e,VH h h1,h2,CO h h3⟩
theorem a0r(h:C.le D){c:V}(hr:Rk C c v):Rk D c v:=by
 cases c<;>simp only[Rk]at hr ⊢<;>try exact VH h hr
 case agg cs=>obtain⟨arr,e,hl⟩:=hr;exact⟨arr,e,CO h hl⟩
theorem a0s{C D:Cx}(h:C.le D):∀{cs:List V} {vs:List Value},VI C cs vs->VI D cs vs
 |[],_,hr=>hr|_::_,_,⟨v,r,e,h1,h3⟩=>⟨v,r,e,a0r h h1,a0s h h3⟩
theorem La(h:C.le D){c:V}(hr:jG C c v):jG D c v:=by
 cases c<;>simp only[jG]at hr ⊢<;>try exact a0r h hr
 case tup cs=>obtain⟨arr,e,hl⟩:=hr;exact⟨arr,e,a0s h hl⟩
theorem lX{m m' :Mp}(hok:∀b t,ok b t->ok' b t)(hh:∀b t,ok b t->h'[b]? =h[b]?)
  (hb:∀b∈l.blks,h'[b]? =h[b]?) (hr:arrOk ⟨h,ok,m⟩ t xs l):arrOk ⟨h',ok',m'⟩ t xs l:=by
 cases l with
 |nil=>exact hr|st b=>exact hr|mp blk=>have e:=hb blk (by simp[Loc.blks]);obtain⟨h1,es,ck,h2,h3,h4⟩:=hr;refine⟨h1,es,ck,by show h'[blk]? =_;rw[e];exact h2,h3,λi x hi=>?_⟩;obtain⟨en,a1,a2,a3⟩:=h4 i x hi;exact⟨en,a1,a2,dE hok hh a3⟩
 |arr blk off len cap sz=>have e:=hb blk (by simp[Loc.blks]);obtain⟨h0,h1,h2,h3,c,T,f,h4,hz,h5,h6⟩:=hr;refine⟨h0,h1,h2,h3,c,T,f,by show h'[blk]? =_;rw[e];exact h4,hz,h5,λi x hi=>?_⟩;obtain⟨es,he,hp⟩:=h6 i x hi;exact⟨es,by show bF h' _ _ _=_;rw[pM e];exact he,dE hok hh hp⟩
theorem WE(h:C.le D)(hb:∀b∈l.blks,D.h[b]? =C.h[b]?)(hr:arrOk C t xs l):arrOk D t xs l:=
 lX h.ok h.h hb hr
theorem BP{α:Type}{sz:Nat}{R R' :Nat->α->List Value->List Nat->Prop}{xs:List α}{Os:List (List Nat)}(hb:∀b∈l.blks,h'[b]? =h[b]?)
  (hR:∀i x es O,O∈Os->R i x es O->R' i x es O) (hr:zC h sz R xs Os l):zC h' sz R' xs Os l:=by
 cases l with
 |nil=>exact hr|st b=>exact hr|mp b=>exact hr|arr blk off len cap sz=>have e:=hb blk (by simp[Loc.blks]);obtain⟨h1,h2,h3,h7,c,T,h4,h5,h6⟩:=hr;refine⟨h1,h2,h3,h7,c,T,by rw[e];exact h4,h5,λi x hi=>?_⟩;obtain⟨es,O,hO,he,hp⟩:=h6 i x hi;exact⟨es,O,hO,by rw[pM e];exact he,hR _ _ _ _ (mJ hO) hp⟩
theorem jf{h h' :Array Obj}{ok ok' :Nat->Ty->Prop}(hok:∀b t,ok b t->ok' b t)(hh:∀b t,ok b t->h'[b]? =h[b]?):
  ∀{m:M} {ho:Option Nat} {x:m.den} {cs:List Value} {O:List Nat},(∀b∈O,h'[b]? =h[b]?)->nJ h ok m ho x cs O->nJ h' ok' m ho x cs O
 | .dat t,_,_,_,_,_,e=>⟨dE hok hh e.1,e.2⟩| .own t,ho,_,_,O,hb,⟨v,e,h1,ha⟩=>by
  refine⟨v,e,h1,?_⟩;split at ha
  .exact ha
  .obtain⟨l,hv,ha,ho⟩:=ha;exact⟨l,hv,lX hok hh (by subst ho;exact hb) ha,ho⟩
 | .pair a b,_,_,_,_,hb,⟨c,d,O1,O2,e,eo,h1,h2⟩=>by subst eo;exact⟨c,d,O1,O2,e,rfl,jf hok hh (λb h=>hb b (by simp[h])) h1,jf hok hh (λb h=>hb b (by simp[h])) h2⟩| .unit,_,_,_,_,_,e=>e| .box m,_,_,_,_,hb,⟨blk,arr,T,O',e,hh',hr,eo⟩=>by subst eo;exact⟨blk,arr,T,O',e,by rw[hb blk x9];exact hh',jf hok hh (λb h=>hb b (by simp[h])) hr,rfl⟩| .owns m,ho,_,_,O,hb,⟨v,e,h1,ha⟩=>by
  refine⟨v,e,h1,?_⟩;split at ha
  .exact ha
  .obtain⟨he,l,Os,hv,ha,ho⟩:=ha;subst ho;exact⟨he,l,Os,hv,BP (λb h=>hb b (by simp[h])) (λi x es O hO hr=>jf hok hh (λb h=>hb b (by simp only[O8,bJ];exact .inr ⟨O,hO,h⟩)) hr) ha,rfl⟩
 | .ownb t,_,_,_,_,hb,⟨l,v,e,hv,ha,ho⟩=>⟨l,v,e,hv,lX hok hh (by subst ho;exact hb) ha,ho⟩| .rp t,_,_,_,_,_,⟨v,e,h1,h2⟩=>⟨v,e,Ak hok hh h1,h2⟩| .fn f ts,_,_,_,_,_,⟨vs,e,h1,h2⟩=>⟨vs,e,FV hok hh h1,h2⟩| .lp t,_,_,_,_,_,⟨v,e,h1,h2⟩=>⟨v,e,Ak hok hh h1,h2⟩| .dv ..,_,_,_,_,_,h=>h| .ifc t m,_,_,_,_,hb,⟨u,e,h1⟩=>⟨u,e,jf hok hh hb h1⟩| .cell b,_,_,_,_,_,h=>h| .fr t,_,_,_,_,_,⟨l,v,e,hv,ha,hk,ho⟩=>⟨l,v,e,hv,lX hok hh (λb h=>hh _ _ (hk b h)) ha,λb h=>hok _ _ (hk b h),ho⟩| .sit,_,_,_,_,hb,⟨blk,s,q,e,hh',h2,h3,eo⟩=>by subst eo;exact⟨blk,s,q,e,by rw[hb blk x9];exact hh',h2,h3,rfl⟩| .sbx tb te,_,_,_,_,hb,⟨blk,a,v,l,e,hh',h2,h3,h4,eo⟩=>by subst eo;exact⟨blk,a,v,l,e,by rw[hb blk x9];exact hh',h2,h3,BB (λb h=>hb b (by simp[h])) h4,rfl⟩
theorem Pn(h:C.le D){v:V}(hk:D.m.kid n=C.m.kid n)(hb:∀b∈S9 C.m n v,D.h[b]? =C.h[b]?)(hr:Bv C n v):Bv D n v:=by
 cases v<;>simp only[Bv]at hr ⊢
 case bcells cs=>obtain⟨blk,arr,T,hm,hh,hl⟩:=hr;exact⟨blk,arr,T,h.m _ _ hm,by rw[hb blk (by simp[S9,hm])];exact hh,CO h hl⟩
 case biter l p=>obtain⟨blk,s,q,hm,hh,h2,h3⟩:=hr;exact⟨blk,s,q,h.m _ _ hm,by rw[hb blk (by simp[S9,hm])];exact hh,h2,h3⟩
 case bsb tb c=>obtain⟨blk,a,v,hm,hh,h2,h3⟩:=hr;exact⟨blk,a,v,h.m _ _ hm,by rw[hb blk (by simp[S9,hm])];exact hh,h2,VH h h3⟩
 case brow te xs=>
  obtain⟨l,hm,ha⟩:=hr;refine⟨l,h.m _ _ hm,BB (λb hbl=>hb b ?_) ha⟩;cases l<;>simp[Loc.blks]at hbl
  .subst hbl;simp[S9,hm]
  .cases ha
  .cases ha
 case barr t xs=>
  obtain⟨l,hm,ha⟩:=hr;refine⟨l,h.m _ _ hm,WE h ?_ ha⟩;intro b hbl;refine hb b ?_;cases l<;>simp[Loc.blks]at hbl
  .subst hbl;simp[S9,hm]
  .cases ha
  .subst hbl;simp[S9,hm]
 case bfrz t xs=>obtain⟨l,hm,ha,hok⟩:=hr;refine⟨l,h.m _ _ hm,WE h ?_ ha,λblk e=>h.ok _ _ (hok _ e)⟩;intro b hbl;exact h.h _ _ (hok _ hbl)
 case barrs m xs hole=>
  obtain⟨he,l,Os,hm,ha,ho⟩:=hr;obtain⟨ha,hh⟩:=ha;refine⟨he,l,Os,h.m _ _ hm,⟨BP ?_ ?_ ha,?_⟩,hk.trans ho⟩
  .intro b hbl;refine hb b ?_;cases l<;>simp[Loc.blks]at hbl
   .subst hbl;simp[S9,hm]
   .cases ha
   .cases ha
  .intro i x es O hO hr;refine jf h.ok h.h (λb hbO=>hb b ?_) hr;simp only[S9,O8];right;rw[ho];exact bJ.2 ⟨O,hO,hbO⟩
  .rcases hole with _|⟨i,o,_|k⟩
   .trivial
   .trivial
   .obtain⟨blk,off,len,cap,u,l',rfl,h1,h2,h3⟩:=hh;exact⟨blk,off,len,cap,u,l',rfl,by rw[pM (hb blk (by simp[S9,hm]))];exact h1,h.m _ _ h2,h3⟩
 case bfc t x=>obtain⟨blk,es,hm,hok,he,hr⟩:=hr;exact⟨blk,es,h.m _ _ hm,h.ok _ _ hok,by rw[pM (h.h _ _ hok)];exact he,dE h.ok h.h hr⟩
 case gone t=>obtain⟨l,hm,hs⟩:=hr;exact⟨l,h.m _ _ hm,hs⟩
 case blen ln sz=>obtain⟨k,l,e,hm,hs⟩:=hr;exact⟨k,l,e,h.m _ _ hm,hs⟩
theorem iZ{C:Cx} :∀{cs:List V} {vs:List Value},dX C cs vs->cs.length=vs.length
 |[],_,h=>by simp[dX]at h;simp[h]|_::_,_,⟨v,r,e,_,_,h3⟩=>by subst e;simp[iZ h3]
theorem tZ{C:Cx} :∀{a:List V} {va:List Value} {b:List V} {vb:List Value},dX C a va->dX C b vb->dX C (a++b) (va++vb)
 |[],_,_,_,h,k=>by simp[dX]at h;subst h;exact k|_::_,_,_,_,⟨v,r,e,h1,h2,h3⟩,k=>by subst e;exact⟨v,r++_,rfl,h1,h2,tZ h3 k⟩
theorem KY{C:Cx} :∀{cs:List V} {vs:List Value},dX C cs vs->∀v∈vs,v.oneCell' =true
 |[],_,h=>by simp[dX]at h;simp[h]|_::_,_,⟨v,r,e,_,h2,h3⟩=>by
  subst e;intro u hu;rcases A8.1 hu with rfl|hu
  .exact h2
  .exact KY h3 u hu
theorem qC{C:Cx} :∀(n:Nat) {cs:List V} {vs:List Value},dX C cs vs->dX C (cs.drop n) (vs.drop n)
 |0,_,_,h=>by simpa using h|n+1,[],_,h=>by simp[dX]at h;subst h;simp[dX]|n+1,_::_,_,⟨v,r,e,_,_,h3⟩=>by subst e;simpa using qC n h3
theorem rQ{C:Cx} :∀(n:Nat) {cs:List V} {vs:List Value},dX C cs vs->dX C (cs.take n) (vs.take n)
 |0,_,_,h=>by simp[dX]|n+1,[],_,h=>by simp[dX]at h;subst h;simp[dX]|n+1,_::_,_,⟨v,r,e,h1,h2,h3⟩=>by subst e;exact⟨v,r.take n,x9,h1,h2,rQ n h3⟩
theorem jZ:∀(t:Ty) (x:t.den) (r:List V),flat t x r=flat t x []++r
 | .bool,_,_=>rfl| .int _,_,_=>rfl| .str,_,_=>rfl| .sl _,_,_=>rfl| .unit,_,_=>rfl| .any _,_,_=>rfl| .prod a b,x,r=>by simp only[flat];rw[jZ a x.1 (flat b x.2 r),jZ b x.2 r,jZ a x.1 (flat b x.2 [])];simp| .ent _ _ a b,x,r=>by simp only[flat];rw[jZ a x.1 (flat b x.2 r),jZ b x.2 r,jZ a x.1 (flat b x.2 [])];simp
theorem nT{C:Cx} :∀{t:Ty} {x:t.den} {cs:List Value},jH C.h C.ok t x cs->dX C (flat t x []) cs
 | .bool,x,_,h=>by simp[jH]at h;subst h;exact⟨_,_,rfl,rfl,rfl,rfl⟩| .int _,x,_,h=>by simp[jH]at h;subst h;exact⟨_,_,rfl,rfl,rfl,rfl⟩| .str,x,_,h=>by simp[jH]at h;subst h;exact⟨_,_,rfl,rfl,rfl,rfl⟩| .unit,_,_,h=>by simp[jH]at h;subst h;rfl| .any _,_,_,h=>by obtain⟨v,rfl,h1,_⟩:=h;exact⟨v,[],rfl,trivial,h1,rfl⟩
 | .sl t,xs,_,h=>by have h' :=h;rcases h with⟨_,a,cap,rfl,_⟩|⟨_,mv,rfl,_⟩<;>exact⟨_,_,rfl,h',rfl,rfl⟩
 | .ent _ _ a b,x,_,h=>by obtain⟨c,d,rfl,h1,h2⟩:=h;simp only[flat];rw[jZ a];exact tZ (nT h1) (nT h2)
 | .prod a b,x,_,h=>by obtain⟨c,d,rfl,h1,h2⟩:=h;simp only[flat];rw[jZ a];exact tZ (nT h1) (nT h2)
theorem lu:∀(t:Ty) (x:t.den),(flat t x []).length=t.size
 | .bool,_=>rfl| .int _,_=>rfl| .str,_=>rfl| .sl _,_=>rfl| .unit,_=>rfl| .any _,_=>rfl| .prod a b,x=>by simp only[flat,Ty.size];rw[jZ a,D8,lu a x.1,lu b x.2]| .ent _ _ a b,x=>by simp only[flat,Ty.size];rw[jZ a,D8,lu a x.1,lu b x.2]
theorem mF{vw:Option (Nat×Nat)}(ha:arrOk C t xs l)(hv:l.view vw v)
  (hok:∀b t,C.ok b t->ok' b t) (hb:∀blk,blk∈l.blks->ok' blk t):jH C.h ok' (.sl t) (iq vw xs) [v]:=by
 cases l with
 |st b=>cases ha|mp b=>
  obtain⟨h0,es,ck,h1,h2,h3⟩:=ha;cases vw with
  |some p=>cases hv|none=>simp only[Loc.view]at hv;subst hv;refine .inr ⟨h0,some b,rfl,(λh=>nomatch h),λblk e=>?_⟩;cases e;refine⟨hb b (by simp[Loc.blks]),es,ck,h1,h2,λi x hi=>?_⟩;obtain⟨en,a1,a2,a3⟩:=h3 i x hi;exact⟨en,a1,a2,dE hok (λ_ _ _=>rfl) a3⟩
 |nil=>
  obtain⟨ha,h0⟩:=ha;subst ha;cases vw with
  |none=>simp only[Loc.view]at hv;subst hv;exact .inl ⟨h0,none,0,rfl,F5 _,λi x hi=>by simp[iq]at hi⟩|some p=>obtain⟨lo,hi⟩:=p;obtain⟨rfl,rfl,rfl⟩:=hv;exact .inl ⟨h0,none,0,by simp[iq,iY],by simp[iq,iY],λi x hi=>by simp[iq,iY]at hi⟩
 |arr blk off len cap sz=>
  obtain⟨h0,rfl,rfl,hc,c,T,f,hh,hz,hs,hx⟩:=ha;have hbk:=hb blk (by simp[Loc.blks]);cases vw with
  |none=>simp only[Loc.view]at hv;subst hv;refine .inl ⟨h0,_,cap,rfl,hc,λi x hi=>?_⟩;obtain⟨es,he,hr⟩:=hx i x hi;exact⟨blk,off,es,rfl,hbk,he,dE hok (λ_ _ _=>rfl) hr⟩
  |some p=>
   obtain⟨lo,hi⟩:=p;obtain⟨h1,h2,rfl⟩:=hv;have hl:(iq (some (lo,hi)) xs).length=hi -lo:=by simp[iq,iY];omega
   refine .inl ⟨h0,_,cap -lo,by rw[hl],by rw[hl];omega,λi x hix=>?_⟩;have hi' :i<hi -lo:=by rw[←hl];exact(ax.1 hix).1
   have hx' :xs[lo+i]? =some x:=by
    simp only[iq,iY,U2,U3]at hix;split at hix
    .exact hix
    .cases hix
   obtain⟨es,he,hr⟩:=hx _ x hx';have hne:cap≠lo:=o5;refine⟨blk,off+lo*t.size,es,by simp[hne],hbk,?_,dE hok (λ_ _ _=>rfl) hr⟩;rw[←he];congr 1;rw[I7];omega
end Go.GP
namespace Go.GP
abbrev Sm:=Nat->V
def upd(S:Sm)(k:Nat)(v:V):Sm:=λn=>if n=k then v else S n
@[simp] theorem jW (S:Sm) (k:Nat) (v:V):upd S k v k=v:=by simp[upd]
theorem aK(S:Sm){k n:Nat}(v:V)(h:n≠k):upd S k v n=S n:=by simp[upd,h]
variable {α:Type}
def Cmd.eval :Cmd α->Sm->Tr->Option (α×Sm×Tr)
 | .ret x,S,t=>some (x,S,t)| .fail,_,_=>none| .get k c,S,t=>(c (S k)).eval S (k::t.1,t.2)| .set k v c,S,t=>c.eval (upd S k v) (t.1,k::t.2)
 | .opt o c,S,t=>match o with|some x=>(c x).eval S t|none=>none
 | .br b c d,S,t=>if b=true then c.eval S t else d.eval S t
def Cmd.post :Cmd α->Sm->(α->Sm->Prop)->Prop
 | .ret x,S,Q=>Q x S| .fail,_,_=>True| .get k c,S,Q=>(c (S k)).post S Q| .set k v c,S,Q=>c.post (upd S k v) Q| .opt o c,S,Q=>∀x,o=some x->(c x).post S Q| .br b c d,S,Q=>(b=true->c.post S Q)/\(b=false->d.post S Q)
theorem qx{α:Type}{Q:α->Sm->Prop} :∀{c:Cmd α} {S S' :Sm} {t t' :Tr} {x:α},c.post S Q->c.eval S t=some (x,S',t')->Q x S'
 | .ret x,_,_,_,_,_,h,e=>by simp[Cmd.eval]at e;obtain⟨rfl,rfl,rfl⟩:=e;exact h
 | .fail,_,_,_,_,_,h,e=>by simp[Cmd.eval]at e| .get k c,_,_,_,_,_,h,e=>qx (c:=c _) h e| .set k v c,_,_,_,_,_,h,e=>qx (c:=c) h e| .opt o c,_,_,_,_,_,h,e=>by
  cases o with
  |none=>simp[Cmd.eval]at e|some x=>exact qx (c:=c x) (h x rfl) e
 | .br b c d,_,_,_,_,_,h,e=>by
  cases b
  .exact qx (c:=d) (h.2 rfl) (by simpa[Cmd.eval]using e)
  .exact qx (c:=c) (h.1 rfl) (by simpa[Cmd.eval]using e)
theorem yM{α:Type}{Q Q' :α->Sm->Prop}(hq:∀x S,Q x S->Q' x S):∀{c:Cmd α} {S:Sm},c.post S Q->c.post S Q'
 | .ret x,_,h=>hq _ _ h| .fail,_,_=>trivial| .get k c,_,h=>yM hq (c:=c _) h| .set k v c,_,h=>yM hq (c:=c) h
 | .opt o c,_,h=>λx e=>yM hq (c:=c x) (h x e)| .br b c d,_,h=>⟨λe=>yM hq (c:=c) (h.1 e),λe=>yM hq (c:=d) (h.2 e)⟩
theorem DN{R:Type} :∀(v:V) (K:V->R),v.force K=K v:=by
 intro v;induction v using V.rec (motive_2:=λ_=>True)<;>try trivial
 all_goals intro K
 all_goals try rfl
 case i k n=>cases k<;>rfl
 case own bx vw=>cases vw<;>rfl
 case barrs m xs h=>rcases h with _|⟨p,q,_|r⟩<;>rfl
 case ifc t v ih=>simp only[V.force];rw[ih]
 case bsb tb c ih=>simp only[V.force];rw[ih]
theorem Ua{R:Type} :∀(l:List V) (K:List V->R),Md l K=K l
 |[],_=>rfl|v::r,K=>by simp[Md,DN,Ua r]
theorem a1f{R:Type}(v:V)(K:V->R):v.force2 K=K v:=by unfold V.force2;rw[DN];cases v<;>simp[Ua]
theorem a0b(k:Nat)(v:V)(s:St):dG (.kv k v::s)=upd (dG s) k v:=by
 funext n;simp only[dG,upd];by_cases h:n=k
 .subst h;simp
 .have:Nat.beq k n=false:=by
   cases hb:Nat.beq k n with
   |false=>rfl|true=>exact absurd (fG hb).symm h
  simp[h,this]
theorem Bi{α β:Type}{o:Option α}{f:α->Option β}{r:β}(h:l9 o f=some r):∃x,o=some x/\f x=some r:=by
 cases o with
 |none=>simp[l9]at h|some x=>exact⟨x,rfl,h⟩
theorem nU{α R:Type} :∀{c:Cmd α} {s:St} {t:Tr} {K:α->St->Tr->Option R} {r:R},c.runK s t K=some r->
  ∃x s' t',c.eval (dG s) t=some (x,dG s',t')/\K x s' t' =some r
 | .ret x,s,t,K,r,h=>⟨x,s,t,rfl,h⟩| .fail,_,_,_,_,h=>by simp[Cmd.runK]at h| .get k c,s,t,K,r,h=>by simp only[Cmd.runK,DN]at h;exact nU (c:=c _) h| .set k v c,s,t,K,r,h=>by simp only[Cmd.runK,a1f]at h;obtain⟨x,s',t',e,hk⟩:=nU (c:=c) h;exact⟨x,s',t',by simpa[Cmd.eval,a0b]using e,hk⟩
 | .opt o c,s,t,K,r,h=>by simp only[Cmd.runK]at h;obtain⟨y,rfl,h⟩:=Bi h;exact nU (c:=c y) h
 | .br b c d,s,t,K,r,h=>by
  simp only[Cmd.runK]at h;cases b
  .obtain⟨x,s',t',e,hk⟩:=nU (c:=d) (show d.runK s t K=some r from h);exact⟨x,s',t',by simpa[Cmd.eval]using e,hk⟩
  .obtain⟨x,s',t',e,hk⟩:=nU (c:=c) (show c.runK s t K=some r from h);exact⟨x,s',t',by simpa[Cmd.eval]using e,hk⟩
theorem yA{α:Type} :∀{c:Cmd α} {S S' :Sm} {t t' :Tr} {x:α},c.eval S t=some (x,S',t')->(∀k∈t.1,k∈t'.1)/\(∀k∈t.2,k∈t'.2)
 | .ret x,_,_,_,_,_,e=>by simp[Cmd.eval]at e;obtain⟨rfl,rfl,rfl⟩:=e;exact⟨λ_ h=>h,λ_ h=>h⟩
 | .fail,_,_,_,_,_,e=>by simp[Cmd.eval]at e| .get k c,_,_,_,_,_,e=>by have h:=yA (c:=c _) e;exact⟨λn hn=>h.1 n (by simp[hn]),h.2⟩| .set k v c,_,_,_,_,_,e=>by have h:=yA (c:=c) e;exact⟨h.1,λn hn=>h.2 n (by simp[hn])⟩| .opt o c,_,_,_,_,_,e=>by
  cases o with
  |none=>simp[Cmd.eval]at e|some x=>exact yA (c:=c x) e
 | .br b c d,_,_,_,_,_,e=>by
  cases b
  .exact yA (c:=d) (by simpa[Cmd.eval]using e)
  .exact yA (c:=c) (by simpa[Cmd.eval]using e)
theorem wu{α:Type} :∀{c:Cmd α} {S S' :Sm} {t t' :Tr} {x:α},c.eval S t=some (x,S',t')->∀T:Sm,(∀k∈t'.1,T k=S k)->
  ∃T',c.eval T t=some (x,T',t')/\(∀k,T k=S k->T' k=S' k)/\(∀k,k∉t'.2->T' k=T k)/\(∀k,k∈t'.2->k∉t.2->T' k=S' k)
 | .ret x,_,_,_,_,_,e,T,hT=>by simp[Cmd.eval]at e;obtain⟨rfl,rfl,rfl⟩:=e;exact⟨T,rfl,λk h=>h,λ_ _=>rfl,λk h1 h2=>absurd h1 h2⟩
 | .fail,_,_,_,_,_,e,_,_=>by simp[Cmd.eval]at e| .get k c,S,_,t,t',_,e,T,hT=>by have hk:T k=S k:=hT k ((yA (c:=c _) e).1 k x9);obtain⟨T',h1,h2,h3,h4⟩:=wu (c:=c _) e T hT;exact⟨T',by simpa[Cmd.eval,hk]using h1,h2,h3,h4⟩
 | .set k v c,S,_,t,t',_,e,T,hT=>by
  obtain⟨T',h1,h2,h3,h4⟩:=wu (c:=c) e (upd T k v) (λn hn=>by
   by_cases h:n=k
   .subst h;simp
   .rw[aK _ _ h,aK _ _ h];exact hT n hn)
  have hkin:k∈t'.2:=(yA (c:=c) e).2 k x9;refine⟨T',h1,λn hn=>h2 n ?_,λn hn=>?_,λn hn hn' =>?_⟩
  .by_cases h:n=k
   .subst h;simp
   .rw[aK _ _ h,aK _ _ h];exact hn
  .have:n≠k:=λh=>hn (h▸hkin);rw[h3 n hn,aK _ _ this]
  .by_cases h:n=k
   .subst h;exact h2 n x9
   .exact h4 n hn (by simp[h,hn'])
 | .opt o c,_,_,_,_,_,e,T,hT=>by
  cases o with
  |none=>simp[Cmd.eval]at e|some x=>exact wu (c:=c x) e T hT
 | .br b c d,_,_,_,_,_,e,T,hT=>by
  cases b
  .obtain⟨T',h1,h2⟩:=wu (c:=d) (by simpa[Cmd.eval]using e) T hT;exact⟨T',by simpa[Cmd.eval]using h1,h2⟩
  .obtain⟨T',h1,h2⟩:=wu (c:=c) (by simpa[Cmd.eval]using e) T hT;exact⟨T',by simpa[Cmd.eval]using h1,h2⟩
theorem Eu{c:Cmd α}{S S' :Sm}{t t' :Tr}{x:α}(e:c.eval S t=some (x,S',t'))(k:Nat)(h:k∉t'.2):S' k=S k:=by obtain⟨T',h1,_,h3,_⟩:=wu e S (λ_ _=>rfl);rw[e]at h1;simp at h1;rw[h1];exact h3 k h
section draws
variable {n:Nat} {c:Nat->Cmd Unit} {S:Nat->Sm} {T:Nat->Tr}
def SD(S:Nat->Sm)(T:Nat->Tr)(D:List Nat):Nat->Sm
 |0=>S 0
 |m+1=>λk=>if m∈D/\k∈(T m).2 then S (m+1) k else SD S T D m k
theorem Hz(hs:∀i,i<n->(c i).eval (S i) ([],[])=some ((),S (i+1),T i))(D:List Nat)(k:Nat):
  ∀m,m<=n->(∀j,j<m->k∈(T j).2->j∈D)->SD S T D m k=S m k
 |0,_,_=>rfl|m+1,hm,h=>by
  have ih:=Hz hs D k m o5 (λj hj=>h j o5);simp only[SD];by_cases hk:k∈(T m).2
  .rw[if_pos ⟨h m o5 hk,hk⟩]
  .rw[if_neg (λx=>hk x.2),ih,Eu (hs m o5) k hk]
theorem PG(D:List Nat)(k i:Nat):∀m,i<=m->(∀j,i<=j->j<m->k∈(T j).2->j∉D)->SD S T D m k=SD S T D i k
 |m,hm,h=>by
  induction m with
  |zero=>have:i=0:=o5;subst this;rfl|succ m ih=>
   by_cases e:i=m+1
   .subst e;rfl
   .simp only[SD];rw[if_neg (λx=>h m o5 o5 x.2 x.1)];exact ih o5 (λj h1 h2=>h j h1 o5)
theorem B_(D:List Nat)(i k:Nat)(hk:k∉(T i).2):∀m,SD S T (i::D) m k=SD S T D m k
 |0=>rfl|m+1=>by
  simp only[SD,B_ D i k hk m];by_cases e:m=i
  .subst e;simp[hk]
  .simp[A8,e]
theorem a2j(hs:∀i,i<n->(c i).eval (S i) ([],[])=some ((),S (i+1),T i)){D:List Nat}(hD:∀i,i<n->i∈D):SD S T D n=S n:=by funext k;exact Hz hs D k n o5 (λj hj _=>hD j hj)
theorem a8e(n:Nat):SD S T [] n=S 0:=by
 induction n with
 |zero=>rfl|succ m ih=>funext k;simp[SD,ih]
end draws
end Go.GP
namespace Go.GP
structure Fx where
 P:Program
 E:Env
 w0:World
 O:List Nat
 ok0:Nat->Ty->Prop
 tm0:Array Value
structure Frame' (w0 w:World) (O:List Nat):Prop where
 os:w.os=w0.os
 tape:w.tape=w0.tape
 output:w.output=w0.output
 size:w0.heap.size<=w.heap.size
 block:∀b,b<w0.heap.size->b∉O->w.heap[b]? =w0.heap[b]?
theorem Frame'.refl(w:World)(O:List Nat):Frame' w w O:=⟨rfl,rfl,rfl,F5 _,λ_ _ _=>rfl⟩
def a7q(h:Array Obj)(g n:Nat):Prop:=∃c T f,h[g]? =some (.cells c T f)/\c.size=n
def FK(C:Cx)(g:Nat)(t:Ty)(xs:List t.den):Prop:=
 C.ok g t/\a7q C.h g (xs.length*t.size)/\∀i x,xs[i]? =some x->∃es,bF C.h g (i*t.size) t.size=some es/\jH C.h C.ok t x es
theorem FK.le{C D:Cx}(h:C.le D){g:Nat}{t:Ty}{xs:List t.den}(k:FK C g t xs):FK D g t xs:=by obtain⟨h1,h3,h2⟩:=k;refine⟨h.ok _ _ h1,by unfold a7q at h3 ⊢;rw[h.h _ _ h1];exact h3,λi x hi=>?_⟩;obtain⟨es,he,hr⟩:=h2 i x hi;exact⟨es,by rw[pM (h.h _ _ h1)];exact he,dE h.ok h.h hr⟩
structure Rel (X:Fx) (cl ch:Nat) (S:Sm) (m:Mp) (ok:Nat->Ty->Prop) (a:Act) (w:World):Prop where
 size:a.tmps.size=X.E.nt
 nodef:a.defers=[]
 slot:∀n,n<X9->jG ⟨w.heap,ok,m⟩ (S n) (a.tmps.getD n Go.undef)
 box:∀n,Bv ⟨w.heap,ok,m⟩ n (S (X9+n))
 inj:∀n n' b,b∈S9 m n (S (X9+n))->b∈S9 m n' (S (X9+n'))->n=n'
 nd:∀n,(S9 m n (S (X9+n))).Nodup
 sep:∀n b,b∈S9 m n (S (X9+n))->(∀t,¬ok b t)/\b<w.heap.size/\(X.w0.heap.size<=b\/b∈X.O)
 okLt:∀b t,ok b t->b<w.heap.size
 okIn:∀b t,X.ok0 b t->ok b t
 okOut:∀b t,ok b t->X.ok0 b t\/X.w0.heap.size<=b\/b∈X.O
 frame:Frame' X.w0 w X.O
 fresh:∀n,cl<=n->S (X9+n)= .undef->m n=none
 strict:∀n,ch<=n->m n=none
 gl:∀g u,bP X.E.gl g=some u->FK ⟨w.heap,ok,m⟩ g u.1 u.2
 kept:∀n∈X.E.kp,a.tmps.getD n Go.undef=X.tm0.getD n Go.undef
def kW(m:Mp)(n:Nat)(l:Loc)(ks:List Nat):Mp:=⟨λk=>if k=n then some l else m k,λk=>if k=n then ks else m.kid k⟩
@[simp] theorem Z7 (m:Mp) (n:Nat) (l:Loc) (ks:List Nat):kW m n l ks n=some l:=by simp[kW]
variable {n:Nat}{k:Nat}
theorem ik(m:Mp)(l:Loc)(ks:List Nat)(h:k≠n):kW m n l ks k=m k:=by simp[kW,h]
@[simp] theorem b8h (m:Mp) (n:Nat) (l:Loc) (ks:List Nat):(kW m n l ks).kid n=ks:=by simp[kW]
theorem NC(m:Mp)(l:Loc)(ks:List Nat)(h:k≠n):(kW m n l ks).kid k=m.kid k:=by simp[kW,h]
def BN(m:Mp)(n:Nat)(ks:List Nat):Mp:=⟨m.loc,λk=>if k=n then ks else m.kid k⟩
@[simp] theorem b7g (m:Mp) (n k:Nat) (ks:List Nat):BN m n ks k=m k:=rfl
@[simp] theorem b7f (m:Mp) (n:Nat) (ks:List Nat):(BN m n ks).kid n=ks:=by simp[BN]
theorem UH(m:Mp)(ks:List Nat)(h:k≠n):(BN m n ks).kid k=m.kid k:=by simp[BN,h]
theorem uI(m:Mp)(n:Nat):BN m n (m.kid n)=m:=by
 cases m with|mk l k=>
 simp only[BN,Mp.mk.injEq,true_and];funext j;split
 .rename_i e;rw[e]
 .rfl
variable {v:V}
theorem EL{m m' :Mp}(h:m' n=m n)(k:m'.kid n=m.kid n):S9 m' n v=S9 m n v:=by cases v<;>simp only[S9,h,k]
variable {d:Nat}
theorem Tf{tmps:Array Value}(h:d<tmps.size)(x e:Value):(tmps.setIfInBounds d x).getD d e=x:=by simp[Array.getD,h]
theorem Gh{tmps:Array Value}(h:n≠d)(x e:Value):(tmps.setIfInBounds d x).getD n e=tmps.getD n e:=by simp only[W9];rw[jF];simp[Ne.symm h]
structure Tk (X:Fx) (S:Sm) (m:Mp) (ok:Nat->Ty->Prop) (w:World) (T:List Nat):Prop where
 nodup:T.Nodup
 free:∀b∈T,(∀t,¬ok b t)/\b<w.heap.size/\(X.w0.heap.size<=b\/b∈X.O)/\∀n,b∉S9 m n (S (X9+n))
theorem Tk.nil{X:Fx}{S:Sm}{m:Mp}{ok:Nat->Ty->Prop}{w:World} :Tk X S m ok w []:=⟨bU,λb h=>by cases h⟩
def okW(ok:Nat->Ty->Prop)(bs:List Nat)(Ts:List Ty):Nat->Ty->Prop:=λb t=>ok b t\/(b∈bs/\t∈Ts)
variable {w':World}{bs:List Nat}
section
variable {X:Fx} {cl ch:Nat} {S:Sm} {m:Mp} {ok:Nat->Ty->Prop} {a:Act} {w:World} {T:List Nat}
theorem Tk.perm{T T' :List Nat}(h:Tk X S m ok w T)(p:T.Perm T'):Tk X S m ok w T' :=
 ⟨p.nodup_iff.1 h.nodup,λb hb=>h.free b (p.mem_iff.2 hb)⟩
theorem QF{n:Nat} :∀{l:List Nat},Bf n l=false->n∉l
 |[],_,h=>by cases h|k::r,hb,h=>by
  unfold Bf at hb;cases hk:Nat.beq k n<;>rw[hk]at hb
  .rcases A8.1 h with e|h
   .subst e;rw[show Nat.beq n n=true from Nat.beq_refl n]at hk;cases hk
   .exact QF hb h
  .cases hb
theorem Ul{n:Nat} :∀{l:List Nat},Bf n l=true->n∈l
 |[],h=>by cases h|k::r,hb=>by
  unfold Bf at hb;cases hk:Nat.beq k n<;>rw[hk]at hb
  .exact O9 _ (Ul hb)
  .have:=fG hk;subst this;exact gI
theorem yL{E:Env}{t:Nat}(h:Un E t=true):t<E.nt/\t∉E.kp:=by
 unfold Un at h;cases hb:Nat.blt t E.nt<;>rw[hb]at h
 .cases h
 .simp only[cond_true,bg]at h;exact⟨by rw[dh]at hb;exact hb,QF h⟩
theorem Rel.put(R:Rel X cl ch S m ok a w)(hnt:X.E.nt<=X9){x:Value}(hd:Un X.E d=true)(hv:jG ⟨w.heap,ok,m⟩ v x):
  Rel X cl ch (upd S d v) m ok (a.put (some d) x) w:=by
 obtain⟨hd,hkp⟩:=yL hd;have hb:∀n,upd S d v (X9+n)=S (X9+n):=λn=>aK _ _ o5;have hkept:∀n∈X.E.kp,(a.put (some d) x).tmps.getD n Go.undef=X.tm0.getD n Go.undef:=λn hn=>by have e:n≠d:=λe=>hkp (e▸hn);simp only[Act.put];rw[Gh e];exact R.kept n hn
 refine { R with size:=(by simp[Act.put,R.size]),nodef:=(by simp[Act.put,R.nodef]),slot:=λn hn=>?_,box:=λn=>(by rw[hb];exact R.box n),inj:=λn n' b=>(by rw[hb,hb];exact R.inj n n' b),nd:=λn=>(by rw[hb];exact R.nd n),sep:=λn b=>(by rw[hb];exact R.sep n b),fresh:=λn h1 h2=>R.fresh n h1 (by rwa[hb]at h2),kept:=hkept };by_cases e:n=d
 .subst e;simp only[jW,Act.put];rw[Tf (by rw[R.size];exact hd)];exact hv
 .rw[aK _ _ e];simp only[Act.put];rw[Gh e];exact R.slot n hn
theorem Rel.slotV(R:Rel X cl ch S m ok a w)(hd:d<X9)(hv:jG ⟨w.heap,ok,m⟩ v (a.tmps.getD d Go.undef)):
  Rel X cl ch (upd S d v) m ok a w:=by
 have hb:∀n,upd S d v (X9+n)=S (X9+n):=λn=>aK _ _ o5;refine { R with slot:=λn hn=>?_,box:=λn=>(by rw[hb];exact R.box n),inj:=λn n' b=>(by rw[hb,hb];exact R.inj n n' b),nd:=λn=>(by rw[hb];exact R.nd n),sep:=λn b=>(by rw[hb];exact R.sep n b),fresh:=λn h1 h2=>R.fresh n h1 (by rwa[hb]at h2) };by_cases e:n=d
 .subst e;simp only[jW];exact hv
 .rw[aK _ _ e];exact R.slot n hn
theorem Rel.world(R:Rel X cl ch S m ok a w){ok' :Nat->Ty->Prop}(hos:w'.os=w.os)(htp:w'.tape=w.tape)(hout:w'.output=w.output)(hsz:w.heap.size<=w'.heap.size)
  (hkeep:∀b,b<w.heap.size->((∃t,ok b t)\/(∃n,b∈S9 m n (S (X9+n)))\/¬(X.w0.heap.size<=b\/b∈X.O))->w'.heap[b]? =w.heap[b]?)
  (hok:∀b t,ok b t->ok' b t) (hok' :∀b t,ok' b t->b<w'.heap.size/\(ok b t\/((X.w0.heap.size<=b\/b∈X.O)/\∀n,b∉S9 m n (S (X9+n))))):
  Rel X cl ch S m ok' a w' :=by
 have hle:Cx.le ⟨w.heap,ok,m⟩ ⟨w'.heap,ok',m⟩:=⟨hok,λb t hb=>hkeep b (R.okLt b t hb) (.inl ⟨t,hb⟩),λ_ _ h=>h⟩;refine { kept:=R.kept,size:=R.size,nodef:=R.nodef,inj:=R.inj,nd:=R.nd,fresh:=R.fresh,strict:=R.strict,slot:=λn hn=>La hle (R.slot n hn),box:=λn=>Pn hle rfl (λb hb=>hkeep b (R.sep n b hb).2.1 (.inr (.inl ⟨n,hb⟩))) (R.box n),sep:=λn b hb=>?_,okLt:=λb t hb=>(hok' b t hb).1,okIn:=λb t hb=>hok b t (R.okIn b t hb),okOut:=λb t hb=>?_,frame:=?_,gl:=λg u hg=>FK.le hle (R.gl g u hg) }
 .obtain⟨h1,h2,h3⟩:=R.sep n b hb;refine⟨λt h=>?_,o5,h3⟩;rcases(hok' b t h).2 with h|⟨_,h⟩
  .exact h1 t h
  .exact h n hb
 .rcases(hok' b t hb).2 with h|⟨h,_⟩
  .exact R.okOut b t h
  .exact .inr h
 .obtain⟨f1,f2,f3,f4,f5⟩:=R.frame;refine⟨hos.trans f1,htp.trans f2,hout.trans f3,o5,λb hb hO=>?_⟩;rw[hkeep b o5 (.inr (.inr (by simp[hO];omega)))];exact f5 b hb hO
theorem Rel.same(R:Rel X cl ch S m ok a w)(hos:w'.os=w.os)(htp:w'.tape=w.tape)(hout:w'.output=w.output)(hh:w'.heap=w.heap):Rel X cl ch S m ok a w' :=by refine R.world hos htp hout (by rw[hh];exact F5 _) (λb _ _=>by rw[hh]) (λ_ _ h=>h) (λb t h=>⟨by rw[hh];exact R.okLt b t h,.inl h⟩)
theorem wR{n k b:Nat}(hv:S9 m n v=[])(h:b∈S9 m k (upd S (X9+n) v (X9+k))):k≠n/\b∈S9 m k (S (X9+k)):=by
 by_cases e:k=n
 .subst e;rw[jW,hv]at h;cases h
 .rw[aK _ _ o5]at h;exact⟨e,h⟩
theorem Rel.killV(R:Rel X cl ch S m ok a w)(n:Nat)(hv:v≠.undef)(hw:S9 m n v=[])(hB:Bv ⟨w.heap,ok,m⟩ n v):Rel X cl ch (upd S (X9+n) v) m ok a w:=by
 have ho:∀k b,b∈S9 m k (upd S (X9+n) v (X9+k))->k≠n/\b∈S9 m k (S (X9+k)):=λk b h=>wR hw h;refine { R with slot:=λk hk=>(by rw[aK _ _ o5];exact R.slot k hk),box:=λk=>?_,inj:=λk k' b h h' =>R.inj k k' b (ho _ _ h).2 (ho _ _ h').2,nd:=λk=>?_,sep:=λk b h=>R.sep k b (ho _ _ h).2,fresh:=λk h1 h2=>?_ }
 .by_cases e:k=n
  .subst e;rw[jW];exact hB
  .rw[aK _ _ o5];exact R.box k
 .by_cases e:k=n
  .subst e;rw[jW,hw];exact bU
  .rw[aK _ _ o5];exact R.nd k
 .by_cases e:k=n
  .subst e;rw[jW]at h2;exact absurd h2 hv
  .rw[aK _ _ o5]at h2;exact R.fresh k h1 h2
theorem Rel.kill(R:Rel X cl ch S m ok a w)(n:Nat):Rel X cl ch (upd S (X9+n) .dead) m ok a w:=R.killV n x9 rfl trivial
theorem Tk.killV(R:Rel X cl ch S m ok a w)(h:Tk X S m ok w T)(n:Nat)(hw:S9 m n v=[])(hbs:∀b,b∈bs->b∈S9 m n (S (X9+n)))(hnd:bs.Nodup):
  Tk X (upd S (X9+n) v) m ok w (T++bs):=by
 refine⟨X0.2 ⟨h.nodup,hnd,λx hx y hy e=>?_⟩,λb hb=>?_⟩
 .subst e;exact(h.free x hx).2.2.2 n (hbs x hy)
 .rcases O8.1 hb with hb|hb
  .obtain⟨h1,h2,h3,h4⟩:=h.free b hb;exact⟨h1,h2,h3,λk e=>h4 k (wR hw e).2⟩
  .obtain⟨h1,h2,h3⟩:=R.sep n b (hbs b hb);exact⟨h1,h2,h3,λk e=>(wR hw e).1 (R.inj k n b (wR hw e).2 (hbs b hb))⟩
theorem Rel.mark(R:Rel X cl ch S m ok a w){md:M}{xs:List md.den}(hS:S (X9+n)= .barrs md xs none):Rel X cl ch (upd S (X9+(Ji+n)) (.blen (o8 xs) md.size)) m ok a w:=by
 refine R.killV (Ji+n) x9 rfl ?_;have hb:=R.box n;rw[hS]at hb;obtain⟨_,l,Os,hm,⟨ha,hho⟩,_⟩:=hb;refine⟨n,l,rfl,hm,?_⟩;cases l with
 |nil=>obtain⟨rfl,_⟩:=ha;rfl
 |st b=>cases ha|mp b=>cases ha|arr blk off len cap sz=>exact⟨by rw[ha.2.1];rfl,ha.1.symm⟩
theorem Tk.kill(R:Rel X cl ch S m ok a w)(h:Tk X S m ok w T)(n:Nat)(hbs:∀b,b∈bs->b∈S9 m n (S (X9+n)))(hnd:bs.Nodup):
  Tk X (upd S (X9+n) .dead) m ok w (T++bs):=h.killV R n rfl hbs hnd
theorem Rel.lay(R:Rel X cl ch S m ok a w){l:Loc}{ks:List Nat}(hn:S (X9+n)= .undef)(hcl:cl<=n)(hch:n<ch)(hv:v≠.undef)
  (hos:w'.os=w.os) (htp:w'.tape=w.tape) (hout:w'.output=w.output) (hsz:w.heap.size<=w'.heap.size)
  (hkeep:∀b,b<w.heap.size->b∉S9 (kW m n l ks) n v->w'.heap[b]? =w.heap[b]?)
  (hnd:(S9 (kW m n l ks) n v).Nodup)
  (hfree:∀b∈S9 (kW m n l ks) n v,(∀t,¬ok b t)/\b<w'.heap.size/\(X.w0.heap.size<=b\/b∈X.O)/\∀k,b∉S9 m k (S (X9+k)))
  (hB:Bv ⟨w'.heap,ok,kW m n l ks⟩ n v):Rel X cl ch (upd S (X9+n) v) (kW m n l ks) ok a w' :=by
 have hm:m n=none:=R.fresh n hcl hn;have hR:Rel X cl ch S m ok a w' :=by
  refine R.world hos htp hout hsz (λb hb h=>?_) (λ_ _ h=>h) (λb t h=>⟨by have:=R.okLt b t h;omega,.inl h⟩);refine hkeep b hb (λe=>?_);obtain⟨h1,h2,h3,h4⟩:=hfree b e;rcases h with⟨t,h⟩|⟨k,h⟩|h
  .exact h1 t h
  .exact h4 k h
  .exact h h3
 have hle:Cx.le ⟨w'.heap,ok,m⟩ ⟨w'.heap,ok,kW m n l ks⟩:=⟨λ_ _ h=>h,λ_ _ _=>rfl,λk x h=>by
  by_cases e:k=n
  .subst e;simp[hm]at h
  .show kW m n l ks k=some x;rw[ik _ _ _ e];exact h⟩
 have hob:∀k,k≠n->S9 (kW m n l ks) k (upd S (X9+n) v (X9+k))=S9 m k (S (X9+k)):=λk e=>by rw[aK _ _ o5];exact EL (ik _ _ _ e) (NC _ _ _ e)
 have hobn:S9 (kW m n l ks) n (upd S (X9+n) v (X9+n))=S9 (kW m n l ks) n v:=by rw[jW]
 refine { kept:=hR.kept,size:=hR.size,nodef:=hR.nodef,okLt:=hR.okLt,okIn:=hR.okIn,okOut:=hR.okOut,frame:=hR.frame,slot:=λk hk=>(by rw[aK _ _ o5];exact La hle (hR.slot k hk)),box:=λk=>?_,inj:=λk k' b h h' =>?_,nd:=λk=>?_,sep:=λk b h=>?_,fresh:=λk h1 h2=>?_,strict:=λk h=>?_,gl:=λg u hg=>FK.le hle (hR.gl g u hg) }
 .by_cases e:k=n
  .subst e;rw[jW];exact hB
  .rw[aK _ _ o5];refine Pn hle (NC _ _ _ e) (λb hb=>rfl) (hR.box k)
 .by_cases e:k=n
  .by_cases e' :k' =n
   .rw[e,e']
   .subst e;rw[hobn]at h;rw[hob k' e']at h';exact absurd h' ((hfree b h).2.2.2 k')
  .by_cases e' :k' =n
   .subst e';rw[hobn]at h';rw[hob k e]at h;exact absurd h ((hfree b h').2.2.2 k)
   .rw[hob k e]at h;rw[hob k' e']at h';exact R.inj k k' b h h'
 .by_cases e:k=n
  .subst e;rw[hobn];exact hnd
  .rw[hob k e];exact R.nd k
 .by_cases e:k=n
  .subst e;rw[hobn]at h;obtain⟨h1,h2,h3,_⟩:=hfree b h;exact⟨h1,h2,h3⟩
  .rw[hob k e]at h;exact hR.sep k b h
 .by_cases e:k=n
  .subst e;rw[jW]at h2;exact absurd h2 hv
  .rw[aK _ _ o5]at h2;rw[ik _ _ _ e];exact R.fresh k h1 h2
 .have e:k≠n:=o5;rw[ik _ _ _ e];exact R.strict k h
theorem Rel.modK(R:Rel X cl ch S m ok a w)(hT:Tk X S m ok w T){ks:List Nat}(hv:v≠.undef)
  (hnd:(S9 (BN m n ks) n v).Nodup) (hsub:∀b∈S9 (BN m n ks) n v,b∈S9 m n (S (X9+n))\/b∈T)
  (hos:w'.os=w.os) (htp:w'.tape=w.tape) (hout:w'.output=w.output) (hsz:w'.heap.size=w.heap.size)
  (hkeep:∀b,b∉S9 m n (S (X9+n))->w'.heap[b]? =w.heap[b]?) (hB:Bv ⟨w'.heap,ok,BN m n ks⟩ n v)
  {T' :List Nat} (hnd' :T'.Nodup) (hT' :∀b∈T',(b∈S9 m n (S (X9+n))\/b∈T)/\b∉S9 (BN m n ks) n v):
  Rel X cl ch (upd S (X9+n) v) (BN m n ks) ok a w' /\Tk X (upd S (X9+n) v) (BN m n ks) ok w' T' :=by
 have hsep:∀b,b∈S9 m n (S (X9+n))\/b∈T->(∀t,¬ok b t)/\b<w.heap.size/\(X.w0.heap.size<=b\/b∈X.O)/\∀k,k≠n->b∉S9 m k (S (X9+k)):=λb h=>by
  rcases h with h|h
  .obtain⟨h1,h2,h3⟩:=R.sep n b h;exact⟨h1,h2,h3,λk e h' =>e (R.inj k n b h' h)⟩
  .obtain⟨h1,h2,h3,h4⟩:=hT.free b h;exact⟨h1,h2,h3,λk _=>h4 k⟩
 have hle:Cx.le ⟨w.heap,ok,m⟩ ⟨w'.heap,ok,BN m n ks⟩:=⟨λ_ _ h=>h,λb t hb=>hkeep b (λe=>(R.sep n b e).1 t hb),λ_ _ h=>h⟩;have hob:∀k,k≠n->S9 (BN m n ks) k (upd S (X9+n) v (X9+k))=S9 m k (S (X9+k)):=λk e=>by rw[aK _ _ o5];exact EL rfl (UH _ _ e)
 have hobn:S9 (BN m n ks) n (upd S (X9+n) v (X9+n))=S9 (BN m n ks) n v:=by rw[jW]
 refine⟨?_,hnd',λb hb=>?_⟩
 .refine { kept:=R.kept,size:=R.size,nodef:=R.nodef,okLt:=λb t hb=>(by rw[hsz];exact R.okLt b t hb),okIn:=R.okIn,okOut:=R.okOut,strict:=R.strict,slot:=λk hk=>(by rw[aK _ _ o5];exact La hle (R.slot k hk)),box:=λk=>?_,inj:=λk k' b h h' =>?_,nd:=λk=>?_,sep:=λk b h=>?_,fresh:=λk h1 h2=>?_,frame:=?_,gl:=λg u hg=>FK.le hle (R.gl g u hg) }
  .by_cases e:k=n
   .subst e;rw[jW];exact hB
   .rw[aK _ _ o5];refine Pn hle (UH _ _ e) (λb hb=>hkeep b (λe' =>e (R.inj k n b hb e'))) (R.box k)
  .by_cases e:k=n
   .by_cases e' :k' =n
    .rw[e,e']
    .subst e;rw[hobn]at h;rw[hob k' e']at h';exact absurd h' ((hsep b (hsub b h)).2.2.2 k' e')
   .by_cases e' :k' =n
    .subst e';rw[hobn]at h';rw[hob k e]at h;exact absurd h ((hsep b (hsub b h')).2.2.2 k e)
    .rw[hob k e]at h;rw[hob k' e']at h';exact R.inj k k' b h h'
  .by_cases e:k=n
   .subst e;rw[hobn];exact hnd
   .rw[hob k e];exact R.nd k
  .by_cases e:k=n
   .subst e;rw[hobn]at h;obtain⟨h1,h2,h3,_⟩:=hsep b (hsub b h);exact⟨h1,by rw[hsz];exact h2,h3⟩
   .rw[hob k e]at h;obtain⟨h1,h2,h3⟩:=R.sep k b h;exact⟨h1,by rw[hsz];exact h2,h3⟩
  .obtain⟨f1,f2,f3,f4,f5⟩:=R.frame;refine⟨hos.trans f1,htp.trans f2,hout.trans f3,by rw[hsz];exact f4,λb hb hO=>?_⟩;rw[hkeep b (λe=>?_)]
   .exact f5 b hb hO
   .rcases(R.sep n b e).2.2 with h|h
    .omega
    .exact hO h
  .by_cases e:k=n
   .subst e;rw[jW]at h2;exact absurd h2 hv
   .rw[aK _ _ o5]at h2;exact R.fresh k h1 h2
 .obtain⟨h0,h0'⟩:=hT' b hb;obtain⟨h1,h2,h3,h4⟩:=hsep b h0;refine⟨h1,by rw[hsz];exact h2,h3,λk h=>?_⟩;by_cases e:k=n
  .subst e;rw[hobn]at h;exact h0' h
  .rw[hob k e]at h;exact h4 k e h
theorem Rel.mod(R:Rel X cl ch S m ok a w)(ho:S9 m n v=S9 m n (S (X9+n)))(hv:v≠.undef)
  (hos:w'.os=w.os) (htp:w'.tape=w.tape) (hout:w'.output=w.output) (hsz:w'.heap.size=w.heap.size)
  (hkeep:∀b,b∉S9 m n (S (X9+n))->w'.heap[b]? =w.heap[b]?) (hB:Bv ⟨w'.heap,ok,m⟩ n v):Rel X cl ch (upd S (X9+n) v) m ok a w' :=by
 have h:=R.modK (T:=[]) Tk.nil (n:=n) (v:=v) (ks:=m.kid n) (w' :=w') (T' :=[]) hv (by rw[uI,ho];exact R.nd n) (by rw[uI,ho];exact λb h=> .inl h) hos htp hout hsz hkeep (by rw[uI];exact hB) bU (λb h=>by cases h);rw[uI]at h;exact h.1
theorem Rel.widen(R:Rel X cl ch S m ok a w)(hv:v≠.undef)(ho:S9 m n v=[]){Ts:List Ty}(hbs:∀b∈bs,b∈S9 m n (S (X9+n)))
  (hB:Bv ⟨w.heap,okW ok bs Ts,m⟩ n v):Rel X cl ch (upd S (X9+n) v) m (okW ok bs Ts) a w:=by
 have hmono:∀b t,ok b t->okW ok bs Ts b t:=λb t h=> .inl h;have hob:∀k b,b∈S9 m k (upd S (X9+n) v (X9+k))->k≠n/\b∈S9 m k (S (X9+k)):=λk b h=>wR ho h;have hle:Cx.le ⟨w.heap,ok,m⟩ ⟨w.heap,okW ok bs Ts,m⟩:=⟨hmono,λ_ _ _=>rfl,λ_ _ h=>h⟩;refine { kept:=R.kept,size:=R.size,nodef:=R.nodef,strict:=R.strict,frame:=R.frame,okIn:=λb t h=>hmono b t (R.okIn b t h),slot:=λk hk=>(by rw[aK _ _ o5];exact La hle (R.slot k hk)),box:=λk=>?_,inj:=λk k' b h h' =>R.inj k k' b (hob _ _ h).2 (hob _ _ h').2,nd:=λk=>?_,sep:=λk b h=>?_,okLt:=λb t h=>?_,okOut:=λb t h=>?_,fresh:=λk h1 h2=>?_,gl:=λg u hg=>FK.le hle (R.gl g u hg) }
 .by_cases e:k=n
  .subst e;rw[jW];exact hB
  .rw[aK _ _ o5];exact Pn hle rfl (λb hb=>rfl) (R.box k)
 .by_cases e:k=n
  .subst e;rw[jW,ho];exact bU
  .rw[aK _ _ o5];exact R.nd k
 .obtain⟨e,h⟩:=hob k b h;obtain⟨h1,h2,h3⟩:=R.sep k b h;refine⟨λt h' =>?_,h2,h3⟩;rcases h' with h'|⟨h',_⟩
  .exact h1 t h'
  .exact e (R.inj k n b h (hbs b h'))
 .rcases h with h|⟨h,_⟩
  .exact R.okLt b t h
  .exact(R.sep n b (hbs b h)).2.1
 .rcases h with h|⟨h,_⟩
  .exact R.okOut b t h
  .exact .inr (R.sep n b (hbs b h)).2.2
 .by_cases e:k=n
  .subst e;rw[jW]at h2;exact absurd h2 hv
  .rw[aK _ _ o5]at h2;exact R.fresh k h1 h2
theorem Tk.widen(h:Tk X S m ok w T)(ho:S9 m n v=[]){Ts:List Ty}(hbs:∀b∈bs,b∈S9 m n (S (X9+n))):
  Tk X (upd S (X9+n) v) m (okW ok bs Ts) w T:=by
 refine⟨h.nodup,λb hb=>?_⟩;obtain⟨h1,h2,h3,h4⟩:=h.free b hb;refine⟨λt e=>?_,h2,h3,λk e=>h4 k (wR ho e).2⟩;rcases e with e|⟨e,_⟩
 .exact h1 t e
 .exact h4 n (hbs b e)
theorem Rel.backV(R:Rel X cl ch S m ok a w){O1 B:List Nat}(hv:v≠.undef)(hT:Tk X S m ok w (O1++B))(ho:S9 m n v=O1)(hB:Bv ⟨w.heap,ok,m⟩ n v):
  Rel X cl ch (upd S (X9+n) v) m ok a w/\Tk X (upd S (X9+n) v) m ok w B:=by
 have hnd:=X0.1 hT.nodup;have h:=R.modK hT (n:=n) (v:=v) (ks:=m.kid n) (w' :=w) (T' :=B) hv (by rw[uI,ho];exact hnd.1) (by rw[uI,ho];exact λb h=> .inr (by simp[h])) rfl rfl rfl rfl (λ_ _=>rfl) (by rw[uI];exact hB) hnd.2.1
  (λb hb=>⟨.inr (by simp[hb]),by rw[uI,ho];exact λh=>hnd.2.2 b h b hb rfl⟩)
 rw[uI]at h;exact h
end
end Go.GP
namespace Go.GP
def Fe:Loc->Option (Nat×Nat)->Loc
 | .arr blk off len cap sz,some (lo,hi)=>if cap=lo then .arr blk off 0 0 sz else .arr blk (off+lo*sz) (hi -lo) (cap -lo) sz|l,_=>l
variable {v:Value}{t:Ty}{l:Loc}
theorem Ei{C:Cx}{xs:List t.den}{vw:Option (Nat×Nat)}(ha:arrOk C t xs l)(hv:l.view vw v):
  arrOk C t (iq vw xs) (Fe l vw)/\(Fe l vw).view none v/\(Fe l vw).blks=l.blks:=by
 cases l with
 |st b=>cases ha|mp b=>
  cases vw with
  |none=>exact⟨ha,hv,rfl⟩|some p=>cases hv
 |nil=>
  obtain⟨ha,h0⟩:=ha;subst ha;cases vw with
  |none=>exact⟨⟨rfl,h0⟩,hv,rfl⟩|some p=>obtain⟨lo,hi⟩:=p;obtain⟨rfl,rfl,rfl⟩:=hv;exact⟨⟨rfl,h0⟩,rfl,rfl⟩
 |arr blk off len cap sz=>
  cases vw with
  |none=>exact⟨ha,hv,rfl⟩|some p=>
   obtain⟨lo,hi⟩:=p;obtain⟨h0,rfl,rfl,hc,c,T,f,hh,hz,hs,hx⟩:=ha;obtain⟨h1,h2,rfl⟩:=hv;have hl:(iq (some (lo,hi)) xs).length=hi -lo:=by simp[iq,iY];omega
   by_cases e:cap=lo
   .subst e;have e2:hi=cap:=o5;subst e2;simp only[Fe,if_true,Loc.view,gy];refine⟨⟨h0,rfl,by rw[hl];omega,F5 _,c,T,f,hh,hz,?_,λi x hi=>?_⟩,trivial,rfl⟩
    .have:=fB (hi*t.size);omega
    .have:i<0:=by
      have:=(ax.1 hi).1;rw[hl]at this;omega
     omega
   .simp only[Fe,e,if_false,Loc.view];refine⟨⟨h0,rfl,by rw[hl],o5,c,T,f,hh,hz,?_,λi x hix=>?_⟩,trivial,rfl⟩
    .have:off+lo*t.size+(cap -lo)*t.size=off+cap*t.size:=by
      rw[dY,←I7];congr 2;omega
     rw[this];exact hs
    .have hi' :i<hi -lo:=by rw[←hl];exact(ax.1 hix).1
     have hx' :xs[lo+i]? =some x:=by
      simp only[iq,iY,U2,U3]at hix;split at hix
      .exact hix
      .cases hix
     obtain⟨es,he,hr⟩:=hx _ x hx';refine⟨es,?_,hr⟩;rw[←he];congr 1;rw[I7];omega
def MR(ag:Bool)(v:Value)(cs:List Value):Prop:=match ag with
 |true=>∃arr,v= .agg arr/\arr.toList=cs|false=>cs=[v]
def qE(h:Array Obj)(ok:Nat->Ty->Prop):(ms:List MG)->X4 ms->List Value->List Nat->Prop
 |[],_,vs,O=>vs=[]/\O=[]|[m],x,vs,O=>∃v cs,vs=[v]/\MR m.1 v cs/\nJ h ok m.2 none x cs O|m::m' ::r,x,vs,O=>∃v cs vs' O1 O2,vs=v::vs' /\O=O1++O2/\MR m.1 v cs/\nJ h ok m.2 none x.1 cs O1/\qE h ok (m' ::r) x.2 vs' O2
theorem lI{vw:Option (Nat×Nat)}(h:l.view vw v):v.oneCell' =true:=by
 cases l<;>rcases vw with _|⟨lo,hi⟩<;>simp only[Loc.view]at h
 .subst h;rfl
 .obtain⟨_,_,rfl⟩:=h;rfl
 .subst h;rfl
 .obtain⟨_,_,rfl⟩:=h;rfl
 .subst h;rfl
variable {h:Array Obj}
theorem FZ{ok:Nat->Ty->Prop}{x:t.den}{o:Nat}(k:UZ h ok t x o v):v.oneCell' =true:=by obtain⟨_,_,_,rfl,_⟩:=k;rfl
variable {α:Type}{ok':Nat->Ty->Prop}{cs:List Value}{O:List Nat}
section
variable {h:Array Obj} {ok:Nat->Ty->Prop}
theorem vG{xs:List t.den} :nJ h ok (.own t) none xs cs O↔∃l v,cs=[v]/\l.view none v/\arrOk ⟨h,ok,nom⟩ t xs l/\O=l.blks:=by
 constructor
 .rintro⟨v,e,_,l,hv,ha,ho⟩;exact⟨l,v,e,hv,ha,ho⟩
 .rintro⟨l,v,e,hv,ha,ho⟩;exact⟨v,e,lI hv,l,hv,ha,ho⟩
theorem wU{m:M}{xs:List m.den} :nJ h ok (.owns m) none xs cs O↔m.el=true/\∃l v Os,cs=[v]/\l.view none v/\
  zC h m.size (λ_ x es O=>nJ h ok m none x es O) xs Os l/\O=l.blks++Os.flatten:=by
 constructor
 .rintro⟨v,e,_,he,l,Os,hv,ha,ho⟩;exact⟨he,l,v,Os,e,hv,ha,ho⟩
 .rintro⟨he,l,v,Os,e,hv,ha,ho⟩;exact⟨v,e,lI hv,he,l,Os,hv,ha,ho⟩
theorem a1L{a b:M}{x:a.den×b.den} :nJ h ok (.pair a b) none x cs O↔∃c d O1 O2,cs=c++d/\O=O1++O2/\nJ h ok a none x.1 c O1/\nJ h ok b none x.2 d O2:=Iff.rfl
theorem mQ:∀{m:M} {ho:Option Nat} {x:m.den} {cs:List Value} {O:List Nat},nJ h ok m ho x cs O->∀v∈cs,v.oneCell' =true
 | .dat t,_,_,_,_,e=>uf e.1| .own t,_,_,_,_,⟨v,e,hv,_⟩=>by subst e;simp[hv]| .owns t,_,_,_,_,⟨v,e,hv,_⟩=>by subst e;simp[hv]| .ownb t,_,_,_,_,⟨l,v,e,hv,_⟩=>by subst e;simp[lI hv]| .pair a b,_,_,_,_,⟨c,d,_,_,e,_,h1,h2⟩=>by
  subst e;intro v hv;rcases O8.1 hv with hv|hv
  .exact mQ h1 v hv
  .exact mQ h2 v hv
 | .unit,_,_,_,_,⟨e,_⟩=>by subst e;simp| .box m,_,_,_,_,⟨_,_,_,_,e,_⟩=>by subst e;simp[Value.oneCell']| .rp t,_,_,_,_,⟨v,e,hv,_⟩=>by subst e;simp[FZ hv]| .fn f ts,_,_,_,_,⟨vs,e,_⟩=>by subst e;simp[Value.oneCell']| .ifc t m,_,_,_,_,⟨u,e,_⟩=>by subst e;simp[Value.oneCell']| .cell _,_,_,_,_,⟨v,e,h,_⟩=>by subst e;simp[h]| .fr t,_,_,_,_,⟨l,v,e,hv,_⟩=>by subst e;simp[lI hv]| .lp t,_,_,_,_,⟨v,e,hv,_⟩=>by subst e;simp[FZ hv]| .dv ..,_,_,_,_,⟨v,e,h,_⟩=>by subst e;simp[h]| .sit,_,_,_,_,⟨blk,a,v,e,_⟩=>by subst e;simp[Value.oneCell']| .sbx tb te,_,_,_,_,⟨blk,a,v,l,e,_⟩=>by subst e;simp[Value.oneCell']
theorem LK{α β α' β' :Type}(ea:α=α')(eb:β=β')(e:(α×β)=(α' ×β'))(x:α×β):cast e x=(cast ea x.1,cast eb x.2):=by subst ea;subst eb;rfl
theorem M.ty_size:∀{m:M},m.el=true->m.ty.size=m.size
 | .dat _,_=>rfl| .own _,_=>rfl| .owns _,_=>rfl| .unit,_=>rfl| .pair a b,h=>by
  have h' :a.el=true/\b.el=true:=by simpa[M.el]using h
  simp[M.ty,Ty.size,M.size,M.ty_size h'.1,M.ty_size h'.2]
 | .box _,h=>by simp[M.el]at h| .ownb _,h=>by simp[M.el]at h| .rp _,h=>by simp[M.el]at h| .fn _ _,h=>by simp[M.el]at h| .ifc _ _,h=>by simp[M.el]at h| .cell _,h=>by simp[M.el]at h| .fr _,h=>by simp[M.el]at h| .sbx _ _,h=>by simp[M.el]at h| .lp _,h=>by simp[M.el]at h| .dv ..,h=>by simp[M.el]at h| .sit,h=>by simp[M.el]at h
theorem aV:∀{m:M} {ho:Option Nat} {x:m.den} {cs:List Value} {O:List Nat},nJ h ok m ho x cs O->cs.length=m.size
 | .dat t,_,_,_,_,e=>dD e.1| .own t,_,_,_,_,⟨v,e,hv,_⟩=>by subst e;rfl| .owns t,_,_,_,_,⟨v,e,hv,_⟩=>by subst e;rfl| .ownb t,_,_,_,_,⟨l,v,e,hv,_⟩=>by subst e;rfl| .pair a b,_,_,_,_,⟨c,d,_,_,e,_,h1,h2⟩=>by subst e;simp[aV h1,aV h2,M.size]| .unit,_,_,_,_,⟨e,_⟩=>by subst e;rfl| .box m,_,_,_,_,⟨_,_,_,_,e,_⟩=>by subst e;rfl| .rp t,_,_,_,_,⟨v,e,hv,_⟩=>by subst e;rfl| .fn f ts,_,_,_,_,⟨vs,e,_⟩=>by subst e;rfl| .ifc t m,_,_,_,_,⟨u,e,_⟩=>by subst e;rfl| .cell _,_,_,_,_,⟨v,e,_⟩=>by subst e;rfl| .fr t,_,_,_,_,⟨l,v,e,hv,_⟩=>by subst e;rfl| .lp t,_,_,_,_,⟨v,e,_⟩=>by subst e;rfl| .dv ..,_,_,_,_,⟨v,e,_⟩=>by subst e;rfl| .sit,_,_,_,_,⟨blk,a,v,e,_⟩=>by subst e;rfl| .sbx tb te,_,_,_,_,⟨blk,a,v,l,e,_⟩=>by subst e;rfl
theorem WF{sz:Nat}{mp:Mp}(h0:t.isEnt=false)(e:α=t.den)(e' :List α=List t.den)(hs:t.size=sz){R:Nat->α->List Value->List Nat->Prop}{xs:List α}{Os:List (List Nat)}
  (hR:∀i x es O,O∈Os->R i x es O->jH h ok' t (cast e x) es) (ha:zC h sz R xs Os l):arrOk ⟨h,ok',mp⟩ t (cast e' xs) l:=by
 subst e;simp only[cast_eq]at hR ⊢;cases l with
 |nil=>exact⟨ha.1,h0⟩|st b=>exact ha|mp b=>exact ha.elim|arr blk off len cap sz' =>obtain⟨h1,h2,h3,h7,c,T,h4,h5,h6⟩:=ha;refine⟨h0,by rw[hs];exact h1,h2,h3,c,T,_,h4,.inl rfl,by rw[h1];exact h5,λi x hi=>?_⟩;obtain⟨es,O,hO,hc,hr⟩:=h6 i x hi;exact⟨es,by rw[h1];exact hc,hR i x es O (mJ hO) hr⟩
theorem M.ty_ent:∀{m:M},m.el=true->m.ty.isEnt=false
 | .dat t,h=>by simpa[M.el,M.ty]using h| .own _,_=>rfl| .owns _,_=>rfl| .unit,_=>rfl| .pair _ _,_=>rfl| .box _,h=>by simp[M.el]at h| .ownb _,h=>by simp[M.el]at h| .rp _,h=>by simp[M.el]at h| .fn _ _,h=>by simp[M.el]at h| .ifc _ _,h=>by simp[M.el]at h| .cell _,h=>by simp[M.el]at h| .fr _,h=>by simp[M.el]at h| .sbx _ _,h=>by simp[M.el]at h| .lp _,h=>by simp[M.el]at h| .dv ..,h=>by simp[M.el]at h| .sit,h=>by simp[M.el]at h
theorem KZ{ok' :Nat->Ty->Prop}(hok:∀b t,ok b t->ok' b t):∀{m:M} (he:m.el=true) {x:m.den} {cs:List Value} {O:List Nat},(∀b∈O,∀t∈m.owned,ok' b t)->nJ h ok m none x cs O->jH h ok' m.ty (cast (M.denEq m he) x) cs
 | .dat t,_,_,_,_,_,e=>dE hok (λ_ _ _=>rfl) e.1| .unit,_,_,_,_,_,e=>e.1| .own t,he,xs,_,_,hO,e=>by obtain⟨l,v,rfl,hv,ha,rfl⟩:=vG.1 e;exact mF (C:=⟨h,ok,nom⟩) (vw:=none) ha hv hok (λblk hb=>hO blk hb t (by simp[M.owned]))
 | .pair a b,he,x,_,_,hO,e=>by
  obtain⟨c,d,O1,O2,rfl,rfl,h1,h2⟩:=e;have h' :a.el=true/\b.el=true:=by simpa[M.el]using he
  have e:cast (M.denEq (.pair a b) he) x=(cast (M.denEq a h'.1) x.1,cast (M.denEq b h'.2) x.2):=LK _ _ _ _;refine⟨c,d,rfl,?_,?_⟩
  .rw[e];exact KZ hok h'.1 (λb hb t ht=>hO b (by simp[hb]) t (by simp[M.owned,ht])) h1
  .rw[e];exact KZ hok h'.2 (λb hb t ht=>hO b (by simp[hb]) t (by simp[M.owned,ht])) h2
 | .owns m,he,xs,_,_,hO,e=>by
  obtain⟨_,l,v,Os,rfl,hv,ha,rfl⟩:=wU.1 e;have he' :m.el=true:=he;have hA:arrOk ⟨h,ok',nom⟩ m.ty (cast (congrArg List (M.denEq m he')) xs) l:=WF (M.ty_ent he') (M.denEq m he') _ (M.ty_size he') (λi x es O hOi hr=>KZ hok he' (λb hb t ht=>hO b (by simp only[O8,bJ];exact .inr ⟨O,hOi,hb⟩) t (by simp[M.owned,ht])) hr) ha
  exact mF (C:=⟨h,ok',nom⟩) (t:=m.ty) (vw:=none) hA hv (λ_ _ h=>h) (λblk hb=>hO blk (by simp[hb]) m.ty (by simp[M.owned]))
 | .box _,h,_,_,_,_,_=>by simp[M.el]at h| .ownb _,h,_,_,_,_,_=>by simp[M.el]at h| .rp _,h,_,_,_,_,_=>by simp[M.el]at h| .fn _ _,h,_,_,_,_,_=>by simp[M.el]at h| .ifc _ _,h,_,_,_,_,_=>by simp[M.el]at h| .cell _,h,_,_,_,_,_=>by simp[M.el]at h| .fr _,h,_,_,_,_,_=>by simp[M.el]at h| .sbx _ _,h,_,_,_,_,_=>by simp[M.el]at h| .lp _,h,_,_,_,_,_=>by simp[M.el]at h| .dv ..,h,_,_,_,_,_=>by simp[M.el]at h| .sit,h,_,_,_,_,_=>by simp[M.el]at h
theorem IL{m:M}{mp:Mp}(he:m.el=true)(hok:∀b t,ok b t->ok' b t){xs:List m.den}{Os:List (List Nat)}(hO:∀b∈Os.flatten,∀t∈m.owned,ok' b t)
  (ha:zC h m.size (λ_ x es O=>nJ h ok m none x es O) xs Os l):arrOk ⟨h,ok',mp⟩ m.ty (cast (congrArg List (M.denEq m he)) xs) l:=
 WF (M.ty_ent he) (M.denEq m he) _ (M.ty_size he) (λi x es O hOi hr=>KZ hok he (λb hb t ht=>hO b (bJ.2 ⟨O,hOi,hb⟩) t ht) hr) ha
end
theorem Oq{h h' :Array Obj}{ok ok' :Nat->Ty->Prop}(hok:∀b t,ok b t->ok' b t)(hh:∀b t,ok b t->h'[b]? =h[b]?):
  ∀{ms:List MG} {x:X4 ms} {vs:List Value} {O:List Nat},(∀b∈O,h'[b]? =h[b]?)->qE h ok ms x vs O->qE h' ok' ms x vs O
 |[],_,_,_,_,e=>e|[m],_,_,_,hb,⟨v,cs,e,hg,hr⟩=>⟨v,cs,e,hg,jf hok hh hb hr⟩|m::m' ::r,_,_,_,hb,⟨v,cs,vs',O1,O2,e,eo,hg,h1,h2⟩=>by subst eo;exact⟨v,cs,vs',O1,O2,e,rfl,hg,jf hok hh (λb h=>hb b (by simp[h])) h1,Oq hok hh (λb h=>hb b (by simp[h])) h2⟩
variable {Q:α->Sm->Prop}{c:V}
section
variable {X:Fx} {cl ch:Nat} {S:Sm} {m:Mp} {ok:Nat->Ty->Prop} {a:Act} {w:World} {T:List Nat}
theorem dN{p q:Ty}{xs:List p.den}{k:List q.den->Cmd α}{S:Sm}
  (h:∀e:p=q,(k (e▸xs)).post S Q):(Ty.castL p q xs k .fail).post S Q:=by
 unfold Ty.castL;split
 .rename_i e;exact h e
 .trivial
theorem cO{b:Bool}{c:Cmd α}{S:Sm}(h:b=true->c.post S Q):(bif b then c else Cmd.fail).post S Q:=by
 cases b
 .trivial
 .exact h rfl
theorem AL{p q:Ty}{x:p.den}{k:q.den->Cmd α}{S:Sm}
  (h:∀e:p=q,(k (e▸x)).post S Q):(PT p q x k .fail).post S Q:=by
 unfold PT;split
 .rename_i e;exact h e
 .trivial
theorem PS{p q:M}{xs:List p.den}{k:List q.den->Cmd α}{S:Sm}
  (h:∀e:p=q,(k (e▸xs)).post S Q):(J_ p q xs k .fail).post S Q:=by
 unfold J_;split
 .rename_i e;exact h (M.beq_eq e)
 .trivial
theorem WU{p:M}{xs:List p.den}{k:List t.den->Cmd α}{S:Sm}
  (h:∀(e:p.el=true) (e' :p.ty=t),(k (e' ▸cast (congrArg List (M.denEq p e)) xs)).post S Q):(YS p t xs k .fail).post S Q:=by
 unfold YS;split
 .rename_i e;obtain⟨e,rfl⟩:=e;exact h e rfl
 .trivial
theorem EU{ok ok' :Nat->Ty->Prop}{m:Mp}(k:∀b t,ok b t->ok' b t){cs:List V}{vs:List Value}(hr:dX ⟨h,ok,m⟩ cs vs):dX ⟨h,ok',m⟩ cs vs:=
 CO (C:=⟨h,ok,m⟩) (D:=⟨h,ok',m⟩) ⟨k,λ_ _ _=>rfl,λ_ _ h=>h⟩ hr
theorem Iu{ok ok' :Nat->Ty->Prop}{m:Mp}(k:∀b t,ok b t->ok' b t)(hr:jG ⟨h,ok,m⟩ c v):jG ⟨h,ok',m⟩ c v:=
 La (C:=⟨h,ok,m⟩) (D:=⟨h,ok',m⟩) ⟨k,λ_ _ _=>rfl,λ_ _ h=>h⟩ hr
theorem Bj{bs:List Nat}{Ts:List Ty} :∀b t,ok b t->okW ok bs Ts b t:=λ_ _ h=> .inl h
def okL(ln:Ty->Bool)(S:Sm)(m:Mp)(ok:Nat->Ty->Prop):Nat->Ty->Prop:=λb t=>ok b t\/(ln t=true/\∃n,b∈S9 m n (S (X9+n))/\a3p (S (X9+n)) t)
theorem Zk:okL xG S m ok=ok:=by funext b t;simp[okL,xG]
theorem Uo{ln:Ty->Bool}{n:Nat}{v:V}(hv:S9 m n v=[]){Ts:List Ty}{bs:List Nat}(hbs:S9 m n (S (X9+n)) ⊆ bs)(hTs:∀t,a3p (S (X9+n)) t->t∈Ts):
  ∀b t,okL ln S m ok b t->okL ln (upd S (X9+n) v) m (okW ok bs Ts) b t:=by
 intro b t h;rcases h with h|⟨hl,k,hk,ht⟩
 .exact .inl (.inl h)
 .by_cases e:k=n
  .subst e;exact .inl (.inr ⟨hbs hk,hTs _ ht⟩)
  .exact .inr ⟨hl,k,by rw[aK _ _ o5];exact⟨hk,ht⟩⟩
def az(S S' :Sm):Prop:=∀n,n<X9->S' n=S n
theorem az.refl(S:Sm):az S S:=λ_ _=>rfl
theorem az.trans{A B C:Sm}(h:az A B)(k:az B C):az A C:=λn hn=>(k n hn).trans (h n hn)
theorem az.box(S:Sm)(n:Nat)(v:V):az S (upd S (X9+n) v):=λk hk=>aK _ _ o5
theorem TL{ln:Ty->Bool} :∀{ts:List Ty},WC ln ts=true->∀t∈ts,ln t=true
 |[],_,_,h=>by cases h|u::r,e,t,h=>by
  unfold WC at e;cases hl:ln u with
  |false=>rw[hl]at e;cases e|true=>
   rw[hl]at e;rcases A8.1 h with rfl|h
   .exact hl
   .exact TL e t h
theorem zB{α:Type}{Q:α->Sm->Prop}(ln:Ty->Bool):∀(t:Ty) {cs:List V} {K:t.den->List V->Cmd α} {S:Sm} {ok:Nat->Ty->Prop} {vs:List Value} (R:Rel X cl ch S m ok a w) (hT:Tk X S m ok w T)
  (hL:dX ⟨w.heap,ok,m⟩ cs vs)
  (hK:∀S' ok' x r us us',Rel X cl ch S' m ok' a w->Tk X S' m ok' w T->(∀b t,ok b t->ok' b t)->(∀b t,okL ln S m ok b t->okL ln S' m ok' b t)->az S S' ->vs=us++us' ->jH w.heap (okL ln S' m ok') t x us->dX ⟨w.heap,ok',m⟩ r us' ->(K x r).post S' Q),
  (kC ln t cs K).post S Q
 | .bool,cs,K,S,ok,vs,R,hT,hL,hK=>by
  unfold kC;split
  .obtain⟨v,r,rfl,h1,_,h3⟩:=hL;exact hK _ _ _ _ [v] r R hT (λ_ _ h=>h) (λ_ _ h=>h) (az.refl _) rfl (by simp only[rJ]at h1;simp[jH,h1]) h3
  .trivial
 | .int k,cs,K,S,ok,vs,R,hT,hL,hK=>by
  unfold kC;split
  .rename_i k' n r0;obtain⟨v,r,rfl,h1,_,h3⟩:=hL;by_cases e:k=k'
   .subst e;simp only[decide_true,cond_true];exact hK _ _ _ _ [v] r R hT (λ_ _ h=>h) (λ_ _ h=>h) (az.refl _) rfl (by simp only[rJ]at h1;simp[jH,h1]) h3
   .simp only[e,decide_false,cond_false];trivial
  .trivial
 | .str,cs,K,S,ok,vs,R,hT,hL,hK=>by
  unfold kC;split
  .obtain⟨v,r,rfl,h1,_,h3⟩:=hL;exact hK _ _ _ _ [v] r R hT (λ_ _ h=>h) (λ_ _ h=>h) (az.refl _) rfl (by simp only[rJ]at h1;simp[jH,h1]) h3
  .trivial
 | .unit,cs,K,S,ok,vs,R,hT,hL,hK=>by unfold kC;exact hK _ _ _ _ [] vs R hT (λ_ _ h=>h) (λ_ _ h=>h) (az.refl _) rfl rfl hL| .any none,cs,K,S,ok,vs,R,hT,hL,hK=>by
  unfold kC;split
  .obtain⟨v,r,rfl,h1,h2,h3⟩:=hL;exact hK _ _ _ _ [v] r R hT (λ_ _ h=>h) (λ_ _ h=>h) (az.refl _) rfl ⟨v,rfl,h2,trivial⟩ h3
  .trivial
 | .any (some k),cs,K,S,ok,vs,R,hT,hL,hK=>by
  unfold kC;split
  .rename_i k' n r0;obtain⟨v,r,rfl,h1,h2,h3⟩:=hL;by_cases e:k=k'
   .subst e;simp only[decide_true,cond_true];exact hK _ _ _ _ [v] r R hT (λ_ _ h=>h) (λ_ _ h=>h) (az.refl _) rfl ⟨v,rfl,h2,n,h1⟩ h3
   .simp only[e,decide_false,cond_false];trivial
  .trivial
 | .prod p q,cs,K,S,ok,vs,R,hT,hL,hK=>by unfold kC;refine zB ln p R hT hL λS1 ok1 x r us us' R1 T1 k1 g1 s1 e1 h1 l1=>?_;refine zB ln q R1 T1 l1 λS2 ok2 y r' vs2 vs2' R2 T2 k2 g2 s2 e2 h2 l2=>?_;subst e1;subst e2;exact hK _ _ _ _ (us++vs2) vs2' R2 T2 (λb t h=>k2 b t (k1 b t h)) (λb t h=>g2 b t (g1 b t h)) (s1.trans s2) x9 ⟨us,vs2,rfl,dE g2 (λ_ _ _=>rfl) h1,h2⟩ l2| .ent ..,cs,K,S,ok,vs,R,hT,hL,hK=>by unfold kC;trivial| .sl t,cs,K,S,ok,vs,R,hT,hL,hK=>by
  unfold kC;split
  .obtain⟨v,r,rfl,h1,_,h3⟩:=hL;simp only[rJ]at h1;subst h1;cases ht:t.isEnt
   .exact hK _ _ _ _ [_] r R hT (λ_ _ h=>h) (λ_ _ h=>h) (az.refl _) rfl (.inl ⟨ht,none,0,rfl,F5 _,λi x hi=>by simp at hi⟩) h3
   .trivial
  .rename_i t' xs r0;obtain⟨v,r,rfl,h1,_,h3⟩:=hL;refine dN λe=>?_;subst e;exact hK _ _ _ _ [v] r R hT (λ_ _ h=>h) (λ_ _ h=>h) (az.refl _) rfl (dE (λ_ _ h=> .inl h) (λ_ _ _=>rfl) h1) h3
  .rename_i bx vw r0;obtain⟨v,r,rfl,h1,_,h3⟩:=hL;obtain⟨l,hm,hv⟩:=h1;show Cmd.post (match S (X9+bx)with| .barr t' xs=>_| .bfrz t' xs=>_| .barrs el xs none=>_|_=>_) S Q;have hb:=R.box bx;split
   .rename_i t' xs hS;rw[hS]at hb;obtain⟨l',hm',ha⟩:=hb;simp only at hm hm';rw[hm]at hm';cases hm';refine dN λe=>?_;subst e;have hob:S9 m bx (S (X9+bx))=l.blks:=by
     rw[hS];cases l<;>first|(simp[S9,hm,Loc.blks];done)|cases ha
    cases hl:ln t'
    .simp only[cond_false];show Cmd.post _ (upd S (X9+bx) (.bfrz t' xs)) Q;have hbs:∀b∈l.blks,b∈S9 m bx (S (X9+bx)):=λb h=>by rw[hob];exact h
     refine hK _ (okW ok l.blks [t']) _ _ [v] r (R.widen x9 rfl hbs ?_) (hT.widen rfl hbs) Bj (Uo rfl (by rw[hob];exact λ_ h=>h) (by rw[hS];exact λ_ h=>h)) (az.box _ _ _) rfl ?_ (EU Bj h3)
     .exact⟨l,hm,lX Bj (λ_ _ _=>rfl) (λ_ _=>rfl) ha,λblk hb=> .inr ⟨hb,x9⟩⟩
     .exact mF (C:=⟨w.heap,ok,m⟩) ha hv (λb t h=> .inl (.inl h)) (λblk hb=> .inl (.inr ⟨hb,x9⟩))
    .simp only[cond_true];refine hK _ _ _ _ [v] r R hT (λ_ _ h=>h) (λ_ _ h=>h) (az.refl _) rfl ?_ h3;refine mF (C:=⟨w.heap,ok,m⟩) ha hv (λb t h=> .inl h) (λblk hb=> .inr ⟨hl,bx,?_,by rw[hS];simp[a3p,a6s]⟩);rw[hob];exact hb
   .rename_i t' xs hS;rw[hS]at hb;obtain⟨l',hm',ha,hok⟩:=hb;simp only at hm hm';rw[hm]at hm';cases hm';refine dN λe=>?_;subst e;exact hK _ _ _ _ [v] r R hT (λ_ _ h=>h) (λ_ _ h=>h) (az.refl _) rfl (mF (C:=⟨w.heap,ok,m⟩) ha hv (λ_ _ h=> .inl h) (λblk e=> .inl (hok _ e))) h3
   .rename_i md xs hS;rw[hS]at hb;obtain⟨hel,l',Os,hm',⟨ha,hho⟩,hk⟩:=hb;simp only at hm hm' hk;rw[hm]at hm';cases hm';refine WU λe e' =>?_;subst e';have hob:S9 m bx (S (X9+bx))=l.blks++Os.flatten:=by
     rw[hS];simp only[S9];rw[hk];cases l<;>first|(simp[hm,Loc.blks];done)|cases ha
    simp only;cases hl:(ln md.ty&&WC ln md.owned)
    .simp only[cond_false];show Cmd.post _ (upd S (X9+bx) (.bfrz md.ty _)) Q;have hbs:∀b∈l.blks++Os.flatten,b∈S9 m bx (S (X9+bx)):=λb h=>by rw[hob];exact h
     have ha' :arrOk ⟨w.heap,okW ok (l.blks++Os.flatten) (md.ty::md.owned),m⟩ md.ty (cast (congrArg List (M.denEq md e)) xs) l:=
      IL e Bj (λb hb t ht=> .inr ⟨by simp[hb],by simp[ht]⟩) ha
     refine hK _ (okW ok (l.blks++Os.flatten) (md.ty::md.owned)) _ _ [v] r (R.widen x9 rfl hbs ?_) (hT.widen rfl hbs) Bj (Uo rfl (by rw[hob];exact λ_ h=>h) (by rw[hS];exact λ_ h=>h)) (az.box _ _ _) rfl ?_ (EU Bj h3)
     .exact⟨l,hm,ha',λblk hb=> .inr ⟨by simp[hb],x9⟩⟩
     .exact mF (C:=⟨w.heap,okW ok (l.blks++Os.flatten) (md.ty::md.owned),m⟩) ha' hv (λb t h=> .inl h) (λblk hb=> .inl (.inr ⟨by simp[hb],x9⟩))
    .simp only[cond_true];simp only[A7]at hl;have ha' :arrOk ⟨w.heap,okL ln S m ok,m⟩ md.ty (cast (congrArg List (M.denEq md e)) xs) l:=
      IL e (λb t h=> .inl h) (λb hb t ht=> .inr ⟨TL hl.2 t ht,bx,by rw[hob];simp[hb],by rw[hS];simp[a3p,a6s,ht]⟩) ha
     refine hK _ _ _ _ [v] r R hT (λ_ _ h=>h) (λ_ _ h=>h) (az.refl _) rfl ?_ h3;refine mF (C:=⟨w.heap,okL ln S m ok,m⟩) ha' hv (λb t h=>h) (λblk hb=> .inr ⟨hl.1,bx,?_,by rw[hS];simp[a3p,a6s]⟩);rw[hob];simp[hb]
   .trivial
  .trivial
theorem Az(t:Ty){cs:List V}{K:t.den->List V->Cmd α}{S:Sm}{ok:Nat->Ty->Prop}{vs:List Value}(R:Rel X cl ch S m ok a w)(hT:Tk X S m ok w T)
  (hL:dX ⟨w.heap,ok,m⟩ cs vs)
  (hK:∀S' ok' x r us us',Rel X cl ch S' m ok' a w->Tk X S' m ok' w T->(∀b t,ok b t->ok' b t)->az S S' ->vs=us++us' ->jH w.heap ok' t x us->dX ⟨w.heap,ok',m⟩ r us' ->(K x r).post S' Q):
  (kC xG t cs K).post S Q:=
 zB xG t R hT hL λS' ok' x r us us' R' T' k g s e h l=>hK S' ok' x r us us' R' T' k s e (by rw[Zk]at h;exact h) l
theorem Loc.blks_nodup(l:Loc):l.blks.Nodup:=by cases l<;>simp[Loc.blks]
theorem XK(t:Ty){K:t.den->Cmd α}{S:Sm}{ok:Nat->Ty->Prop}(R:Rel X cl ch S m ok a w)(hT:Tk X S m ok w T)
  (hv:rJ ⟨w.heap,ok,m⟩ c v)
  (hK:∀S' ok' x,Rel X cl ch S' m ok' a w->Tk X S' m ok' w T->(∀b t,ok b t->ok' b t)->az S S' ->UZ w.heap ok' t x 0 v->(K x).post S' Q):(rpC t c K).post S Q:=by
 unfold rpC;split
 .refine AL λe=>?_;subst e;exact hK _ _ _ R hT (λ_ _ h=>h) (az.refl _) hv
 .rename_i bx;obtain⟨blk,hm,rfl⟩:=hv;show Cmd.post (match S (X9+bx)with| .bfc t' x=>_| .bcells bs=>_|_=>_) S Q;have hb:=R.box bx;split
  .rename_i t' x hS;rw[hS]at hb;obtain⟨blk',es,hm',hok,hc,hr⟩:=hb;simp only at hm hm';rw[hm]at hm';cases hm';refine AL λe=>?_;subst e;exact hK _ _ _ R hT (λ_ _ h=>h) (az.refl _) ⟨blk,0,es,rfl,hok,hc,hr⟩
  .rename_i bs hS;rw[hS]at hb;obtain⟨blk',arr,Ty',hm',hh,hl⟩:=hb;simp only at hm hm';rw[hm]at hm';cases hm';refine Az t R hT hl λS1 ok1 x q us us' R1 T1 k1 s1 e1 h1 l1=>?_;cases q with
   |cons c q=>trivial|nil=>
    simp only[dX]at l1;subst l1;simp only[F6]at e1;show Cmd.post (match S1 (X9+bx)with| .bcells _=>_|_=>_) S1 Q;split
    .rename_i bs' hS';show Cmd.post _ (upd S1 (X9+bx) (.bfc t x)) Q;have hbs:∀b∈[blk],b∈S9 m bx (S1 (X9+bx)):=λb h=>by rw[hS'];simp at h;subst h;simp[S9,hm]
     have hce:bF w.heap blk 0 t.size=some us:=by rw[iO hh 0 t.size (by have:=dD h1;rw[←e1]at this;simp at this;omega)];rw[e1,←dD h1];simp
     have hr:=dE (Bj (bs:=[blk]) (Ts:=[t])) (λ_ _ _=>rfl) h1;refine hK _ (okW ok1 [blk] [t]) _ (R1.widen x9 rfl hbs ?_) (T1.widen rfl hbs) (λb t h=> .inl (k1 b t h)) (s1.trans (az.box _ _ _)) ?_
     .exact⟨blk,us,hm,.inr ⟨x9,x9⟩,hce,hr⟩
     .exact⟨blk,0,us,rfl,.inr ⟨x9,x9⟩,hce,hr⟩
    .trivial
  .trivial
 .trivial
theorem Xi(ln:Ty->Bool)(t:Ty){K:t.den->Cmd α}{S:Sm}{ok:Nat->Ty->Prop}(R:Rel X cl ch S m ok a w)(hT:Tk X S m ok w T)
  (hv:rJ ⟨w.heap,ok,m⟩ c v)
  (hK:∀S' ok' x,Rel X cl ch S' m ok' a w->Tk X S' m ok' w T->(∀b t,ok b t->ok' b t)->(∀b t,okL ln S m ok b t->okL ln S' m ok' b t)->az S S' ->UZ w.heap (okL ln S' m ok') t x 0 v->(K x).post S' Q):(lpC ln t c K).post S Q:=by
 unfold lpC;split
 .refine AL λe=>?_;subst e;exact hK _ _ _ R hT (λ_ _ h=>h) (λ_ _ h=>h) (az.refl _) (Ak (λ_ _ h=> .inl h) (λ_ _ _=>rfl) hv)
 .rename_i bx;obtain⟨blk,hm,rfl⟩:=hv;show Cmd.post (match S (X9+bx)with| .bcells bs=>_|_=>_) S Q;have hb:=R.box bx;split
  .rename_i bs hS;rw[hS]at hb;obtain⟨blk',arr,Ty',hm',hh,hl⟩:=hb;simp only at hm hm';rw[hm]at hm';cases hm';cases hlt:ln t
   .trivial
   simp only[cond_true];refine zB ln t R hT hl λS1 ok1 x q us us' R1 T1 k1 g1 s1 e1 h1 l1=>?_;cases q with
   |cons c q=>trivial|nil=>
    simp only[dX]at l1;subst l1;simp only[F6]at e1;show Cmd.post (match S1 (X9+bx)with| .bcells _=>_|_=>_) S1 Q;split
    .rename_i bs' hS';have hce:bF w.heap blk 0 t.size=some us:=by
      rw[iO hh 0 t.size (by have:=dD h1;rw[←e1]at this;simp at this;omega)];rw[e1,←dD h1];simp
     exact hK _ _ _ R1 T1 k1 g1 s1 ⟨blk,0,us,rfl,.inr ⟨hlt,bx,by rw[hS'];simp[S9,hm],by rw[hS'];trivial⟩,hce,h1⟩
    .trivial
  .trivial
 .trivial
theorem FW{α:Type}{Q:α->Sm->Prop}{h:Array Obj}{ok:Nat->Ty->Prop} :∀(ts:List Ty) {cs:List ((t:Ty)×t.den)} {vs:List Value} {K:Nz ts->Cmd α} {S:Sm}
  (hc:AC h ok cs vs) (hK:∀x,AC h ok (Nu ts x) vs->(K x).post S Q),(Jl ts cs K).post S Q
 |[],cs,vs,K,S,hc,hK=>by
  unfold Jl;split
  .exact hK _ hc
  .trivial
 |[t],cs,vs,K,S,hc,hK=>by
  unfold Jl;split
  .refine AL λe=>?_;subst e;exact hK _ hc
  .trivial
 |t::t' ::r,cs,vs,K,S,hc,hK=>by
  unfold Jl;split
  .obtain⟨v,vs',rfl,h1,h2⟩:=hc;refine AL λe=>?_;subst e;exact FW (t' ::r) h2 λy hy=>hK _ ⟨v,vs',rfl,h1,hy⟩
  .trivial
theorem a4z{te:Nat}{K:List UInt8->Cmd α}{S:Sm}{ok:Nat->Ty->Prop}{T:List Nat}(R:Rel X cl ch S m ok a w)(hT:Tk X S m ok w T)(hv:rJ ⟨w.heap,ok,m⟩ c v)
  (hK:∀S' ys l,Rel X cl ch S' m ok a w->Tk X S' m ok w (T++l.blks)->az S S' ->(∀n,(∀t xs,S (X9+n)≠.brow t xs)->S' (X9+n)=S (X9+n))->l.view none v->xQ w.heap te ys l->(K ys).post S' Q):(sbC te c K).post S Q:=by
 unfold sbC;split
 .exact hK S [] .nil R (by simpa[Loc.blks]using hT) (az.refl _) (λ_ _=>rfl) hv rfl
 .rename_i b;obtain⟨l,hm,hvw⟩:=hv;show Cmd.post (match S (X9+b)with| .brow te' xs=>_|_=>_) S Q;have hb:=R.box b;split
  .rename_i t' xs hS;rw[hS]at hb;obtain⟨l',hm',ha⟩:=hb;simp only at hm hm';rw[hm]at hm';cases hm';cases he:Nat.beq t' te
   .trivial
   have e:=fG he;subst e;show Cmd.post _ (upd S (X9+b) .dead) Q;refine hK _ xs l (R.kill b) (hT.kill R b (λb' hb' =>?_) (Loc.blks_nodup l)) (az.box _ _ _) (λn hn=>?_) hvw ha
   .cases l with
    |nil=>simp[Loc.blks]at hb'|st _=>cases ha|arr blk off len cap sz=>simp[Loc.blks]at hb';subst hb';simp[S9,hS,hm]|mp blk=>cases ha
   .by_cases en:n=b
    .subst en;exact absurd hS (hn _ _)
    .rw[aK _ _ o5]
  .trivial
 .trivial
theorem AX{α:Type}{Q:α->Sm->Prop} :∀(md:M) {cs:List V} {K:md.den->List V->Cmd α} {S:Sm} {ok:Nat->Ty->Prop} {vs:List Value} {T:List Nat} (R:Rel X cl ch S m ok a w) (hT:Tk X S m ok w T)
  (hL:dX ⟨w.heap,ok,m⟩ cs vs)
  (hK:∀S' ok' x r us us' O,Rel X cl ch S' m ok' a w->Tk X S' m ok' w (T++O)->(∀b t,ok b t->ok' b t)->az S S' ->vs=us++us' ->nJ w.heap ok' md none x us O->dX ⟨w.heap,ok',m⟩ r us' ->(K x r).post S' Q),
  (exM xG md cs K).post S Q
 | .dat t,cs,K,S,ok,vs,T,R,hT,hL,hK=>by unfold exM;exact Az t R hT hL λS' ok' x r us us' R' T' k s e h l=>hK S' ok' x r us us' [] R' (by simpa using T') k s e ⟨h,rfl⟩ l| .own t,cs,K,S,ok,vs,T,R,hT,hL,hK=>by
  unfold exM;split
  .obtain⟨v,r,rfl,h1,_,h3⟩:=hL;simp only[rJ]at h1;subst h1;cases ht:t.isEnt
   .exact hK _ _ _ _ [_] r [] R (by simpa using hT) (λ_ _ h=>h) (az.refl _) rfl (vG.2 ⟨.nil,_,rfl,rfl,⟨rfl,ht⟩,rfl⟩) h3
   .trivial
  .rename_i bx vw r0;obtain⟨v,r,rfl,h1,_,h3⟩:=hL;obtain⟨l,hm,hv⟩:=h1;show Cmd.post (match S (X9+bx)with| .barr t' xs=>_|_=>_) S Q;have hb:=R.box bx;split
   .rename_i t' xs hS;rw[hS]at hb;obtain⟨l',hm',ha⟩:=hb;simp only at hm hm';rw[hm]at hm';cases hm';refine dN λe=>?_;subst e;obtain⟨a1,a2,a3⟩:=Ei (C:=⟨w.heap,ok,m⟩) ha hv;show Cmd.post _ (upd S (X9+bx) .dead) Q;refine hK _ ok _ _ [v] r (Fe l vw).blks (R.kill bx) ?_ (λ_ _ h=>h) (az.box _ _ _) rfl (vG.2 ⟨_,v,rfl,a2,lX (λ_ _ h=>h) (λ_ _ _=>rfl) (λ_ _=>rfl) a1,rfl⟩) h3;rw[a3];refine hT.kill R bx (λb hb=>?_) (Loc.blks_nodup l);cases l with
    |nil=>simp[Loc.blks]at hb|st _=>cases ha|arr blk off len cap sz=>simp[Loc.blks]at hb;subst hb;simp[S9,hS,hm]|mp blk=>simp[Loc.blks]at hb;subst hb;simp[S9,hS,hm]
   .trivial
  .trivial
 | .ownb t,cs,K,S,ok,vs,T,R,hT,hL,hK=>by
  unfold exM;split
  .obtain⟨v,r,rfl,h1,_,h3⟩:=hL;simp only[rJ]at h1;subst h1;cases ht:t.isEnt
   .exact hK _ _ _ _ [_] r [] R (by simpa using hT) (λ_ _ h=>h) (az.refl _) rfl ⟨.nil,_,rfl,rfl,⟨rfl,ht⟩,rfl⟩ h3
   .trivial
  .rename_i bx r0;obtain⟨v,r,rfl,h1,_,h3⟩:=hL;obtain⟨l,hm,hv⟩:=h1;show Cmd.post (match S (X9+bx)with| .barr t' xs=>_|_=>_) S Q;have hb:=R.box bx;split
   .rename_i t' xs hS;rw[hS]at hb;obtain⟨l',hm',ha⟩:=hb;simp only at hm hm';rw[hm]at hm';cases hm';refine dN λe=>?_;subst e;show Cmd.post _ (upd S (X9+bx) (.gone t')) Q;refine hK _ ok _ _ [v] r l.blks (R.killV bx x9 rfl ⟨l,hm,λblk off len cap sz e=>by subst e;exact ha.2.1⟩) ?_ (λ_ _ h=>h) (az.box _ _ _) rfl ⟨l,v,rfl,hv,lX (λ_ _ h=>h) (λ_ _ _=>rfl) (λ_ _=>rfl) ha,rfl⟩ h3;refine hT.killV R bx rfl (λb hb=>?_) (Loc.blks_nodup l);cases l with
    |nil=>simp[Loc.blks]at hb|st _=>cases ha|arr blk off len cap sz=>simp[Loc.blks]at hb;subst hb;simp[S9,hS,hm]|mp blk=>simp[Loc.blks]at hb;subst hb;simp[S9,hS,hm]
   .trivial
  .trivial
 | .owns md,cs,K,S,ok,vs,T,R,hT,hL,hK=>by
  unfold exM;split
  .obtain⟨v,r,rfl,h1,_,h3⟩:=hL;simp only[rJ]at h1;subst h1;refine cO λhe=>?_;exact hK _ _ _ _ [_] r [] R (by simpa using hT) (λ_ _ h=>h) (az.refl _) rfl (wU.2 ⟨he,.nil,_,[],rfl,rfl,⟨rfl,rfl⟩,rfl⟩) h3
  .rename_i bx r0;obtain⟨v,r,rfl,h1,_,h3⟩:=hL;obtain⟨l,hm,hv⟩:=h1;show Cmd.post (match S (X9+bx)with| .barrs m' xs none=>_|_=>_) S Q;have hb:=R.box bx;split
   .rename_i md' xs hS;rw[hS]at hb;obtain⟨hel,l',Os,hm',⟨ha,hho⟩,hk⟩:=hb;simp only at hm hm' hk;rw[hm]at hm';cases hm';refine PS λe=>?_;subst e;have hob:S9 m bx (S (X9+bx))=l.blks++Os.flatten:=by
     rw[hS];simp only[S9];rw[hk];cases l<;>first|(simp[hm,Loc.blks];done)|cases ha
    show Cmd.post _ (upd S (X9+bx) .dead) Q;refine hK _ ok _ _ [v] r (l.blks++Os.flatten) (R.kill bx) ?_ (λ_ _ h=>h) (az.box _ _ _) rfl (wU.2 ⟨hel,l,v,Os,rfl,hv,ha,rfl⟩) h3;refine hT.kill R bx (λb hb=>by rw[hob];exact hb) (by rw[←hob];exact R.nd bx)
   .trivial
  .trivial
 | .unit,cs,K,S,ok,vs,T,R,hT,hL,hK=>by unfold exM;exact hK _ _ _ _ [] vs [] R (by simpa using hT) (λ_ _ h=>h) (az.refl _) rfl ⟨rfl,rfl⟩ hL
 | .pair p q,cs,K,S,ok,vs,T,R,hT,hL,hK=>by unfold exM;refine AX p R hT hL λS1 ok1 x r us us' O1 R1 T1 k1 s1 e1 h1 l1=>?_;refine AX q R1 T1 l1 λS2 ok2 y r' vs2 vs2' O2 R2 T2 k2 s2 e2 h2 l2=>?_;subst e1;subst e2;exact hK _ _ _ _ (us++vs2) vs2' (O1++O2) R2 (by simpa using T2) (λb t h=>k2 b t (k1 b t h)) (s1.trans s2) x9 ⟨us,vs2,O1,O2,rfl,rfl,jf k2 (λ_ _ _=>rfl) (λ_ _=>rfl) h1,h2⟩ l2| .box md,cs,K,S,ok,vs,T,R,hT,hL,hK=>by
  unfold exM;split
  .rename_i bx r0;obtain⟨v,r,rfl,h1,_,h3⟩:=hL;obtain⟨blk,hm,hv⟩:=h1;show Cmd.post (match S (X9+bx)with| .bcells bs=>_|_=>_) S Q;have hb:=R.box bx;split
   .rename_i bs hS;rw[hS]at hb;obtain⟨blk',arr,Ty',hm',hh,hl⟩:=hb;simp only at hm hm' hv;rw[hm]at hm';cases hm';subst hv;show Cmd.post _ (upd S (X9+bx) .dead) Q;have hT1:Tk X (upd S (X9+bx) .dead) m ok w (T++[blk]):=hT.kill R bx (λb hb=>by simp at hb;subst hb;simp[S9,hS,hm]) x9;refine AX md (R.kill bx) hT1 hl λS1 ok1 x q us us' O R1 T1 k1 s1 e1 h1 l1=>?_;cases q with
    |nil=>simp only[dX]at l1;subst l1;simp only[F6]at e1;refine hK _ _ _ _ [_] r (blk::O) R1 (by simpa using T1) k1 ((az.box _ _ _).trans s1) rfl ⟨blk,arr,Ty',O,rfl,hh,by rw[e1];exact h1,rfl⟩ (EU k1 h3)|cons c q=>trivial
   .trivial
  .trivial
 | .rp t,cs,K,S,ok,vs,T,R,hT,hL,hK=>by
  unfold exM;split
  .obtain⟨v,r,rfl,h1,_,h3⟩:=hL;refine XK t R hT h1 λS1 ok1 x R1 T1 k1 s1 h1=>?_;exact hK _ _ _ _ [v] r [] R1 (by simpa using T1) k1 s1 rfl ⟨v,rfl,h1,rfl⟩ (EU k1 h3)
  .trivial
 | .fn f ts,cs,K,S,ok,vs,T,R,hT,hL,hK=>by
  unfold exM;split
  .rename_i g caps r0;obtain⟨v,r,rfl,⟨us,rfl,hc⟩,_,h3⟩:=hL;cases hb:Nat.beq g f
   .trivial
   .simp only[cond_true];have e:=fG hb;subst e;exact FW ts hc λx hx=>hK _ _ _ _ [_] r [] R (by simpa using hT) (λ_ _ h=>h) (az.refl _) rfl ⟨us,rfl,hx,rfl⟩ h3
  .rename_i g r0;obtain⟨v,r,rfl,h1,_,h3⟩:=hL;have h1:v= .func (.func g) #[] #[]:=h1;subst h1;cases hb:Nat.beq g f
   .trivial
   .simp only[cond_true];have e:=fG hb;subst e;exact FW (cs:=[]) (vs:=[]) ts rfl λx hx=>hK _ _ _ _ [_] r [] R (by simpa using hT) (λ_ _ h=>h) (az.refl _) rfl ⟨#[],rfl,hx,rfl⟩ h3
  .trivial
 | .ifc t md,cs,K,S,ok,vs,T,R,hT,hL,hK=>by
  unfold exM;split
  .rename_i t' c r0;obtain⟨v,r,rfl,⟨u,rfl,hu,hc⟩,_,h3⟩:=hL;cases hb:Nat.beq t' t
   .trivial
   .simp only[cond_true];have e:=fG hb;subst e;refine AX md (vs:=[u]) R hT ⟨u,[],rfl,hc,hu,rfl⟩ λS1 ok1 x q us us' O R1 T1 k1 s1 e1 h1 l1=>?_;cases q with
    |cons c q=>trivial|nil=>simp only[dX]at l1;subst l1;simp only[F6]at e1;subst e1;exact hK _ _ _ _ [_] r O R1 T1 k1 s1 rfl ⟨u,rfl,h1⟩ (EU k1 h3)
  .trivial
 | .cell (some none),cs,K,S,ok,vs,T,R,hT,hL,hK=>by
  unfold exM;split
  .obtain⟨v,r,rfl,h1,h2,h3⟩:=hL;exact hK _ _ _ _ [v] r [] R (by simpa using hT) (λ_ _ h=>h) (az.refl _) rfl ⟨v,rfl,h2,λ_=>h1,(λ_ h=>nomatch h),rfl⟩ h3
  .trivial
 | .cell (some (some b)),cs,K,S,ok,vs,T,R,hT,hL,hK=>by
  unfold exM;split
  .obtain⟨v,r,rfl,h1,h2,h3⟩:=hL;cases b
   .trivial
   .exact hK _ _ _ _ [v] r [] R (by simpa using hT) (λ_ _ h=>h) (az.refl _) rfl ⟨v,rfl,h2,(λh=>nomatch h),(λb' h=>by cases h;exact h1),rfl⟩ h3
  .obtain⟨v,r,rfl,h1,h2,h3⟩:=hL;cases b
   .exact hK _ _ _ _ [v] r [] R (by simpa using hT) (λ_ _ h=>h) (az.refl _) rfl ⟨v,rfl,h2,(λh=>nomatch h),(λb' h=>by cases h;exact h1),rfl⟩ h3
   .trivial
  .trivial
 | .cell none,cs,K,S,ok,vs,T,R,hT,hL,hK=>by
  unfold exM;split
  .obtain⟨v,r,rfl,h1,h2,h3⟩:=hL;exact hK _ _ _ _ [v] r [] R (by simpa using hT) (λ_ _ h=>h) (az.refl _) rfl ⟨v,rfl,h2,(λh=>nomatch h),(λ_ h=>nomatch h),rfl⟩ h3
  .trivial
 | .fr t,cs,K,S,ok,vs,T,R,hT,hL,hK=>by
  unfold exM;split
  .obtain⟨v,r,rfl,h1,_,h3⟩:=hL;simp only[rJ]at h1;subst h1;cases ht:t.isEnt
   .exact hK _ _ _ _ [_] r [] R (by simpa using hT) (λ_ _ h=>h) (az.refl _) rfl ⟨.nil,_,rfl,rfl,⟨rfl,ht⟩,(λb h=>by cases h),rfl⟩ h3
   .trivial
  .rename_i bx r0;obtain⟨v,r,rfl,h1,_,h3⟩:=hL;obtain⟨l,hm,hv⟩:=h1;show Cmd.post (match S (X9+bx)with| .barr t' xs=>_| .bfrz t' xs=>_|_=>_) S Q;have hb:=R.box bx;split
   .rename_i t' xs hS;rw[hS]at hb;obtain⟨l',hm',ha⟩:=hb;simp only at hm hm';rw[hm]at hm';cases hm';refine dN λe=>?_;subst e;have hob:S9 m bx (S (X9+bx))=l.blks:=by
     rw[hS];cases l<;>first|(simp[S9,hm,Loc.blks];done)|cases ha
    show Cmd.post _ (upd S (X9+bx) (.bfrz t' xs)) Q;have hbs:∀b∈l.blks,b∈S9 m bx (S (X9+bx)):=λb h=>by rw[hob];exact h
    have ha' :arrOk ⟨w.heap,okW ok l.blks [t'],nom⟩ t' xs l:=lX (m:=m) Bj (λ_ _ _=>rfl) (λ_ _=>rfl) ha;exact hK _ (okW ok l.blks [t']) _ _ [v] r [] (R.widen x9 rfl hbs ⟨l,hm,lX Bj (λ_ _ _=>rfl) (λ_ _=>rfl) ha,λblk hb=> .inr ⟨hb,x9⟩⟩) (by simpa using hT.widen rfl hbs) Bj (az.box _ _ _) rfl ⟨l,v,rfl,hv,ha',λb hb=> .inr ⟨hb,x9⟩,rfl⟩ (EU Bj h3)
   .rename_i t' xs hS;rw[hS]at hb;obtain⟨l',hm',ha,hk⟩:=hb;simp only at hm hm';rw[hm]at hm';cases hm';refine dN λe=>?_;subst e;exact hK _ ok _ _ [v] r [] R (by simpa using hT) (λ_ _ h=>h) (az.refl _) rfl ⟨l,v,rfl,hv,lX (m:=m) (λ_ _ h=>h) (λ_ _ _=>rfl) (λ_ _=>rfl) ha,hk,rfl⟩ h3
   .trivial
  .trivial
 | .lp t,cs,K,S,ok,vs,T,R,hT,hL,hK=>by
  unfold exM;split
  .obtain⟨v,r,rfl,h1,_,h3⟩:=hL;refine Xi xG t R hT h1 λS1 ok1 x R1 T1 k1 g1 s1 h1=>?_;rw[Zk]at h1;exact hK _ _ _ _ [v] r [] R1 (by simpa using T1) k1 s1 rfl ⟨v,rfl,h1,rfl⟩ (EU k1 h3)
  .trivial
 | .dv ..,cs,K,S,ok,vs,T,R,hT,hL,hK=>by
  unfold exM;split
  .obtain⟨v,r,rfl,h1,h2,h3⟩:=hL;exact hK _ _ _ _ [v] r [] R (by simpa using hT) (λ_ _ h=>h) (az.refl _) rfl ⟨v,rfl,h2,rfl⟩ h3
  .trivial
 | .sit,cs,K,S,ok,vs,T,R,hT,hL,hK=>by
  unfold exM;split
  .rename_i bx r0;obtain⟨v,r,rfl,h1,_,h3⟩:=hL;obtain⟨blk,hm,rfl⟩:=h1;have hb:=R.box bx;show Cmd.post (match S (X9+bx)with| .biter l p=>_|_=>_) S Q;split
   .rename_i l p hS;rw[hS]at hb;obtain⟨blk',s,q,hm',hh,g1,g2⟩:=hb;simp only at hm hm';rw[hm]at hm';cases hm';show Cmd.post _ (upd S (X9+bx) .dead) Q;have T2:=hT.kill R bx (bs:=[blk]) (λb hb=>by rw[hS];simpa[S9,hm]using hb) x9;exact hK _ ok (l,p) _ _ r [blk] (R.kill bx) T2 (λ_ _ h=>h) (az.box _ _ _) rfl ⟨blk,s,q,rfl,hh,g1,g2,rfl⟩ h3
   .trivial
  .trivial
 | .sbx tb te,cs,K,S,ok,vs,T,R,hT,hL,hK=>by
  unfold exM;split
  .rename_i bx r0;obtain⟨v,r,rfl,h1,_,h3⟩:=hL;obtain⟨blk,hm,rfl⟩:=h1;have hb:=R.box bx;show Cmd.post (match S (X9+bx)with| .bsb tb' c=>_|_=>_) S Q;split
   .rename_i tb' c hS;rw[hS]at hb;obtain⟨blk',a0,v0,hm',hh,hs,g2⟩:=hb;simp only at hm hm';rw[hm]at hm';cases hm';cases he:Nat.beq tb' tb
    .trivial
    have e:=fG he;subst e;simp only[cond_true];refine a4z R hT g2 λS1 ys l R1 T1 s1 n1 hv1 ha1=>?_;show Cmd.post _ (upd S1 (X9+bx) .dead) Q;have T2:=T1.kill R1 bx (bs:=[blk]) (λb hb=>by rw[n1 bx (λ_ _=>by rw[hS];simp),hS];simpa[S9,hm]using hb) x9;refine hK _ ok ys _ _ r (blk::l.blks) (R1.kill bx) (T2.perm ?_) (λ_ _ h=>h) (s1.trans (az.box _ _ _)) rfl ⟨blk,a0,v0,l,rfl,hh,hs,hv1,ha1,rfl⟩ h3;rw[E8];exact nZ _ gX
   .trivial
  .trivial
end
end Go.GP
namespace Go.GP
def fU(C:Cx):List V->List Value->Prop
 |[],vs=>vs=[]|c::cs,vs=>∃v r,vs=v::r/\jG C c v/\fU C cs r
theorem GL{h:Array Obj}{ok ok' :Nat->Ty->Prop}{m:Mp}(k:∀b t,ok b t->ok' b t):∀{cs:List V} {vs:List Value},fU ⟨h,ok,m⟩ cs vs->fU ⟨h,ok',m⟩ cs vs
 |[],_,e=>e|_::_,_,⟨v,r,e,h1,h2⟩=>⟨v,r,e,Iu k h1,GL k h2⟩
theorem zH{h:Array Obj}{ok:Nat->Ty->Prop}{m m' :Mp}(k:∀n l,m n=some l->m' n=some l){cs:List V}{vs:List Value}(hr:dX ⟨h,ok,m⟩ cs vs):dX ⟨h,ok,m'⟩ cs vs:=
 CO (C:=⟨h,ok,m⟩) (D:=⟨h,ok,m'⟩) ⟨λ_ _ h=>h,λ_ _ _=>rfl,k⟩ hr
variable {C:Cx}
theorem XC{c:V}{v:Value}(h1:c≠.undef)(h2:c≠.un)(h:rJ C c v):v.oneCell' =true:=by
 cases c<;>simp only[rJ]at h<;>try (subst h;rfl)
 case ne=>obtain⟨_,_,rfl,_⟩:=h;rfl
 .exact absurd rfl h1
 .exact absurd rfl h2
 .rcases h with⟨_,a,cap,e,_⟩|⟨_,mv,e,_⟩<;>(simp at e;subst e;rfl)
 .obtain⟨l,_,hv⟩:=h;exact lI hv
 .obtain⟨b,_,rfl⟩:=h;rfl
 .obtain⟨_,_,_,_,_,_,_,rfl⟩:=h;rfl
 .exact FZ h
 all_goals first|exact h.elim|(obtain⟨_,rfl,_⟩:=h;rfl)|(obtain⟨_,_,rfl⟩:=h;rfl)
theorem Ad{c:V}{v:Value}(h:rJ C c v):jG C c v:=by
 cases c<;>simp only[rJ]at h<;>try exact h
 all_goals exact h.elim
variable {α:Type}{v:V}{Q:α->Sm->Prop}{x:Value}{ln:Ty->Bool}
section
variable {X:Fx} {cl ch:Nat} {S:Sm} {m:Mp} {ok:Nat->Ty->Prop} {a:Act} {w:World} {T:List Nat}
theorem zk{ag:Bool}{K:List V->Cmd α}{S:Sm}(hv:jG C v x)
  (hK:∀cs us,MR ag x us->dX C cs us->(K cs).post S Q):(PU ag v K).post S Q:=by
 unfold PU;split<;>try trivial
 .obtain⟨arr,rfl,hl⟩:=hv;exact hK _ _ ⟨arr,rfl,rfl⟩ hl
 .rename_i h1 h2 h3 h4;have hc:rJ C v x:=by cases v<;>first|exact hv|exact absurd rfl (h1 _)|exact absurd rfl (h2 _)
  exact hK [v] [x] rfl ⟨x,[],rfl,hc,XC (λe=>h3 e) (λe=>h4 e) hc,rfl⟩
theorem qH{K:List V->Cmd α}{S:Sm}(hv:jG C v x)
  (hK:∀cs,dX C cs x.cells.toList->(K cs).post S Q):(Df v K).post S Q:=by
 unfold Df;split<;>try trivial
 .obtain⟨arr,rfl,hl⟩:=hv;exact hK _ hl
 .rename_i h1 h2 h3 h4;have hc:rJ C v x:=by cases v<;>first|exact hv|exact absurd rfl (h1 _)|exact absurd rfl (h2 _)
  have h1' :=XC (λe=>h3 e) (λe=>h4 e) hc;have e:x.cells.toList=[x]:=by cases x<;>simp[Value.cells]<;>simp[Value.oneCell']at h1'
  refine hK [v] ?_;rw[e];exact⟨x,[],rfl,hc,h1',rfl⟩
theorem WW{md:MG}{K:md.2.den->Cmd α}(R:Rel X cl ch S m ok a w)(hT:Tk X S m ok w T)(hv:jG ⟨w.heap,ok,m⟩ v x)
  (hK:∀S' ok' y cs O,Rel X cl ch S' m ok' a w->Tk X S' m ok' w (T++O)->(∀b t,ok b t->ok' b t)->az S S' ->MR md.1 x cs->nJ w.heap ok' md.2 none y cs O->(K y).post S' Q):
  (Qk xG md v K).post S Q:=by
 refine zk hv λcs us hg hl=>?_;refine AX md.2 R hT hl λS1 ok1 y r us1 us' O R1 T1 k1 s1 e1 h1 l1=>?_;cases r with
 |cons c q=>trivial|nil=>simp only[dX]at l1;subst l1;simp only[F6]at e1;subst e1;exact hK _ _ _ _ _ R1 T1 k1 s1 hg h1
theorem a2D{md:M}(hd:md.isDat=false)(cs:List V)(K:md.den->List V->Cmd α):exM ln md cs K=exM xG md cs K:=by cases md<;>first|rfl|(simp[M.isDat]at hd;done)|(rename_i b;cases b<;>first|rfl|(rename_i b;cases b<;>rfl))
theorem TV{md:MG}(hd:md.2.isDat=true){K:md.2.den->Cmd α}(R:Rel X cl ch S m ok a w)(hT:Tk X S m ok w T)(hv:jG ⟨w.heap,ok,m⟩ v x)
  (hK:∀S' ok' y cs,Rel X cl ch S' m ok' a w->Tk X S' m ok' w T->(∀b t,ok b t->ok' b t)->(∀b t,okL ln S m ok b t->okL ln S' m ok' b t)->az S S' ->MR md.1 x cs->nJ w.heap (okL ln S' m ok') md.2 none y cs []->(K y).post S' Q):
  (Qk ln md v K).post S Q:=by
 obtain⟨ag,mm⟩:=md;cases mm<;>simp[M.isDat]at hd
 case dat t=>
  refine zk hv λcs us hg hl=>?_;dsimp only;unfold exM;refine zB ln _ R hT hl λS1 ok1 y r us1 us' R1 T1 k1 g1 s1 e1 h1 l1=>?_;cases r with
  |cons c q=>trivial|nil=>simp only[dX]at l1;subst l1;simp only[F6]at e1;subst e1;exact hK _ _ _ _ R1 T1 k1 g1 s1 hg ⟨h1,rfl⟩
 case lp t=>
  refine zk hv λcs us hg hl=>?_;dsimp only;unfold exM;cases cs with
  |nil=>trivial|cons c q=>
   obtain⟨u,r',rfl,h1,h2,h3⟩:=hl;refine Xi ln t R hT h1 λS1 ok1 y R1 T1 k1 g1 s1 d1=>?_;cases q with
   |cons c q=>trivial|nil=>simp only[dX]at h3;subst h3;exact hK _ _ _ _ R1 T1 k1 g1 s1 hg ⟨u,rfl,d1,rfl⟩
theorem a8t :∀b t,ok b t->okL ln S m ok b t:=λ_ _ h=> .inl h
theorem Ew{α:Type}{Q:α->Sm->Prop}{ln:Ty->Bool} :∀(ms:List MG) {vs:List V} {xs:List Value} {K:X4 ms->Cmd α} {S:Sm} {ok:Nat->Ty->Prop} {T:List Nat} (R:Rel X cl ch S m ok a w) (hT:Tk X S m ok w T)
  (hv:fU ⟨w.heap,ok,m⟩ vs xs)
  (hK:∀S' ok' y O,Rel X cl ch S' m ok' a w->Tk X S' m ok' w (T++O)->(∀b t,ok b t->ok' b t)->az S S' ->qE w.heap (okL ln S' m ok') ms y xs O->(K y).post S' Q),
  (IU ln ms vs K).post S Q
 |[],vs,xs,K,S,ok,T,R,hT,hv,hK=>by
  unfold IU;split
  .simp only[fU]at hv;subst hv;exact hK _ _ _ [] R (by simpa using hT) (λ_ _ h=>h) (az.refl _) ⟨rfl,rfl⟩
  .trivial
 |[md],vs,xs,K,S,ok,T,R,hT,hv,hK=>by
  unfold IU;split
  .obtain⟨x,r,rfl,h1,h2⟩:=hv;simp only[fU]at h2;subst h2;cases hd:md.2.isDat
   .unfold Qk;simp only[a2D hd];exact WW R hT h1 λS' ok' y cs O R' T' k s g h=>hK _ _ _ O R' T' k s ⟨x,cs,rfl,g,jf a8t (λ_ _ _=>rfl) (λ_ _=>rfl) h⟩
   .exact TV hd R hT h1 λS' ok' y cs R' T' k g s hg h=>hK _ _ _ [] R' (by simpa using T') k s ⟨x,cs,rfl,hg,h⟩
  .trivial
 |md::md' ::r,vs,xs,K,S,ok,T,R,hT,hv,hK=>by
  unfold IU;split
  .obtain⟨x,xr,rfl,h1,h2⟩:=hv;cases hd:md.2.isDat
   .simp only[cond_false];unfold Qk;simp only[a2D hd];refine WW R hT h1 λS1 ok1 y cs O R1 T1 k1 s1 g1 h1' =>?_;refine Ew (md' ::r) R1 T1 (GL k1 h2) λS2 ok2 z O2 R2 T2 k2 s2 h2' =>?_;exact hK _ _ _ (O++O2) R2 (by simpa using T2) (λb t h=>k2 b t (k1 b t h)) (s1.trans s2) ⟨x,cs,xr,O,O2,rfl,rfl,g1,jf (λb t h=> .inl (k2 b t h)) (λ_ _ _=>rfl) (λ_ _=>rfl) h1',h2'⟩
   .simp only[cond_true];refine Ew (md' ::r) R hT h2 λS2 ok2 z O2 R2 T2 k2 s2 h2' =>?_;refine TV hd R2 T2 (Iu k2 h1) λS1 ok1 y cs R1 T1 k1 g1 s1 hg h1' =>?_;exact hK _ _ _ ([]++O2) R1 (by simpa using T1) (λb t h=>k1 b t (k2 b t h)) (s2.trans s1) ⟨x,cs,xr,[],O2,rfl,rfl,hg,h1',Oq g1 (λ_ _ _=>rfl) (λ_ _=>rfl) h2'⟩
  .trivial
theorem WV(ms:List MG){vs:List V}{xs:List Value}{K:X4 ms->Cmd α}{S:Sm}{ok:Nat->Ty->Prop}{T:List Nat}(R:Rel X cl ch S m ok a w)(hT:Tk X S m ok w T)
  (hv:fU ⟨w.heap,ok,m⟩ vs xs)
  (hK:∀S' ok' y O,Rel X cl ch S' m ok' a w->Tk X S' m ok' w (T++O)->(∀b t,ok b t->ok' b t)->az S S' ->qE w.heap ok' ms y xs O->(K y).post S' Q):
  (IU xG ms vs K).post S Q:=
 Ew ms R hT hv λS' ok' y O R' T' k s h=>hK S' ok' y O R' T' k s (by rw[Zk]at h;exact h)
theorem NM{α:Type}{Q:α->Sm->Prop}{tmps:Array Value}{C:Cx} :∀(ns:List Nat) {K:List V->Cmd α} {S:Sm} (hs:∀n,n<X9->jG C (S n) (tmps.getD n Go.undef))
  (hK:∀vs,fU C vs (ns.map λn=>tmps.getD n Go.undef)->(K vs).post S Q),(Vj ns K).post S Q
 |[],K,S,hs,hK=>hK [] rfl|n::ns,K,S,hs,hK=>by
  unfold Vj;cases hb:Nat.blt n X9
  .trivial
  .simp only[cond_true];show Cmd.post _ S Q;refine NM ns hs λvs hvs=>?_;exact hK _ ⟨_,_,rfl,hs n (by rw[dh]at hb;exact hb),hvs⟩
def Yu(h:Array Obj)(ok:Nat->Ty->Prop)(sg:Sig)(x:oC sg)(tmps:Array Value)(O:List Nat):Prop:=
 qE h ok (sg.ms.map (·.2)) x ((sg.ms.map (·.1)).map λn=>tmps.getD n Go.undef) O/\∀p∈sg.als,tmps.getD p.1 Go.undef=tmps.getD p.2 Go.undef
theorem a4y{v u:V}{x y:Value}(h:a7L v u=true)(hv:jG C v x)(hu:jG C u y):x=y:=by
 cases v<;>try (cases h;done)
 case own a vw=>
 cases u<;>try (cases vw<;>cases h;done)
 case own b vu=>
 cases vw<;>cases vu<;>try (cases h;done)
 have:=fG (show Nat.beq a b=true from h);subst this;obtain⟨l,hm,h1⟩:=hv;obtain⟨l',hm',h2⟩:=hu;rw[hm]at hm';cases hm';cases l with
 |nil=>exact(show x=_ from h1).trans (show y=_ from h2).symm|st b=>cases h1|mp b=>exact(show x=_ from h1).trans (show y=_ from h2).symm|arr blk off len cap sz=>exact(show x=_ from h1).trans (show y=_ from h2).symm
theorem TM{α:Type}{Q:α->Sm->Prop}{tmps:Array Value}{C:Cx} :∀(als:List (Nat×Nat)) {K:Cmd α} {S:Sm} (hs:∀n,n<X9->jG C (S n) (tmps.getD n Go.undef))
  (hK:(∀p∈als,tmps.getD p.1 Go.undef=tmps.getD p.2 Go.undef)->K.post S Q),(a5N als K).post S Q
 |[],K,S,hs,hK=>hK (λp hp=>by cases hp)|(n,k)::r,K,S,hs,hK=>by
  unfold a5N;refine cO λhb=>?_;simp only[A7]at hb;show Cmd.post _ S Q;refine cO λhv=>TM r hs λh=>hK λp hp=>?_;rcases A8.1 hp with rfl|hp
  .have h1:=hb.1;have h2:=hb.2;rw[dh]at h1 h2;exact a4y hv (hs n h1) (hs k h2)
  .exact h p hp
theorem YT{sg:Sig}{Q:oC sg->Sm->Prop}(R:Rel X cl ch S m ok a w)
  (hK:∀S' ok' y O,Rel X cl ch S' m ok' a w->Tk X S' m ok' w O->(∀b t,ok b t->ok' b t)->az S S' ->
   Yu w.heap ok' sg y a.tmps O->Q y S'):(a2E sg).post S Q:=by
 unfold a2E;refine TM _ R.slot λhals=>NM _ R.slot λvs hvs=>?_;refine WV (T:=[]) _ R Tk.nil hvs λS' ok' y O R' T' k s h=>?_;exact hK S' ok' y O R' T' k s ⟨h,hals⟩
theorem Rel.chmono(R:Rel X cl ch S m ok a w){ch' :Nat}(h:ch<=ch'):Rel X cl ch' S m ok a w:={ R with strict:=λn hn=>R.strict n o5 }
theorem oP{n:Nat}{K:Cmd α}(hK:S (X9+n)= .undef->K.post (upd S (X9+n) v) Q):(rX n v K).post S Q:=by
 unfold rX;show Cmd.post (match S (X9+n)with| .undef=>_|_=>_) S Q;split
 .rename_i h;exact hK h
 .trivial
theorem Rel.adopt(R:Rel X cl ch S m ok a w){n:Nat}{l:Loc}{ks:List Nat}{O:List Nat}(hn:S (X9+n)= .undef)(hcl:cl<=n)(hv:v≠.undef)
  (hT:Tk X S m ok w (O++T)) (ho:∀b∈S9 (kW m n l ks) n v,b∈O) (hnd:(S9 (kW m n l ks) n v).Nodup) (hB:Bv ⟨w.heap,ok,kW m n l ks⟩ n v):
  Rel X cl (max ch (n+1)) (upd S (X9+n) v) (kW m n l ks) ok a w/\Tk X (upd S (X9+n) v) (kW m n l ks) ok w T/\(∀k l',m k=some l' ->kW m n l ks k=some l'):=by
 have hm:m n=none:=R.fresh n hcl hn;refine⟨(R.chmono (bu ch (n+1))).lay hn hcl o5 hv rfl rfl rfl (F5 _) (λ_ _ _=>rfl) hnd (λb hb=>hT.free b (by simp[ho b hb])) hB,⟨?_,λb hb=>?_⟩,λk l' h=>?_⟩
 .exact(X0.1 hT.nodup).2.1
 .obtain⟨h1,h2,h3,h4⟩:=hT.free b (by simp[hb]);refine⟨h1,h2,h3,λk e=>?_⟩;by_cases ek:k=n
  .subst ek;rw[jW]at e;exact(X0.1 hT.nodup).2.2 b (ho b e) b hb rfl
  .rw[aK _ _ o5]at e;refine h4 k ?_;rw[←EL (m:=m) (ik m l ks ek) (NC m l ks ek)];exact e
 .by_cases ek:k=n
  .subst ek;simp[hm]at h
  .rw[ik _ _ _ ek];exact h
theorem FO{h:Array Obj}{ok:Nat->Ty->Prop}{m m' :Mp}{t:Ty}{xs:List t.den}{l:Loc}(hr:arrOk ⟨h,ok,m⟩ t xs l):arrOk ⟨h,ok,m'⟩ t xs l:=by cases l<;>exact hr
theorem a1R{S:Sm}{k:Nat}{c:Cmd α}(h:c.post (upd S k v) Q):(Cmd.set k v c).post S Q:=h
theorem DJ{α:Type}{Q:α->Sm->Prop} :∀(md:M) {x:md.den} {n:Nat} {r:List V} {K:List V->Nat->Cmd α} {S:Sm} {m:Mp} {ch:Nat} {us us' :List Value} {O T:List Nat}
  (R:Rel X cl ch S m ok a w) (hcl:cl<=n) (hT:Tk X S m ok w (O++T)) (h:nJ w.heap ok md none x us O) (hL:dX ⟨w.heap,ok,m⟩ r us')
  (hK:∀S' m' cs n' ch',Rel X cl ch' S' m' ok a w->ch' <=max ch n' ->Tk X S' m' ok w T->(∀k l,m k=some l->m' k=some l)->az S S' ->dX ⟨w.heap,ok,m'⟩ cs (us++us')->n<=n' ->(K cs n').post S' Q),
  (emM md x n r K).post S Q
 | .dat t,x,n,r,K,S,m,ch,us,us',O,T,R,hcl,hT,h,hL,hK=>by unfold emM;obtain⟨hr,rfl⟩:=h;refine hK S m _ n ch R (bu _ _) (by simpa using hT) (λ_ _ h=>h) (az.refl _) ?_ (F5 _);rw[jZ];exact tZ (nT (C:=⟨w.heap,ok,m⟩) hr) hL
 | .own t,x,n,r,K,S,m,ch,us,us',O,T,R,hcl,hT,h,hL,hK=>by
  unfold emM;obtain⟨l,v,rfl,hv,ha,rfl⟩:=vG.1 h;refine oP λhn=>?_;have hob:S9 (kW m n l []) n (.barr t x)=l.blks:=by cases l<;>first|(simp[S9,Loc.blks];done)|cases ha
  obtain⟨R',T',k'⟩:=R.adopt (l:=l) (ks:=[]) (v:=.barr t x) hn hcl x9 hT (λb hb=>by rw[hob]at hb;exact hb) (by rw[hob];exact Loc.blks_nodup l) ⟨l,Z7 _ _ _ _,FO ha⟩;exact hK _ _ _ _ _ R' o5 T' k' (az.box _ _ _) ⟨v,us',rfl,⟨l,Z7 _ _ _ _,hv⟩,lI hv,zH k' hL⟩ o5
 | .ownb t,x,n,r,K,S,m,ch,us,us',O,T,R,hcl,hT,h,hL,hK=>by
  unfold emM;obtain⟨l,v,rfl,hv,ha,rfl⟩:=h;refine oP λhn=>?_;have hob:S9 (kW m n l []) n (.barr t x)=l.blks:=by cases l<;>first|(simp[S9,Loc.blks];done)|cases ha
  obtain⟨R',T',k'⟩:=R.adopt (l:=l) (ks:=[]) (v:=.barr t x) hn hcl x9 hT (λb hb=>by rw[hob]at hb;exact hb) (by rw[hob];exact Loc.blks_nodup l) ⟨l,Z7 _ _ _ _,FO ha⟩;exact hK _ _ _ _ _ R' o5 T' k' (az.box _ _ _) ⟨v,us',rfl,⟨l,Z7 _ _ _ _,hv⟩,lI hv,zH k' hL⟩ o5
 | .owns md,x,n,r,K,S,m,ch,us,us',O,T,R,hcl,hT,h,hL,hK=>by
  unfold emM;obtain⟨hw,l,v,Os,rfl,hv,ha,rfl⟩:=wU.1 h;refine oP λhn=>?_;have hob:S9 (kW m n l Os.flatten) n (.barrs md x none)=l.blks++Os.flatten:=by cases l<;>first|(simp[S9,Loc.blks];done)|cases ha
  obtain⟨R',T',k'⟩:=R.adopt (l:=l) (ks:=Os.flatten) (v:=.barrs md x none) hn hcl x9 hT (λb hb=>by rw[hob]at hb;exact hb) (by rw[hob];exact(X0.1 hT.nodup).1)
   ⟨hw,l,Os,Z7 _ _ _ _,⟨ha,trivial⟩,x9⟩
  refine a1R ?_;have T2:=T'.killV R' (Ji+n) (v:=.blen (o8 x) md.size) rfl (bs:=[]) (λb h=>by cases h) bU;rw[F6]at T2;exact hK _ _ _ _ _ (R'.mark (jW _ _ _)) o5 T2 k' ((az.box _ _ _).trans (az.box _ _ _)) ⟨v,us',rfl,⟨l,Z7 _ _ _ _,hv⟩,lI hv,zH k' hL⟩ o5
 | .pair p q,x,n,r,K,S,m,ch,us,us',O,T,R,hcl,hT,h,hL,hK=>by
  unfold emM;obtain⟨c,d,O1,O2,rfl,rfl,h1,h2⟩:=a1L.1 h;have hT1:Tk X S m ok w (O2++(O1++T)):=hT.perm (by rw[E8];exact(List.perm_append_comm_assoc _ _ _))
  refine DJ q R hcl hT1 h2 hL λS1 m1 cs1 n1 ch1 R1 c1 T1 k1 s1 l1 e1=>?_;refine DJ p R1 o5 T1 h1 l1 λS2 m2 cs2 n2 ch2 R2 c2 T2 k2 s2 l2 e2=>?_;exact hK _ _ _ _ _ R2 o5 T2 (λk l h=>k2 k l (k1 k l h)) (s1.trans s2) (by simpa using l2) o5
 | .unit,x,n,r,K,S,m,ch,us,us',O,T,R,hcl,hT,h,hL,hK=>by unfold emM;obtain⟨rfl,rfl⟩:=h;exact hK S m _ n ch R (bu _ _) (by simpa using hT) (λ_ _ h=>h) (az.refl _) (by simpa using hL) (F5 _)
 | .box md,x,n,r,K,S,m,ch,us,us',O,T,R,hcl,hT,h,hL,hK=>by
  unfold emM;obtain⟨blk,arr,Tt,O',rfl,hh,hr,rfl⟩:=h;have hT1:Tk X S m ok w (O' ++([blk]++T)):=hT.perm (by simpa using List.perm_middle.symm);refine DJ md (r:=[]) (us' :=[]) R o5 hT1 hr rfl λS1 m1 cs1 n1 ch1 R1 c1 T1 k1 s1 l1 e1=>?_;refine oP λhn=>?_;obtain⟨R',T',k'⟩:=R1.adopt (l:=.st blk) (ks:=[]) (v:=.bcells cs1) hn hcl x9 T1 (λb hb=>by
   simp only[S9,Z7]at hb;simp at hb;simp[hb]) (by simp[S9]) ⟨blk,arr,Tt,Z7 _ _ _ _,hh,zH (λk l (h:m1 k=some l)=>by
    by_cases ek:k=n
    .subst ek;have:=R1.fresh k hcl hn;rw[this]at h;cases h
    .rw[ik _ _ _ ek];exact h) (by simpa using l1)⟩
  refine hK _ _ _ _ _ R' o5 T' (λk l h=>k' k l (k1 k l h)) (s1.trans (az.box _ _ _)) ⟨_,us',rfl,⟨blk,Z7 _ _ _ _,rfl⟩,rfl,zH k' (zH k1 hL)⟩ o5
 | .rp t,x,n,r,K,S,m,ch,us,us',O,T,R,hcl,hT,h,hL,hK=>by unfold emM;obtain⟨v,rfl,hv,rfl⟩:=h;exact hK S m _ n ch R (bu _ _) (by simpa using hT) (λ_ _ h=>h) (az.refl _) ⟨v,us',rfl,hv,FZ hv,hL⟩ (F5 _)
 | .fn f ts,x,n,r,K,S,m,ch,us,us',O,T,R,hcl,hT,h,hL,hK=>by unfold emM;obtain⟨vs,rfl,hv,rfl⟩:=h;exact hK S m _ n ch R (bu _ _) (by simpa using hT) (λ_ _ h=>h) (az.refl _) ⟨_,us',rfl,⟨vs,rfl,hv⟩,rfl,hL⟩ (F5 _)
 | .ifc t md,x,n,r,K,S,m,ch,us,us',O,T,R,hcl,hT,h,hL,hK=>by
  unfold emM;obtain⟨u,rfl,h1⟩:=h;refine DJ md (r:=[]) (us' :=[]) R hcl hT h1 rfl λS1 m1 cs1 n1 ch1 R1 c1 T1 k1 s1 l1 e1=>?_;split
  .rename_i c;obtain⟨v',r',e,h1',h2',h3'⟩:=l1;simp only[F6,L8,F7,F8]at e;obtain⟨rfl,rfl⟩:=e;exact hK _ _ _ _ _ R1 c1 T1 k1 s1 ⟨_,us',rfl,⟨u,rfl,h2',h1'⟩,rfl,zH k1 hL⟩ e1
  .trivial
 | .cell (some none),x,n,r,K,S,m,ch,us,us',O,T,R,hcl,hT,h,hL,hK=>by unfold emM;obtain⟨v,rfl,hv,h2,h4,rfl⟩:=h;exact hK S m _ n ch R (bu _ _) (by simpa using hT) (λ_ _ h=>h) (az.refl _) ⟨v,us',rfl,h2 rfl,hv,hL⟩ (F5 _)
 | .cell (some (some b)),x,n,r,K,S,m,ch,us,us',O,T,R,hcl,hT,h,hL,hK=>by unfold emM;obtain⟨v,rfl,hv,h2,h4,rfl⟩:=h;exact hK S m _ n ch R (bu _ _) (by simpa using hT) (λ_ _ h=>h) (az.refl _) ⟨v,us',rfl,h4 _ rfl,hv,hL⟩ (F5 _)
 | .cell none,x,n,r,K,S,m,ch,us,us',O,T,R,hcl,hT,h,hL,hK=>by unfold emM;obtain⟨v,rfl,hv,h2,h4,rfl⟩:=h;exact hK S m _ n ch R (bu _ _) (by simpa using hT) (λ_ _ h=>h) (az.refl _) ⟨v,us',rfl,trivial,hv,hL⟩ (F5 _)
 | .lp t,x,n,r,K,S,m,ch,us,us',O,T,R,hcl,hT,h,hL,hK=>by unfold emM;obtain⟨v,rfl,hv,rfl⟩:=h;exact hK S m _ n ch R (bu _ _) (by simpa using hT) (λ_ _ h=>h) (az.refl _) ⟨v,us',rfl,hv,FZ hv,hL⟩ (F5 _)
 | .dv ..,x,n,r,K,S,m,ch,us,us',O,T,R,hcl,hT,h,hL,hK=>by unfold emM;obtain⟨v,rfl,hv,rfl⟩:=h;exact hK S m _ n ch R (bu _ _) (by simpa using hT) (λ_ _ h=>h) (az.refl _) ⟨v,us',rfl,trivial,hv,hL⟩ (F5 _)
 | .sit,x,n,r,K,S,m,ch,us,us',O,T,R,hcl,hT,h,hL,hK=>by
  unfold emM;obtain⟨blk,s,q,rfl,hh,h2,h3,rfl⟩:=h;refine oP λhn=>?_;obtain⟨R2,T2,k2⟩:=R.adopt (n:=n) (l:=.st blk) (ks:=[]) (v:=.biter x.1 x.2) hn hcl x9 hT (λb hb=>by simp only[S9,Z7]at hb;simp at hb;simp[hb]) (by simp[S9]) ⟨blk,s,q,Z7 _ _ _ _,hh,h2,h3⟩
  exact hK _ _ _ _ _ R2 o5 T2 k2 (az.box _ _ _) ⟨_,us',rfl,⟨blk,Z7 _ _ _ _,rfl⟩,rfl,zH k2 hL⟩ o5
 | .sbx tb te,x,n,r,K,S,m,ch,us,us',O,T,R,hcl,hT,h,hL,hK=>by
  unfold emM;obtain⟨blk,a0,v,l,rfl,hh,hs,hv,ha,rfl⟩:=h;have hT1:Tk X S m ok w (l.blks++([blk]++T)):=hT.perm (by simpa using List.perm_middle.symm);refine oP λhn1=>?_;have hob:S9 (kW m (n+1) l []) (n+1) (.brow te x)=l.blks:=by cases l<;>first|(simp[S9,Loc.blks];done)|cases ha
  obtain⟨R1,T1,k1⟩:=R.adopt (n:=n+1) (l:=l) (ks:=[]) (v:=.brow te x) hn1 o5 x9 hT1 (λb hb=>by rw[hob]at hb;exact hb) (by rw[hob];exact Loc.blks_nodup l) ⟨l,Z7 _ _ _ _,ha⟩;refine oP λhn=>?_;obtain⟨R2,T2,k2⟩:=R1.adopt (n:=n) (l:=.st blk) (ks:=[]) (v:=.bsb tb (.own (n+1) none)) hn hcl x9 T1 (λb hb=>by simp only[S9,Z7]at hb;simp at hb;simp[hb]) (by simp[S9]) ⟨blk,a0,v,Z7 _ _ _ _,hh,hs,⟨l,(by rw[ik _ _ _ o5];exact Z7 _ _ _ _),hv⟩⟩
  refine hK _ _ _ _ _ R2 o5 T2 (λk l h=>k2 k l (k1 k l h)) ((az.box _ _ _).trans (az.box _ _ _)) ⟨_,us',rfl,⟨blk,Z7 _ _ _ _,rfl⟩,rfl,zH k2 (zH k1 hL)⟩ o5
 | .fr t,x,n,r,K,S,m,ch,us,us',O,T,R,hcl,hT,h,hL,hK=>by unfold emM;obtain⟨l,v,rfl,hv,ha,hk,rfl⟩:=h;refine oP λhn=>?_;obtain⟨R',T',k'⟩:=R.adopt (l:=l) (ks:=[]) (v:=.bfrz t x) hn hcl x9 hT (λb hb=>by cases hb) bU ⟨l,Z7 _ _ _ _,FO ha,hk⟩;exact hK _ _ _ _ _ R' o5 T' k' (az.box _ _ _) ⟨v,us',rfl,⟨l,Z7 _ _ _ _,hv⟩,lI hv,zH k' hL⟩ o5
theorem Lc{ag:Bool}{cs:List V}{us:List Value}(hg:MR ag x us)(hl:dX C cs us):jG C (mkV ag cs) x:=by
 cases ag
 .simp only[MR]at hg;subst hg;cases cs with
  |nil=>simp[dX]at hl|cons c r=>
   obtain⟨v,r',e,h1,h2,h3⟩:=hl;simp at e;obtain⟨rfl,rfl⟩:=e;cases r with
   |nil=>exact Ad h1|cons d r=>obtain⟨_,_,e,_⟩:=h3;cases e
 .obtain⟨arr,rfl,rfl⟩:=hg;exact⟨arr,rfl,hl⟩
theorem Ep{α:Type}{Q:α->Sm->Prop} :∀(ms:List MG) {x:X4 ms} {n:Nat} {K:List V->Nat->Cmd α} {S:Sm} {m:Mp} {ch:Nat} {xs:List Value} {O T:List Nat}
  (R:Rel X cl ch S m ok a w) (hcl:cl<=n) (hT:Tk X S m ok w (O++T)) (h:qE w.heap ok ms x xs O)
  (hK:∀S' m' vs n' ch',Rel X cl ch' S' m' ok a w->ch' <=max ch n' ->Tk X S' m' ok w T->(∀k l,m k=some l->m' k=some l)->az S S' ->fU ⟨w.heap,ok,m'⟩ vs xs->n<=n' ->(K vs n').post S' Q),
  (IR ms x n K).post S Q
 |[],x,n,K,S,m,ch,xs,O,T,R,hcl,hT,h,hK=>by unfold IR;obtain⟨rfl,rfl⟩:=h;exact hK S m [] n ch R (bu _ _) (by simpa using hT) (λ_ _ h=>h) (az.refl _) rfl (F5 _)
 |[md],x,n,K,S,m,ch,xs,O,T,R,hcl,hT,h,hK=>by unfold IR;obtain⟨v,cs,rfl,hg,hr⟩:=h;refine DJ md.2 (us' :=[]) R hcl hT hr rfl λS1 m1 cs1 n1 ch1 R1 c1 T1 k1 s1 l1 e1=>?_;exact hK _ _ _ _ _ R1 c1 T1 k1 s1 ⟨v,[],rfl,Lc hg (by simpa using l1),rfl⟩ e1
 |md::md' ::r,x,n,K,S,m,ch,xs,O,T,R,hcl,hT,h,hK=>by unfold IR;obtain⟨v,cs,vs',O1,O2,rfl,rfl,hg,h1,h2⟩:=h;refine DJ md.2 (us' :=[]) R hcl (by simpa using hT) h1 rfl λS1 m1 cs1 n1 ch1 R1 c1 T1 k1 s1 l1 e1=>?_;refine Ep (md' ::r) R1 o5 T1 h2 λS2 m2 vs2 n2 ch2 R2 c2 T2 k2 s2 l2 e2=>?_;exact hK _ _ _ _ _ R2 o5 T2 (λk l h=>k2 k l (k1 k l h)) (s1.trans s2) ⟨v,vs',rfl,Lc hg (zH k2 (by simpa using l1)),l2⟩ o5
theorem EY{Q:Unit->Sm->Prop} :∀(ns:List Nat) {vs:List V} {S:Sm} {K:Cmd Unit} (R:Rel X cl ch S m ok a w) (hv:fU ⟨w.heap,ok,m⟩ vs (ns.map λn=>a.tmps.getD n Go.undef))
  (hK:∀S',Rel X cl ch S' m ok a w->K.post S' Q),(Iy ns vs K).post S Q
 |[],vs,S,K,R,hv,hK=>by
  simp only[List.map_nil]at hv;cases vs with
  |nil=>exact hK S R|cons _ _=>obtain⟨_,_,e,_⟩:=hv;cases e
 |n::ns,vs,S,K,R,hv,hK=>by
  cases vs with
  |nil=>trivial
  |cons v vs=>obtain⟨x,r,e,h1,h2⟩:=hv;simp only[jm,F8]at e;obtain⟨rfl,rfl⟩:=e;unfold Iy;refine cO λhb=>?_;show Cmd.post _ (upd S n v) Q;exact EY ns (R.slotV (by rw[dh]at hb;exact hb) h1) h2 hK
theorem OB{Q:Unit->Sm->Prop} :∀(als:List (Nat×Nat)) {S:Sm} (R:Rel X cl ch S m ok a w) (h:∀p∈als,a.tmps.getD p.1 Go.undef=a.tmps.getD p.2 Go.undef)
  (hK:∀S',Rel X cl ch S' m ok a w->Q () S'),(VU als).post S Q
 |[],S,R,h,hK=>hK S R
 |(n,k)::r,S,R,h,hK=>by unfold VU;refine cO λhb=>?_;simp only[A7]at hb;have h1:=hb.1;have h2:=hb.2;rw[dh]at h1 h2;show Cmd.post _ (upd S n (S k)) Q;refine OB r (R.slotV h1 ?_) (λp hp=>h p (O9 _ hp)) hK;rw[h (n,k) gI];exact R.slot k h2
theorem YP{sg:Sig}{x:oC sg}{nb lim:Nat}{Q:Unit->Sm->Prop}{O:List Nat}(R:Rel X cl ch S m ok a w)(hcl:cl<=nb)(hT:Tk X S m ok w O)
  (h:Yu w.heap ok sg x a.tmps O)
  (hK:∀S' m',Rel X cl (max ch lim) S' m' ok a w->(∀k l,m k=some l->m' k=some l)->Q () S'):(a2x sg x nb lim).post S Q:=by
 unfold a2x;refine Ep (T:=[]) _ R hcl (by simpa using hT) h.1 λS1 m1 vs n1 ch1 R1 c1 T1 k1 s1 l1 e1=>?_;cases hb:Nat.ble n1 lim
 .trivial
 .simp only[cond_true];have:n1<=lim:=U6 hb;exact EY _ (R1.chmono (ch' :=max ch lim) o5) l1 λS' R' =>OB _ R' h.2 λS'' R'' =>hK S'' m1 R'' k1
end
end Go.GP
namespace Go.GP
def a5H(P:Program)(t:TypeId):TD->Prop
 | .bool=>P.underlying t=some .bool| .int k=>P.underlying t=some (.int k)| .str=>P.underlying t=some .string| .sl e=>P.underlying t=some (.slice e)| .ptr e=>P.underlying t=some (.pointer e)| .struct fs=>∃fields,P.underlying t=some (.struct fields)/\fields.toList.map (λf=>(f.type,f.offset))=fs| .arr n e=>P.underlying t=some (.array n e)| .map k e=>P.underlying t=some (.map k e)| .other=>∃d,P.underlying t=some d/\(match d with| .struct _| .array _ _=>False|_=>True)
structure TiOk (P:Program) (t:TypeId) (i:TI):Prop where
 info:∃inf,P.info? t=some inf/\inf.size=i.size/\inf.bytes=i.bytes/\
  (i.zero.length=i.size->∃z,inf.zero=some z/\dX ⟨#[],λ_ _=>False,nom⟩ i.zero z.cells.toList)/\
  (∀u,i.ty=some u->u.size=i.size/\∃z,inf.zero=some z/\jH #[] (λ_ _=>False) u u.zero z.cells.toList)
 td:a5H P t i.td
 one:aN i.td=false->i.size=1
 agg:∀inf z,P.info? t=some inf->inf.zero=some z->(aN i.td=true->∃arr,z= .agg arr)/\(aN i.td=false->z.oneCell' =true)
def Yr(n:Nat)(v:Value)(rs:List Value):Prop:=rs.length=n/\v=(match rs with|[x]=>x|l=> .tuple l.toArray)
def uP(h:Array Obj):List MG->List Value->List Value->List Nat->Prop
 |[],[],os,B=>os=[]/\B=[]|(_,.box _)::ms,v::vs,os,B=>∃b arr T os' B',v= .pointer (some ⟨b,0,none⟩)/\h[b]? =some (.cells arr T (0,0))/\os= .agg arr::os' /\B=b::B' /\uP h ms vs os' B'|(_,.ifc _ (.box _))::ms,v::vs,os,B=>∃t b arr T os' B',v= .iface t (.pointer (some ⟨b,0,none⟩))/\h[b]? =some (.cells arr T (0,0))/\os= .agg arr::os' /\B=b::B' /\uP h ms vs os' B'|(_,.ownb _)::ms,v::vs,os,B=>∃os',os=v::os' /\uP h ms vs os' B|(_,.sbx _ _)::ms,v::vs,os,B=>∃os',os=v::os' /\uP h ms vs os' B|_::ms,_::vs,os,B=>uP h ms vs os B|_,_,_,_=>False
def Jj(h:Array Obj)(x:Value)(off sz fo:Nat)(y:Value):Prop:=∃blk o b bo n c,x= .pointer (some ⟨blk,o,none⟩)/\bF h blk (o+off) 1=some [.slice (some ⟨b,bo,none⟩) n c]/\
 0<=O6 .i64 (n:Int) 1/\O6 .i64 (n:Int) 1<(n:Int)/\y= .pointer (some ⟨b,bo+(O6 .i64 (n:Int) 1).toNat*sz+fo,none⟩)
theorem Jj.det{h:Array Obj}{x y z:Value}{off sz fo:Nat}(h1:Jj h x off sz fo y)(h2:Jj h x off sz fo z):y=z:=by obtain⟨blk,o,b,bo,n,c,rfl,e,_,_,rfl⟩:=h1;obtain⟨blk',o',b',bo',n',c',e1,e',_,_,rfl⟩:=h2;simp only[kZ,E5,fO,and_true]at e1;obtain⟨rfl,rfl⟩:=e1;rw[e]at e';simp only[E5,F8,nG,fO,and_true]at e';obtain⟨⟨rfl,rfl⟩,rfl,rfl⟩:=e';rfl
def a0R(h:Array Obj)(all:List Value):List MG->List Value->Prop
 |(_,.dv k off sz fo)::ms,v::vs=>(∃p,all[k]? =some p/\Jj h p off sz fo v)/\a0R h all ms vs|_::ms,_::vs=>a0R h all ms vs|_,_=>True
def JP(P:Program)(f:FuncId)(off sz:Nat):Prop:=(∃fn,P.funcs[f]? =some fn/\fn.body.isSome=true/\(fn.name== "runtime.NumGoroutine")=false)/\
 ∀(w:World) (x y:Value),Jj w.heap x off sz 0 y->Calls P f #[x] w λe w' =>e= .returned y/\∃n,w' =w.drewN n
def dm(P:Program)(gl:List (Nat×(t:Ty)×List t.den))(f:FuncId)(s:FSpec):Prop:=
 ∀(w:World) (ok:Nat->Ty->Prop) (O:List Nat) (vals:List Value) (x:X4 s.ps) (r:X4 (s.rs++s.outs)),
  (∀b t,ok b t->b<w.heap.size)->O.Nodup->(∀b∈O,(∀t,¬ok b t)/\b<w.heap.size)->(∀g u,bP gl g=some u->FK ⟨w.heap,ok,nom⟩ g u.1 u.2)->
  qE w.heap ok s.ps x vals O->a0R w.heap vals s.ps vals->s.fn x=some r->
  Calls P f vals.toArray w λe w' =>∃v ok' O' rs os B,e= .returned v/\Frame' w w' O/\(∀b t,ok b t->ok' b t)/\(∀b t,ok' b t->b<w'.heap.size/\(ok b t\/w.heap.size<=b\/b∈O))/\
   (O' ++B).Nodup/\(∀b∈O' ++B,(∀t,¬ok' b t)/\b<w'.heap.size/\(w.heap.size<=b\/b∈O))/\
   Yr s.rs.length v rs/\uP w'.heap s.ps vals os B/\qE w'.heap ok' (s.rs++s.outs) r (rs++os) O'
def iM:List Ty->List Value->Prop
 |[],vs=>vs=[]| .bool::ts,vs=>∃b r,vs= .bool b::r/\iM ts r| .int k::ts,vs=>∃b r,vs= .int k b::r/\iM ts r| .str::ts,vs=>∃b r,vs= .string b::r/\iM ts r|_::_,_=>False
def a2f(P:Program)(t:TypeId)(sh:List Ty):Prop:=
 ∀(w:World) (C:Cx) (cs ds:List V) (xs ys:Array Value) (e:Bool) (op:BinOp) (x y:Operand),xU sh cs=true->xU sh ds=true->dX C cs xs.toList->dX C ds ys.toList->xf cs ds=some e->
  (op= .eql\/op= .neq)->(do eqGuard op t x y (.agg xs) (.agg ys);binOp op t (.agg xs) (.agg ys):Sem Value).run P w= .ok (.bool (if op= .eql then e else !e)) w
def WA(P:Program)(t:TypeId)(sh:List Ty):Prop:=
 (∃fs,P.underlying t=some (.struct fs))/\∀(w:World) (xs:Array Value),iM sh xs.toList->(∀em,(Instr.checkKey em 10000 t (.agg xs)).run P w= .ok () w)/\
  ∀ys:Array Value,iM sh ys.toList->∃r,(Op.equal t (.agg xs) (.agg ys)).run P w= .ok r w/\(r=true↔xs.toList=ys.toList)
def Hw(P:Program)(t:TypeId)(sh:List Ty):Prop:=a2f P t sh/\WA P t sh
def UM(P:Program)(t:Nat)(n:String)(f:Nat)(d:Option Nat):Prop:=
 ∀(v:Value) (w:World),match d with
  |none=>(method (P.types.size+Made.depth) t v n).run P w= .ok (f,v) w
  |some e=>∀ad,v= .pointer (some ad)->(method (P.types.size+Made.depth) t v n).run P w=((loadVar e ad).run P w).andThen λu w' => .ok (f,u) w'
structure FxOk (X:Fx):Prop where
 nt:64*X.E.nt<=999936
 tt:∀t i,bP X.E.tt t=some i->TiOk X.P t i
 fs:∀p∈X.E.fs,dm X.P X.E.gl p.1 p.2
 eqs:∀t sh,bP X.E.eqs t=some sh->Hw X.P t sh
 ms:∀p∈X.E.ms,UM X.P p.1.1 p.1.2 p.2.1 p.2.2
 fn:∀p∈X.E.fs,∃fn,X.P.funcs[p.1]? =some fn/\fn.body.isSome=true/\(fn.name== "runtime.NumGoroutine")=false
 pl:∀p∈X.E.pl,JP X.P p.1 p.2.1 p.2.2
theorem FxOk.ntB{X:Fx}(H:FxOk X):X.E.nt<=X9:=by have:=H.nt;show X.E.nt<=1000000;omega
def gB(X:Fx)(cl ch:Nat)(o:Oper)(a:Act)(w:World)(m:Mp)(ok:Nat->Ty->Prop)(S' :Sm):Prop:=
 ∀(next:Act->World->Prop) (Q:Exit->Act->World->Prop),
  (∀m' ok' a' w',Rel X cl ch S' m' ok' a' w' ->(∀k l,m k=some l->m' k=some l)->(∀b t,ok b t->ok' b t)->next a' w')->o.wp X.P a w next Q
theorem Eb{α:Type}{ι:Sort _}{Q:ι->α->Sm->Prop} :∀{c:Cmd α} {S:Sm},(∀i,c.post S (Q i))->c.post S (λx S' =>∀i,Q i x S')
 | .ret x,S,h=>λi=>h i| .fail,S,h=>trivial| .get k c,S,h=>Eb (c:=c (S k)) h| .set k v c,S,h=>Eb (c:=c) h
 | .opt o c,S,h=>λx e=>Eb (c:=c x) λi=>h i x e| .br b c d,S,h=>⟨λe=>Eb (c:=c) λi=>(h i).1 e,λe=>Eb (c:=d) λi=>(h i).2 e⟩
variable {x:Operand}{k:IntKind}{y:Operand}{α:Type}{Q:α->Sm->Prop}{C:Cx}{v:Value}{op:BinOp}{t:TypeId}{yt:TypeId}
section
variable {X:Fx} {cl ch:Nat} {S:Sm} {m:Mp} {ok:Nat->Ty->Prop} {a:Act} {w:World} {o:Oper}
theorem aO{b:Bool}{c:Cmd α}{S:Sm}(h:b=true->c.post S Q):(bif b then c else Cmd.fail).post S Q:=by
 cases b
 .trivial
 .exact h rfl
theorem Ej{a b:Nat}(h:Nat.blt a b=true):a<b:=by rw[dh]at h;exact h
theorem qg(H:FxOk X){S:Sm}{m0 m:Mp}{ok0 ok:Nat->Ty->Prop}{w0 w:World}{a:Act}(R:Rel X cl ch S m ok a w)(hm:∀k l,m0 k=some l->m k=some l)(hok:∀b t,ok0 b t->ok b t)
  {v:V} {x:Value} (hv:jG ⟨w.heap,ok,m⟩ v x) (run:(execOp a.eval o).run X.P w0= .ok (.value x) w):
  (bY X.E o.dst v).post S (λ_ S' =>gB X cl ch o a w0 m0 ok0 S'):=by
 unfold bY;cases hd:o.dst with
 |none=>
  intro next Q hn
  unfold Oper.wp;rw[run,lF,hd];exact hn m ok a w R hm hok
 |some d=>
  refine aO λhb=>?_;intro next Q hn
  unfold Oper.wp;rw[run,lF,hd];exact hn m ok _ w (R.put H.ntB hb hv) hm hok
theorem YK(C:Cx)(v:Value):jG C (YJ v) v:=by unfold YJ;split<;>first|exact rfl|trivial
theorem Y5(R:Rel X cl ch S m ok a w){K:V->Cmd α}(hK:∀v,jG ⟨w.heap,ok,m⟩ v (a.eval x)->(K v).post S Q):(ou x K).post S Q:=by
 unfold ou;cases x with
 |tmp t=>exact aO λhb=>hK (S t) (R.slot t (Ej hb))|const v=>exact hK _ (YK _ v)|global g=>exact hK _ rfl|func f=>exact hK _ rfl
theorem jQ{α:Type}{Q:α->Sm->Prop}(R:Rel X cl ch S m ok a w):∀(xs:List Operand) {K:List V->Cmd α} (hK:∀vs,fU ⟨w.heap,ok,m⟩ vs (xs.map a.eval)->(K vs).post S Q),(KP xs K).post S Q
 |[],K,hK=>hK [] rfl
 |x::r,K,hK=>by unfold KP;refine Y5 R λv hv=>?_;exact jQ R r λvs hvs=>hK _ ⟨_,_,rfl,hv,hvs⟩
theorem ak(H:FxOk X)(R:Rel X cl ch S m ok a w){v:V}{x:Value}(hv:jG ⟨w.heap,ok,m⟩ v x)(run:(execOp a.eval o).run X.P w= .ok (.value x) w):
  (bY X.E o.dst v).post S (λ_ S' =>gB X cl ch o a w m ok S'):=qg H R (λ_ _ h=>h) (λ_ _ h=>h) hv run
theorem MS{x:Bool}(h:jG C (.b x) v):v= .bool x:=h
theorem qF{n:Int}(h:jG C (.i k n) v):v= .int k n:=h
theorem GK{l:List UInt8}(h:jG C (.s l) v):v= .string ⟨l.toArray⟩:=h
theorem a0n(H:FxOk X)(R:Rel X cl ch S m ok a w)(ho:o.op= .move x\/o.op= .assign x):(ou x λv=>bY X.E o.dst v).post S (λ_ S' =>gB X cl ch o a w m ok S'):=by refine Y5 R λv hv=>ak H R hv ?_;rcases ho with ho|ho<;>simp[execOp,ho]
theorem a6q(H:FxOk X)(R:Rel X cl ch S m ok a w){c x y:Operand}{q:Nat}(ho:o.op= .pick c x y):(aH X.E q o).post S (λ_ S' =>gB X cl ch o a w m ok S'):=by
 unfold aH;simp only[ho];refine Y5 R λv hv=>?_;split<;>try trivial
 rename_i t;have hc:=MS hv;cases t
 .simp only[cond_false];refine Y5 R λv hv=>ak H R hv ?_;simp[execOp,ho,hc,asBool]
 .simp only[cond_true];refine Y5 R λv hv=>ak H R hv ?_;simp[execOp,ho,hc,asBool]
theorem dL{α β:Type}{Q:α->Sm->Prop}{x:Option β}{c:β->Cmd α}{S:Sm}(h:∀y,x=some y->(c y).post S Q):(Cmd.opt x c).post S Q:=h
theorem a0P{yc:Operand}{a:Act}{b:Int}(h:Ap yc=false)(he:a.eval yc= .int k b):b≠0:=by
 unfold Ap at h;split at h
 .simp[Act.eval]at he;obtain⟨_,rfl⟩:=he;simpa using h
 .simp at h
theorem a2Y{yc:Operand}{a:Act}{b:Int}(h:DT yc=false)(he:a.eval yc= .int k b):¬b<0:=by
 unfold DT at h;split at h
 .simp[Act.eval]at he;obtain⟨_,rfl⟩:=he;simpa using h
 .simp at h
theorem a1z(H:FxOk X)(R:Rel X cl ch S m ok a w)(ho:o.op= .binOp op t x y yt){k k' :IntKind}{p q:Int}
  (hx:a.eval x= .int k p) (hy:a.eval y= .int k' q):(FT X.E t op y (.i k p) (.i k' q) λv=>bY X.E o.dst v).post S (λ_ S' =>gB X cl ch o a w m ok S'):=by
 have run:∀v,(binOp op t (.int k p) (.int k' q)).run X.P w= .ok v w->(execOp a.eval o).run X.P w= .ok (.value v) w:=λv h=>by simp[execOp,ho,hx,hy,eqGuard_at_int,h]
 have fin:∀(v:V) (u:Value),jG ⟨w.heap,ok,m⟩ v u->(binOp op t (.int k p) (.int k' q)).run X.P w= .ok u w->(bY X.E o.dst v).post S (λ_ S' =>gB X cl ch o a w m ok S'):=
  λv u hv h=>ak H R hv (run u h)
 unfold FT;cases op<;>simp only[]
 case shl=>
  cases hn:DT y
  .simp only[cond_false];have h0:=a2Y hn hy;exact fin _ _ rfl (by simp[binOp,Op.shift,h0,a5W])
  .simp only[cond_true];refine dL λr hr=>?_;unfold a7A at hr;split at hr
   .cases hr
   .rename_i h0;cases hr;exact fin _ _ rfl (by simp[binOp,Op.shift,h0,a5W])
 case shr=>
  cases hn:DT y
  .simp only[cond_false];have h0:=a2Y hn hy;exact fin _ _ rfl (by simp[binOp,Op.shift,h0,a5X])
  .simp only[cond_true];refine dL λr hr=>?_;unfold a7B at hr;split at hr
   .cases hr
   .rename_i h0;cases hr;exact fin _ _ rfl (by simp[binOp,Op.shift,h0,a5X])
 all_goals
  refine aO λhk=>?_;have hk' :k=k' :=of_decide_eq_true hk;subst hk'
 case quo=>
  cases hz:Ap y
  .simp only[cond_false];have h0:=a0P hz hy;exact fin _ _ rfl (by simp[binOp,Op.intDiv,h0,fF])
  .simp only[cond_true];refine dL λr hr=>?_;unfold a7y at hr;split at hr
   .cases hr
   .rename_i h0;cases hr;exact fin _ _ rfl (by simp[binOp,Op.intDiv,h0])
 case rem=>
  cases hz:Ap y
  .simp only[cond_false];have h0:=a0P hz hy;exact fin _ _ rfl (by simp[binOp,Op.intDiv,h0,kw])
  .simp only[cond_true];refine dL λr hr=>?_;unfold a7z at hr;split at hr
   .cases hr
   .rename_i h0;cases hr;exact fin _ _ rfl (by simp[binOp,Op.intDiv,h0])
 case add=>exact fin _ _ rfl (by simp[binOp,Op.intArith,G5])
 case sub=>exact fin _ _ rfl (by simp[binOp,Op.intArith,O6])
 case mul=>exact fin _ _ rfl (by simp[binOp,Op.intArith,Tj])
 case and=>exact fin _ _ rfl (by simp[binOp,Op.intBits,b1I])
 case or=>exact fin _ _ rfl (by simp[binOp,Op.intBits,ior])
 case xor=>exact fin _ _ rfl (by simp[binOp,Op.intBits,a2M])
 case andNot=>exact fin _ _ rfl (by simp[binOp,Op.intBits,T_])
 case eql=>exact fin _ _ rfl (by simp[binOp,Op.intCmp,C9];rfl)
 case neq=>exact fin _ _ rfl (by simp[binOp,Op.intCmp,C9,G7];rfl)
 case lss=>exact fin _ _ rfl (by simp[binOp,Op.intCmp,H9])
 case leq=>exact fin _ _ rfl (by simp[binOp,Op.intCmp,U1])
 case gtr=>exact fin _ _ rfl (by simp[binOp,Op.intCmp,H9])
 case geq=>exact fin _ _ rfl (by simp[binOp,Op.intCmp,U1])
theorem a1A(H:FxOk X)(R:Rel X cl ch S m ok a w)(ho:o.op= .binOp op t x y yt){p q:List UInt8}
  (hx:a.eval x= .string ⟨p.toArray⟩) (hy:a.eval y= .string ⟨q.toArray⟩):(FT X.E t op y (.s p) (.s q) λv=>bY X.E o.dst v).post S (λ_ S' =>gB X cl ch o a w m ok S'):=by
 have run:∀v,(Op.stringOp op ⟨p.toArray⟩ ⟨q.toArray⟩).run X.P w= .ok v w->(execOp a.eval o).run X.P w= .ok (.value v) w:=λv h=>by simp[execOp,ho,hx,hy,eqGuard_at_string,binOp,h]
 have fin:∀(v:V) (u:Value),jG ⟨w.heap,ok,m⟩ v u->(Op.stringOp op ⟨p.toArray⟩ ⟨q.toArray⟩).run X.P w= .ok u w->(bY X.E o.dst v).post S (λ_ S' =>gB X cl ch o a w m ok S'):=
  λv u hv h=>ak H R hv (run u h)
 unfold FT;cases op<;>simp only[]<;>try trivial
 case add=>
  refine dL λr hr=>?_;unfold O7 at hr;split at hr
  .rename_i hle;cases hr;have e:(⟨p.toArray⟩:ByteArray)++⟨q.toArray⟩=⟨(p++q).toArray⟩:=by
    apply ByteArray.ext;apply jk;simp[ByteArray.data_append]
   refine fin _ (.string ⟨(p++q).toArray⟩) rfl ?_;have hs:¬((9223372036854775807:Int)<(p.length:Int)+(q.length:Int)):=o5;simp[Op.stringOp,e,ByteArray.size,hs]
  .cases hr
 case eql=>exact fin _ _ rfl (by simp only[Op.stringOp,ByteArray.toList_mk,seq,U7];rw[show(p==q)=decide (p=q) by rw[jy];simp])
 case neq=>exact fin _ _ rfl (by simp only[Op.stringOp,ByteArray.toList_mk,seq,G7,U7];rw[show(p==q)=decide (p=q) by rw[jy];simp])
 case lss=>exact fin _ _ rfl (by simp[Op.stringOp,ByteArray.toList_mk,slt])
theorem Zm(H:FxOk X)(R:Rel X cl ch S m ok a w)(ho:o.op= .binOp op t x y yt){p q:Bool}
  (hx:a.eval x= .bool p) (hy:a.eval y= .bool q):(FT X.E t op y (.b p) (.b q) λv=>bY X.E o.dst v).post S (λ_ S' =>gB X cl ch o a w m ok S'):=by
 unfold FT;cases hi:bP X.E.tt t with
 |none=>trivial|some i=>
 have ht' :=(H.tt t i hi).td;simp only[];cases hd:i.td<;>try trivial
 rw[hd]at ht';have ht:X.P.underlying t=some .bool:=ht';have he' :∀d,(Op.equalIn (d+1) t (.bool p) (.bool q)).run X.P w= .ok (p==q) w:=λd=>by simp[Op.equalIn,run_underlying ht]
 have he:(Op.equal t (.bool p) (.bool q)).run X.P w= .ok (p==q) w:=he' 9999;have run:∀v,(binOp op t (.bool p) (.bool q)).run X.P w= .ok v w->(execOp a.eval o).run X.P w= .ok (.value v) w:=λv h=>by simp[execOp,ho,hx,hy,eqGuard_at_bool,h]
 have fin:∀(v:V) (u:Value),jG ⟨w.heap,ok,m⟩ v u->(binOp op t (.bool p) (.bool q)).run X.P w= .ok u w->(bY X.E o.dst v).post S (λ_ S' =>gB X cl ch o a w m ok S'):=
  λv u hv h=>ak H R hv (run u h)
 cases op<;>try trivial
 case eql=>exact fin _ _ rfl (by simp[binOp,he,PO])
 case neq=>exact fin _ _ rfl (by simp[binOp,he,PO,G7])
end
end Go.GP
namespace Go.GP
variable {x:Operand}{t:TypeId}{q:Nat}
section
variable {X:Fx} {cl ch:Nat} {S:Sm} {m:Mp} {ok:Nat->Ty->Prop} {a:Act} {w:World} {o:Oper}
theorem jD{α:Type}{Q:α->Sm->Prop}(H:FxOk X){t:Nat}{K:TI->Cmd α}(hK:∀i,TiOk X.P t i->(K i).post S Q):(tiC X.E t K).post S Q:=by
 unfold tiC;cases hi:bP X.E.tt t with
 |none=>trivial|some i=>exact hK i (H.tt t i hi)
theorem a1W{P:Program} :∀{d:TD},a5H P t d->∃e,P.underlying t=some e
 | .bool,h=>⟨_,h⟩| .int _,h=>⟨_,h⟩| .str,h=>⟨_,h⟩| .sl _,h=>⟨_,h⟩| .ptr _,h=>⟨_,h⟩| .struct _,⟨_,h,_⟩=>⟨_,h⟩| .arr _ _,h=>⟨_,h⟩| .map _ _,h=>⟨_,h⟩| .other,⟨_,h,_⟩=>⟨_,h⟩
theorem Vw(H:FxOk X)(R:Rel X cl ch S m ok a w){op:BinOp}{x y:Operand}{yt:TypeId}(ho:o.op= .binOp op t x y yt){ad:Option Addr}{n c:Nat}
  (hx:a.eval x= .slice ad n c) (hy:a.eval y= .slice none 0 0):(a2Z X.E t op ad.isNone λv=>bY X.E o.dst v).post S (λ_ S' =>gB X cl ch o a w m ok S'):=by
 unfold a2Z;cases hi:bP X.E.tt t with
 |none=>trivial|some i=>
 have ht' :=(H.tt t i hi).td;simp only[];cases hd:i.td<;>try trivial
 rename_i e;rw[hd]at ht';have ht:X.P.underlying t=some (.slice e):=ht';have he' :∀d,(Op.equalIn (d+1) t (.slice ad n c) (.slice none 0 0)).run X.P w= .ok ad.isNone w:=λd=>by cases ad<;>simp[Op.equalIn,run_underlying ht]
 have he:(Op.equal t (.slice ad n c) (.slice none 0 0)).run X.P w= .ok ad.isNone w:=he' 9999;have run:∀v,(binOp op t (.slice ad n c) (.slice none 0 0)).run X.P w= .ok v w->(execOp a.eval o).run X.P w= .ok (.value v) w:=λv h=>by simp[execOp,ho,hx,hy,eqGuard_at_slice,h]
 cases op<;>try trivial
 case eql=>exact ak H R (v:=.b ad.isNone) (x:=.bool ad.isNone) rfl (run _ (by simp[binOp,he]))
 case neq=>exact ak H R (v:=.b (G7 ad.isNone)) (x:=.bool (!ad.isNone)) rfl (run _ (by simp[binOp,he]))
theorem a3g(H:FxOk X)(R:Rel X cl ch S m ok a w){op:BinOp}{x y:Operand}{yt:TypeId}(ho:o.op= .binOp op t x y yt):
  (aH X.E q o).post S (λ_ S' =>gB X cl ch o a w m ok S'):=by
 unfold aH;simp only[ho];refine Y5 R λu hu=>Y5 R λv hv=>?_;cases u<;>try (unfold FT;trivial)
 case b p=>
  cases v<;>try (unfold FT;trivial)
  exact Zm H R ho (MS hu) (MS hv)
 case i k p=>
  cases v<;>try (unfold FT;trivial)
  exact a1z H R ho (qF hu) (qF hv)
 case s p=>
  cases v<;>try (unfold FT;trivial)
  exact a1A H R ho (GK hu) (GK hv)
 case nl=>
  cases v<;>try (unfold FT;trivial)
  exact Vw H R ho (ad:=none) (show a.eval x= .slice none 0 0 from hu) hv
 case ne=>
  cases v<;>try (unfold FT;trivial)
  obtain⟨ad,c,hx,hb⟩:=hu;subst hb;exact Vw H R ho (ad:=ad) hx hv
 case sl t' xs=>
  cases v<;>try (unfold FT;trivial)
  unfold FT;simp only[];cases ht:t'.isEnt
  .simp only[cond_false];obtain⟨ad,c,hx,hle,hx'⟩:=(wE ht).1 (show jH w.heap ok (.sl t') xs [a.eval x]from hu);cases xs with
   |nil=>exact⟨λ_=>trivial,λh=>by simp[C9,o8]at h⟩|cons z zs=>obtain⟨blk,off,es,rfl,_⟩:=hx' 0 z rfl;exact⟨λ_=>trivial,λ_=>Vw H R ho (ad:=some _) (by simpa using hx) hv⟩
  .trivial
 case agg cs=>
  cases v<;>try (unfold FT;trivial)
  case agg ds=>
  obtain⟨xs,hx,hl⟩:=hu;obtain⟨ys,hy,hl'⟩:=hv;unfold FT;simp only[];cases hq:bP X.E.eqs t with
  |none=>trivial|some sh=>
  simp only[];refine aO λhm=>?_;simp only[A7]at hm;have hE:=(H.eqs t sh hq).1;cases he:xf cs ds with
  |none=>cases op<;>trivial|some e=>
   cases op<;>try trivial
   case eql=>refine ak H R (v:=.b e) (x:=.bool e) rfl ?_;have h:=hE w _ cs ds xs ys e .eql x y hm.1 hm.2 hl hl' he (.inl rfl);simp only[execOp,ho,hx,hy];rw[G8,h];rfl
   case neq=>refine ak H R (v:=.b (G7 e)) (x:=.bool (!e)) rfl ?_;have h:=hE w _ cs ds xs ys e .neq x y hm.1 hm.2 hl hl' he (.inr rfl);simp only[execOp,ho,hx,hy];rw[G8,h];rfl
theorem a6r(H:FxOk X)(R:Rel X cl ch S m ok a w){op:UnOp}(ho:o.op= .unOp op t x):
  (aH X.E q o).post S (λ_ S' =>gB X cl ch o a w m ok S'):=by
 unfold aH;simp only[ho];refine Y5 R λu hu=>?_;cases u<;>cases op<;>try (unfold unC;trivial)
 case b.not p=>exact ak H R (v:=.b (G7 p)) (x:=.bool (!p)) rfl (by simp[execOp,ho,MS hu,Op.unary])
 case i.neg k p=>exact ak H R (v:=.i k (O6 k 0 p)) (x:=.int k (k.wrap (0 -p))) rfl (by simp[execOp,ho,qF hu,Op.unary,Op.intArith])
 case i.xor k p=>exact ak H R (v:=.i k (a2M k (bif k.signed then -1 else k.max) p)) rfl (by simp only[execOp,ho,qF hu,Op.unary,Op.intBits,a2M];cases k.signed<;>simp)
theorem a3s{α:Type}{Q:α->Sm->Prop}(R:Rel X cl ch S m ok a w){u:Ty}{y:V}{vy:Value}{K:List u.den->Cmd α}(hy:jG ⟨w.heap,ok,m⟩ y vy)
  (hK:∀xs,jH w.heap (λ_ _=>True) (.sl u) xs [vy]->(K xs).post S Q):(Xx u y K).post S Q:=by
 unfold Xx;split<;>try trivial
 .have hv:vy= .slice none 0 0:=hy;subst hv;cases ht:u.isEnt
  .exact hK [] (.inl ⟨ht,none,0,rfl,F5 _,λi x hi=>by simp at hi⟩)
  .trivial
 .obtain⟨ad,c,rfl,_⟩:=(show ∃a c,vy=Value.slice a 0 c/\a.isNone=_ from hy);cases ht:u.isEnt
  .exact hK [] (.inl ⟨ht,ad,c,rfl,fB _,λi x hi=>by simp at hi⟩)
  .trivial
 .refine dN λe=>?_;subst e;exact hK _ (dE (λ_ _ _=>trivial) (λ_ _ _=>rfl) (show jH w.heap ok (.sl _) _ [vy]from hy))
 .rename_i bx vw;obtain⟨l,hm,hv⟩:=hy;show Cmd.post (match S (X9+bx)with| .barr t' xs=>_| .bfrz t' xs=>_|_=>_) S Q;have hb:=R.box bx;split<;>try trivial
  .rename_i t' xs hS;rw[hS]at hb;obtain⟨l',hm',ha⟩:=hb;simp only at hm hm';rw[hm]at hm';cases hm';refine dN λe=>?_;subst e;exact hK _ (mF (C:=⟨w.heap,ok,m⟩) ha hv (λ_ _ _=>trivial) (λ_ _=>trivial))
  .rename_i t' xs hS;rw[hS]at hb;obtain⟨l',hm',ha,hok⟩:=hb;simp only at hm hm';rw[hm]at hm';cases hm';refine dN λe=>?_;subst e;exact hK _ (mF (C:=⟨w.heap,ok,m⟩) ha hv (λ_ _ _=>trivial) (λ_ _=>trivial))
theorem Xr(H:FxOk X)(R:Rel X cl ch S m ok a w){src t:TypeId}(ho:o.op= .convert src t x)
  (hB:∀l,a.eval x= .string ⟨l.toArray⟩->X.P.underlying src=some .string->(a2r X.E (J9 q o.dst) t l λv=>bY X.E o.dst v).post S (λ_ S' =>gB X cl ch o a w m ok S')):
  (aH X.E q o).post S (λ_ S' =>gB X cl ch o a w m ok S'):=by
 unfold aH;simp only[ho];refine Y5 R λu hu=>jD H λj hj=>jD H λi hi=>?_;obtain⟨e,he⟩:=a1W hj.td;have hd:=hi.td;split<;>try trivial
 .rename_i k' n k htd;rw[htd]at hd;exact ak H R (v:=.i k (wrap k n)) (x:=.int k (k.wrap n)) rfl (by simp[execOp,ho,qF hu,convert,run_underlying he,run_underlying (show X.P.underlying t=some (.int k)from hd),Conv.intToInt])
 .rename_i l htd;rw[htd]at hd;refine ak H R (v:=.s l) (x:=.string ⟨l.toArray⟩) rfl ?_;simp only[execOp,ho,GK hu,convert,G8,run_underlying he,run_underlying (show X.P.underlying t=some .string from hd),G9];cases e<;>simp
 .split<;>try trivial
  rename_i l _ _ _ hjd;have hjs:=hj.td;rw[hjd]at hjs;exact hB l (GK hu) hjs
 .rename_i hns htd;rw[htd]at hd;split<;>try trivial
  rename_i el hjd;have hjs:=hj.td;rw[hjd]at hjs;refine jD H λk hk=>?_;have hkd:=hk.td;split<;>try trivial
  rename_i hke;rw[hke]at hkd;refine a3s R hu λxs hr=>?_;obtain⟨ad,cap,hv,hcap,hcells⟩:=(wE rfl).1 hr;have hv:=(P8 hv).1;refine ak H R (v:=.s (WJ xs)) (x:=.string ⟨(WJ xs).toArray⟩) rfl ?_;have hh:(convert src t (a.eval x)).run X.P w= .ok (.string ⟨(WJ xs).toArray⟩) w:=by
   rw[hv];cases xs with
   |nil=>
    have:=run_convert_bytes_nil (P:=X.P) w src el hjs hkd 0 cap t hd;cases ad with
    |none=>exact this|some ad=>obtain⟨b,o,s⟩:=ad;rw[run_convert_bytes_string w src t el _ _ cap hjs hkd hd];simp[Conv.bytesToString,WJ];rfl
   |cons y ys=>
    obtain⟨blk,off,es,rfl,_,_,_⟩:=hcells 0 y rfl;have:=run_convert_bytes_arg (P:=X.P) w src el hjs hkd blk off (y::ys).length cap (y::ys) rfl (λi hi=>?_) t hd
    .exact this
    .obtain⟨blk2,off2,es2,e2,_,hc,hr2⟩:=hcells i _ (lw hi);simp only[E5,fO]at e2;obtain⟨rfl,rfl,_⟩:=e2;obtain⟨c,T,f,hb,hn,rfl⟩:=qN hc;have hr3:((c.toList.drop (off+i*1)).take 1)=[.int .u8 (y::ys)[i]]:=hr2;have h5:=congrArg (λl=>l[0]?) hr3;simp only[dJ (show 0<1 by omega),U2,aC,bG,bM,X5]at h5;simp only[World.cell?,hb,h5,Option.isSome_none];simp[List.getD,lw hi]
  simp only[execOp,ho];rw[G8,hh];rfl
theorem Zo(H:FxOk X)(R:Rel X cl ch S m ok a w){n:Nat}(ho:o.op= .extract x n):
  (aH X.E q o).post S (λ_ S' =>gB X cl ch o a w m ok S'):=by
 unfold aH;simp only[ho];refine Y5 R λu hu=>?_;cases u<;>try trivial
 case tup vs=>
 obtain⟨arr,hx,hl⟩:=hu;have key:∀(vs:List V) (us:List Value) (n:Nat) (v:V),VI ⟨w.heap,ok,m⟩ vs us->vs[n]? =some v->∃u,us[n]? =some u/\jG ⟨w.heap,ok,m⟩ v u:=by
  intro vs;induction vs with
  |nil=>intro us n v _ h;simp at h|cons c cs ih=>
   rintro us n v ⟨u,r,rfl,h1,h2⟩ h;cases n with
   |zero=>simp at h;subst h;refine⟨u,rfl,?_⟩;cases c<;>first|exact h1|exact h1.elim
   |succ n=>simpa using ih r n v h2 (by simpa using h)
 simp only[];split
 .rename_i v hv;obtain⟨u,hu,hr⟩:=key vs arr.toList n v hl hv;refine ak H R hr ?_;have:arr[n]? =some u:=by simpa using hu
  simp[execOp,ho,hx,Instr.extract,this]
 .trivial
theorem a3k(H:FxOk X)(R:Rel X cl ch S m ok a w){x ix:Operand}(ho:o.op= .index t x ix):
  (aH X.E q o).post S (λ_ S' =>gB X cl ch o a w m ok S'):=by
 unfold aH;simp only[ho];refine Y5 R λu hu=>Y5 R λv hv=>jD H λi hi=>?_;have hd:=hi.td;split<;>try trivial
 rename_i l k n htd;rw[htd]at hd;refine dL λc hc=>?_;unfold sat at hc;split at hc
 .rename_i h0;cases hl:l[n.toNat]? with
  |none=>simp[hl]at hc|some b=>
   simp[hl]at hc;subst hc;refine ak H R (v:=.i .u8 b.toNat) (x:=.int .u8 b.toNat) rfl ?_;have e:(⟨l.toArray⟩:ByteArray)[n.toNat]? =some b:=by
    obtain⟨h1,h2⟩:=ax.1 hl;have hs:n.toNat<(⟨l.toArray⟩:ByteArray).size:=by simpa[ByteArray.size]using h1
    show decidableGetElem? _ _=_;unfold decidableGetElem?;rw[dif_pos hs,←h2];rfl
   simp[execOp,ho,GK hu,qF hv,Instr.index,asIntOf,run_underlying (show X.P.underlying t=some .string from hd),h0,e]
 .cases hc
theorem Xu(H:FxOk X)(R:Rel X cl ch S m ok a w)(ho:o.op= .nilCheck x):
  (aH X.E q o).post S (λ_ S' =>gB X cl ch o a w m ok S'):=by
 unfold aH;simp only[ho];refine Y5 R λu hu=>?_;cases u<;>try trivial
 case ptr bx f=>obtain⟨b,h1,h2⟩:=hu;exact ak H R (v:=.ptr bx f) ⟨b,h1,h2⟩ (by simp[execOp,ho,h2])
 case ep bx ix f=>obtain⟨_,_,_,_,_,h1,h2,h3⟩:=hu;exact ak H R (v:=.ep bx ix f) ⟨_,_,_,_,_,h1,h2,h3⟩ (by simp[execOp,ho,h3])
 case dp u y f=>obtain⟨_,_,_,h1,h2⟩:=hu;exact ak H R (v:=.dp u y f) ⟨_,_,_,h1,h2⟩ (by simp[execOp,ho,h1])
 case glob g=>exact ak H R (v:=.glob g) hu (by have hu:a.eval x=_:=hu;simp[execOp,ho,hu])
end
end Go.GP
namespace Go.GP
variable {n:Nat}{off:Nat}{blk:Nat}{es:List Value}
theorem ru{w:World}(e:bF w.heap blk off n=some es){j:Nat}{v:Value}(h:es[j]? =some v):w.cell? ⟨blk,off+j,none⟩=some v:=by
 obtain⟨c,T,f,hb,hn,rfl⟩:=qN e;rw[cell_of_row w blk (off+j) c T f hb];have hj:j<n:=by have:=(ax.1 h).1;simp at this;omega
 rw[U3,if_pos hj,U2]at h;simpa using h
variable {t:TypeId}{P:Program}
theorem Aw{d:TD}(h:a5H P t d)(w:World):(isAgg t).run P w= .ok (aN d) w:=by
 unfold isAgg;cases d<;>simp only[a5H]at h
 case struct fs=>obtain⟨fields,hu,_⟩:=h;rw[G8,run_underlying hu];rfl
 case other=>obtain⟨e,hu,hn⟩:=h;rw[G8,run_underlying hu];cases e<;>first|rfl|exact hn.elim
 all_goals (rw[G8,run_underlying h];rfl)
variable {i:TI}
theorem oz(h:TiOk P t i)(w:World):(sizeOf t).run P w= .ok i.size w:=by obtain⟨inf,h1,h2,_⟩:=h.info;simp[sizeOf,typeInfo,h1,h2]
def Lu(ag:Bool)(es:List Value):Value:=match ag with|true=> .agg es.toArray|false=>es.headD Go.undef
theorem uh(hi:TiOk P t i)(w:World)(e:bF w.heap blk off i.size=some es):
  (loadVar t ⟨blk,off,none⟩).run P w= .ok (Lu (aN i.td) es) w:=by
 have hl:=nV e;unfold loadVar;rw[G8,Aw hi.td];simp only[G9];cases ha:aN i.td
 .have h1:=hi.one ha;rw[h1]at hl;obtain⟨v,rfl⟩:∃v,es=[v]:=by
   cases es with
   |nil=>simp at hl
   |cons v r=>cases r with
    |nil=>exact⟨v,rfl⟩|cons _ _=>simp at hl
  have hc:=ru e (j:=0) (v:=v) rfl;simp only[aC]at hc;simp[hc,Lu]
 .have hc:=run_loadCells_list (P:=P) w ⟨blk,off,none⟩ es (λj v h=>by rw[fC];exact ru e h);rw[hl]at hc;simp[oz hi,hc,Lu]
variable {C:Cx}{cs:List V}
theorem yS{ag:Bool}(h:dX C cs es)(h1:ag=false->es.length=1):jG C (mkV ag cs) (Lu ag es):=by
 refine Lc (us:=es) ?_ h;cases ag
 .have:=h1 rfl;obtain⟨v,rfl⟩:∃v,es=[v]:=by
   cases es with
   |nil=>simp at this
   |cons v r=>cases r with
    |nil=>exact⟨v,rfl⟩|cons _ _=>simp at this
  rfl
 .exact⟨es.toArray,rfl,x9⟩
theorem Qh:∀(n:Nat) (cs r:List V),Qg n cs=some r->n<=cs.length/\r=cs.drop n
 |0,cs,r,h=>by simp[Qg]at h;simp[h]|n+1,[],r,h=>by simp[Qg]at h|n+1,c::cs,r,h=>by obtain⟨h1,h2⟩:=Qh n cs r (by simpa[Qg]using h);exact⟨by simp;omega,by simpa using h2⟩
theorem Si{α:Type}{Q:α->Sm->Prop}{S:Sm} :∀(n:Nat) (cs:List V) {K:List V->Cmd α} (hK:n<=cs.length->(K (cs.take n)).post S Q),(Yg n cs K .fail).post S Q
 |0,cs,K,hK=>by simpa[Yg]using hK (fB _)|n+1,[],K,hK=>trivial
 |n+1,c::cs,K,hK=>by unfold Yg;exact Si n cs λh=>by simpa using hK G6
variable {α:Type}{Q:α->Sm->Prop}
theorem wW{S:Sm}{K:List V->Cmd α}(hK:off+n<=cs.length->(K ((cs.drop off).take n)).post S Q):(OW off n cs K .fail).post S Q:=by
 unfold OW;split
 .rename_i r hr;obtain⟨h1,rfl⟩:=Qh _ _ _ hr;refine Si n _ λh=>hK ?_;simp at h;omega
 .trivial
def au(off:Nat)(vs cs:List α):List α:=cs.take off++vs++cs.drop (off+vs.length)
theorem yN{α:Type}{Q:α->Sm->Prop}{S:Sm} :∀(off:Nat) (vs cs:List V) {K:List V->Cmd α} (hK:off+vs.length<=cs.length->(K (au off vs cs)).post S Q),(KU off vs cs K .fail).post S Q
 |0,[],cs,K,hK=>by have:=hK x9;cases cs<;>simpa[KU,au]using this|0,v::vs,[],K,hK=>by simp[KU];trivial
 |0,v::vs,c::cs,K,hK=>by unfold KU;exact yN 0 vs cs λh=>by simpa[au]using hK (by simp at h ⊢;omega)|n+1,vs,[],K,hK=>by cases vs<;>simp[KU]<;>trivial|n+1,vs,c::cs,K,hK=>by
  have e:KU (n+1) vs (c::cs) K Cmd.fail=KU n vs cs (λr=>K (c::r)) Cmd.fail:=by cases vs<;>rfl
  rw[e];refine yN n vs cs λh=>?_;have:=hK G6;have e2:n+1+vs.length=(n+vs.length)+1:=o5;simpa[au,e2]using this
theorem zu{vs cs:List V}{us xs:List Value}(hv:dX C vs us)(hc:dX C cs xs):dX C (au off vs cs) (au off us xs):=by unfold au;rw[←iZ hv];exact tZ (tZ (rQ off hc) hv) (qC _ hc)
theorem uH{P:Program}(g o:Nat)(t:TypeId):∀(vs:List Value) (i:Nat) (cur:Array Value) (f:Nat×Nat) (w:World),w.heap[g]? =some (.cells cur t f)->(f=(0,0)\/f=(cur.size,cur.size+1))->o+i+vs.length<=cur.size->(∀v∈vs,v.oneCell' =true)->
  (storeCells ⟨g,o,none⟩ vs i).run P w= .ok () (w.setRow g (cur.toList.take (o+i)++vs++cur.toList.drop (o+i+vs.length)).toArray)
 |[],i,cur,f,w,hg,_,_,_=>by simp only[storeCells,F6,L6,aC,eX,Array.toArray_toList];rw[setRow_self w g cur t f hg];rfl|v::rest,i,cur,f,w,hg,hf,hl,h1=>by
  have hi:o+i<cur.size:=by simp at hl;omega
  have hadd:(⟨g,o,none⟩:Addr).add i=⟨g,o+i,none⟩:=by unfold Addr.add;split<;>simp_all
  have hcell:w.cell? ⟨g,o+i,none⟩=some cur[o+i]:=by simp[World.cell?,hg,hi]
  have hfro:w.frozen? ⟨g,o+i,none⟩=false:=by rcases hf with rfl|rfl<;>simp[World.frozen?,hg];omega
  have hst:(store ((⟨g,o,none⟩:Addr).add i) v).run P w= .ok () (w.setRow g (cur.setIfInBounds (o+i) v)):=by rw[hadd,run_store P w _ v _ (h1 v x9),hcell];simp[hfro,setCell_eq_setRow w g (o+i) cur t f v hg]
  have ih:=uH (P:=P) g o t rest (i+1) (cur.setIfInBounds (o+i) v) f (w.setRow g (cur.setIfInBounds (o+i) v)) (setRow_heap w g cur _ t _ hg) (by simpa using hf) (by simp at hl ⊢;omega) (λx hx=>h1 x (by simp[hx]));simp only[storeCells,G8,hst,G9,ih,setRow_setRow];congr 3;have e:=list_seg_step cur.toList (o+i) v rest (by simp at hl ⊢;omega);simpa[kz,dY]using e
theorem Ae(hi:TiOk P t i)(w:World){c:Array Value}{T:TypeId}{f:Nat×Nat}(hb:w.heap[blk]? =some (.cells c T f))(hf:f=(0,0)\/f=(c.size,c.size+1)){v:Value}
  (hs:v.cells.size=i.size) (ho:off+i.size<=c.size) (h1:∀u∈v.cells.toList,u.oneCell' =true):
  (storeVar t ⟨blk,off,none⟩ v).run P w= .ok () (w.setRow blk (au off v.cells.toList c.toList).toArray):=by
 have h:=uH (P:=P) blk off T v.cells.toList 0 c f w hb hf G6 h1;simp only[aC]at h;unfold storeVar;simp[oz hi,hs,h,au]
variable {v:V}{l:Loc}{obj:Obj}{q:Nat}{ks:List Nat}
section
variable {X:Fx} {cl ch:Nat} {S:Sm} {m:Mp} {ok:Nat->Ty->Prop} {a:Act} {w:World} {o:Oper}
theorem Rel.own_cells(R:Rel X cl ch S m ok a w)(h:S (X9+n)= .bcells cs):∃blk arr T,m n=some (.st blk)/\w.heap[blk]? =some (.cells arr T (0,0))/\dX ⟨w.heap,ok,m⟩ cs arr.toList:=by have:=R.box n;rw[h]at this;exact this
theorem Rel.own_arr(R:Rel X cl ch S m ok a w){t:Ty}{xs:List t.den}(h:S (X9+n)= .barr t xs):∃l,m n=some l/\arrOk ⟨w.heap,ok,m⟩ t xs l:=by have:=R.box n;rw[h]at this;exact this
theorem Rel.own_frz(R:Rel X cl ch S m ok a w){t:Ty}{xs:List t.den}(h:S (X9+n)= .bfrz t xs):∃l,m n=some l/\arrOk ⟨w.heap,ok,m⟩ t xs l/\(∀blk,blk∈l.blks->ok blk t):=by have:=R.box n;rw[h]at this;exact this
theorem Rel.own_barrs(R:Rel X cl ch S m ok a w){md:M}{xs:List md.den}{hole:Option (Nat×Nat×Option Nat)}(h:S (X9+n)= .barrs md xs hole):md.el=true/\∃l Os,m n=some l/\I_ ⟨w.heap,ok,m⟩ md xs hole Os l/\m.kid n=Os.flatten:=by have:=R.box n;rw[h]at this;exact this
theorem Rel.own_fc(R:Rel X cl ch S m ok a w){t:Ty}{x:t.den}(h:S (X9+n)= .bfc t x):∃blk es,m n=some (.st blk)/\ok blk t/\bF w.heap blk 0 t.size=some es/\jH w.heap ok t x es:=by have:=R.box n;rw[h]at this;exact this
theorem xk:∀(m:M) (x:m.den) (r:List V),Fp m x r=Fp m x []++r
 | .dat t,x,r=>jZ t x r| .pair a b,x,r=>by simp only[Fp];rw[xk a x.1 (Fp b x.2 r),xk b x.2 r,xk a x.1 (Fp b x.2 [])];simp| .unit,_,_=>rfl| .own _,_,_=>rfl| .owns _,_,_=>rfl| .box _,_,_=>rfl| .ownb _,_,_=>rfl| .rp _,_,_=>rfl| .fn _ _,_,_=>rfl| .ifc _ _,_,_=>rfl| .cell _,_,_=>rfl| .fr _,_,_=>rfl| .sbx _ _,_,_=>rfl| .lp _,_,_=>rfl| .dv ..,_,_=>rfl| .sit,_,_=>rfl
theorem Ey:∀(m:M) (x:m.den),(Fp m x []).length=m.size
 | .dat t,x=>lu t x| .pair a b,x=>by simp only[Fp,M.size];rw[xk a,D8,Ey a x.1,Ey b x.2]| .unit,_=>rfl| .own _,_=>rfl| .owns _,_=>rfl| .box _,_=>rfl| .ownb _,_=>rfl| .rp _,_=>rfl| .fn _ _,_=>rfl| .ifc _ _,_=>rfl| .cell _,_=>rfl| .fr _,_=>rfl| .sbx _ _,_=>rfl| .lp _,_=>rfl| .dv ..,_=>rfl| .sit,_=>rfl
theorem kV{cs:List Value}(h:cs.length=1)(h1:∀v∈cs,v.oneCell' =true):dX C [.undef] cs:=by
 match cs,h with
 |[v],_=>exact⟨v,[],rfl,trivial,h1 v x9,rfl⟩
theorem JH{C:Cx} :∀{m:M} {ho:Option Nat} {x:m.den} {cs:List Value} {O:List Nat},nJ C.h C.ok m ho x cs O->dX C (Fp m x []) cs
 | .dat t,_,_,_,_,h=>nT h.1| .pair a b,_,x,_,_,h=>by obtain⟨c,d,O1,O2,rfl,rfl,h1,h2⟩:=h;simp only[Fp];rw[xk a];exact tZ (JH h1) (JH h2)
 | .unit,_,_,_,_,h=>by obtain⟨rfl,_⟩:=h;rfl
 | .own _,_,_,_,_,h=>kV (aV h) (mQ h)| .owns _,_,_,_,_,h=>kV (aV h) (mQ h)| .box _,_,_,_,_,h=>kV (aV h) (mQ h)| .ownb _,_,_,_,_,h=>kV (aV h) (mQ h)| .rp _,_,_,_,_,h=>kV (aV h) (mQ h)| .fn _ _,_,_,_,_,h=>kV (aV h) (mQ h)| .ifc _ _,_,_,_,_,h=>kV (aV h) (mQ h)| .cell _,_,_,_,_,h=>kV (aV h) (mQ h)| .fr _,_,_,_,_,h=>kV (aV h) (mQ h)| .sbx _ _,_,_,_,_,h=>kV (aV h) (mQ h)| .lp _,_,_,_,_,h=>kV (aV h) (mQ h)| .dv ..,_,_,_,_,h=>kV (aV h) (mQ h)| .sit,_,_,_,_,h=>kV (aV h) (mQ h)
theorem aP{S:Sm}{k:Nat}{c:V->Cmd α}(h:(c (S k)).post S Q):(Cmd.get k c).post S Q:=h
theorem gz{S:Sm}{k:Nat}{c:Cmd α}(h:c.post (upd S k v) Q):(Cmd.set k v c).post S Q:=h
theorem EJ(H:FxOk X)(R:Rel X cl ch S m ok a w){t:Nat}{p:V}{x:Value}(hp:jG ⟨w.heap,ok,m⟩ p x){K:V->Cmd α}
  (hK:∀v u ad,jG ⟨w.heap,ok,m⟩ v u->x= .pointer (some ad)->(loadVar t ad).run X.P w= .ok u w->(K v).post S Q):(IW X.E t p K).post S Q:=by
 unfold IW;refine jD H λi hi=>?_;cases p<;>try trivial
 case ptr bx off=>
  obtain⟨blk,hm,rfl⟩:=hp;refine aP ?_;split<;>try trivial
  .rename_i cs hS;obtain⟨blk',arr,T,hm',hh,hl⟩:=R.own_cells hS;simp only at hm;rw[hm]at hm';cases hm';refine wW λhle=>?_;have hlen:=iZ hl;have e:=iO hh off i.size (by simp at hlen;omega);refine hK _ _ _ (yS (rQ _ (qC _ hl)) (λha=>by have:=nV e;rw[hi.one ha]at this;rw[hi.one ha];exact this)) rfl ?_;exact uh hi w e
  .rename_i u y hS;obtain⟨blk',es,hm',hok,he,hr⟩:=R.own_fc hS;simp only at hm;rw[hm]at hm';cases hm';refine wW λhle=>?_;rw[lu]at hle;have e:=wG he off i.size hle;rw[bH]at e;refine hK _ _ _ (yS (rQ _ (qC _ (nT (C:=⟨w.heap,ok,m⟩) hr))) (λha=>by have:=nV e;rw[hi.one ha]at this;rw[hi.one ha];exact this)) rfl ?_;exact uh hi w e
 case ep bx ix off=>
  obtain⟨blk,o',len,cap,sz,hm,hlt,rfl⟩:=hp;refine aP ?_;have key:∀{u:Ty} {xs:List u.den},arrOk ⟨w.heap,ok,m⟩ u xs (.arr blk o' len cap sz)->(Cmd.opt (di xs ix) λx=>OW off i.size (flat u x []) (λr=>K (mkV (aN i.td) r)) Cmd.fail).post S Q:=by intro u xs ha;obtain⟨_,rfl,rfl,h3,c,T,f,hh,hz,hs,hx⟩:=ha;refine dL λy hy=>?_;obtain⟨es,he,hr⟩:=hx ix y hy;refine wW λhle=>?_;rw[lu]at hle;have e:=wG he off i.size hle;refine hK _ _ _ (yS (rQ _ (qC _ (nT (C:=⟨w.heap,ok,m⟩) hr))) (λha=>by have:=nV e;rw[hi.one ha]at this;rw[hi.one ha];exact this)) rfl ?_;exact uh hi w e
  split<;>try trivial
  .rename_i u xs hS;obtain⟨l,hm',ha⟩:=R.own_arr hS;simp only at hm;rw[hm]at hm';cases hm';exact key ha
  .rename_i u xs hS;obtain⟨l,hm',ha,_⟩:=R.own_frz hS;simp only at hm;rw[hm]at hm';cases hm';exact key ha
  .rename_i md xs hole hS;obtain⟨_,l,Os,hm',⟨ha,hho⟩,_⟩:=R.own_barrs hS;simp only at hm;rw[hm]at hm';cases hm';obtain⟨rfl,rfl,h3,h7,c,T,hh,hs,hx⟩:=ha;refine dL λy hy=>?_;obtain⟨es,O,hO,he,hr⟩:=hx ix y hy;refine wW λhle=>?_;rw[Ey]at hle;have e:=wG he off i.size hle;refine hK _ _ _ (yS (rQ _ (qC _ (JH (C:=⟨w.heap,ok,m⟩) hr))) (λha=>by have:=nV e;rw[hi.one ha]at this;rw[hi.one ha];exact this)) rfl ?_;exact uh hi w e
 case dp u y off=>obtain⟨blk,o',es,rfl,hb,he,hr⟩:=hp;refine wW λhle=>?_;rw[lu]at hle;have e:=wG he off i.size hle;refine hK _ _ _ (yS (rQ _ (qC _ (nT (C:=⟨w.heap,ok,m⟩) hr))) (λha=>by have:=nV e;rw[hi.one ha]at this;rw[hi.one ha];exact this)) rfl ?_;exact uh hi w e
theorem uV(h:Array Obj)(o:Obj){b:Nat}(hb:b<h.size):(h.push o)[b]? =h[b]?:=by rw[Array.getElem?_push,if_neg o5]
theorem Rel.new(R:Rel X cl ch S m ok a w)(hn:S (X9+n)= .undef)(hcl:cl<=n)(hch:n<ch)(hv:v≠.undef)
  (hb:S9 (kW m n l ks) n v=[w.heap.size]) (hB:Bv ⟨(w.alloc obj).heap,ok,kW m n l ks⟩ n v):
  Rel X cl ch (upd S (X9+n) v) (kW m n l ks) ok a (w.alloc obj):=by
 refine R.lay hn hcl hch hv rfl rfl rfl x9 (λb hb' _=>uV _ _ hb') (by rw[hb];simp) (λb h=>?_) hB;rw[hb]at h;simp only[gJ]at h;subst h;refine⟨λt h' =>oh _ (R.okLt _ t h'),x9,.inl R.frame.size,λk h' =>oh _ (R.sep k _ h').2.1⟩
theorem Rel.newK(R:Rel X cl ch S m ok a w){T:List Nat}(hT:Tk X S m ok w T)(hn:S (X9+n)= .undef)(hcl:cl<=n)(hch:n<ch)(hv:v≠.undef)
  (hb:S9 (kW m n l ks) n v=w.heap.size::ks) (hnd:ks.Nodup) (hks:∀b∈ks,b∈T) (hB:Bv ⟨(w.alloc obj).heap,ok,kW m n l ks⟩ n v):
  Rel X cl ch (upd S (X9+n) v) (kW m n l ks) ok a (w.alloc obj):=by
 refine R.lay hn hcl hch hv rfl rfl rfl x9 (λb hb' _=>uV _ _ hb') (by rw[hb];exact bZ.2 ⟨λh=>oh _ (hT.free _ (hks _ h)).2.1,hnd⟩) (λb h=>?_) hB;rw[hb]at h;rcases A8.1 h with rfl|h
 .exact⟨λt h' =>oh _ (R.okLt _ t h'),x9,.inl R.frame.size,λk h' =>oh _ (R.sep k _ h').2.1⟩
 .obtain⟨h1,h2,h3,h4⟩:=hT.free b (hks b h);exact⟨h1,by simp;omega,h3,h4⟩
theorem Rel.le_new(R:Rel X cl ch S m ok a w)(hn:S (X9+n)= .undef)(hcl:cl<=n):Cx.le ⟨w.heap,ok,m⟩ ⟨(w.alloc obj).heap,ok,kW m n l ks⟩:=
 ⟨λ_ _ h=>h,λb t hb=>uV _ _ (R.okLt b t hb),λk x h=>by
  by_cases e:k=n
  .subst e;have:=R.fresh k hcl hn;simp only at h;rw[this]at h;cases h
  .show kW m n l ks k=some x;rw[ik _ _ _ e];exact h⟩
theorem pK(H:FxOk X)(d:Option Tmp)(hd:∀t,d=some t->t<X.E.nt):CB*q<=J9 q d/\J9 q d+64<=CB*q+CB:=by
 have:=H.nt;cases d with
 |none=>simp only[J9];show 1000000*q<=1000000*q+999936/\1000000*q+999936+64<=1000000*q+1000000;omega|some t=>simp only[J9];have h2:LT.lt (α:=Nat) t X.E.nt:=hd t rfl;clear hd;generalize X.E.nt=n at*;revert this h2;generalize (t:Nat)=t';intro this h2;show 1000000*q<=1000000*q+64*t' /\1000000*q+64*t' +64<=1000000*q+1000000;omega
theorem DY(H:FxOk X)(R:Rel X (CB*q) (CB*q+CB) S m ok a w){vv:V}{x:Value}(hv:v≠.undef)
  (hb:S9 (kW m (J9 q o.dst) l []) (J9 q o.dst) v=[w.heap.size]) (hB:S (X9+J9 q o.dst)= .undef->CB*q<=J9 q o.dst->Bv ⟨(w.alloc obj).heap,ok,kW m (J9 q o.dst) l []⟩ (J9 q o.dst) v)
  (hx:jG ⟨(w.alloc obj).heap,ok,kW m (J9 q o.dst) l []⟩ vv x) (run:(execOp a.eval o).run X.P w= .ok (.value x) (w.alloc obj)):
  (rX (J9 q o.dst) v (bY X.E o.dst vv)).post S (λ_ S' =>gB X (CB*q) (CB*q+CB) o a w m ok S'):=by
 refine oP λhn=>?_;cases hd:o.dst with
 |none=>have hin:=pK H (q:=q) none (λt h=>by cases h);rw[hd]at hn hB hb hx;have R' :=R.new hn hin.1 o5 hv hb (hB hn hin.1);have:=qg (o:=o) H R' (m0:=m) (ok0:=ok) (λk l' h=>(R.le_new (obj:=obj) hn hin.1).m k l' h) (λ_ _ h=>h) hx run;rw[hd]at this;exact this
 |some t=>unfold bY;refine aO λhb' =>?_;have hin:=pK H (q:=q) (some t) (λt' h=>by cases h;exact(yL hb').1);rw[hd]at hn hB hb hx;have R' :=R.new hn hin.1 o5 hv hb (hB hn hin.1);have:=qg (o:=o) H R' (m0:=m) (ok0:=ok) (λk l' h=>(R.le_new (obj:=obj) hn hin.1).m k l' h) (λ_ _ h=>h) hx run;rw[hd]at this;unfold bY at this;simp only[hb',cond_true]at this;exact this
theorem JG :∀{cs:List V} {vs:List Value},dX ⟨#[],λ_ _=>False,nom⟩ cs vs->dX C cs vs:=by intro cs vs h;exact CO (C:=⟨#[],λ_ _=>False,nom⟩) ⟨λ_ _ h=>h.elim,λ_ _ h=>h.elim,λ_ _ h=>by cases h⟩ h
theorem a3f(H:FxOk X)(R:Rel X (CB*q) (CB*q+CB) S m ok a w)(ho:o.op= .alloc t):(aH X.E q o).post S (λ_ S' =>gB X (CB*q) (CB*q+CB) o a w m ok S'):=by
 unfold aH;simp only[ho];refine jD H λi hi=>aO λhz=>?_;obtain⟨inf,h1,h2,h3,h4,h5⟩:=hi.info;obtain⟨z,hz1,hz2⟩:=h4 (fG hz);have hex:(execOp a.eval o).run X.P w= .ok (.value (.pointer (some ⟨w.heap.size,0,none⟩))) (w.alloc (.cells z.cells t)):=by simp[execOp,ho,Instr.alloc,zeroValue,typeInfo,h1,hz1,newVar,newRow]
 unfold b1E;split
 .rename_i hz0;rw[hz0]at hz2;obtain⟨a0,r1,e1,g1,_,v0,r2,rfl,g2,_,g3⟩:=hz2;simp only[dX]at g3;subst g3;refine DY (l:=.st w.heap.size) (obj:=.cells z.cells t) H R x9 (by simp[S9]) (λhn hc=>?_) ⟨w.heap.size,x9,rfl⟩ hex;refine⟨w.heap.size,a0,v0,x9,?_,.inl g1,g2⟩;have:=heap_alloc_new w (.cells z.cells t);rw[show z.cells=#[a0,v0]from Array.toList_inj.1 e1]at this ⊢;exact this
 .refine DY (l:=.st w.heap.size) (obj:=.cells z.cells t) H R x9 (by simp[S9]) (λhn hc=>?_) ⟨w.heap.size,x9,rfl⟩ hex;exact⟨w.heap.size,z.cells,t,x9,heap_alloc_new w _,JG hz2⟩
theorem a8v(H:FxOk X)(R:Rel X (CB*q) (CB*q+CB) S m ok a w){x:Operand}(ho:o.op= .box t x):(aH X.E q o).post S (λ_ S' =>gB X (CB*q) (CB*q+CB) o a w m ok S'):=by
 unfold aH;simp only[ho];refine Y5 R λu hu=>qH hu λcs hcs=>?_;refine DY (l:=.st w.heap.size) (obj:=.cells (a.eval x).cells t) H R x9 (by simp[S9]) (λhn hc=>?_) ⟨w.heap.size,x9,rfl⟩ ?_
 .exact⟨w.heap.size,(a.eval x).cells,t,x9,heap_alloc_new w _,CO (R.le_new hn hc) hcs⟩
 .simp[execOp,ho,Instr.box,newVar,newRow]
end
end Go.GP
namespace Go.GP
variable {α:Type}{us:List α}{L:List α}{p:Nat}
theorem pV(h:p+us.length<=L.length)(i:Nat):
  (au p us L)[i]? =if i<p then L[i]? else if i<p+us.length then us[i -p]? else L[i]?:=by
 unfold au;rw[E8];by_cases h1:i<p
 .rw[if_pos h1,U0 G6,U3,if_pos h1]
 .rw[if_neg h1,I5 G6];have e:(L.take p).length=p:=by simp;omega
  rw[e];by_cases h2:i<p+us.length
  .rw[if_pos h2,U0 o5]
  .rw[if_neg h2,I5 o5,U2];congr 1;omega
theorem rV(h:p+us.length<=L.length):(au p us L).length=L.length:=by unfold au;simp;omega
variable {b:Nat}{n:Nat}
theorem o_(h:p+us.length<=L.length)(hd:b+n<=p\/p+us.length<=b):((au p us L).drop b).take n=(L.drop b).take n:=by
 apply dV;intro i;rw[U3,U3];split
 .rw[U2,U2,pV h];rcases hd with hd|hd
  .rw[if_pos o5]
  .rw[if_neg o5,if_neg o5]
 .rfl
variable {off:Nat}
theorem Iz(h:b+n<=L.length)(ho:off+us.length<=n):((au (b+off) us L).drop b).take n=au off us ((L.drop b).take n):=by
 have hl:((L.drop b).take n).length=n:=by simp;omega
 apply dV;intro i;rw[U3,pV (by rw[hl];exact ho)];by_cases hi:i<n
 .rw[if_pos hi,U2,pV o5,U3,if_pos hi,U2];by_cases h1:i<off
  .rw[if_pos o5,if_pos h1]
  .rw[if_neg o5,if_neg h1];by_cases h2:i<off+us.length
   .rw[if_pos o5,if_pos h2];congr 1;omega
   .rw[if_neg o5,if_neg h2]
 .rw[if_neg hi,if_neg o5,if_neg o5,U3,if_neg hi]
variable {blk:Nat}
theorem Hg{w:World}{c:Array Value}{T:TypeId}{f:Nat×Nat}(hb:w.heap[blk]? =some (.cells c T f))(L:List Value)(off n:Nat)(h:off+n<=L.length):
  bF (w.setRow blk L.toArray).heap blk off n=some ((L.drop off).take n):=by
 rw[iO (setRow_heap w blk c L.toArray T f hb) off n (by simpa using h)]
theorem a2o{a b:Nat}(h:a<b):Nat.blt a b=true:=by unfold Nat.blt;exact Nat.ble_eq_true_of_le h
theorem a2n{a b:Nat}(h:¬a<b):Nat.blt a b=false:=by
 cases e:Nat.blt a b
 .rfl
 .exact absurd (Ej e) h
theorem zU{α:Type} :∀{Os:List (List α)} {i:Nat} {O1 P O2:List α},Os[i]? =some (O1++P++O2)->Os.flatten.Perm ((Os.set i (O1++O2)).flatten++P)
 |[],i,_,_,_,h=>by simp at h|A::Os,0,O1,P,O2,h=>by simp at h;subst h;simp only[List.set_cons_zero,List.flatten_cons,E8];refine nZ O1 ?_;have:=(gX (l₁:=P) (l₂:=O2++Os.flatten));simpa using this|A::Os,i+1,O1,P,O2,h=>by simp at h;simp only[List.set_cons_succ,List.flatten_cons,E8];exact nZ A (zU (by simpa using h))
variable {t:TypeId}{Op:List Nat}{k:Option Nat}{q:Nat}{x:Operand}
section
variable {X:Fx} {cl ch:Nat} {S:Sm} {m:Mp} {ok:Nat->Ty->Prop} {a:Act} {w:World} {o:Oper}
theorem a8z{h h' :Array Obj}{ok:Nat->Ty->Prop}{m:Mp}(k:∀b t,ok b t->h'[b]? =h[b]?){cs:List V}{vs:List Value}(hr:dX ⟨h,ok,m⟩ cs vs):dX ⟨h',ok,m⟩ cs vs:=
 CO (C:=⟨h,ok,m⟩) (D:=⟨h',ok,m⟩) ⟨λ_ _ h=>h,k,λ_ _ h=>h⟩ hr
theorem JC{α:Type}{Q:α->Sm->Prop}{S:Sm}{h:Array Obj}{ok:Nat->Ty->Prop} :∀(md:M) (off:Nat) {x:md.den} {es:List Value} {O:List Nat} {K:V->Cmd α} (hr:nJ h ok md none x es O)
  (hK:∀v l ks u O1 Op O2,O=O1++Op++O2->nJ h ok md (some off) x es (O1++O2)->es[off]? =some u->l.view none u->
   (∀mp n,Bv ⟨h,ok,kW mp n l ks⟩ n v/\S9 (kW mp n l ks) n v=Op/\kW mp n l ks n=some l)->v≠.undef->(K v).post S Q),
  (QS md off x K .fail).post S Q
 | .own t,off,x,es,O,K,hr,hK=>by unfold QS;refine aO λhb=>?_;have:=fG hb;subst this;obtain⟨l,v,rfl,hv,ha,rfl⟩:=vG.1 hr;refine hK _ l [] v [] l.blks [] x9 ⟨v,rfl,lI hv,rfl⟩ rfl hv (λmp n=>⟨⟨l,x9,FO ha⟩,?_,x9⟩) x9;cases l<;>first|(simp[S9,Loc.blks];done)|cases ha
 | .owns md,off,x,es,O,K,hr,hK=>by unfold QS;refine aO λhb=>?_;have:=fG hb;subst this;obtain⟨he,l,v,Os,rfl,hv,ha,rfl⟩:=wU.1 hr;refine hK _ l Os.flatten v [] (l.blks++Os.flatten) [] x9 ⟨v,rfl,lI hv,rfl⟩ rfl hv (λmp n=>⟨⟨he,l,Os,x9,⟨ha,trivial⟩,x9⟩,?_,x9⟩) x9;cases l<;>first|(simp[S9,Loc.blks];done)|cases ha
 | .pair p q,off,x,es,O,K,hr,hK=>by
  unfold QS;obtain⟨c,d,O1,O2,rfl,rfl,h1,h2⟩:=hr;have hc:=aV h1;by_cases hlt:off<p.size
  .have hb:Nat.blt off p.size=true:=a2o hlt;simp only[hb,cond_true];refine JC p off h1 λv l ks u A Op B e1 e2 e3 e4 e5 e6=>?_;refine hK v l ks u A Op (B++O2) (by subst e1;simp) ⟨c,d,A++B,O2,rfl,x9,?_,?_⟩ (by rw[U0 (by rw[hc];exact hlt)];exact e3) e4 e5 e6
   .simp only[hlt,if_true];exact e2
   .simp only[hlt,if_true];exact h2
  .have hb:Nat.blt off p.size=false:=a2n hlt;simp only[hb,cond_false];refine JC q (off -p.size) h2 λv l ks u A Op B e1 e2 e3 e4 e5 e6=>?_;refine hK v l ks u (O1++A) Op B (by subst e1;simp) ⟨c,d,O1,A++B,rfl,x9,?_,?_⟩ (by rw[I5 o5,hc];exact e3) e4 e5 e6
   .simp only[hlt,if_false];exact h1
   .simp only[hlt,if_false];exact e2
 | .dat _,_,_,_,_,_,_,_=>trivial| .unit,_,_,_,_,_,_,_=>trivial| .box _,_,_,_,_,_,_,_=>trivial| .ownb _,_,_,_,_,_,_,_=>trivial| .cell _,_,_,_,_,_,_,_=>trivial| .fr _,_,_,_,_,_,_,_=>trivial| .sbx _ _,_,_,_,_,_,_,_=>trivial| .lp _,_,_,_,_,_,_,_=>trivial| .dv ..,_,_,_,_,_,_,_=>trivial| .sit,_,_,_,_,_,_,_=>trivial| .rp _,_,_,_,_,_,_,_=>trivial| .fn _ _,_,_,_,_,_,_,_=>trivial| .ifc _ _,_,_,_,_,_,_,_=>trivial
def UN(h:Array Obj)(ok:Nat->Ty->Prop)(v:V)(u:Value)(Op:List Nat):Prop:=
 (v= .nl/\u= .slice none 0 0/\Op=[])\/(∃t ys l,v= .barr t ys/\l.view none u/\arrOk ⟨h,ok,nom⟩ t ys l/\Op=l.blks)\/
 (∃md ys l Os,v= .barrs md ys none/\md.el=true/\l.view none u/\zC h md.size (λ_ x es O=>nJ h ok md none x es O) ys Os l/\Op=l.blks++Os.flatten)
theorem UN.one{h:Array Obj}{v:V}{u:Value}(k:UN h ok v u Op):u.oneCell' =true:=by
 rcases k with⟨_,rfl,_⟩|⟨_,_,l,_,hv,_⟩|⟨_,_,l,_,_,_,hv,_⟩
 .rfl
 .exact lI hv
 .exact lI hv
theorem MC{α:Type}{Q:α->Sm->Prop}{S:Sm}{h:Array Obj}{ok:Nat->Ty->Prop}{v:V}{u:Value}{Op:List Nat}(hp:UN h ok v u Op):∀(md:M) (off:Nat) {ho:Option Nat} {x:md.den} {es:List Value} {O:List Nat} {K:md.den->Cmd α}
  (hr:nJ h ok md ho x es O) (hh:ho=none\/ho=some off) (hel:md.el=true)
  (hK:∀y O1 Old O2,O=O1++Old++O2->nJ h ok md none y (es.set off u) (O1++Op++O2)->off<es.length->(K y).post S Q),
  (Ze md off v x K .fail).post S Q
 | .own t,off,ho,x,es,O,K,hr,hh,hel,hK=>by
  unfold Ze;refine aO λhb=>?_;have:=fG hb;subst this;obtain⟨v0,rfl,_,_⟩:=hr;rcases hp with⟨rfl,rfl,rfl⟩|⟨t',ys,l,rfl,hv,ha,rfl⟩|⟨md',ys,l,Os,rfl,_,hv,ha,rfl⟩
  .have ht:t.isEnt=false:=by simpa[M.el]using hel
   simp only[ht,cond_false];exact hK [] [] O [] x9 ⟨_,rfl,rfl,.nil,rfl,⟨rfl,ht⟩,rfl⟩ x9
  .simp only;refine dN λe=>?_;subst e;exact hK _ [] O [] x9 ⟨u,rfl,lI hv,l,hv,ha,x9⟩ x9
  .trivial
 | .owns md,off,ho,x,es,O,K,hr,hh,hel,hK=>by
  unfold Ze;refine aO λhb=>?_;have:=fG hb;subst this;obtain⟨v0,rfl,_,_⟩:=hr;rcases hp with⟨rfl,rfl,rfl⟩|⟨t',ys,l,rfl,hv,ha,rfl⟩|⟨md',ys,l,Os,rfl,he,hv,ha,rfl⟩
  .exact hK [] [] O [] x9 ⟨_,rfl,rfl,by simpa[M.el]using hel,.nil,[],rfl,⟨rfl,rfl⟩,rfl⟩ x9
  .trivial
  .simp only;refine PS λe=>?_;subst e;exact hK _ [] O [] x9 ⟨u,rfl,lI hv,he,l,Os,hv,ha,x9⟩ x9
 | .pair p q,off,ho,x,es,O,K,hr,hh,hel,hK=>by
  unfold Ze;obtain⟨c,d,O1,O2,rfl,rfl,h1,h2⟩:=hr;have hc:=aV h1;have hel' :p.el=true/\q.el=true:=by simpa[M.el]using hel
  by_cases hlt:off<p.size
  .have hb:Nat.blt off p.size=true:=a2o hlt;simp only[hb,cond_true];have h2' :nJ h ok q none x.2 d O2:=by
    rcases hh with rfl|rfl
    .exact h2
    .simpa only[hlt,if_true]using h2
   refine MC hp p off h1 (by rcases hh with rfl|rfl<;>first|exact .inl rfl|(right;simp only[hlt,if_true])) hel'.1 λy A Old B e1 e2 e3=>?_;refine hK _ A Old (B++O2) (by subst e1;simp) ⟨c.set off u,d,A++Op++B,O2,?_,x9,e2,h2'⟩ G6;rw[List.set_append_left _ _ o5]
  .have hb:Nat.blt off p.size=false:=a2n hlt;simp only[hb,cond_false];have h1' :nJ h ok p none x.1 c O1:=by
    rcases hh with rfl|rfl
    .exact h1
    .simpa only[hlt,if_false]using h1
   refine MC hp q (off -p.size) h2 (by rcases hh with rfl|rfl<;>first|exact .inl rfl|(right;simp only[hlt,if_false])) hel'.2 λy A Old B e1 e2 e3=>?_;refine hK _ (O1++A) Old B (by subst e1;simp) ⟨c,d.set (off -p.size) u,O1,A++Op++B,?_,x9,h1',e2⟩ G6;rw[og _ _ o5,hc]
 | .dat _,_,_,_,_,_,_,_,_,_,_=>trivial| .unit,_,_,_,_,_,_,_,_,_,_=>trivial| .box _,_,_,_,_,_,_,_,_,_,_=>trivial| .ownb _,_,_,_,_,_,_,_,_,_,_=>trivial| .cell _,_,_,_,_,_,_,_,_,_,_=>trivial| .fr _,_,_,_,_,_,_,_,_,_,_=>trivial| .sbx _ _,_,_,_,_,_,_,_,_,_,_=>trivial| .lp _,_,_,_,_,_,_,_,_,_,_=>trivial| .dv ..,_,_,_,_,_,_,_,_,_,_=>trivial| .sit,_,_,_,_,_,_,_,_,_,_=>trivial| .rp _,_,_,_,_,_,_,_,_,_,_=>trivial| .fn _ _,_,_,_,_,_,_,_,_,_,_=>trivial| .ifc _ _,_,_,_,_,_,_,_,_,_,_=>trivial
theorem CW{α:Type}{Q:α->Sm->Prop}{C:Cx}{ln:Ty->Bool} :∀(t:Ty) {cs:List V} {K:t.den->List V->Cmd α} {S:Sm} {vs:List Value} (hf:t.flat=true) (hL:dX C cs vs)
  (hK:∀x r us us',vs=us++us' ->(∀h ok,jH h ok t x us)->dX C r us' ->(K x r).post S Q),(kC ln t cs K).post S Q
 | .bool,cs,K,S,vs,hf,hL,hK=>by
  unfold kC;split
  .obtain⟨v,r,rfl,h1,_,h3⟩:=hL;exact hK _ _ [v] r rfl (λ_ _=>by simp only[rJ]at h1;simp[jH,h1]) h3
  .trivial
 | .int k,cs,K,S,vs,hf,hL,hK=>by
  unfold kC;split
  .obtain⟨v,r,rfl,h1,_,h3⟩:=hL;refine cO λe=>?_;have e:=of_decide_eq_true e;subst e;exact hK _ _ [v] r rfl (λ_ _=>by simp only[rJ]at h1;simp[jH,h1]) h3
  .trivial
 | .str,cs,K,S,vs,hf,hL,hK=>by
  unfold kC;split
  .obtain⟨v,r,rfl,h1,_,h3⟩:=hL;exact hK _ _ [v] r rfl (λ_ _=>by simp only[rJ]at h1;simp[jH,h1]) h3
  .trivial
 | .unit,cs,K,S,vs,hf,hL,hK=>by unfold kC;exact hK _ _ [] vs rfl (λ_ _=>rfl) hL
 | .prod p q,cs,K,S,vs,hf,hL,hK=>by unfold kC;simp[Ty.flat]at hf;refine CW p hf.1 hL λx r us us' e1 h1 l1=>?_;refine CW q hf.2 l1 λy r' vs2 vs2' e2 h2 l2=>?_;subst e1;subst e2;exact hK _ _ (us++vs2) vs2' x9 (λh ok=>⟨us,vs2,rfl,h1 h ok,h2 h ok⟩) l2| .sl t,cs,K,S,vs,hf,hL,hK=>by simp[Ty.flat]at hf
theorem Yc{us c d:List α}(h:off+us.length<=c.length):au off us (c++d)=au off us c++d:=by
 apply dV;intro i;have hs:=rV h;rw[pV G6];by_cases hi:i<c.length
 .rw[U0 hi,U0 (l₁:=au off us c) (by rw[hs];exact hi),pV h]
 .rw[I5 o5,I5 (l₁:=au off us c) (by rw[hs];omega),hs,if_neg o5,if_neg o5]
theorem Wi{us c d:List α}(h:(off -c.length)+us.length<=d.length)(h' :c.length<=off):au off us (c++d)=c++au (off -c.length) us d:=by
 apply dV;intro i;rw[pV G6];by_cases hi:i<c.length
 .rw[U0 hi,if_pos o5,U0 hi]
 .rw[I5 o5,I5 (l₂:=au (off -c.length) us d) o5,pV h];by_cases h1:i<off
  .simp only[h1,if_true,show i -c.length<off -c.length by omega]
  .by_cases h2:i<off+us.length
   .simp only[h1,if_false,h2,if_true,show ¬(i -c.length<off -c.length) by omega,show i -c.length<off -c.length+us.length by omega];congr 1;omega
   .simp only[h1,if_false,h2,show ¬(i -c.length<off -c.length) by omega,show ¬(i -c.length<off -c.length+us.length) by omega]
theorem LQ{α:Type}{Q:α->Sm->Prop}{h:Array Obj}{ok:Nat->Ty->Prop}{m:Mp} :∀(md:M) (off:Nat) {ho:Option Nat} {x:md.den} {es us:List Value} {vs:List V} {O:List Nat} {K:md.den->Cmd α} {S:Sm}
  (hr:nJ h ok md ho x es O) (hv:dX ⟨h,ok,m⟩ vs us)
  (hK:∀y,off+us.length<=es.length->nJ h ok md ho y (au off us es) O->(K y).post S Q),(a1a md off vs x K).post S Q
 | .dat t,off,ho,x,es,us,vs,O,K,S,hr,hv,hK=>by
  unfold a1a;refine cO λhf=>yN _ _ _ λhle=>?_;rw[lu]at hle;obtain⟨hr,rfl⟩:=hr;have hl:=dD hr;have hlv:=iZ hv;have hnew:=zu (off:=off) hv (nT (C:=⟨h,ok,m⟩) hr);refine CW t hf hnew λy q vs1 vs2 e1 h1 l1=>?_;cases q with
  |cons _ _=>trivial|nil=>
  simp only[dX]at l1;subst l1;simp only[F6]at e1;subst e1;exact hK y o5 ⟨h1 _ _,rfl⟩
 | .pair p q,off,ho,x,es,us,vs,O,K,S,hr,hv,hK=>by
  unfold a1a;obtain⟨c,d,O1,O2,rfl,rfl,h1,h2⟩:=hr;have hc:=aV h1;by_cases hlt:off<p.size
  .have hb:Nat.blt off p.size=true:=a2o hlt;simp only[hb,cond_true];refine LQ p off h1 hv λy hle e2=>?_;exact hK _ G6 ⟨_,d,O1,O2,Yc hle,rfl,e2,h2⟩
  .have hb:Nat.blt off p.size=false:=a2n hlt;simp only[hb,cond_false];refine LQ q (off -p.size) h2 hv λy hle e2=>?_;refine hK _ G6 ⟨c,_,O1,O2,?_,rfl,h1,e2⟩;rw[Wi o5 o5,hc]
 | .own _,_,_,_,_,_,_,_,_,_,_,_,_=>trivial| .owns _,_,_,_,_,_,_,_,_,_,_,_,_=>trivial| .unit,_,_,_,_,_,_,_,_,_,_,_,_=>trivial| .box _,_,_,_,_,_,_,_,_,_,_,_,_=>trivial| .ownb _,_,_,_,_,_,_,_,_,_,_,_,_=>trivial| .cell _,_,_,_,_,_,_,_,_,_,_,_,_=>trivial| .fr _,_,_,_,_,_,_,_,_,_,_,_,_=>trivial| .sbx _ _,_,_,_,_,_,_,_,_,_,_,_,_=>trivial| .lp _,_,_,_,_,_,_,_,_,_,_,_,_=>trivial| .dv ..,_,_,_,_,_,_,_,_,_,_,_,_=>trivial| .sit,_,_,_,_,_,_,_,_,_,_,_,_=>trivial| .rp _,_,_,_,_,_,_,_,_,_,_,_,_=>trivial| .fn _ _,_,_,_,_,_,_,_,_,_,_,_,_=>trivial| .ifc _ _,_,_,_,_,_,_,_,_,_,_,_,_=>trivial
theorem a1k(i:Nat):Ti none i=none:=rfl
theorem Qv{i o j:Nat}(h:j≠i):Ti (some (i,o,k)) j=none:=by simp[Ti,h]
theorem Uc{i o:Nat} :Ti (some (i,o,k)) i=some o:=by simp[Ti]
theorem Rn{C:Cx}{md:M}{xs:List md.den}{hole:Option (Nat×Nat×Option Nat)}{blk off len cap sz:Nat}{Os:List (List Nat)}(he:md.el=true)(hm:C.m n=some (.arr blk off len cap sz))
  (ha:zC C.h md.size (λi x es O=>nJ C.h C.ok md (Ti hole i) x es O) xs Os (.arr blk off len cap sz)) (hk:C.m.kid n=Os.flatten) (hh:Qw C md.size (.arr blk off len cap sz) hole):Bv C n (.barrs md xs hole):=⟨he,_,Os,hm,⟨ha,hh⟩,hk⟩
theorem Gi{j o2 idx off:Nat}(h:Vk (some (j,o2,k)) idx off=true):j=idx/\o2=off:=by
 simp only[Vk]at h;cases hb:Nat.beq o2 off<;>rw[hb]at h
 .cases h
 .exact⟨fG h,fG hb⟩
theorem a1s(H:FxOk X){S1:Sm}{m1:Mp}{ok1:Nat->Ty->Prop}{w0:World}(R:Rel X (CB*q) (CB*q+CB) S1 m1 ok1 a w)(hT:Tk X S1 m1 ok1 w Op)
  (hm:∀k l,m k=some l->m1 k=some l) (hok:∀b t,ok b t->ok1 b t) {v:V} {l:Loc} {ks:List Nat} {x:Value} (hv:v≠.undef)
  (ho:S9 (kW m1 (J9 q o.dst) l ks) (J9 q o.dst) v=Op) (hB:Bv ⟨w.heap,ok1,kW m1 (J9 q o.dst) l ks⟩ (J9 q o.dst) v)
  (hx:l.view none x) {bx idx off:Nat} {md:M} {xs:List md.den} (hS:S1 (X9+bx)= .barrs md xs (some (idx,off,none))) {blk o' len cap sz:Nat} (hmb:m1 bx=some (.arr blk o' len cap sz))
  (hc:bF w.heap blk (o' +idx*md.size+off) 1=some [x]) (hsz:sz=md.size)
  (run:(execOp a.eval o).run X.P w0= .ok (.value x) w):
  (rX (J9 q o.dst) v (Cmd.set (X9+bx) (.barrs md xs (some (idx,off,some (J9 q o.dst)))) (bY X.E o.dst (.own (J9 q o.dst) none)))).post S1 (λ_ S' =>gB X (CB*q) (CB*q+CB) o a w0 m ok S'):=by
 refine oP λhn=>?_;have key:∀n,n=J9 q o.dst->CB*q<=n->n<CB*q+CB->∃R2:Rel X (CB*q) (CB*q+CB) (upd (upd S1 (X9+n) v) (X9+bx) (.barrs md xs (some (idx,off,some n)))) (kW m1 n l ks) ok1 a w,∀k l',m k=some l' ->kW m1 n l ks k=some l' :=by
  rintro n rfl h1 h2;obtain⟨R',_,hm'⟩:=R.adopt (T:=[]) hn h1 hv (by simpa using hT) (λb h=>by rw[ho]at h;exact h) (by rw[ho];exact hT.nodup) hB;rw[Nat.max_eq_left o5]at R';have hne:bx≠J9 q o.dst:=λe=>by have:=R.fresh _ h1 hn;rw[←e,hmb]at this;cases this
  have hS' :upd S1 (X9+J9 q o.dst) v (X9+bx)= .barrs md xs (some (idx,off,none)):=by rw[aK _ _ o5];exact hS
  have hb:=R'.box bx;rw[hS']at hb;obtain⟨hel,l0,Os,hm0,⟨ha,_⟩,hk⟩:=hb;have hmb' :=hm' _ _ hmb;simp only at hm0;rw[hmb']at hm0;cases hm0;refine⟨R'.mod (by rw[hS'];rfl) x9 rfl rfl rfl rfl (λ_ _=>rfl) ⟨hel,_,Os,hmb',⟨?_,?_⟩,hk⟩,λk l' h=>hm' k l' (hm k l' h)⟩
  .exact BP (λ_ _=>rfl) (λi x es O _ hr=>hr) ha
  .exact⟨blk,o',len,cap,x,l,by rw[hsz],hc,Z7 _ _ _ _,hx⟩
 cases hd:o.dst with
 |none=>have hin:=pK H (q:=q) none (λt h=>by cases h);obtain⟨R2,hm2⟩:=key (J9 q none) (by rw[hd]) hin.1 o5;have:=qg (o:=o) H R2 (m0:=m) (ok0:=ok) hm2 hok (v:=.own (J9 q none) none) ⟨l,Z7 _ _ _ _,hx⟩ run;rw[hd]at this;exact this
 |some t=>unfold bY;refine gz (aO λhb' =>?_);have hin:=pK H (q:=q) (some t) (λt' h=>by cases h;exact(yL hb').1);obtain⟨R2,hm2⟩:=key (J9 q (some t)) (by rw[hd]) hin.1 o5;have:=qg (o:=o) H R2 (m0:=m) (ok0:=ok) hm2 hok (v:=.own (J9 q (some t)) none) ⟨l,Z7 _ _ _ _,hx⟩ run;rw[hd]at this;unfold bY at this;simp only[hb',cond_true]at this;exact this
theorem a6o(H:FxOk X)(R:Rel X (CB*q) (CB*q+CB) S m ok a w)(ho:o.op= .load t x):(aH X.E q o).post S (λ_ S' =>gB X (CB*q) (CB*q+CB) o a w m ok S'):=by
 unfold aH;simp only[ho];refine Y5 R λp hp=>?_;have plain:(IW X.E t p λv=>bY X.E o.dst v).post S (λ_ S' =>gB X (CB*q) (CB*q+CB) o a w m ok S'):=by refine EJ H R hp λv u ad hv hx hr=>ak H R hv ?_;simp[execOp,ho,hx,Instr.loadAt,Instr.sureAddr,hr]
 unfold a7D;split
 .rename_i bx idx off;refine aP ?_;split
  .rename_i md xs hS;cases hown:md.ownAt off
   .simpa only[cond_false]using plain
   simp only[cond_true];refine jD H λi hi=>cO λhi1=>?_;simp only[A7,bg]at hi1;obtain⟨hsz,hagg⟩:=hi1;have hsz:=fG hsz;have hp' :=hp;obtain⟨blk,o',len,cap,sz,hm,hlt,hx⟩:=hp;obtain⟨hel,l,Os,hm',⟨ha,hho⟩,hk⟩:=R.own_barrs hS;simp only at hm;rw[hm]at hm';cases hm';cases Bf (match o.dst with|some d=>d|none=>X9) X.E.tk<;>simp only[cond_true,cond_false]
   .refine Az (T:=[]) (.sl md.ty) R Tk.nil (cs:=[.own bx none]) (vs:=[.slice (some ⟨blk,o',none⟩) len cap]) ⟨_,_,rfl,⟨_,hm,rfl⟩,rfl,rfl⟩ λS1 ok1 _ _ us us' R1 T1 k1 s1 e1 h1 l1=>?_;refine EJ H R1 (Iu k1 hp') λv u ad hv hx hr=>qg H R1 (λ_ _ h=>h) k1 hv ?_;simp[execOp,ho,hx,Instr.loadAt,Instr.sureAddr,hr]
   .refine dL λe0 he0=>?_;obtain⟨rfl,rfl,h3,h7,c,T,hh,hs,hxs⟩:=ha;obtain⟨es,O,hO,he,hr⟩:=hxs idx e0 he0;refine JC md off hr λv l2 ks u O1 Op O2 eO hr' hu hv hB hvu=>?_;refine gz ?_;have hOs:Os.flatten.Perm ((Os.set idx (O1++O2)).flatten++Op):=zU (by rw[hO,eO]);have hown0:S9 m bx (S (X9+bx))=blk::Os.flatten:=by simp[S9,hS,hm,hk]
    have hown1:S9 (BN m bx (Os.set idx (O1++O2)).flatten) bx (.barrs md xs (some (idx,off,none)))=blk::(Os.set idx (O1++O2)).flatten:=by simp[S9,hm]
    have hnd:=R.nd bx;rw[hown0]at hnd;have hperm:(blk::Os.flatten).Perm ((blk::(Os.set idx (O1++O2)).flatten)++Op):=by simpa using hOs.cons blk
    have hnd' :=X0.1 (hperm.nodup_iff.1 hnd);have hB1:Bv ⟨w.heap,ok,BN m bx (Os.set idx (O1++O2)).flatten⟩ bx (.barrs md xs (some (idx,off,none))):=by
     refine Rn (Os:=Os.set idx (O1++O2)) hel hm ⟨rfl,rfl,h3,by simp[h7],c,T,hh,hs,λj z hz=>?_⟩ x9 trivial;by_cases hj:j=idx
     .subst hj;rw[show xs[j]? =some e0 from he0]at hz;cases hz;refine⟨es,O1++O2,?_,he,by simp only[Uc];exact hr'⟩;rw[Y2,if_pos rfl,if_pos (by rw[h7];exact hlt)]
     .obtain⟨es2,O',hO2,he2,hr2⟩:=hxs j z hz;refine⟨es2,O',?_,he2,by simp only[Qv hj];exact hr2⟩;rw[Y2,if_neg (λe=>hj e.symm)];exact hO2
    obtain⟨R1,T1⟩:=R.modK (T:=[]) Tk.nil (n:=bx) (v:=.barrs md xs (some (idx,off,none))) (ks:=(Os.set idx (O1++O2)).flatten) (w' :=w) (T' :=Op) x9 (by rw[hown1];exact hnd'.1)
     (λb hb=> .inl (by rw[hown0];rw[hown1]at hb;exact hperm.mem_iff.2 (fK _ hb))) rfl rfl rfl rfl (λ_ _=>rfl) hB1 hnd'.2.1
     (λb hb=>⟨.inl (by rw[hown0];exact hperm.mem_iff.2 (jM _ hb)),λh=>hnd'.2.2 b (by rw[hown1]at h;exact h) b hb rfl⟩)
    obtain⟨hB2,hB3,hB4⟩:=hB (BN m bx (Os.set idx (O1++O2)).flatten) (J9 q o.dst);have hlt2:=(ax.1 hu);have hle:off+1<=md.size:=by have:=aV hr;have:=hlt2.1;omega
    have e:=wG he off i.size o5;have hr2:=uh hi w e;have h1:(es.drop off).take i.size=[u]:=by obtain⟨hlt3,rfl⟩:=hlt2;rw[hsz,cZ hlt3];rfl
    refine a1s (ok:=ok) (m:=m) H R1 T1 (λ_ _ h=>h) (λ_ _ h=>h) hvu hB3 hB2 hv (by rw[jW]) hm (by rw[←h1,←hsz];exact e) rfl ?_;rw[h1,hagg]at hr2;simp[execOp,ho,hx,Instr.loadAt,Instr.sureAddr,hr2,Lu]
  .rename_i md xs i2 o2 n2 hS;cases hown:md.ownAt off
   .simpa only[cond_false]using plain
   simp only[cond_true];refine jD H λi hi=>cO λhi1=>⟨λhat=>?_,λ_=>trivial⟩;simp only[A7,bg]at hi1;obtain⟨hsz,hagg⟩:=hi1;have hsz:=fG hsz;obtain⟨e1,e2⟩:=Gi hat
   subst e1;subst e2;obtain⟨blk,o',len,cap,sz,hm,hlt,hx⟩:=hp;obtain⟨hel,l,Os,hm',⟨ha,blk',off',len',cap',u,l',hl,hc,hmn,hvw⟩,hk⟩:=R.own_barrs hS;simp only at hm;rw[hm]at hm';cases hm';cases hl;have e:bF w.heap blk (o' +i2*md.size+o2) i.size=some [u]:=by rw[hsz];exact hc
   have hr2:=uh hi w e;rw[hagg]at hr2;refine ak H R (v:=.own n2 none) (x:=u) ⟨l',hmn,hvw⟩ ?_;simp[execOp,ho,hx,Instr.loadAt,Instr.sureAddr,hr2,Lu]
  .exact plain
 .exact plain
theorem Fa{S' :Sm}{x y:Operand}{w' :World}{m' :Mp}{ok' :Nat->Ty->Prop}(ho:o.op= .store t x y)(hd:o.dst=none)(run:(Instr.storeAt t (a.eval x) (a.eval y)).run X.P w= .ok () w')
  (R:Rel X cl ch S' m' ok' a w') (hm:∀k l,m k=some l->m' k=some l) (hok:∀b t,ok b t->ok' b t):gB X cl ch o a w m ok S' :=by
 intro next Q hn
 unfold Oper.wp;have e:(execOp a.eval o).run X.P w= .ok .skip w' :=by simp[execOp,ho,run]
 rw[e,Oper.upon_skip,hd];exact hn m' ok' a w' R hm hok
theorem n_{u:α}(h:off<L.length):au off [u] L=L.set off u:=by
 apply dV;intro i;rw[pV G6,Y2];by_cases h1:i=off
 .subst h1;rw[if_neg o5,if_pos x9,if_pos rfl,if_pos h];simp
 .by_cases h2:i<off
  .rw[if_pos h2,if_neg o5]
  .rw[if_neg h2,if_neg G6,if_neg o5]
theorem a0Y{u:Value}(h:u.oneCell' =true):u.cells.toList=[u]:=by cases u<;>simp[Value.oneCell',Value.cells]at*
theorem Ry{w:World}{blk o' sz len cap off idx:Nat}{c:Array Value}{T:TypeId}{f:Nat×Nat}(hh:w.heap[blk]? =some (.cells c T f))(hs:o' +cap*sz<=c.size)(hlc:len<=cap)(hlt:idx<len){us es:List Value}
  (he:bF w.heap blk (o' +idx*sz) sz=some es) (hf:off+us.length<=sz):
  o' +idx*sz+off+us.length<=c.size/\(au (o' +idx*sz+off) us c.toList).length=c.size/\
  bF (w.setRow blk (au (o' +idx*sz+off) us c.toList).toArray).heap blk (o' +idx*sz) sz=some (au off us es)/\
  (∀j,j<len->j≠idx->bF (w.setRow blk (au (o' +idx*sz+off) us c.toList).toArray).heap blk (o' +j*sz) sz=bF w.heap blk (o' +j*sz) sz):=by
 have hcap:(idx+1)*sz<=cap*sz:=D7 _ o5;rw[I7,Y3]at hcap;have hfit:o' +idx*sz+off+us.length<=c.size:=o5;have hcl:c.toList.length=c.size:=x9;have hsp:(au (o' +idx*sz+off) us c.toList).length=c.size:=by rw[rV (by rw[hcl];exact hfit)];exact hcl
 refine⟨hfit,hsp,?_,λj hj hne=>?_⟩
 .rw[Hg hh _ _ _ (by rw[hsp];omega),Iz (by rw[hcl];omega) o5];obtain⟨c2,T2,f2,hb2,hn2,rfl⟩:=qN he;rw[hh]at hb2;cases hb2;rfl
 .have hcap' :(j+1)*sz<=cap*sz:=D7 _ o5;rw[I7,Y3]at hcap';rw[Hg hh _ _ _ (by rw[hsp];omega),iO hh _ _ o5,o_ (by rw[hcl];exact hfit)];rcases Nat.lt_or_gt_of_ne hne with hlt'|hgt
  .left;have:(j+1)*sz<=idx*sz:=D7 _ o5;rw[I7,Y3]at this;omega
  .right;have:(idx+1)*sz<=j*sz:=D7 _ o5;rw[I7,Y3]at this;omega
theorem OD{Q:Unit->Sm->Prop}(R:Rel X cl ch S m ok a w)(hT:Tk X S m ok w Op){i:TI}(hi:TiOk X.P t i)(h1:i.size=1){bx idx off:Nat}{md:M}{xs:List md.den}{hole:Option (Nat×Nat×Option Nat)}
  (hS:S (X9+bx)= .barrs md xs hole) {blk o' len cap sz:Nat} (hm:m bx=some (.arr blk o' len cap sz)) {v:V} {u:Value} (hp:UN w.heap ok v u Op)
  (hK:∀S' m' w',Rel X cl ch S' m' ok a w' ->(∀k l,m k=some l->m' k=some l)->(storeVar t ⟨blk,o' +idx*sz+off,none⟩ u).run X.P w= .ok () w' ->Q () S'):
  (Wj bx idx off md xs hole v (.ret ())).post S Q:=by
 unfold Wj;refine⟨λhb=>?_,λ_=>trivial⟩;refine dL λe0 he0=>?_;have he0' :xs[idx]? =some e0:=he0;obtain⟨hel,l,Os,hm',⟨ha,hho⟩,hk⟩:=R.own_barrs hS;rw[hm]at hm';cases hm';obtain⟨rfl,rfl,h3,h7,c,T,hh,hs,hxs⟩:=ha;obtain⟨es,O,hO,he,hr⟩:=hxs idx e0 he0';have hho:Ti hole idx=none\/Ti hole idx=some off:=by
  rcases hole with _|⟨j,o2,o3⟩
  .exact .inl rfl
  .obtain⟨e1,e2⟩:=Gi hb;subst e1;subst e2;exact .inr Uc
 have hho' :∀j,j≠idx->Ti hole j=none:=λj hj=>by
  rcases hole with _|⟨j',o2,o3⟩
  .rfl
  .obtain⟨e1,_⟩:=Gi hb;subst e1;exact Qv hj
 refine MC hp md off hr hho hel λy O1 Old O2 eO hr' hoff=>gz ?_;have hlt:idx<xs.length:=(ax.1 he0').1;have hes:es.length=md.size:=aV hr;have hu1:=hp.one;have huc:=a0Y hu1;obtain⟨hfit,hsp,hnew,hold⟩:=Ry (us:=[u]) (off:=off) hh hs h3 hlt he G6;have run:=Ae hi w (off:=o' +idx*md.size+off) hh (.inl rfl) (v:=u) (by have:=congrArg List.length huc;simp at this;omega) (by simpa[h1]using hfit) (by rw[huc];simp[hu1]);rw[huc]at run;generalize hw' :w.setRow blk (au (o' +idx*md.size+off) [u] c.toList).toArray=w' at run hnew hold;have hrow:w'.heap[blk]? =some (.cells (au (o' +idx*md.size+off) [u] c.toList).toArray T (0,0)):=by subst hw';exact setRow_heap w blk c _ T (0,0) hh
 have hoth:∀b,b≠blk->w'.heap[b]? =w.heap[b]?:=λb hb=>by subst hw';exact setRow_other w blk b _ hb
 have hsize:w'.heap.size=w.heap.size:=by subst hw';simp
 have hos:w'.os=w.os:=by subst hw';rfl
 have htp:w'.tape=w.tape:=by subst hw';rfl
 have hout:w'.output=w.output:=by subst hw';rfl
 have hO1:Os.flatten.Perm ((Os.set idx (O1++O2)).flatten++Old):=zU (by rw[hO,eO]);have hO2:(Os.set idx (O1++Op++O2)).flatten.Perm ((Os.set idx (O1++O2)).flatten++Op):=by have:=zU (Os:=Os.set idx (O1++Op++O2)) (i:=idx) (O1:=O1) (P:=Op) (O2:=O2) (by rw[Y2,if_pos rfl,if_pos (by rw[h7];exact hlt)]);rwa[List.set_set]at this
 have hown0:S9 m bx (S (X9+bx))=blk::Os.flatten:=by simp[S9,hS,hm,hk]
 have hown1:S9 (BN m bx (Os.set idx (O1++Op++O2)).flatten) bx (.barrs md (qR xs idx y) none)=blk::(Os.set idx (O1++Op++O2)).flatten:=by simp[S9,hm]
 have hnd:=R.nd bx;rw[hown0]at hnd;have hnd0:=bZ.1 hnd;have hndA:=X0.1 (hO1.nodup_iff.1 hnd0.2);have hfreeOp:∀b∈Op,b∉blk::Os.flatten:=λb hb h=>(hT.free b hb).2.2.2 bx (by rw[hown0];exact h);have hsubA:∀b∈(Os.set idx (O1++O2)).flatten,b∈Os.flatten:=λb hb=>hO1.mem_iff.2 (fK _ hb);have hneO:∀b∈Os.flatten,b≠blk:=λb hb e=>hnd0.1 (e▸hb);have hneP:∀b∈Op,b≠blk:=λb hb e=>hfreeOp b hb (by simp[e]);have hkeep:∀b t,ok b t->w'.heap[b]? =w.heap[b]?:=λb t hb=>hoth b (λe=>(R.sep bx blk (by rw[hown0];simp)).1 t (e▸hb));have hB:Bv ⟨w'.heap,ok,BN m bx (Os.set idx (O1++Op++O2)).flatten⟩ bx (.barrs md (qR xs idx y) none):=by
  refine Rn (Os:=Os.set idx (O1++Op++O2)) hel hm ⟨rfl,by simp[qR],h3,by simp[h7,qR],_,T,hrow,by simp[hsp];exact hs,λj z hz=>?_⟩ x9 trivial;unfold qR at hz;rw[Y2]at hz;split at hz
  .rename_i hj;subst hj;cases hz;refine⟨_,O1++Op++O2,by rw[Y2,if_pos rfl,if_pos (by rw[h7];exact hlt)],hnew,?_⟩;rw[n_ o5];refine jf (λ_ _ h=>h) hkeep (λb hb=>hoth b ?_) hr';rcases O8.1 hb with hb|hb
   .rcases O8.1 hb with hb|hb
    .exact hneO b (bJ.2 ⟨O,mJ hO,by rw[eO];simp[hb]⟩)
    .exact hneP b hb
   .exact hneO b (bJ.2 ⟨O,mJ hO,by rw[eO];simp[hb]⟩)
  .rename_i hj;obtain⟨es2,O',hO2',he2,hr2⟩:=hxs j z hz;refine⟨es2,O',by rw[Y2,if_neg hj];exact hO2',by rw[←he2];exact hold j (ax.1 hz).1 (λe=>hj e.symm),?_⟩;simp only[a1k];rw[hho' j (λe=>hj e.symm)]at hr2;exact jf (λ_ _ h=>h) hkeep (λb hb=>hoth b (hneO b (bJ.2 ⟨O',mJ hO2',hb⟩))) hr2
 have hmod:=R.modK hT (n:=bx) (v:=.barrs md (qR xs idx y) none) (ks:=(Os.set idx (O1++Op++O2)).flatten) (w' :=w') (T' :=[]) x9
  (by
   rw[hown1];refine bZ.2 ⟨λh=>?_,hO2.nodup_iff.2 (X0.2 ⟨hndA.1,hT.nodup,λx hx z hz e=>?_⟩)⟩
   .rcases O8.1 (hO2.mem_iff.1 h)with h|h
    .exact hnd0.1 (hsubA _ h)
    .exact hneP _ h rfl
   .subst e;exact hfreeOp x hz (by simp[hsubA x hx]))
  (λb hb=>by
   rw[hown1]at hb;rw[hown0];rcases A8.1 hb with hb|hb
   .exact .inl (by simp[hb])
   .rcases O8.1 (hO2.mem_iff.1 hb)with h|h
    .exact .inl (by simp[hsubA _ h])
    .exact .inr h)
  hos htp hout hsize (λb hb=>hoth b (λe=>hb (by rw[hown0,e];simp))) hB bU (λb hb=>by cases hb)
 exact hK _ _ w' hmod.1 (λ_ _ h=>h) run
theorem a3n(H:FxOk X)(R:Rel X cl ch S m ok a w){x y:Operand}(ho:o.op= .store t x y):(aH X.E q o).post S (λ_ S' =>gB X cl ch o a w m ok S'):=by
 unfold aH;simp only[ho];cases hd:o.dst with
 |some d=>trivial|none=>
 refine Y5 R λp hp=>Y5 R λv hv=>?_;unfold a5A;refine jD H λi hi=>?_;cases p<;>try trivial
 case ptr bx off=>
  obtain⟨blk,hm,hx⟩:=hp;refine aP ?_;split<;>try trivial
  rename_i cs hS;obtain⟨blk',arr,T,hm',hh,hl⟩:=R.own_cells hS;simp only at hm hm';rw[hm]at hm';cases hm';refine qH hv λvs hvs=>cO λhlen=>yN _ _ _ λhle=>gz ?_;have hlen' :=fG hlen;have hL:=iZ hl;have hL2:=iZ hvs;have hsz:(a.eval y).cells.size=i.size:=by simp at hL2;omega
  have hown:S9 m bx (S (X9+bx))=[blk]:=by simp[S9,hS,hm]
  have hfit:off+i.size<=arr.size:=by simp at hL;omega
  have run:=Ae hi w hh (.inl rfl) (v:=a.eval y) hsz hfit (KY hvs);refine Fa ho hd (w' :=w.setRow blk (au off (a.eval y).cells.toList arr.toList).toArray) (by simp[Instr.storeAt,Instr.sureAddr,hx,run]) ?_ (λ_ _ h=>h) (λ_ _ h=>h);refine R.mod (by rw[hown];simp[S9,hm]) x9 rfl rfl rfl x9 (λb hb=>setRow_other w blk b _ (by rw[hown]at hb;simpa using hb)) ?_;refine⟨blk,_,T,hm,setRow_heap w blk arr _ T (0,0) hh,?_⟩;refine a8z (λb t hb=>setRow_other w blk b _ (λe=>(R.sep bx blk (by rw[hown];simp)).1 t (e▸hb))) ?_;simpa using zu hvs hl
 case ep bx ix off=>
  obtain⟨blk,o',len,cap,sz,hm,hlt,hx⟩:=hp;simp only at hm;refine aP ?_;split<;>try trivial
  .rename_i u xs hS;obtain⟨l,hm',ha⟩:=R.own_arr hS;rw[hm]at hm';cases hm';obtain⟨hE0,rfl,rfl,h3,c,T,f,hh,hz,hs,hxs⟩:=ha;refine dL λe0 he0=>?_;obtain⟨es,he,hr⟩:=hxs ix e0 he0;refine qH hv λvs hvs=>cO λhlen=>yN _ _ _ λhle=>?_;rw[lu]at hle;have hlen' :=fG hlen;have hL2:=iZ hvs;have hsz:(a.eval y).cells.size=i.size:=by simp at hL2;omega
   have hes:=nV he;have hnew:=zu (off:=off) hvs (nT (C:=⟨w.heap,ok,m⟩) hr);refine Az (T:=[]) u R Tk.nil hnew λS1 ok1 y1 q1 us us' R1 T1 k1 s1 e1 h1 l1=>?_;cases q1 with
   |cons _ _=>trivial|nil=>
   simp only[dX]at l1;subst l1;simp only[F6]at e1;subst e1;refine aP ?_;split<;>try trivial
   rename_i u' xs' hS1;refine dN λe=>?_;subst e;refine gz ?_;obtain⟨l,hm',ha⟩:=R1.own_arr hS1;rw[hm]at hm';cases hm';obtain⟨_,hszu,hlen2,h3',c',T',f',hh',hz',hs',hxs'⟩:=ha;rw[hh]at hh';cases hh';have hown:S9 m bx (S1 (X9+bx))=[blk]:=by simp[S9,hS1,hm]
   have hvl:(a.eval y).cells.toList.length=i.size:=by simpa using hsz
   obtain⟨hfit,hsp,hnew2,hold⟩:=Ry (us:=(a.eval y).cells.toList) (off:=off) hh hs h3 hlt he (by rw[hvl];omega);have run:=Ae hi w (off:=o' +ix*u'.size+off) hh hz.of (v:=a.eval y) hsz (by rw[hvl]at hfit;exact hfit) (KY hvs);refine Fa ho hd (w' :=w.setRow blk (au (o' +ix*u'.size+off) (a.eval y).cells.toList c.toList).toArray) (by simp[Instr.storeAt,Instr.sureAddr,hx,run]) ?_ (λ_ _ h=>h) k1;refine R1.mod (by rw[hown];simp[S9,hm]) x9 rfl rfl rfl x9 (λb hb=>setRow_other w blk b _ (by rw[hown]at hb;simpa using hb)) ?_;have hkeep:∀b t,ok1 b t->(w.setRow blk (au (o' +ix*u'.size+off) (a.eval y).cells.toList c.toList).toArray).heap[b]? =w.heap[b]?:=
    λb t hb=>setRow_other w blk b _ (λe=>(R1.sep bx blk (by rw[hown];simp)).1 t (e▸hb))
   refine⟨_,hm,hE0,rfl,by simp[qR,hlen2],h3,_,T,f,setRow_heap w blk c _ T f hh,by rw[aj,hsp];exact hz,by simp[hsp];exact hs,λj z hz=>?_⟩;unfold qR at hz;rw[Y2]at hz;split at hz
   .rename_i hj;subst hj;split at hz
    .cases hz;exact⟨_,hnew2,dE (λ_ _ h=>h) hkeep h1⟩
    .cases hz
   .rename_i hj;obtain⟨es2,he2,hr2⟩:=hxs' j z hz;have hj2:=(ax.1 hz).1;exact⟨_,(hold j (by rw[hlen2];exact hj2) (λe=>hj e.symm)).trans he2,dE (λ_ _ h=>h) hkeep hr2⟩
  .rename_i md xs hole hS;cases hcd:(md.ownAt off&&Nat.beq i.size 1&&!aN i.td)
   .simp only[cond_false];cases hole with
    |some _=>trivial|none=>
    refine qH hv λvs hvs=>cO λhlen=>dL λe0 he0=>?_;have he0' :xs[ix]? =some e0:=he0;obtain⟨hel,l,Os,hm',⟨ha,hho⟩,hk⟩:=R.own_barrs hS;rw[hm]at hm';cases hm';obtain⟨rfl,rfl,h3,h7,c,T,hh,hs,hxs⟩:=ha;obtain⟨es,O,hO,he,hr⟩:=hxs ix e0 he0';refine LQ md off hr hvs λy1 hle hr' =>gz ?_;have hes:es.length=md.size:=aV hr;have hlen' :=fG hlen;have hL2:=iZ hvs;have hsz:(a.eval y).cells.size=i.size:=by simp at hL2;omega
    have hvl:(a.eval y).cells.toList.length=i.size:=by simpa using hsz
    obtain⟨hfit,hsp,hnew2,hold⟩:=Ry (us:=(a.eval y).cells.toList) (off:=off) hh hs h3 hlt he o5;have run:=Ae hi w (off:=o' +ix*md.size+off) hh (.inl rfl) (v:=a.eval y) hsz (by rw[hvl]at hfit;exact hfit) (KY hvs);have hown:S9 m bx (S (X9+bx))=blk::Os.flatten:=by simp[S9,hS,hm,hk]
    have hnd:=R.nd bx;rw[hown]at hnd;have hnd0:=bZ.1 hnd;have hneO:∀b∈Os.flatten,b≠blk:=λb hb e=>hnd0.1 (e▸hb);refine Fa ho hd (w' :=w.setRow blk (au (o' +ix*md.size+off) (a.eval y).cells.toList c.toList).toArray) (by simp[Instr.storeAt,Instr.sureAddr,hx,run]) ?_ (λ_ _ h=>h) (λ_ _ h=>h);have hkeep:∀b t,ok b t->(w.setRow blk (au (o' +ix*md.size+off) (a.eval y).cells.toList c.toList).toArray).heap[b]? =w.heap[b]?:=
     λb t hb=>setRow_other w blk b _ (λe=>(R.sep bx blk (by rw[hown];simp)).1 t (e▸hb))
    refine R.mod (by rw[hown];simp[S9,hm,hk]) x9 rfl rfl rfl x9 (λb hb=>setRow_other w blk b _ (λe=>hb (by rw[hown,e];simp))) ?_;refine Rn (Os:=Os) hel hm ⟨rfl,by simp[qR],h3,by simp[h7,qR],_,T,setRow_heap w blk c _ T (0,0) hh,by simp[hsp];exact hs,λj z hz=>?_⟩ hk trivial;unfold qR at hz;rw[Y2]at hz;split at hz
    .rename_i hj;subst hj;cases hz;exact⟨_,O,hO,hnew2,jf (λ_ _ h=>h) hkeep (λb hb=>setRow_other w blk b _ (hneO b (bJ.2 ⟨O,mJ hO,hb⟩))) hr'⟩
    .rename_i hj;obtain⟨es2,O2,hO2,he2,hr2⟩:=hxs j z hz;have hj2:=(ax.1 hz).1;exact⟨_,O2,hO2,(hold j o5 (λe=>hj e.symm)).trans he2,jf (λ_ _ h=>h) hkeep (λb hb=>setRow_other w blk b _ (hneO b (bJ.2 ⟨O2,mJ hO2,hb⟩))) hr2⟩
   .simp only[cond_true];simp only[A7,bg]at hcd;obtain⟨⟨_,hsz1⟩,_⟩:=hcd;have hsz1:=fG hsz1;have fin:∀{S' :Sm} {m' :Mp} {w' :World},Rel X cl ch S' m' ok a w' ->(∀k l,m k=some l->m' k=some l)->(storeVar t ⟨blk,o' +ix*sz+off,none⟩ (a.eval y)).run X.P w= .ok () w' ->gB X cl ch o a w m ok S' :=
     λR' hm' run=>Fa ho hd (by simp[Instr.storeAt,Instr.sureAddr,hx,run]) R' hm' (λ_ _ h=>h)
    split
    .have hv' :a.eval y= .slice none 0 0:=hv;exact OD (Op:=[]) R Tk.nil hi hsz1 hS hm (.inl ⟨rfl,hv',rfl⟩) (λS' m' w' R' h' run=>fin R' h' run)
    .rename_i b2;obtain⟨l2,hm2,hv2⟩:=hv;simp only at hm2;refine aP ?_;refine cO λharr=>gz (aP ?_);split<;>try trivial
     rename_i md2 xs2 hole2 hS2;have T1:=Tk.kill R (T:=[]) Tk.nil b2 (bs:=S9 m b2 (S (X9+b2))) (λ_ h=>h) (R.nd b2);rw[F7]at T1;refine OD (R.kill b2) T1 hi hsz1 hS2 hm ?_ (λS' m' w' R' h' run=>fin R' h' run);cases hb2:S (X9+b2)<;>rw[hb2]at harr<;>try cases harr
     .rename_i t2 ys;obtain⟨l',hm',ha'⟩:=R.own_arr hb2;rw[hm2]at hm';cases hm';refine .inr (.inl ⟨t2,ys,l2,rfl,hv2,FO ha',?_⟩);cases l2<;>first|(simp[S9,hm2,Loc.blks];done)|cases ha'
     .rename_i md3 ys hole3;obtain⟨hel3,l',Os,hm',⟨ha',hho⟩,hk'⟩:=R.own_barrs hb2;rw[hm2]at hm';cases hm';rcases hole3 with _|⟨p1,p2,p3⟩
      .refine .inr (.inr ⟨md3,ys,l2,Os,rfl,hel3,hv2,ha',?_⟩);cases l2<;>first|(simp[S9,hm2,Loc.blks,hk'];done)|cases ha'
      .cases harr
    .trivial
end
end Go.GP
namespace Go.GP
variable {α:Type}{t:TypeId}{q:Nat}{sz:Nat}{f:Nat}{P:Program}{j:TI}{x:Operand}{Q:α->Sm->Prop}
section
variable {X:Fx} {cl ch:Nat} {S:Sm} {m:Mp} {ok:Nat->Ty->Prop} {a:Act} {w:World} {o:Oper}
theorem Dh(H:FxOk X){t f off n:Nat}{ag:Bool}(h:Gf X.E t f=some (off,n,ag)):
  ∃fields fld j,X.P.underlying t=some (.struct fields)/\fields[f]? =some fld/\fld.offset=off/\TiOk X.P fld.type j/\j.size=n/\n≠0/\ag=aN j.td:=by
 unfold Gf at h;cases hi:bP X.E.tt t with
 |none=>simp[hi]at h|some i=>
  have Hi:=H.tt t i hi;have htd:=Hi.td;simp only[hi]at h;cases hd:i.td<;>simp only[hd]at h<;>try (simp at h;done)
  rename_i fs;rw[hd]at htd;obtain⟨fields,hu,hf⟩:=htd;cases hfs:fs[f]? with
  |none=>simp[hfs]at h|some x=>
   obtain⟨ft,off'⟩:=x;simp only[hfs]at h;cases hj:bP X.E.tt ft with
   |none=>simp[hj]at h|some j=>
    simp only[hj]at h;cases hb:Nat.beq j.size 0
    .simp only[hb,cond_false,E5,jo]at h;obtain⟨rfl,rfl,rfl⟩:=h;rw[←hf]at hfs;simp only[fP,ed]at hfs;obtain⟨fld,hfl,he⟩:=hfs;simp only[jo]at he;obtain⟨rfl,rfl⟩:=he;refine⟨fields,fld,j,hu,by simpa using hfl,rfl,H.tt _ _ hj,rfl,λe=>?_,rfl⟩;rw[e]at hb;simp at hb
    .simp[hb]at h
theorem GY{t f off:Nat}{fields:Array Field}{fld:Field}(w:World)(hu:P.underlying t=some (.struct fields))(hf:fields[f]? =some fld)(ho:fld.offset=off)
  (hj:TiOk P fld.type j) (hn:j.size≠0) (b p:Nat):(Instr.fieldAt t (.pointer (some ⟨b,p,none⟩)) f).run P w= .ok (.pointer (some ⟨b,p+off,none⟩)) w:=by
 simp[Instr.fieldAt,run_underlying hu,hf,Instr.sureAddr,fieldPlace,oz hj,hn,fC,ho]
theorem Vs(H:FxOk X)(R:Rel X cl ch S m ok a w)(ho:o.op= .fieldAddr t x f):(aH X.E q o).post S (λ_ S' =>gB X cl ch o a w m ok S'):=by
 unfold aH;simp only[ho];refine Y5 R λp hp=>?_;split<;>try trivial
 rename_i off n ag hfo;obtain⟨fields,fld,j,hu,hf,hoff,hj,hn,hn0,_⟩:=Dh H hfo;have hj0:j.size≠0:=o5;cases p<;>try trivial
 case ptr bx o' =>obtain⟨blk,h1,h2⟩:=hp;exact ak H R (v:=.ptr bx (o' +off)) ⟨blk,h1,rfl⟩ (by simp[execOp,ho,h2,GY w hu hf hoff hj hj0])
 case ep bx ix o' =>obtain⟨blk,o2,len,cap,sz,h1,h2,h3⟩:=hp;exact ak H R (v:=.ep bx ix (o' +off)) ⟨blk,o2,len,cap,sz,h1,h2,rfl⟩ (by simp[execOp,ho,h3,GY w hu hf hoff hj hj0,dY])
 case dp u y o' =>obtain⟨blk,o2,es,h1,h2⟩:=hp;exact ak H R (v:=.dp u y (o' +off)) ⟨blk,o2,es,rfl,h2⟩ (by simp[execOp,ho,h1,GY w hu hf hoff hj hj0,dY])
theorem a3j(H:FxOk X)(R:Rel X cl ch S m ok a w)(ho:o.op= .field t x f):(aH X.E q o).post S (λ_ S' =>gB X cl ch o a w m ok S'):=by
 unfold aH;simp only[ho];refine Y5 R λp hp=>?_;split<;>try trivial
 rename_i off n ag hfo;obtain⟨fields,fld,j,hu,hf,hoff,hj,hn,hn0,rfl⟩:=Dh H hfo;refine zk hp λps us hg hl=>wW λhle=>?_;obtain⟨arr,hx,rfl⟩:=hg;have hL:=iZ hl;have hlen:((arr.toList.drop off).take n).length=n:=by simp at hL ⊢;omega
 refine ak H R (yS (rQ n (qC off hl)) (λha=>by rw[hlen,←hn];exact hj.one ha)) ?_;have hpart:(part fld.type arr off).run X.P w= .ok (Lu (aN j.td) ((arr.toList.drop off).take n)) w:=by
  unfold part;rw[G8,Aw hj.td];simp only[G9];cases ha:aN j.td
  .have h1:=hj.one ha;have hlt:off<arr.size:=by simp at hL;omega
   simp only[dI,if_false,Lu];rw[show arr[off]? =some arr[off]from by simp[hlt]];have:n=1:=o5;subst this;simp[List.take_one,hlt]
  .simp only[if_true,Lu,G8,oz hj,G9,hn,U7];congr 2;apply jk;simp[kP]
 simp[execOp,ho,hx,Instr.field,run_underlying hu,hf,asAgg,hoff,hpart]
theorem Eo(H:FxOk X){t n sz:Nat}(h:En X.E t=some (false,n,sz)):∃e j,X.P.underlying t=some (.slice e)/\TiOk X.P e j/\j.size=sz:=by
 unfold En at h;cases hi:bP X.E.tt t with
 |none=>simp[hi]at h|some i=>
  have htd:=(H.tt t i hi).td;simp only[hi]at h;cases hd:i.td<;>simp only[hd]at h<;>try (simp at h;done)
  .rename_i e;rw[hd]at htd;cases hj:bP X.E.tt e with
   |none=>simp[hj]at h|some j=>simp[hj]at h;exact⟨e,j,htd,H.tt _ _ hj,h.2⟩
  .rename_i l e;cases hj:bP X.E.tt e<;>simp[hj]at h
theorem YO(H:FxOk X){t n sz:Nat}(h:En X.E t=some (true,n,sz)):∃e j,X.P.underlying t=some (.array n e)/\TiOk X.P e j/\j.size=sz:=by
 unfold En at h;cases hi:bP X.E.tt t with
 |none=>simp[hi]at h|some i=>
  have htd:=(H.tt t i hi).td;simp only[hi]at h;cases hd:i.td<;>simp only[hd]at h<;>try (simp at h;done)
  .rename_i e;cases hj:bP X.E.tt e<;>simp[hj]at h
  .rename_i l e;rw[hd]at htd;cases hj:bP X.E.tt e with
   |none=>simp[hj]at h|some j=>simp[hj]at h;obtain⟨rfl,h⟩:=h;exact⟨e,j,htd,H.tt _ _ hj,h⟩
theorem xn{l:List α}{n:Int}{y:α}(h:J8 l n=some y):0<=n/\l[n.toNat]? =some y/\n.toNat<l.length/\n<l.length:=by
 unfold J8 at h;split at h
 .rename_i h0;have:=(ax.1 h).1;exact⟨h0,h,this,o5⟩
 .cases h
theorem ug{t e:TypeId}(w:World)(hu:P.underlying t=some (.slice e))(hj:TiOk P e j){k:IntKind}{n:Int}{b p len cap:Nat}(h0:0<=n)(hlt:n<len):
  (Instr.indexAt t (.slice (some ⟨b,p,none⟩) len cap) (.int k n)).run P w= .ok (.pointer (some ⟨b,p+n.toNat*j.size,none⟩)) w:=by
 simp[Instr.indexAt,asIntOf,run_underlying hu,h0,hlt,oz hj,fC]
theorem Lm{t e:TypeId}(w:World){len:Nat}(hu:P.underlying t=some (.array len e))(hj:TiOk P e j){k:IntKind}{n:Int}{b p:Nat}(h0:0<=n)(hlt:n<len):
  (Instr.indexAt t (.pointer (some ⟨b,p,none⟩)) (.int k n)).run P w= .ok (.pointer (some ⟨b,p+n.toNat*j.size,none⟩)) w:=by
 simp[Instr.indexAt,asIntOf,run_underlying hu,h0,hlt,oz hj,fC,Instr.sureAddr]
theorem Ez{w:World}{r:Nat}{es:Array MapEntry}{ck:Nat}(hb:w.heap[r]? =some (.map es ck)):(getObj r).run P w= .ok (.map es ck) w:=by simp[getObj,Sem.run,hb]
theorem zA{u:Ty}(h:szB sz u=true):u.isEnt=false/\sz=u.size:=by
 unfold szB at h;cases hu:u.isEnt<;>rw[hu]at h
 .exact⟨rfl,fG h⟩
 .cases h
theorem a2a{C:Cx}{t:Ty}{xs:List t.den}{l:Loc}{vw:Option (Nat×Nat)}{v:Value}(h0:t.isEnt=false)(ha:arrOk C t xs l)(hv:l.view vw v){i:Nat}{y:t.den}(hy:(iq vw xs)[i]? =some y):
  ∃blk off len cap,l= .arr blk off len cap t.size/\xs[Xg vw+i]? =some y/\∃p c,v= .slice (some ⟨blk,p,none⟩) (iq vw xs).length c/\p+i*t.size=off+(Xg vw+i)*t.size:=by
 cases l with
 |nil=>obtain⟨ha,_⟩:=ha;subst ha;rcases vw with _|⟨lo,hi⟩<;>simp[iq,iY]at hy
 |st b=>cases ha|mp b=>exact absurd ha.1 (by simp[h0])|arr blk off len cap sz=>
  obtain⟨_,rfl,rfl,hc,_⟩:=ha;rcases vw with _|⟨lo,hi⟩
  .simp only[Loc.view]at hv;subst hv;exact⟨blk,off,_,cap,rfl,by simpa[Xg,iq]using hy,off,cap,rfl,by simp[Xg]⟩
  .obtain⟨h1,h2,rfl⟩:=hv;have hl:(iq (some (lo,hi)) xs).length=hi -lo:=by simp[iq,iY];omega
   have hi' :i<hi -lo:=by rw[←hl];exact(ax.1 hy).1
   have hx' :xs[lo+i]? =some y:=by
    simp only[iq,iY,U2,U3]at hy;split at hy
    .exact hy
    .cases hy
   have hne:cap≠lo:=o5;exact⟨blk,off,_,cap,rfl,hx',off+lo*t.size,cap -lo,by rw[hl];simp[hne],by simp[Xg,I7];omega⟩
theorem Vt(H:FxOk X)(R:Rel X cl ch S m ok a w){x ix:Operand}(ho:o.op= .indexAddr t x ix):(aH X.E q o).post S (λ_ S' =>gB X cl ch o a w m ok S'):=by
 unfold aH;simp only[ho];refine Y5 R λu hu=>Y5 R λv hv=>?_;unfold Qx;split<;>try trivial
 ·
  rename_i k n l sz hsz;obtain⟨e,j,hut,hj,hjs⟩:=Eo H hsz;have hix:=qF hv;cases u<;>try trivial
  case sl u xs=>refine aO λhb=>dL λy hy=>?_;obtain⟨hE0,hb'⟩:=zA hb;obtain⟨h0,hget,hlt,hlt'⟩:=xn hy;obtain⟨ad,cap,hx,hc,hel⟩:=(wE hE0).1 hu;simp only[F8,and_true]at hx;obtain⟨blk,off,es,rfl,hok,he,hr⟩:=hel _ y hget;refine ak H R (v:=.dp u y 0) (x:=.pointer (some ⟨blk,off+n.toNat*u.size,none⟩)) ⟨blk,off+n.toNat*u.size,es,rfl,hok,he,hr⟩ ?_;simp[execOp,ho,hx,hix,ug w hut hj h0 hlt',hjs,hb']
  case own bx vw=>
   obtain⟨loc,hm,hview⟩:=hu;refine aP ?_;split
   .rename_i ln sz' hSl;split<;>try trivial
    refine cO λhb=>⟨λhin=>?_,λ_=>trivial⟩;have hb' :=fG hb;have hin' :=of_decide_eq_true (show decide (0<=n/\n<ln)=true from hin);have hbx:=R.box (Ji+bx);rw[hSl]at hbx;obtain⟨k',l',e,hm',hl⟩:=hbx;have e' :k' =bx:=o5;subst e';simp only at hm hm';rw[hm]at hm';cases hm';cases loc with
    |nil=>simp only at hl;omega|st b=>cases hl|mp b=>cases hl|arr blk off len cap sz2=>obtain⟨rfl,rfl⟩:=hl;simp only[Loc.view]at hview;refine ak H R (v:=.ep k' (aW n) 0) (x:=.pointer (some ⟨blk,off+n.toNat*sz',none⟩)) ⟨blk,off,len,cap,sz',hm,by unfold aW;omega,rfl⟩ ?_;simp[execOp,ho,hview,hix,ug w hut hj hin'.1 hin'.2,hjs,hb']
   refine aP ?_;split<;>try trivial
   .rename_i u xs hS;refine aO λhb=>dL λy hy=>?_;obtain⟨hE0,hb'⟩:=zA hb;obtain⟨h0,hget,hlt,hlt'⟩:=xn hy;obtain⟨loc',hm',ha⟩:=R.own_arr hS;simp only at hm;rw[hm]at hm';cases hm';obtain⟨blk,off,len,cap,rfl,hx2,p,c,hvv,hp⟩:=a2a hE0 ha hview hget;have hlen:=ha.2.2.1;have hlt2:=(ax.1 hx2).1;rw[a5Z];refine ak H R (v:=.ep bx (Xg vw+aW n) 0) (x:=.pointer (some ⟨blk,p+n.toNat*u.size,none⟩)) ⟨blk,off,len,cap,u.size,hm,by rw[hlen];exact hlt2,by rw[hp];rfl⟩ ?_;simp[execOp,ho,hvv,hix,ug w hut hj h0 hlt',hjs,hb']
   .rename_i u xs hS;refine aO λhb=>dL λy hy=>?_;obtain⟨hE0,hb'⟩:=zA hb;obtain⟨h0,hget,hlt,hlt'⟩:=xn hy;obtain⟨loc',hm',ha,hok⟩:=R.own_frz hS;simp only at hm;rw[hm]at hm';cases hm';obtain⟨ad,cap,hx,hc,hel⟩:=(wE hE0).1 (mF (C:=⟨w.heap,ok,m⟩) ha hview (λ_ _ h=>h) hok);simp only[F8,and_true]at hx;obtain⟨blk,off,es,rfl,hok',he,hr⟩:=hel _ y hget;refine ak H R (v:=.dp u y 0) (x:=.pointer (some ⟨blk,off+n.toNat*u.size,none⟩)) ⟨blk,off+n.toNat*u.size,es,rfl,hok',he,hr⟩ ?_;simp[execOp,ho,hx,hix,ug w hut hj h0 hlt',hjs,hb']
   .rename_i md xs hole hS;split<;>try trivial
    refine cO λhb=>dL λy hy=>?_;have hb' :=fG hb;obtain⟨h0,hget,hlt,hlt'⟩:=xn hy;obtain⟨hel,loc',Os,hm',⟨ha,hho⟩,hk⟩:=R.own_barrs hS;simp only at hm;rw[hm]at hm';cases hm';cases loc with
    |st b=>cases ha|mp b=>cases ha|nil=>obtain⟨e1,_⟩:=ha;subst e1;simp at hlt
    |arr blk off len cap sz' =>obtain⟨rfl,rfl,h3,_⟩:=ha;simp only[Loc.view]at hview;refine ak H R (v:=.ep bx (aW n) 0) (x:=.pointer (some ⟨blk,off+n.toNat*md.size,none⟩)) ⟨blk,off,xs.length,cap,md.size,hm,hlt,rfl⟩ ?_;simp[execOp,ho,hview,hix,ug w hut hj h0 hlt',hjs,hb']
 ·
  rename_i k n l sz hsz;obtain⟨e,j,hut,hj,hjs⟩:=YO H hsz;have hix:=qF hv;cases u<;>try trivial
  case glob g=>
   cases hg:bP X.E.gl g with
   |none=>simp only[hg];trivial|some p=>
   obtain⟨u,xs⟩:=p;simp only[hg];refine aO λhb=>dL λy hy=>?_;simp only[A7]at hb;have hb1:=fG hb.1;have hb2:=fG hb.2;obtain⟨h0,hget,hlt,hlt'⟩:=xn hy;obtain⟨hok,_,hel⟩:=R.gl g _ hg;obtain⟨es,he,hr⟩:=hel _ y hget;have hx:a.eval x= .pointer (some ⟨g,0,none⟩):=hu;refine ak H R (v:=.dp u y 0) (x:=.pointer (some ⟨g,0+n.toNat*u.size,none⟩)) ⟨g,n.toNat*u.size,es,x9,hok,he,hr⟩ ?_;have:=Lm w hut hj (k:=k) (b:=g) (p:=0) h0 (by rw[hb2];exact hlt');simp only[hjs,hb1]at this;simp[execOp,ho,hx,hix,this]
  case ptr bx off=>refine⟨λhin=>?_,λ_=>trivial⟩;have hin' :=of_decide_eq_true (show decide (0<=n/\n<(l:Int))=true from hin);obtain⟨blk,hm,hx⟩:=hu;refine ak H R (v:=.ptr bx (off+aW n*sz)) (x:=.pointer (some ⟨blk,off+n.toNat*sz,none⟩)) ⟨blk,hm,rfl⟩ ?_;have:=Lm w hut hj (k:=k) (b:=blk) (p:=off) hin'.1 hin'.2;simp only[hjs]at this;simp[execOp,ho,hx,hix,this]
theorem Qz(R:Rel X cl ch S m ok a w){sz fo:Nat}{c:V}{u:Value}(hu:rJ ⟨w.heap,ok,m⟩ c u){K:V->Cmd α}
  (hK:∀r y,jG ⟨w.heap,ok,m⟩ r y->(∃b bo n k,u= .slice (some ⟨b,bo,none⟩) n k/\0<=O6 .i64 (n:Int) 1/\O6 .i64 (n:Int) 1<(n:Int)/\y= .pointer (some ⟨b,bo+(O6 .i64 (n:Int) 1).toNat*sz+fo,none⟩))->(K r).post S Q):
  (Z_ sz fo c K).post S Q:=by
 unfold Z_;split<;>try trivial
 .rename_i u' xs;refine aO λhb=>dL λy hy=>?_;obtain⟨hE0,hb'⟩:=zA hb;obtain⟨h0,hget,hlt,hlt'⟩:=xn hy;obtain⟨ad,cap,hx,hc,hel⟩:=(wE hE0).1 hu;simp only[F8,and_true]at hx;obtain⟨blk,off,es,rfl,hok,he,hr⟩:=hel _ y hget;refine hK (.dp u' y fo) _ ⟨blk,off+(O6 .i64 (o8 xs) 1).toNat*u'.size,es,rfl,hok,he,hr⟩ ⟨blk,off,xs.length,cap,hx,h0,hlt',?_⟩;rw[hb'];rfl
 .rename_i bx;obtain⟨loc,hm,hview⟩:=hu;refine aP ?_;split
  .rename_i ln sz' hSl;refine cO λhb=>⟨λhin=>?_,λ_=>trivial⟩;have hb' :=fG hb;have hin' :=of_decide_eq_true (show decide (0<=O6 .i64 ln 1/\O6 .i64 ln 1<ln)=true from hin);have hbx:=R.box (Ji+bx);rw[hSl]at hbx;obtain⟨k',l',e,hm',hl⟩:=hbx;have e' :k' =bx:=o5;subst e';simp only at hm hm';rw[hm]at hm';cases hm';cases loc with
   |nil=>simp only at hl;omega|st b=>cases hl|mp b=>cases hl|arr blk off len cap sz2=>obtain⟨rfl,rfl⟩:=hl;simp only[Loc.view]at hview;refine hK (.ep k' (aW (O6 .i64 (len:Int) 1)) fo) (.pointer (some ⟨blk,off+(O6 .i64 (len:Int) 1).toNat*sz' +fo,none⟩)) ⟨blk,off,len,cap,sz',hm,by unfold aW;omega,rfl⟩ ⟨blk,off,len,cap,hview,hin'.1,hin'.2,?_⟩;rw[hb']
  refine aP ?_;split<;>try trivial
  .rename_i u xs hS;refine aO λhb=>dL λy hy=>?_;obtain⟨hE0,hb'⟩:=zA hb;obtain⟨h0,hget,hlt,hlt'⟩:=xn hy;obtain⟨loc',hm',ha⟩:=R.own_arr hS;simp only at hm;rw[hm]at hm';cases hm';cases loc with
   |nil=>obtain⟨e1,_⟩:=ha;subst e1;simp at hlt
   |st b=>cases ha|mp b=>rw[ha.1]at hE0;cases hE0|arr blk off len cap sz2=>obtain⟨_,rfl,rfl,_⟩:=ha;simp only[Loc.view]at hview;refine hK (.ep bx (aW (O6 .i64 (o8 xs) 1)) fo) (.pointer (some ⟨blk,off+(O6 .i64 (o8 xs) 1).toNat*u.size+fo,none⟩)) ⟨blk,off,xs.length,cap,u.size,hm,hlt,rfl⟩ ⟨blk,off,xs.length,cap,hview,h0,hlt',?_⟩;rw[hb'];rfl
  .rename_i u xs hS;refine aO λhb=>dL λy hy=>?_;obtain⟨hE0,hb'⟩:=zA hb;obtain⟨h0,hget,hlt,hlt'⟩:=xn hy;obtain⟨loc',hm',ha,hok⟩:=R.own_frz hS;simp only at hm;rw[hm]at hm';cases hm';obtain⟨ad,cap,hx,hc,hel⟩:=(wE hE0).1 (mF (C:=⟨w.heap,ok,m⟩) (vw:=none) ha hview (λ_ _ h=>h) hok);simp only[F8,and_true]at hx;obtain⟨blk,off,es,rfl,hok',he,hr⟩:=hel _ y hget;refine hK (.dp u y fo) _ ⟨blk,off+(O6 .i64 (o8 xs) 1).toNat*u.size,es,rfl,hok',he,hr⟩ ⟨blk,off,xs.length,cap,hx,h0,hlt',?_⟩;rw[hb'];rfl
  .rename_i md xs hole hS;refine cO λhb=>dL λy hy=>?_;have hb' :=fG hb;obtain⟨h0,hget,hlt,hlt'⟩:=xn hy;obtain⟨hel,loc',Os,hm',⟨ha,hho⟩,hk⟩:=R.own_barrs hS;simp only at hm;rw[hm]at hm';cases hm';cases loc with
   |st b=>cases ha|mp b=>cases ha|nil=>obtain⟨e1,_⟩:=ha;subst e1;simp at hlt
   |arr blk off len cap sz' =>obtain⟨rfl,rfl,h3,_⟩:=ha;simp only[Loc.view]at hview;refine hK (.ep bx (aW (O6 .i64 (o8 xs) 1)) fo) (.pointer (some ⟨blk,off+(O6 .i64 (o8 xs) 1).toNat*md.size+fo,none⟩)) ⟨blk,off,xs.length,cap,md.size,hm,hlt,rfl⟩ ⟨blk,off,xs.length,cap,hview,h0,hlt',?_⟩;rw[hb'];rfl
theorem Oo{C:Cx}{c:V}{vs:List Value}(h:dX C [c] vs):∃v,vs=[v]/\rJ C c v:=by obtain⟨v,r,rfl,h1,h2,h3⟩:=h;simp only[dX]at h3;subst h3;exact⟨v,rfl,h1⟩
theorem JD(R:Rel X cl ch S m ok a w){off sz fo:Nat}{p:V}{x:Value}(hp:jG ⟨w.heap,ok,m⟩ p x){K:V->Cmd α}
  (hK:∀r y,jG ⟨w.heap,ok,m⟩ r y->Jj w.heap x off sz fo y->(K r).post S Q):(Xw off sz fo p K).post S Q:=by
 unfold Xw;split<;>try trivial
 .rename_i bx o;obtain⟨blk,hm,rfl⟩:=hp;refine aP ?_;split<;>try trivial
  rename_i cs hS;obtain⟨blk',arr,T,hm',hh,hl⟩:=R.own_cells hS;simp only at hm;rw[hm]at hm';cases hm';refine wW λhle=>?_;have hlen:=iZ hl;have e:=iO hh (o+off) 1 (by simp at hlen;omega);have hl1:=rQ 1 (qC (o+off) hl);split<;>try trivial
  rename_i c hc;rw[hc]at hl1;obtain⟨u,hu,hr⟩:=Oo hl1;rw[hu]at e;refine Qz R hr λr y h1 ⟨b,bo,n,k,h2,h3,h4,h5⟩=>hK r y h1 ⟨blk,o,b,bo,n,k,rfl,by rw[e,h2],h3,h4,h5⟩
 .rename_i t z o;obtain⟨blk,o',es,rfl,hb,he,hr⟩:=hp;refine wW λhle=>?_;rw[lu]at hle;have e:=wG he (o+off) 1 hle;have hl1:=rQ 1 (qC (o+off) (nT (C:=⟨w.heap,ok,m⟩) hr));split<;>try trivial
  rename_i c hc;rw[hc]at hl1;obtain⟨u,hu,hr⟩:=Oo hl1;rw[hu]at e;refine Qz R hr λr y h1 ⟨b,bo,n,k,h2,h3,h4,h5⟩=>hK r y h1 ⟨blk,o' +o,b,bo,n,k,rfl,by rw[dY,e,h2],h3,h4,h5⟩
theorem Xo{C:Cx} :∀{vs:List V} {xs:List Value} (k:Nat),fU C vs xs->a6j vs k= .un\/∃x,xs[k]? =some x/\jG C (a6j vs k) x
 |[],_,k,_=> .inl (by cases k<;>rfl)|v::r,_,0,⟨x,xr,e,h1,h2⟩=> .inr ⟨x,by subst e;rfl,h1⟩|v::r,_,k+1,⟨x,xr,e,h1,h2⟩=>by subst e;rw[mf];exact Xo k h2
theorem a2w(R:Rel X cl ch S m ok a w){all:List V}{xall:List Value}(hall:fU ⟨w.heap,ok,m⟩ all xall):∀(ms:List MG) {vs:List V} {xs:List Value} {K:Cmd α}
  (hv:fU ⟨w.heap,ok,m⟩ vs xs) (hK:a0R w.heap xall ms xs->K.post S Q),(dvC all ms vs K).post S Q:=by
 intro ms;induction ms with
 |nil=>
  intro vs xs K hv hK;cases vs with
  |nil=>exact hK trivial|cons v vs=>trivial
 |cons md ms ih=>
  intro vs xs K hv hK;obtain⟨g,md⟩:=md;cases vs with
  |nil=>cases md<;>trivial|cons v vs=>
   obtain⟨x,r,rfl,h1,h2⟩:=hv;cases md
   case dv k off sz fo=>
    unfold dvC;rcases Xo k hall with e|⟨p,hp,hr⟩
    .rw[e];trivial
    .refine JD R hr λr0 y h3 h4=>?_;unfold b1G;split<;>try trivial
     rename_i n i o n' i' o';refine aO λhb=>⟨λhi=>?_,λ_=>trivial⟩;simp only[A7]at hb;have e1:=fG hb.1;have e2:=fG hb.2;have e3:=fG hi;subst e1;subst e2;subst e3;obtain⟨b1,o1,l1,c1,s1,m1,_,rfl⟩:=h1;obtain⟨b2,o2,l2,c2,s2,m2,_,rfl⟩:=h3;simp only at m1 m2;rw[m1]at m2;cases m2;exact ih h2 λhd=>hK ⟨⟨p,hp,h4⟩,hd⟩
   all_goals
    unfold dvC;exact ih h2 λhd=>hK hd
theorem a2Q{α β:Type}{f:α->β}{args:Array α}{u:β}(h:args.toList.map f=[u]):∃y,args=#[y]/\f y=u:=by obtain⟨l⟩:=args;simp only[List.map_eq_cons_iff,List.map_eq_nil_iff]at h;obtain⟨y,r,h1,h2,h3⟩:=h;subst h3;exact⟨y,by rw[h1],h2⟩
theorem QB{α β:Type}{f:α->β}{args:Array α}{u v:β}(h:args.toList.map f=[u,v]):∃y z,args=#[y,z]/\f y=u/\f z=v:=by obtain⟨l⟩:=args;simp only[List.map_eq_cons_iff,List.map_eq_nil_iff]at h;obtain⟨y,r,h1,h2,z,r',h3,h4,h5⟩:=h;subst h5;subst h3;exact⟨y,z,by rw[h1],h2,h4⟩
theorem a8w(H:FxOk X)(R:Rel X cl ch S m ok a w){c:Call}(ho:o.op= .call c)(hc:c.callee= .builtin .len):(aH X.E q o).post S (λ_ S' =>gB X cl ch o a w m ok S'):=by
 obtain⟨cal,args,ats⟩:=c;simp only at hc;subst hc;unfold aH;simp only[ho];refine jQ R _ λvs hvs=>?_;split<;>try trivial
 rename_i t rt x hat
 obtain⟨u,r,he,hx,hr⟩:=hvs;simp only[fU]at hr;subst hr;refine jD H λi hi=>?_;have htd:=hi.td;obtain⟨y,rfl,rfl⟩:=a2Q he;have h0:ats[0]? =some t:=by
  obtain⟨l⟩:=ats;simp only at hat
  simp[hat]
 have fin:∀(v:V) (n:Nat),jG ⟨w.heap,ok,m⟩ v (.int .i64 n)->(Builtin.len_ ats o.type #[a.eval y]).run X.P w= .ok (.int .i64 n) w->(bY X.E o.dst v).post S (λ_ S' =>gB X cl ch o a w m ok S'):=λv n hv h=>
  ak H R hv (by simp[execOp,ho,resolve,invoke,builtin,h])
 have mapLen:∀{ke e n:Nat},X.P.underlying t=some (.map ke e)->(∃mv,a.eval y= .map mv/\(mv=none->n=0)/\∀blk,mv=some blk->∃es ck,w.heap[blk]? =some (.map es ck)/\es.size=n)->
   (bY X.E o.dst (.i .i64 n)).post S (λ_ S' =>gB X cl ch o a w m ok S'):=λ{ke e n} hu ⟨mv,hv,h1,h2⟩=>by
  refine fin _ n rfl ?_;cases mv with
  |none=>rw[h1 rfl];simp[Builtin.len_,h0,run_underlying hu,hv,goInt]|some blk=>obtain⟨es,ck,h3,h4⟩:=h2 blk rfl;simp[Builtin.len_,h0,run_underlying hu,hv,goInt,Ez h3,h4]
 unfold b1K;split<;>try trivial
 .rename_i l htd';rw[htd']at htd;refine fin _ l.length rfl ?_;simp[Builtin.len_,h0,run_underlying (show X.P.underlying t=some .string from htd),GK hx,goInt];rfl
 .rename_i e u xs htd';rw[htd']at htd;cases hE0:u.isEnt
  .simp only[cond_false];obtain⟨ad,cap,hv,_⟩:=(wE hE0).1 hx;simp only[F8,and_true]at hv;refine fin _ xs.length rfl ?_;simp[Builtin.len_,h0,run_underlying (show X.P.underlying t=some (.slice e)from htd),hv,goInt]
  .trivial
 .rename_i ke e u xs htd';rw[htd']at htd;cases hE0:u.isEnt
  .trivial
  .simp only[cond_true];refine mapLen htd ?_;obtain⟨mv,hv,h1,h2⟩:=(ZC hE0).1 hx;exact⟨mv,by simpa using hv,(λe=>by simp[h1 e]),λblk hb=>by obtain⟨_,es,ck,h3,h4,_⟩:=h2 blk hb;exact⟨es,ck,h3,h4⟩⟩
 .rename_i ke e bx htd';rw[htd']at htd;obtain⟨loc,hm,hview⟩:=hx;simp only at hm;refine aP ?_;have key:∀{u:Ty} {xs:List u.den},u.isEnt=true->arrOk ⟨w.heap,ok,m⟩ u xs loc->(bY X.E o.dst (.i .i64 (o8 xs))).post S (λ_ S' =>gB X cl ch o a w m ok S'):=λ{u xs} hE0 ha=>by
   refine mapLen htd ?_;cases loc with
   |nil=>exact absurd ha.2 (by simp[hE0])|st b=>cases ha|arr blk off len cap sz=>exact absurd ha.1 (by simp[hE0])|mp b=>simp only[Loc.view]at hview;obtain⟨_,es,ck,h3,h4,_⟩:=ha;exact⟨some b,hview,(λh=>nomatch h),λblk hb=>by cases hb;exact⟨es,ck,h3,h4⟩⟩
  split<;>try trivial
  .rename_i u xs hS;obtain⟨loc',hm',ha⟩:=R.own_arr hS;rw[hm]at hm';cases hm';cases hE0:u.isEnt
   .trivial
   .exact key hE0 ha
  .rename_i u xs hS;obtain⟨loc',hm',ha,_⟩:=R.own_frz hS;rw[hm]at hm';cases hm';cases hE0:u.isEnt
   .trivial
   .exact key hE0 ha
 .rename_i e htd';rw[htd']at htd;have hv:a.eval y= .slice none 0 0:=hx;refine fin _ 0 rfl ?_;simp[Builtin.len_,h0,run_underlying (show X.P.underlying t=some (.slice e)from htd),hv,goInt]
 .rename_i e bx vw htd';rw[htd']at htd;obtain⟨loc,hm,hview⟩:=hx;refine aP ?_;split
  .rename_i ln sz' hSl;split<;>try trivial
   have hbx:=R.box (Ji+bx);rw[hSl]at hbx;obtain⟨k',l',e',hm',hl⟩:=hbx;have e2:k' =bx:=o5;subst e2;simp only at hm hm';rw[hm]at hm';cases hm';cases loc with
   |nil=>simp only at hl;subst hl;simp only[Loc.view]at hview;refine fin _ 0 rfl ?_;simp[Builtin.len_,h0,run_underlying (show X.P.underlying t=some (.slice e)from htd),hview,goInt]|st b=>cases hl|mp b=>cases hl|arr blk off len cap sz2=>obtain⟨rfl,rfl⟩:=hl;simp only[Loc.view]at hview;refine fin _ len rfl ?_;simp[Builtin.len_,h0,run_underlying (show X.P.underlying t=some (.slice e)from htd),hview,goInt]
  refine aP ?_;have key:∀{u:Ty} {xs:List u.den},u.isEnt=false->arrOk ⟨w.heap,ok,m⟩ u xs loc->(bY X.E o.dst (.i .i64 (o8 (iq vw xs)))).post S (λ_ S' =>gB X cl ch o a w m ok S'):=λ{u xs} hE0 ha=>by obtain⟨ad,cap,hv,_⟩:=(wE hE0).1 (mF (C:=⟨w.heap,ok,m⟩) (ok' :=λ_ _=>True) ha hview (λ_ _ _=>trivial) (λ_ _=>trivial));simp only[F8,and_true]at hv;refine fin _ (iq vw xs).length rfl ?_;simp[Builtin.len_,h0,run_underlying (show X.P.underlying t=some (.slice e)from htd),hv,goInt]
  split<;>try trivial
  .rename_i u xs hS;obtain⟨loc',hm',ha⟩:=R.own_arr hS;simp only at hm;rw[hm]at hm';cases hm';cases hE0:u.isEnt
   .exact key hE0 ha
   .trivial
  .rename_i u xs hS;obtain⟨loc',hm',ha,_⟩:=R.own_frz hS;simp only at hm;rw[hm]at hm';cases hm';cases hE0:u.isEnt
   .exact key hE0 ha
   .trivial
  .rename_i md xs hole hS;split<;>try trivial
   obtain⟨hel,loc',Os,hm',⟨ha,hho⟩,hk⟩:=R.own_barrs hS;simp only at hm;rw[hm]at hm';cases hm';cases loc with
   |st b=>cases ha|mp b=>cases ha|nil=>obtain⟨e1,_⟩:=ha;subst e1;simp only[Loc.view]at hview;refine fin _ 0 rfl ?_;simp[Builtin.len_,h0,run_underlying (show X.P.underlying t=some (.slice e)from htd),hview,goInt]
   |arr blk off len cap sz' =>obtain⟨rfl,rfl,h3,_⟩:=ha;simp only[Loc.view]at hview;refine fin _ xs.length rfl ?_;simp[Builtin.len_,h0,run_underlying (show X.P.underlying t=some (.slice e)from htd),hview,goInt]
theorem Ur(H:FxOk X)(R:Rel X cl ch S m ok a w){c:Call}(ho:o.op= .call c)(hc:c.callee= .builtin .min\/c.callee= .builtin .max):(aH X.E q o).post S (λ_ S' =>gB X cl ch o a w m ok S'):=by
 obtain⟨cal,args,ats⟩:=c;simp only at hc;rcases hc with rfl|rfl
 all_goals
  unfold aH;simp only[ho];refine jQ R _ λvs hvs=>?_;split<;>try trivial
  rename_i k p k' r;obtain⟨u,r',he,hx,v,r'',he',hy,hr⟩:=hvs;simp only[fU]at hr;subst hr;rw[he']at he;refine aO λhk=>?_;have hk' :k=k' :=of_decide_eq_true hk;subst hk';obtain⟨y,z,rfl,rfl,rfl⟩:=QB he
 .refine ak H R (v:=.i k (yD p r)) rfl ?_;simp[execOp,ho,resolve,invoke,builtin,Builtin.min_,Builtin.min2,qF hx,qF hy,yD]
 .refine ak H R (v:=.i k (yC p r)) rfl ?_;simp[execOp,ho,resolve,invoke,builtin,Builtin.max_,Builtin.max2,qF hx,qF hy,yC]
end
end Go.GP
