import Derived.ProofKit
import Derived.Below
import Derived.Defers
import Derived.Laws.CopyRow
import Derived.Laws.BytesArg
import Derived.Laws.Cells
import Derived.Laws.Append
import Derived.Laws.Strings
import Derived.Lib.SmallJoins
set_option linter.all false
namespace Go.GP
variable {p:Prop}
theorem o5(h:p:=by omega):p:=h
theorem A8(h:p:=by simp):p:=h
theorem U9(h:p:=by decide):p:=h
theorem F5(h:p:=by simp;omega):p:=h
theorem E8:True:=trivial
def X5:=@List.take_succ_eq_append_getElem
def Y7:=@List.take_append_of_le_length
def jH:=@Array.getElem?_setIfInBounds
def Y1:=@Array.getD_eq_getD_getElem?
def J6:=@Array.getElem?_eq_some_iff
def kw:=@Array.toList_setIfInBounds
def I8:=@List.getElem?_append_right
def gZ:=@Array.getElem?_append_left
def U4:=@List.getElem?_append_left
def dB:=@List.drop_eq_getElem_cons
def kQ:=@List.extract_eq_take_drop
def N9:=@Array.getElem?_eq_getElem
def aN:=@List.getElem?_take_of_lt
def bY:=@List.getElem?_cons_zero
def aA:=@List.length_eq_zero_iff
def dm:=@Option.map_eq_some_iff
def bz:=@List.drop_eq_nil_of_le
def U1:=@List.take_of_length_le
def fG:=@List.mem_append_right
def oH:=@List.Perm.append_left
def iC:=@List.perm_append_comm
def V9:=@Nat.le_of_ble_eq_true
def Y6:=@Array.getElem?_toList
def iD:=@List.take_append_drop
def oJ:=@List.set_append_right
def jK:=@Array.getElem?_modify
def iy:=@List.getElem?_eq_none
def dG:=@List.length_filter_le
def jL:=@List.findSome?_append
def oI:=@List.countP_le_length
def fF:=@List.length_singleton
def bg:=@List.mem_append_left
def V5:=@List.mem_cons_of_mem
def G8:=@Nat.mul_le_mul_right
def oZ:=@List.replicate_succ'
def pg:=@MapKept.run_checkKey
def kZ:=@Value.pointer.injEq
def jk:=@List.flatten_append
def kY:=@Array.toList_append
def bJ:=@List.getElem_of_mem
def Y9:=@Array.length_toList
def gm:=@List.map_congr_left
def qm:=@Int.toNat_of_nonneg
def H9:=@List.length_append
def S9:=@List.getElem?_drop
def U7:=@List.getElem?_take
def gW:=@List.mem_cons_self
def lT:=@List.mem_singleton
def dR:=@Bool.false_eq_true
def gX:=@Nat.eq_zero_or_pos
def fH:=@List.zip_cons_cons
def dU:=@Nat.lt_of_lt_of_le
def V8:=@List.pairwise_cons
def U5:=@List.nodup_append
def bH:=@Bool.not_eq_true'
def E5:=@List.append_assoc
def F6:=@Option.some.injEq
def nK:=@Value.slice.injEq
def H7:=@Result.andThen_ok
def bI:=@List.ext_getElem?
def P8:=@List.getElem?_set
def Y2:=@List.size_toArray
def eP:=@List.getElem?_map
def nJ:=@List.zip_nil_left
def nI:=@Function.comp_def
def nG:=@Array.size_append
def fZ:=@List.length_range
def az:=@Int.toNat_natCast
def iP:=@List.any_eq_false
def nH:=@Bool.not_eq_false
def bW:=@List.mem_flatten
def A7:=@Bool.and_eq_true
def Z4:=@List.cons_append
def H5:=@List.length_cons
def kD:=@Array.toList_map
def kE:=@List.ext_getElem
def kF:=@List.range'_succ
def bn:=@List.length_take
def bu:=@List.take_length
def gz:=@List.length_drop
def gB:=@Nat.le_add_right
def jh:=@List.all_eq_true
def O0:=@List.getElem_mem
def gG:=@Option.bind_some
def dM:=@Option.getD_some
def IV:=@List.not_mem_nil
def gy:=@List.filter_cons
def zo:=@List.drop_length
def oQ:=@Bool.not_eq_true
def oU:=@List.any_eq_true
def N8:=@List.mem_append
def H6:=@List.append_nil
def bQ:=@Nat.le_max_left
def J3:=@List.nil_append
def G7:=@List.cons.injEq
def lF:=@Oper.upon_value
def jA:=@Bool.eq_iff_iff
def ai:=@List.length_nil
def aj:=@List.nodup_cons
def lG:=@Option.some.inj
def bT:=@Nat.min_eq_left
def eQ:=@List.map_append
def ah:=@List.foldl_cons
def V7:=@List.length_map
def aV:=@Option.map_some
def fP:=@List.range_succ
def jB:=@Bool.or_eq_true
def lC:=@List.mem_filter
def uz:=@List.any_append
def gp:=@List.drop_take
def fE:=@List.take_take
def X8:=@List.drop_drop
def cZ:=@List.nodup_nil
def jY:=@List.drop_zero
def fD:=@List.mem_range
def mO:=@List.take_left
def D6:=@List.mem_cons
def dH:=@Nat.add_assoc
def fA:=@List.map_cons
def fV:=@Addr.mk.injEq
def O5:=@List.cons.inj
def oK:=@Nat.lt_irrefl
def jq:=@Prod.mk.injEq
def iw:=@Bool.true_and
def rJ:=@List.any_cons
def jo:=@Bool.not_true
def kP:=@Bool.false_or
def gQ:=@Nat.sub_self
def jM:=@List.map_nil
def U6:=@Sem.run_pure
def G9:=@Sem.run_bind
def aQ:=@Nat.add_zero
def fJ:=@Addr.add_lit
def bV:=@Nat.zero_add
def gK:=@List.mem_map
def ak:=@Nat.le_trans
def E9:=@Nat.le_refl
def I9:=@Nat.add_mul
def dC:=@Nat.zero_le
def aS:=@Nat.mul_one
def Z7:=@Nat.one_mul
def zC:=@Int.le_refl
def dF:=@Nat.blt_eq
def jm:=@Array.ext'
def sK:=@Int.not_lt
def sJ:=@Int.not_le
variable {i:Nat}
theorem aK{α:Type _}{l:List α}{a:α} :l[i]? =some a↔∃h:i<l.length,l[i]=a:=List.getElem?_eq_some_iff
theorem kN{α:Type _}{l:List α}(h:i<l.length):l[i]? =some l[i]:=List.getElem?_eq_getElem h
theorem fC{n m:Nat}(h:Nat.beq n m=true):n=m:=Nat.eq_of_beq_eq_true h
theorem rH{α:Type _}{l:List α}{a:α}(h:l[i]? =some a):a∈l:=List.mem_of_getElem? h
theorem Ob{α:Type _}{l:List α}{a:α} :l.getD i a=l[i]?.getD a:=List.getD_eq_getElem?_getD
universe u
set_option linter.unusedVariables false
inductive Ty where
 |bool|int (k:IntKind)|str|sl (t:Ty)|prod (a b:Ty)|unit|ent (ka va:Bool) (k v:Ty)|any (o:Option IntKind)
def tbb(a b:Bool):Bool:=bif a then b else !b
theorem a2r:∀{a b:Bool},tbb a b=true->a=b:=by decide
theorem a0d:∀(a:Bool),tbb a a=true:=by decide
def Ty.beq:Ty->Ty->Bool
 | .bool,b=>match b with| .bool=>true|_=>false
 | .int k,b=>match b with| .int k' =>decide (k=k')|_=>false
 | .str,b=>match b with| .str=>true|_=>false
 | .sl t,b=>match b with| .sl u=>Ty.beq t u|_=>false
 | .prod p q,b=>match b with| .prod p' q' =>bif Ty.beq p p' then Ty.beq q q' else false|_=>false
 | .unit,b=>match b with| .unit=>true|_=>false
 | .any o,b=>match b with| .any o' =>decide (o=o')|_=>false
 | .ent x y p q,b=>match b with| .ent x' y' p' q' =>bif tbb x x' &&tbb y y' then(bif Ty.beq p p' then Ty.beq q q' else false)else false|_=>false
theorem Ty.beq_eq:∀{a b:Ty},Ty.beq a b=true->a=b
 | .bool,b,h=>by cases b<;>first|rfl|cases h
 | .int k,b,h=>by cases b<;>first|(cases h;done)|(rename_i k';have:=of_decide_eq_true (show decide (k=k')=true from h);subst this;rfl)
 | .str,b,h=>by cases b<;>first|rfl|cases h
 | .sl t,b,h=>by cases b<;>first|(cases h;done)|(rename_i u;have:=Ty.beq_eq (show Ty.beq t u=true from h);subst this;rfl)
 | .prod p q,b,h=>by
  cases b<;>try (cases h;done)
  rename_i p' q';cases hp:Ty.beq p p'
  .have h' :(bif Ty.beq p p' then Ty.beq q q' else false)=true:=h;rw[hp]at h';cases h'
  .have h' :(bif Ty.beq p p' then Ty.beq q q' else false)=true:=h;rw[hp]at h';rw[Ty.beq_eq hp,Ty.beq_eq (show Ty.beq q q' =true from h')]
 | .unit,b,h=>by cases b<;>first|rfl|cases h
 | .any o,b,h=>by cases b<;>first|(cases h;done)|(rename_i o';have:=of_decide_eq_true (show decide (o=o')=true from h);subst this;rfl)
 | .ent x y p q,b,h=>by
  cases b<;>try (cases h;done)
  rename_i x' y' p' q';have h0:(bif tbb x x' &&tbb y y' then(bif Ty.beq p p' then Ty.beq q q' else false)else false)=true:=h;cases hx:tbb x x'<;>cases hy:tbb y y'<;>rw[hx,hy]at h0<;>try (cases h0;done)
  cases hp:Ty.beq p p'<;>rw[hp]at h0
  .cases h0
  .rw[a2r hx,a2r hy,Ty.beq_eq hp,Ty.beq_eq (show Ty.beq q q' =true from h0)]
theorem Ty.beq_refl:∀(a:Ty),Ty.beq a a=true
 | .bool=>rfl| .int k=>by show decide (k=k)=true;simp| .str=>rfl| .sl t=>Ty.beq_refl t| .prod p q=>by show(bif Ty.beq p p then Ty.beq q q else false)=true;rw[Ty.beq_refl p,Ty.beq_refl q];rfl| .unit=>rfl| .any o=>by show decide (o=o)=true;simp| .ent x y p q=>by show(bif tbb x x&&tbb y y then(bif Ty.beq p p then Ty.beq q q else false)else false)=true;rw[a0d,a0d,Ty.beq_refl p,Ty.beq_refl q];rfl
instance:DecidableEq Ty:=λa b=>match h:Ty.beq a b with
 |true=> .isTrue (Ty.beq_eq h)|false=> .isFalse (λe=>by subst e;rw[Ty.beq_refl]at h;cases h)
@[reducible] def Ty.den:Ty->Type
 | .bool=>Bool| .int _=>Int| .str=>List UInt8| .sl t=>List t.den| .prod a b=>a.den×b.den| .unit=>Unit| .any _=>Unit| .ent _ _ a b=>a.den×b.den
def Ty.isEnt:Ty->Bool| .ent ..=>true|_=>false
def Ty.size:Ty->Nat
 | .bool| .int _| .str| .sl _=>1| .prod a b=>a.size+b.size| .unit=>0| .any _=>1| .ent _ _ a b=>a.size+b.size
def Ty.flat:Ty->Bool
 | .bool| .int _| .str| .unit=>true| .sl _=>false| .prod a b=>a.flat&&b.flat
 | .ent ..=>false| .any _=>false
def Ty.zero:(t:Ty)->t.den
 | .bool=>false| .int _=>(0:Int)| .str=>[]| .sl _=>[]| .prod a b=>(a.zero,b.zero)| .unit=>()| .any _=>()| .ent _ _ a b=>(a.zero,b.zero)
inductive M where
 |dat (t:Ty)|own (t:Ty)|pair (a b:M)|unit|box (m:M)
 |owns (el:M)|ownb (t:Ty)|rp (t:Ty)|fn (f:Nat) (ts:List Ty)|ifc (t:Nat) (m:M)|cell (n:Option (Option Bool))|fr (t:Ty)|sbx (tb te:Nat)|sit|lp (t:Ty)|dv (k off sz fo:Nat)
def M.beq:M->M->Bool
 | .dat t,b=>match b with| .dat u=>Ty.beq t u|_=>false
 | .own t,b=>match b with| .own u=>Ty.beq t u|_=>false
 | .pair p q,b=>match b with| .pair p' q' =>bif M.beq p p' then M.beq q q' else false|_=>false
 | .unit,b=>match b with| .unit=>true|_=>false
 | .owns m,b=>match b with| .owns m' =>M.beq m m'|_=>false
 |_,_=>false
theorem M.beq_eq:∀{a b:M},M.beq a b=true->a=b
 | .dat t,b,h=>by cases b<;>first|(cases h;done)|(rename_i u;have:=Ty.beq_eq (show Ty.beq t u=true from h);subst this;rfl)
 | .own t,b,h=>by cases b<;>first|(cases h;done)|(rename_i u;have:=Ty.beq_eq (show Ty.beq t u=true from h);subst this;rfl)
 | .pair p q,b,h=>by
  cases b<;>try (cases h;done)
  rename_i p' q';cases hp:M.beq p p'
  .have h' :(bif M.beq p p' then M.beq q q' else false)=true:=h;rw[hp]at h';cases h'
  .have h' :(bif M.beq p p' then M.beq q q' else false)=true:=h;rw[hp]at h';rw[M.beq_eq hp,M.beq_eq (show M.beq q q' =true from h')]
 | .unit,b,h=>by cases b<;>first|rfl|cases h
 | .owns m,b,h=>by cases b<;>first|(cases h;done)|(rename_i u;have:=M.beq_eq (show M.beq m u=true from h);subst this;rfl)
 | .box _,b,h=>by cases h| .ownb _,b,h=>by cases h| .rp _,b,h=>by cases h| .fn _ _,b,h=>by cases h| .ifc _ _,b,h=>by cases h| .cell _,b,h=>by cases h| .fr _,b,h=>by cases h| .sbx _ _,b,h=>by cases h| .lp _,b,h=>by cases h| .dv ..,b,h=>by cases h| .sit,b,h=>by cases h
@[reducible] def QJ:List Ty->Type
 |[]=>Unit|[t]=>t.den|t::t' ::r=>t.den×QJ (t' ::r)
@[reducible] def M.den:M->Type
 | .dat t=>t.den| .own t=>List t.den| .pair a b=>a.den×b.den| .unit=>Unit| .box m=>m.den| .owns el=>List el.den| .ownb t=>List t.den| .rp t=>t.den| .fn _ ts=>QJ ts| .ifc _ m=>m.den| .cell _=>Unit| .fr t=>List t.den| .sbx _ _=>List UInt8| .sit=>List UInt8×Int| .lp t=>t.den| .dv ..=>Unit
def M.size:M->Nat
 | .dat t=>t.size| .own _=>1| .pair a b=>a.size+b.size| .unit=>0| .box _=>1| .owns _| .ownb _| .rp _| .fn _ _| .ifc _ _| .cell _| .fr _| .sbx _ _| .sit| .lp _| .dv ..=>1
def M.el:M->Bool
 | .unit=>true| .dat t| .own t=> !t.isEnt| .owns m=>m.el| .pair a b=>a.el&&b.el|_=>false
def M.ty:M->Ty
 | .dat t=>t| .own t=> .sl t| .owns m=> .sl m.ty| .pair a b=> .prod a.ty b.ty|_=> .unit
theorem M.denEq:∀(m:M),m.el=true->m.den=m.ty.den
 | .dat _,_=>rfl| .own _,_=>rfl| .unit,_=>rfl| .owns m,h=>congrArg List (M.denEq m h)| .pair a b,h=>by
  have h' :a.el=true/\b.el=true:=by simpa[M.el]using h
  show(a.den×b.den)=(a.ty.den×b.ty.den);rw[M.denEq a h'.1,M.denEq b h'.2]
 | .box _,h=>by simp[M.el]at h| .ownb _,h=>by simp[M.el]at h| .rp _,h=>by simp[M.el]at h| .fn _ _,h=>by simp[M.el]at h| .ifc _ _,h=>by simp[M.el]at h| .cell _,h=>by simp[M.el]at h| .fr _,h=>by simp[M.el]at h| .sbx _ _,h=>by simp[M.el]at h| .lp _,h=>by simp[M.el]at h| .dv ..,h=>by simp[M.el]at h| .sit,h=>by simp[M.el]at h
def M.zero:(m:M)->m.el=true->m.den
 |m,h=>cast (M.denEq m h).symm m.ty.zero
abbrev MG:=Bool×M
@[reducible] def V4:List MG->Type
 |[]=>Unit|[m]=>m.2.den|m::m' ::r=>m.2.den×V4 (m' ::r)
inductive V where
 |undef
 |un
 |b (x:Bool)|i (k:IntKind) (n:Int)|s (l:List UInt8)
 |nl
 |sl (t:Ty) (xs:List t.den)
 |own (bx:Nat) (vw:Option (Nat×Nat))
 |ptr (bx off:Nat)
 |ep (bx idx off:Nat)
 |dp (t:Ty) (x:t.den) (off:Nat)
 |agg (cs:List V)|tup (cs:List V)
 |glob (g:Nat)|fnv (f:Nat)|idl (f n:Nat)|clos (f:Nat) (caps:List ((t:Ty)×t.den))|ifc (t:Nat) (v:V)
 |bcells (cs:List V)|barr (t:Ty) (xs:List t.den)|bfrz (t:Ty) (xs:List t.den)|biter (l:List UInt8) (pos:Int)
 |barrs (el:M) (xs:List el.den) (hole:Option (Nat×Nat×Option Nat))|bfc (t:Ty) (x:t.den)
 |dead|gone (t:Ty)|blen (n:Int) (sz:Nat)
 |ne (b:Bool)
 |npt|bsb (tb:Nat) (c:V)|brow (te:Nat) (xs:List UInt8)
variable {α:Type}{β:Type}
def l9(o:Option α)(f:α->Option β):Option β:=match o with|some x=>f x|none=>none
def l7(b:Bool)(x y:α):α:=match b with|true=>x|false=>y
def G5(a b:Int):Bool:=decide (a<b)
def O7(a b:Int):Bool:=decide (a<=b)
def x8(a b:Int):Bool:=decide (a=b)
def Bh(a b:Bool):Bool:=a==b
def D9(a:Bool):Bool:=!a
def dA(a b:Bool):Bool:=a&&b
def seq(a b:List UInt8):Bool:=decide (a=b)
def slt(a b:List UInt8):Bool:=Op.bytesLess a b
def wrap(k:IntKind)(n:Int):Int:=k.wrap n
def D8(k:IntKind)(a b:Int):Int:=k.wrap (a+b)
def L6(k:IntKind)(a b:Int):Int:=k.wrap (a -b)
def lK(k:IntKind)(a b:Int):Int:=k.wrap (a*b)
def aY(k:IntKind)(a b:Int):Int:=k.wrap (a.tdiv b)
def fU(a b:Int):Int:=a.tmod b
def WZ(k:IntKind)(a b:Int):Option Int:=if b=0 then none else some (k.wrap (a.tdiv b))
def a2T(a b:Int):Option Int:=if b=0 then none else some (a.tmod b)
def a4i(k:IntKind)(a b:Int):Int:=k.wrap (BitVec.ofInt k.bits a&&& BitVec.ofInt k.bits b).toNat
def ior(k:IntKind)(a b:Int):Int:=k.wrap (BitVec.ofInt k.bits a ||| BitVec.ofInt k.bits b).toNat
def a5G(k:IntKind)(a b:Int):Int:=k.wrap (BitVec.ofInt k.bits a^^^BitVec.ofInt k.bits b).toNat
def a2R(k:IntKind)(a b:Int):Int:=k.wrap (BitVec.ofInt k.bits a&&& ~~~(BitVec.ofInt k.bits b)).toNat
def a9N(k:IntKind)(a b:Int):Int:=k.wrap (a*2^(min b.toNat k.bits))
def tu(k:IntKind)(a b:Int):Int:=a.fdiv (2^(min b.toNat k.bits))
def ZK(k:IntKind)(a b:Int):Option Int:=if b<0 then none else some (a9N k a b)
def a2U(k:IntKind)(a b:Int):Option Int:=if b<0 then none else some (tu k a b)
def xk(a b:Int):Int:=if b<a then b else a
def rF(a b:Int):Int:=if a<b then b else a
def o9(l:List α):Int:=l.length
def J8(a b:List UInt8):Option (List UInt8):=if a.length+b.length<=4611686018427387904 then some (a++b)else none
def Ls(a b:Nat):Bool:=Nat.beq a b
def inb(i n:Int):Bool:=decide (0<=i/\i<n)
def J4(l:List α)(i:Int):Option α:=if 0<=i then l[i.toNat]? else none
def Gn(l:List UInt8)(p:Int):Int:=((Utf8.decode ⟨l.toArray⟩ p.toNat).1:Int)
def Kr(l:List UInt8)(p:Int):Int:=p+((Utf8.decode ⟨l.toArray⟩ p.toNat).2:Int)
def sat(l:List UInt8)(i:Int):Option Int:=if 0<=i then(l[i.toNat]?).map (λc=>(c.toNat:Int))else none
def Y5(l:List α)(i:Nat):Option α:=l[i]?
def dW(l:List α)(i:Nat)(x:α):List α:=l.set i x
def iQ(l:List α)(lo hi:Int):Option (List α):=if 0<=lo/\lo<=hi/\hi<=l.length then some ((l.take hi.toNat).drop lo.toNat)else none
def iM(l:List α)(lo hi:Nat):List α:=(l.take hi).drop lo
def jE(lo hi n:Int):Bool:=decide (0<=lo/\lo<=hi/\hi<=n)
def Oe(xs ys:List α):List α:=ys.take xs.length++xs.drop ys.length
def aT(xs ys:List α):Option (List α):=if xs.length+ys.length<=1073741824 then some (xs++ys)else none
def yH(n:Int)(x:α):Option (List α):=if 0<=n/\n<=1073741824 then some (List.replicate n.toNat x)else none
def X4(i:Int):Nat:=i.toNat
def b1g(n:Int):UInt8:=UInt8.ofNat n.toNat
def Zp(l:List Int):List UInt8:=l.map b1g
def Wh(l:List UInt8):List Int:=l.map λc=>(c.toNat:Int)
def a3g{α β:Type}(eq:α->α->Bool):List (α×β)->α->β->β
 |[],_,z=>z|p::r,k,z=>bif eq k p.1 then p.2 else a3g eq r k z
def a3h{α β:Type}(eq:α->α->Bool):List (α×β)->α->Bool
 |[],_=>false|p::r,k=>bif eq k p.1 then true else a3h eq r k
def a3k{α β:Type}(eq:α->α->Bool):List (α×β)->α->β->List (α×β)
 |[],k,x=>[(k,x)]|p::r,k,x=>bif eq k p.1 then(k,x)::r else p::a3k eq r k x
def a9T(eq:α->α->Bool)(l:List (α×β))(k:α)(z:β):β:=a3g eq l k z
def a9U(eq:α->α->Bool)(l:List (α×β))(k:α):Bool:=a3h eq l k
def a4q(eq:α->α->Bool)(l:List (α×β))(k:α)(x:β):List (α×β):=a3k eq l k x
def keq:(t:Ty)->t.den->t.den->Bool
 | .bool=>λa b=>Bh a b
 | .int _=>λa b=>x8 a b
 | .str=>λa b=>seq a b
 | .prod p q=>λa b=>dA (keq p a.1 b.1) (keq q a.2 b.2)
 |_=>λ_ _=>true
def a9I{α:Type}(eq:α->α->Bool):List α->List α->Bool
 |[],[]=>true|a::r,b::q=>eq a b&&a9I eq r q|_,_=>false
def Ub:(t:Ty)->t.den->t.den->Bool
 | .bool=>λa b=>tbb a b
 | .int _=>λa b=>decide (a=b)
 | .str=>λa b=>decide (a=b)
 | .sl t=>λa b=>a9I (Ub t) a b
 | .prod p q=>λa b=>Ub p a.1 b.1&&Ub q a.2 b.2
 | .unit=>λ_ _=>true
 | .any _=>λ_ _=>true
 | .ent _ _ p q=>λa b=>Ub p a.1 b.1&&Ub q a.2 b.2
def deq(t:Ty)(a b:t.den):Bool:=Ub t a b
inductive Out (σ ε ρ:Type) where
 |nx (s:σ)|ex (e:ε)|rt (r:ρ)
variable {σ:Type}{ε:Type}
def U3(o:σ⊕ε)(f:σ->α)(g:ε->α):α:=match o with| .inl s=>f s| .inr e=>g e
def jO{σ ε ρ:Type}(f:σ->Option (Out σ ε ρ)):Nat->σ->Option (ε⊕ρ)
 |0,_=>none
 |n+1,s=>match f s with
  |some (.nx s')=>jO f n s'|some (.ex e)=>some (.inl e)|some (.rt r)=>some (.inr r)|none=>none
def yG{σ ε:Type}(f:σ->Option (σ⊕ε)):Nat->σ->Option ε
 |0,_=>none
 |n+1,s=>match f s with
  |some (.inl s')=>yG f n s'|some (.inr e)=>some e|none=>none
def jg:Nat:=18446744073709551616
variable {ρ:Type}
def O6(f:σ->Option (Out σ ε ρ))(s:σ):Option (ε⊕ρ):=jO f jg s
def aO(f:σ->Option (σ⊕ε))(s:σ):Option ε:=yG f jg s
inductive Cmd (α:Type):Type 1 where
 |ret (x:α)
 |fail
 |get (k:Nat) (c:V->Cmd α)
 |set (k:Nat) (v:V) (c:Cmd α)
 |opt {β:Type} (o:Option β) (c:β->Cmd α)
 |br (b:Bool) (c d:Cmd α)
inductive Ent where
 |kv (k:Nat) (v:V)|mask (lo hi:Nat)
abbrev St:=List Ent
def dN:St->Nat->V
 |[],_=> .undef| .kv k v::r,n=>bif Nat.beq k n then v else dN r n| .mask lo hi::r,n=>bif Nat.ble lo n&&Nat.blt n hi then .undef else dN r n
abbrev Tr:=List Nat×List Nat
variable {R:Type}
def V.force(v:V)(K:V->R):R:=
 match v with
 | .undef=>K .undef| .un=>K .un| .b x=>K (.b x)
 | .i k n=>match k with
  | .i8=>K (.i .i8 n)| .i16=>K (.i .i16 n)| .i32=>K (.i .i32 n)| .i64=>K (.i .i64 n)| .u8=>K (.i .u8 n)| .u16=>K (.i .u16 n)| .u32=>K (.i .u32 n)| .u64=>K (.i .u64 n)
 | .s l=>K (.s l)| .nl=>K .nl| .ne z=>K (.ne z)| .sl t xs=>K (.sl t xs)
 | .own bx vw=>match vw with|none=>K (.own bx none)|some p=>K (.own bx (some p))
 | .ptr bx off=>K (.ptr bx off)| .ep bx idx off=>K (.ep bx idx off)| .dp t x off=>K (.dp t x off)| .agg cs=>K (.agg cs)| .tup cs=>K (.tup cs)| .glob g=>K (.glob g)| .fnv f=>K (.fnv f)| .idl f n=>K (.idl f n)| .clos f bs=>K (.clos f bs)
 | .ifc t v=>v.force λv=>K (.ifc t v)
 | .barrs t xs h=>match h with|none=>K (.barrs t xs none)|some (p1,p2,p3)=>match p3 with|none=>K (.barrs t xs (some (p1,p2,none)))|some p3=>K (.barrs t xs (some (p1,p2,some p3)))
 | .bfc t x=>K (.bfc t x)| .bcells cs=>K (.bcells cs)| .barr t xs=>K (.barr t xs)| .bfrz t xs=>K (.bfrz t xs)| .biter l p=>K (.biter l p)| .dead=>K .dead| .gone t=>K (.gone t)| .blen n sz=>K (.blen n sz)| .npt=>K .npt
 | .bsb tb c=>c.force λc=>K (.bsb tb c)| .brow te xs=>K (.brow te xs)
def PT{R:Type} :List V->(List V->R)->R
 |[],K=>K []
 |v::r,K=>v.force λv' =>PT r λr' =>K (v' ::r')
def V.force2(v:V)(K:V->R):R:=
 v.force λv=>match v with
  | .agg cs=>PT cs λcs=>K (.agg cs)
  | .bcells cs=>PT cs λcs=>K (.bcells cs)
  | .tup cs=>PT cs λcs=>K (.tup cs)|v=>K v
def Cmd.runK :Cmd α->St->Tr->(α->St->Tr->Option R)->Option R
 | .ret x,s,t,K=>K x s t| .fail,_,_,_=>none
 | .get k c,s,t,K=>(dN s k).force λv=>(c v).runK s (k::t.1,t.2) K
 | .set k v c,s,t,K=>v.force2 λv=>c.runK (.kv k v::s) (t.1,k::t.2) K
 | .opt o c,s,t,K=>l9 o λx=>(c x).runK s t K| .br b c d,s,t,K=>l7 b (c.runK s t K) (d.runK s t K)
def Cmd.bind :Cmd α->(α->Cmd β)->Cmd β
 | .ret x,f=>f x| .fail,_=> .fail
 | .get k c,f=> .get k λv=>(c v).bind f| .set k v c,f=> .set k v (c.bind f)
 | .opt o c,f=> .opt o λx=>(c x).bind f| .br b c d,f=> .br b (c.bind f) (d.bind f)
inductive TD where
 |bool|int (k:IntKind)|str
 |sl (elem:Nat)|ptr (elem:Nat)
 |struct (fs:List (Nat×Nat))
 |arr (n elem:Nat)
 |map (key elem:Nat)
 |other
structure TI where
 size:Nat
 bytes:Nat
 td:TD
 ty:Option Ty
 zero:List V
def bK{α:Type} :List (Nat×α)->Nat->Option α
 |[],_=>none|(k,v)::r,n=>bif Nat.beq k n then some v else bK r n
structure FSpec where
 ps:List MG
 rs:List MG
 outs:List MG
 fn:V4 ps->Option (V4 (rs++outs))
structure Env where
 nt:Nat
 eqs:List (Nat×List Ty)
 tt:List (Nat×TI)
 gl:List (Nat×(t:Ty)×List t.den)
 fs:List (Nat×FSpec)
 om:List (Nat×M):=[]
 tk:List Nat:=[]
 ms:List ((Nat×String)×Nat×Option Nat):=[]
 kp:List Nat:=[]
 rc:List Nat:=[]
 pl:List (Nat×Nat×Nat):=[]
abbrev Y4:Nat:=1000000
abbrev CB:Nat:=1000000
abbrev ML:Nat:=1000000000000
def Ty.castL{R:Type u}(a b:Ty)(xs:List a.den)(k:List b.den->R)(f:R):R:=if h:a=b then k (h▸xs)else f
def TQ{R:Type u}(a b:Ty)(x:a.den)(k:b.den->R)(f:R):R:=if h:a=b then k (h▸x)else f
def flat:(t:Ty)->t.den->List V->List V
 | .bool,x,r=> .b x::r| .int k,n,r=> .i k n::r| .str,l,r=> .s l::r| .sl t,xs,r=> .sl t xs::r| .prod a b,x,r=>flat a x.1 (flat b x.2 r)| .unit,_,r=>r| .any _,_,r=> .undef::r| .ent _ _ a b,x,r=>flat a x.1 (flat b x.2 r)
def iI(vw:Option (Nat×Nat))(xs:List α):List α:=match vw with|none=>xs|some (lo,hi)=>iM xs lo hi
def IA:(m:M)->m.den->List V->List V
 | .dat t,x,r=>flat t x r| .pair a b,x,r=>IA a x.1 (IA b x.2 r)| .unit,_,r=>r|_,_,r=> .undef::r
def a2H{R:Type u}(a b:M)(xs:List a.den)(k:List b.den->R)(f:R):R:=match h:M.beq a b with
 |true=>k (M.beq_eq h▸xs)|false=>f
def a0N{R:Type u}(m:M)(t:Ty)(xs:List m.den)(k:List t.den->R)(f:R):R:=
 if h:m.el=true/\m.ty=t then k (cast (congrArg List ((M.denEq m h.1).trans (congrArg Ty.den h.2))) xs)else f
def M.owned:M->List Ty
 | .own t=>[t]| .owns m=>m.ty::m.owned| .pair a b=>a.owned++b.owned|_=>[]
def Zi(ln:Ty->Bool):List Ty->Bool|[]=>true|t::r=>bif ln t then Zi ln r else false
def kz{α:Type}(ln:Ty->Bool):(t:Ty)->List V->(t.den->List V->Cmd α)->Cmd α
 | .bool,cs,K=>match cs with| .b x::r=>K x r|_=> .fail
 | .int k,cs,K=>match cs with| .i k' n::r=>(bif decide (k=k')then K n r else Cmd.fail)|_=> .fail
 | .str,cs,K=>match cs with| .s l::r=>K l r|_=> .fail
 | .prod a b,cs,K=>kz ln a cs λx r=>kz ln b r λy r' =>K (x,y) r'| .unit,cs,K=>K () cs
 | .any none,cs,K=>match cs with|_::r=>K () r|_=> .fail
 | .any (some k),cs,K=>match cs with| .i k' _::r=>bif decide (k=k')then K () r else Cmd.fail|_=> .fail
 | .ent ..,_,_=> .fail
 | .sl t,cs,K=>match cs with
  | .nl::r=>bif t.isEnt then .fail else K [] r| .sl t' xs::r=>Ty.castL t' t xs (λys=>K ys r) Cmd.fail
  | .own bx vw::r=> .get (Y4+bx) λ
   | .barr t' xs=>Ty.castL t' t xs (λys=>bif ln t then K (iI vw ys) r else Cmd.set (Y4+bx) (.bfrz t ys) (K (iI vw ys) r)) Cmd.fail| .bfrz t' xs=>Ty.castL t' t xs (λys=>K (iI vw ys) r) Cmd.fail| .barrs el xs none=>a0N el t xs (λys=>bif ln t&&Zi ln el.owned then K (iI vw ys) r else Cmd.set (Y4+bx) (.bfrz t ys) (K (iI vw ys) r)) Cmd.fail|_=> .fail
  |_=> .fail
def yI:Ty->Bool:=λ_=>false
def m_(t:Ty)(v:V)(K:List t.den->Cmd α):Cmd α:=match v with
 | .nl=>bif t.isEnt then .fail else K []| .ne _=>bif t.isEnt then .fail else K []| .sl t' xs=>Ty.castL t' t xs K Cmd.fail
 | .own bx vw=> .get (Y4+bx) λ
  | .barr t' xs=>Ty.castL t' t xs (λys=>K (iI vw ys)) Cmd.fail| .bfrz t' xs=>Ty.castL t' t xs (λys=>K (iI vw ys)) Cmd.fail|_=> .fail
 |_=> .fail
def rpC(t:Ty)(v:V)(K:t.den->Cmd α):Cmd α:=match v with
 | .dp t' x 0=>TQ t' t x K .fail
 | .ptr bx 0=> .get (Y4+bx) λ
  | .bfc t' x=>TQ t' t x K .fail
  | .bcells bs=>kz yI t bs λx q=>(match q with
   |[]=> .get (Y4+bx) λ
    | .bcells _=>Cmd.set (Y4+bx) (.bfc t x) (K x)|_=> .fail
   |_=> .fail)
  |_=> .fail
 |_=> .fail
def lpC(ln:Ty->Bool)(t:Ty)(v:V)(K:t.den->Cmd α):Cmd α:=match v with
 | .dp t' x 0=>TQ t' t x K .fail
 | .ptr bx 0=> .get (Y4+bx) λ
  | .bcells bs=>bif ln t then kz ln t bs λx q=>(match q with
   |[]=> .get (Y4+bx) λ
    | .bcells _=>K x|_=> .fail
   |_=> .fail)else .fail
  |_=> .fail
 |_=> .fail
def MN{α:Type} :(ts:List Ty)->List ((t:Ty)×t.den)->(QJ ts->Cmd α)->Cmd α
 |[],cs,K=>match cs with|[]=>K ()|_=> .fail
 |[t],cs,K=>match cs with|[⟨t',x⟩]=>TQ t' t x K .fail|_=> .fail
 |t::t' ::r,cs,K=>match cs with
  |⟨u,x⟩::cs=>TQ u t x (λx=>MN (t' ::r) cs λy=>K (x,y)) .fail|[]=> .fail
def QG:(ts:List Ty)->QJ ts->List ((t:Ty)×t.den)
 |[],_=>[]|[t],x=>[⟨t,x⟩]|t::t' ::r,x=>⟨t,x.1⟩::QG (t' ::r) x.2
def sbC(te:Nat)(c:V)(K:List UInt8->Cmd α):Cmd α:=match c with
 | .nl=>K []
 | .own b none=> .get (Y4+b) λ
  | .brow te' xs=>bif Nat.beq te' te then Cmd.set (Y4+b) .dead (K xs)else .fail|_=> .fail
 |_=> .fail
def exM{α:Type}(ln:Ty->Bool):(m:M)->List V->(m.den->List V->Cmd α)->Cmd α
 | .dat t,cs,K=>kz ln t cs K
 | .own t,cs,K=>match cs with
  | .nl::r=>bif t.isEnt then .fail else K [] r
  | .own bx vw::r=> .get (Y4+bx) λ
   | .barr t' xs=>Ty.castL t' t xs (λys=>Cmd.set (Y4+bx) .dead (K (iI vw ys) r)) Cmd.fail|_=> .fail
  |_=> .fail
 | .pair a b,cs,K=>exM yI a cs λx r=>exM yI b r λy r' =>K (x,y) r'| .unit,cs,K=>K () cs
 | .box m,cs,K=>match cs with
  | .ptr bx 0::r=> .get (Y4+bx) λ
   | .bcells bs=>Cmd.set (Y4+bx) .dead (exM yI m bs λx q=>match q with|[]=>K x r|_=> .fail)|_=> .fail
  |_=> .fail
 | .owns m,cs,K=>match cs with
  | .nl::r=>bif m.el then K [] r else .fail
  | .own bx none::r=> .get (Y4+bx) λ
   | .barrs m' xs none=>a2H m' m xs (λys=>Cmd.set (Y4+bx) .dead (K ys r)) Cmd.fail|_=> .fail
  |_=> .fail
 | .ownb t,cs,K=>match cs with
  | .nl::r=>bif t.isEnt then .fail else K [] r
  | .own bx none::r=> .get (Y4+bx) λ
   | .barr t' xs=>Ty.castL t' t xs (λys=>Cmd.set (Y4+bx) (.gone t) (K ys r)) Cmd.fail|_=> .fail
  |_=> .fail
 | .rp t,cs,K=>match cs with
  |v::r=>rpC t v λx=>K x r|_=> .fail
 | .fn f ts,cs,K=>match cs with
  | .clos g caps::r=>bif Nat.beq g f then MN ts caps λx=>K x r else .fail
  | .fnv g::r=>bif Nat.beq g f then MN ts [] λx=>K x r else .fail|_=> .fail
 | .ifc t m,cs,K=>match cs with
  | .ifc t' v::r=>bif Nat.beq t' t then exM yI m [v] λx q=>(match q with|[]=>K x r|_=> .fail)else .fail|_=> .fail
 | .cell (some none),cs,K=>match cs with
  | .nl::r=>K () r|_=> .fail
 | .cell (some (some b)),cs,K=>match cs with
  | .ne true::r=>bif b then K () r else .fail| .ne false::r=>bif b then .fail else K () r|_=> .fail
 | .cell none,cs,K=>match cs with
  |_::r=>K () r|_=> .fail
 | .fr t,cs,K=>match cs with
  | .nl::r=>bif t.isEnt then .fail else K [] r
  | .own bx none::r=> .get (Y4+bx) λ
   | .barr t' xs=>Ty.castL t' t xs (λys=>Cmd.set (Y4+bx) (.bfrz t ys) (K ys r)) Cmd.fail| .bfrz t' xs=>Ty.castL t' t xs (λys=>K ys r) Cmd.fail|_=> .fail
  |_=> .fail
 | .sit,cs,K=>match cs with
  | .ptr bx 0::r=> .get (Y4+bx) λ
   | .biter l p=>Cmd.set (Y4+bx) .dead (K (l,p) r)|_=> .fail
  |_=> .fail
 | .lp t,cs,K=>match cs with
  |v::r=>lpC ln t v λx=>K x r|_=> .fail
 | .dv ..,cs,K=>match cs with
  |_::r=>K () r|_=> .fail
 | .sbx tb te,cs,K=>match cs with
  | .ptr bx 0::r=> .get (Y4+bx) λ
   | .bsb tb' c=>bif Nat.beq tb' tb then(sbC te c λys=>Cmd.set (Y4+bx) .dead (K ys r))else .fail|_=> .fail
  |_=> .fail
def cellsOf(v:V):List V:=match v with| .agg cs=>cs|v=>[v]
def tH(n:Nat)(v:V)(K:Cmd α):Cmd α:=.get (Y4+n) λ
 | .undef=> .set (Y4+n) v K|_=> .fail
def emM{α:Type} :(m:M)->m.den->Nat->List V->(List V->Nat->Cmd α)->Cmd α
 | .dat t,x,n,r,K=>K (flat t x r) n| .own t,xs,n,r,K=>tH n (.barr t xs) (K (.own n none::r) (n+1))
 | .pair a b,x,n,r,K=>emM b x.2 n r λr' n' =>emM a x.1 n' r' K| .unit,_,n,r,K=>K r n
 | .box m,x,n,r,K=>emM m x (n+1) [] λcs n' =>tH n (.bcells cs) (K (.ptr n 0::r) n')| .owns m,xs,n,r,K=>tH n (.barrs m xs none) (.set (Y4+(ML+n)) (.blen (o9 xs) m.size) (K (.own n none::r) (n+1)))| .ownb t,xs,n,r,K=>tH n (.barr t xs) (K (.own n none::r) (n+1))| .rp t,x,n,r,K=>K (.dp t x 0::r) n| .fn f ts,x,n,r,K=>K (.clos f (QG ts x)::r) n
 | .ifc t m,x,n,r,K=>emM m x n [] λcs n' =>match cs with|[c]=>K (.ifc t c::r) n'|_=> .fail
 | .cell (some none),_,n,r,K=>K (.nl::r) n| .cell (some (some b)),_,n,r,K=>K (.ne b::r) n| .cell none,_,n,r,K=>K (.undef::r) n| .fr t,xs,n,r,K=>tH n (.bfrz t xs) (K (.own n none::r) (n+1))| .sit,x,n,r,K=>tH n (.biter x.1 x.2) (K (.ptr n 0::r) (n+1))| .lp t,x,n,r,K=>K (.dp t x 0::r) n| .dv ..,_,n,r,K=>K (.undef::r) n| .sbx tb te,xs,n,r,K=>tH (n+1) (.brow te xs) (tH n (.bsb tb (.own (n+1) none)) (K (.ptr n 0::r) (n+2)))
structure Sig where
 ms:List (Nat×MG)
 als:List (Nat×Nat)
@[reducible] def oP (s:Sig):Type:=V4 (s.ms.map (·.2))
def TR(ag:Bool)(v:V)(K:List V->Cmd α):Cmd α:=match ag,v with
 |true,.agg cs=>K cs|true,_=> .fail|false,.agg _=> .fail|false,.tup _=> .fail|false,.undef=> .fail|false,.un=> .fail|false,v=>K [v]
def ER(v:V)(K:List V->Cmd α):Cmd α:=match v with
 | .agg cs=>K cs| .tup _=> .fail| .undef=> .fail| .un=> .fail|v=>K [v]
def M.isDat:M->Bool| .dat _=>true| .lp _=>true|_=>false
def Uk(ln:Ty->Bool)(m:MG)(v:V)(K:m.2.den->Cmd α):Cmd α:=
 TR m.1 v λcs=>exM ln m.2 cs λx q=>match q with|[]=>K x|_=> .fail
def LU{α:Type}(ln:Ty->Bool):(ms:List MG)->List V->(V4 ms->Cmd α)->Cmd α
 |[],vs,K=>match vs with|[]=>K ()|_=> .fail
 |[m],vs,K=>match vs with
  |[v]=>Uk ln m v K|_=> .fail
 |m::m' ::r,vs,K=>match vs with
  |v::vs=>bif m.2.isDat then LU ln (m' ::r) vs λy=>Uk ln m v λx=>K (x,y)
   else Uk ln m v λx=>LU ln (m' ::r) vs λy=>K (x,y)
  |[]=> .fail
def Yb{α:Type} :List Nat->(List V->Cmd α)->Cmd α
 |[],K=>K []
 |s::r,K=>bif Nat.blt s Y4 then .get s λv=>Yb r λvs=>K (v::vs)else .fail
def b1G:V->V->Bool
 | .own a none,.own b none=>Nat.beq a b|_,_=>false
def a9C{α:Type} :List (Nat×Nat)->Cmd α->Cmd α
 |[],K=>K
 |(n,k)::r,K=>bif Nat.blt n Y4&&Nat.blt k Y4 then .get n λv=> .get k λu=>bif b1G v u then a9C r K else .fail else .fail
def a5z(s:Sig):Cmd (oP s):=a9C s.als (Yb (s.ms.map (·.1)) λvs=>LU yI (s.ms.map (·.2)) vs .ret)
def mkV(ag:Bool)(cs:List V):V:=match ag,cs with|true,cs=> .agg cs|false,[v]=>v|false,_=> .undef
def LQ{α:Type} :(ms:List MG)->V4 ms->Nat->(List V->Nat->Cmd α)->Cmd α
 |[],_,n,K=>K [] n
 |[m],x,n,K=>emM m.2 x n [] λcs n' =>K [mkV m.1 cs] n'
 |m::m' ::r,x,n,K=>emM m.2 x.1 n [] λcs n' =>LQ (m' ::r) x.2 n' λvs n'' =>K (mkV m.1 cs::vs) n''
def Lh:List Nat->List V->Cmd Unit->Cmd Unit
 |[],[],K=>K|n::ns,v::vs,K=>bif Nat.blt n Y4 then .set n v (Lh ns vs K)else .fail|_,_,_=> .fail
def YF:List (Nat×Nat)->Cmd Unit
 |[]=> .ret ()
 |(n,k)::r=>bif Nat.blt n Y4&&Nat.blt k Y4 then .get k λv=> .set n v (YF r)else .fail
def a5v(s:Sig)(x:oP s)(nb lim:Nat):Cmd Unit:=
 LQ (s.ms.map (·.2)) x nb λvs n=>bif Nat.ble n lim then Lh (s.ms.map (·.1)) vs (YF s.als)else .fail
def a0E:Value->V
 | .bool b=> .b b| .int k n=> .i k n| .string s=> .s s.data.toList| .slice none 0 0=> .nl|_=> .undef
def nV(x:Operand)(K:V->Cmd α):Cmd α:=
 match x with
 | .tmp t=>bif Nat.blt t Y4 then .get t K else .fail| .const v=>K (a0E v)| .global g=>K (.glob g)| .func f=>K (.fnv f)
def OA{α:Type} :List Operand->(List V->Cmd α)->Cmd α
 |[],K=>K []
 |x::r,K=>nV x λv=>OA r λvs=>K (v::vs)
def Ud(n:Nat)(cs:List V):Option (List V):=match n,cs with
 |0,cs=>some cs|n+1,_::cs=>Ud n cs|_+1,[]=>none
def a0c{R:Type u}(n:Nat)(cs:List V)(K:List V->R)(f:R):R:=match n,cs with
 |0,_=>K []|n+1,c::cs=>a0c n cs (λr=>K (c::r)) f|_+1,[]=>f
def SN{R:Type u}(off n:Nat)(cs:List V)(K:List V->R)(f:R):R:=match Ud off cs with|some r=>a0c n r K f|none=>f
def OE{R:Type u}(off:Nat)(vs cs:List V)(K:List V->R)(f:R):R:=match off,vs,cs with
 |0,[],cs=>K cs|0,v::vs,_::cs=>OE 0 vs cs (λr=>K (v::r)) f|n+1,vs,c::cs=>OE n vs cs (λr=>K (c::r)) f|_,_,[]=>f
def BN:Operand->Bool
 | .const (.int _ n)=>decide (n=0)|_=>true
def FX:Operand->Bool
 | .const (.int _ n)=>decide (n<0)|_=>true
def eq1:V->V->Option Bool
 | .b x,.b y=>some (Bh x y)| .i j x,.i k y=>bif decide (j=k)then some (x8 x y)else none| .s x,.s y=>some (seq x y)|_,_=>none
def yh:List V->List V->Option Bool
 |[],[]=>some true
 |a::r,b::q=>match eq1 a b with
  |none=>none
  |some e=>match r,q with
   |[],[]=>some e|_,_=>(match yh r q with|some e' =>some (dA e e')|none=>none)
 |_,_=>none
def yT:List Ty->List V->Bool
 |[],[]=>true| .bool::ts,.b _::cs=>yT ts cs| .int k::ts,.i k' _::cs=>decide (k=k')&&yT ts cs| .str::ts,.s _::cs=>yT ts cs|_,_=>false
def Dc(n:Nat):List Nat->Bool|[]=>false|k::r=>bif Nat.beq k n then true else Dc n r
def a5S(E:Env)(t:Nat)(op:BinOp)(b:Bool)(K:V->Cmd α):Cmd α:=
 match bK E.tt t with
 |some i=>match i.td,op with
  | .sl _,.eql=>K (.b b)| .sl _,.neq=>K (.b (D9 b))|_,_=> .fail
 |none=> .fail
def Jf(E:Env)(t:Nat)(op:BinOp)(yc:Operand)(x y:V)(K:V->Cmd α):Cmd α:=
 match x,y with
 | .i k a,.i k' b=>
  match op with
  | .shl=>bif FX yc then Cmd.opt (ZK k a b) λr=>K (.i k r)else K (.i k (a9N k a b))
  | .shr=>bif FX yc then Cmd.opt (a2U k a b) λr=>K (.i k r)else K (.i k (tu k a b))|_=>
  bif decide (k=k')then
   match op with
   | .add=>K (.i k (D8 k a b))| .sub=>K (.i k (L6 k a b))| .mul=>K (.i k (lK k a b))
   | .quo=>bif BN yc then Cmd.opt (WZ k a b) λr=>K (.i k r)else K (.i k (aY k a b))
   | .rem=>bif BN yc then Cmd.opt (a2T a b) λr=>K (.i k r)else K (.i k (fU a b))| .and=>K (.i k (a4i k a b))| .or=>K (.i k (ior k a b))| .xor=>K (.i k (a5G k a b))| .andNot=>K (.i k (a2R k a b))| .eql=>K (.b (x8 a b))| .neq=>K (.b (D9 (x8 a b)))| .lss=>K (.b (G5 a b))| .leq=>K (.b (O7 a b))| .gtr=>K (.b (G5 b a))| .geq=>K (.b (O7 b a))|_=> .fail
  else .fail
 | .s a,.s b=>
  match op with
  | .add=>Cmd.opt (J8 a b) λr=>K (.s r)| .eql=>K (.b (seq a b))| .neq=>K (.b (D9 (seq a b)))| .lss=>K (.b (slt a b))|_=> .fail
 | .b a,.b b=>
  match bK E.tt t with
  |some i=>match i.td,op with
   | .bool,.eql=>K (.b (Bh a b))| .bool,.neq=>K (.b (D9 (Bh a b)))|_,_=> .fail
  |none=> .fail
 | .agg xs,.agg ys=>
  match bK E.eqs t with
  |some sh=>bif yT sh xs&&yT sh ys then(match op,yh xs ys with
   | .eql,some e=>K (.b e)| .neq,some e=>K (.b (D9 e))
   |_,_=> .fail)else .fail
  |none=> .fail
 | .nl,.nl=>a5S E t op true K| .ne b,.nl=>a5S E t op b K| .sl u xs,.nl=>bif u.isEnt then .fail else .br (x8 (o9 xs) 0) .fail (a5S E t op false K)|_,_=> .fail
def unC(op:UnOp)(x:V)(K:V->Cmd α):Cmd α:=
 match op,x with
 | .neg,.i k a=>K (.i k (L6 k 0 a))| .xor,.i k a=>K (.i k (a5G k (bif k.signed then -1 else k.max) a))| .not,.b a=>K (.b (D9 a))|_,_=> .fail
def Xj(E:Env)(t:Nat):Bool:=bif Nat.blt t E.nt then !(Dc t E.kp)else false
def cO(E:Env)(d:Option Tmp)(v:V):Cmd Unit:=match d with|some t=>bif Xj E t then .set t v (.ret ())else .fail|none=> .ret ()
def N7(q:Nat)(d:Option Tmp):Nat:=match d with|some t=>CB*q+64*t|none=>CB*q+999936
def tiC(E:Env)(t:Nat)(K:TI->Cmd α):Cmd α:=match bK E.tt t with|some i=>K i|none=> .fail
def bf:TD->Bool| .struct _| .arr _ _=>true|_=>false
def LW(E:Env)(t:Nat)(p:V)(K:V->Cmd α):Cmd α:=
 tiC E t λi=>match p with
 | .ptr bx off=> .get (Y4+bx) λ
  | .bcells cs=>SN off i.size cs (λr=>K (mkV (bf i.td) r)) Cmd.fail| .bfc u x=>SN off i.size (flat u x []) (λr=>K (mkV (bf i.td) r)) Cmd.fail|_=> .fail
 | .ep bx idx off=> .get (Y4+bx) λ
  | .barr u xs=>Cmd.opt (Y5 xs idx) λx=>SN off i.size (flat u x []) (λr=>K (mkV (bf i.td) r)) Cmd.fail
  | .bfrz u xs=>Cmd.opt (Y5 xs idx) λx=>SN off i.size (flat u x []) (λr=>K (mkV (bf i.td) r)) Cmd.fail
  | .barrs m xs _=>Cmd.opt (Y5 xs idx) λx=>SN off i.size (IA m x []) (λr=>K (mkV (bf i.td) r)) Cmd.fail|_=> .fail
 | .dp u x off=>SN off i.size (flat u x []) (λr=>K (mkV (bf i.td) r)) Cmd.fail|_=> .fail
def UT{R:Type u} :(m:M)->Nat->m.den->(V->R)->R->R
 | .own t,off,xs,K,f=>bif Nat.beq off 0 then K (.barr t xs)else f| .owns m,off,xs,K,f=>bif Nat.beq off 0 then K (.barrs m xs none)else f| .pair a b,off,x,K,f=>bif Nat.blt off a.size then UT a off x.1 K f else UT b (off -a.size) x.2 K f|_,_,_,_,f=>f
def Yg{R:Type u} :(m:M)->Nat->V->m.den->(m.den->R)->R->R
 | .own t,off,v,_,K,f=>bif Nat.beq off 0 then(match v with| .barr t' ys=>Ty.castL t' t ys K f| .nl=>bif t.isEnt then f else K []|_=>f)else f| .owns m,off,v,_,K,f=>bif Nat.beq off 0 then(match v with| .barrs m' ys none=>a2H m' m ys K f| .nl=>K []|_=>f)else f| .pair a b,off,v,x,K,f=>bif Nat.blt off a.size then Yg a off v x.1 (λy=>K (y,x.2)) f else Yg b (off -a.size) v x.2 (λy=>K (x.1,y)) f|_,_,_,_,_,f=>f
def a4a{α:Type} :(m:M)->Nat->List V->m.den->(m.den->Cmd α)->Cmd α
 | .dat t,off,vs,x,K=>bif t.flat then OE off vs (flat t x []) (λr=>kz yI t r λy q=>match q with|[]=>K y|_=> .fail) .fail else .fail| .pair a b,off,vs,x,K=>bif Nat.blt off a.size then a4a a off vs x.1 (λy=>K (y,x.2))else a4a b (off -a.size) vs x.2 (λy=>K (x.1,y))|_,_,_,_,_=> .fail
def M.ownAt:M->Nat->Bool
 | .own _,off=>Nat.beq off 0| .owns _,off=>Nat.beq off 0| .pair a b,off=>bif Nat.blt off a.size then a.ownAt off else b.ownAt (off -a.size)|_,_=>false
def Yd(h:Option (Nat×Nat×Option Nat))(idx off:Nat):Bool:=match h with|none=>true|some (i,o,_)=>bif Nat.beq o off then Ls i idx else false
def b1x(E:Env)(d:Option Tmp)(nm t:Nat)(p:V)(K:V->Cmd α):Cmd α:=
 match p with
 | .ep bx idx off=> .get (Y4+bx) λ
  | .barrs m xs none=>bif m.ownAt off then tiC E t λi=>(bif Nat.beq i.size 1&&!bf i.td then
     (bif Dc (match d with|some d=>d|none=>Y4) E.tk then
      Cmd.opt (Y5 xs idx) λx=>UT m off x (λv=>Cmd.set (Y4+bx) (.barrs m xs (some (idx,off,none))) (tH nm v (Cmd.set (Y4+bx) (.barrs m xs (some (idx,off,some nm))) (K (.own nm none))))) .fail
     else kz yI (.sl m.ty) [.own bx none] λ_ _=>LW E t p K)else .fail)
    else LW E t p K
  | .barrs m xs (some (i,o,some n))=>bif m.ownAt off then tiC E t λj=>(bif Nat.beq j.size 1&&!bf j.td then
     .br (Yd (some (i,o,some n)) idx off) (K (.own n none)) .fail else .fail)
    else LW E t p K
  |_=>LW E t p K
 |_=>LW E t p K
def b1v:V->Bool| .barr ..=>true| .barrs _ _ none=>true|_=>false
def XQ(bx:Nat)(K:Cmd α):Cmd α:=.get (Y4+bx) λ
 | .barrs _ _ (some (_,_,some n))=> .get (Y4+n) λw=>bif b1v w then Cmd.set (Y4+n) .dead (.get (Y4+bx) λ
  | .barrs m xs (some (i,o,some _))=>Cmd.opt (Y5 xs i) λx=>Yg m o w x (λy=>Cmd.set (Y4+bx) (.barrs m (dW xs i y) none) K) .fail
  |_=> .fail)else .fail
 |_=>K
def PE{α:Type} :List V->Cmd α->Cmd α
 |[],K=>K
 |v::r,K=>match v with
  | .own bx none=>XQ bx (PE r K)|_=>PE r K
def Jj{α:Type} :List V->Cmd α->Cmd α
 |[],K=>K
 |v::r,K=>match v with
  | .own bx none=>XQ bx (Jj r K)
  | .ptr bx 0=> .get (Y4+bx) λ
   | .bcells cs=>PE cs (Jj r K)|_=>Jj r K
  | .agg cs=>PE cs (Jj r K)|_=>Jj r K
def YV(bx idx off:Nat)(m:M)(xs:List m.den)(hole:Option (Nat×Nat×Option Nat))(v:V)(K:Cmd Unit):Cmd Unit:=
 .br (Yd hole idx off) (Cmd.opt (Y5 xs idx) λx=>Yg m off v x (λy=>Cmd.set (Y4+bx) (.barrs m (dW xs idx y) none) K) .fail) .fail
def a9n(E:Env)(t:Nat)(p v:V):Cmd Unit:=
 tiC E t λi=>match p with
 | .ptr bx off=> .get (Y4+bx) λ
  | .bcells cs=>ER v λvs=>bif Nat.beq vs.length i.size then OE off vs cs (λr=>Cmd.set (Y4+bx) (.bcells r) (.ret ())) Cmd.fail else .fail|_=> .fail
 | .ep bx idx off=> .get (Y4+bx) λ
  | .barr u xs=>Cmd.opt (Y5 xs idx) λx=>ER v λvs=>bif Nat.beq vs.length i.size then OE off vs (flat u x []) (λr=>
    kz yI u r λy q=>match q with
     |[]=> .get (Y4+bx) λ
      | .barr u' xs' =>Ty.castL u' u xs' (λxs' =>Cmd.set (Y4+bx) (.barr u (dW xs' idx y)) (.ret ())) Cmd.fail|_=> .fail
     |_=> .fail) Cmd.fail else .fail
  | .barrs m xs hole=>bif m.ownAt off&&Nat.beq i.size 1&&!bf i.td then(match v with
    | .nl=>YV bx idx off m xs hole .nl (.ret ())
    | .own b2 none=> .get (Y4+b2) λw=>bif b1v w then Cmd.set (Y4+b2) .dead (.get (Y4+bx) λ
     | .barrs m xs hole=>YV bx idx off m xs hole w (.ret ())
     |_=> .fail)else .fail
    |_=> .fail)
   else match hole with
    |none=>ER v λvs=>bif Nat.beq vs.length i.size then Cmd.opt (Y5 xs idx) λx=>a4a m off vs x λy=>Cmd.set (Y4+bx) (.barrs m (dW xs idx y) none) (.ret ())else .fail|some _=> .fail
  |_=> .fail
 |_=> .fail
def szB(sz:Nat)(u:Ty):Bool:=bif u.isEnt then false else Nat.beq sz u.size
def Jp(E:Env)(t f:Nat):Option (Nat×Nat×Bool):=
 match bK E.tt t with
 |some i=>match i.td with
  | .struct fs=>match fs[f]? with
   |some (ft,off)=>match bK E.tt ft with|some j=>bif Nat.beq j.size 0 then none else some (off,j.size,bf j.td)|none=>none
   |none=>none
  |_=>none
 |none=>none
def ZP(vw:Option (Nat×Nat)):Nat:=match vw with|none=>0|some (lo,_)=>lo
def b2g(vw:Option (Nat×Nat))(n:Nat):Nat:=match vw with|none=>n|some (lo,_)=>lo+n
theorem a9P(vw:Option (Nat×Nat))(n:Nat):b2g vw n=ZP vw+n:=by cases vw<;>simp[b2g,ZP]
def GH(E:Env)(t:Nat):Option (Bool×Nat×Nat):=
 match bK E.tt t with
 |some i=>match i.td with
  | .sl e=>match bK E.tt e with|some j=>some (false,0,j.size)|none=>none
  | .arr n e=>match bK E.tt e with|some j=>some (true,n,j.size)|none=>none
  |_=>none
 |none=>none
def Ux(E:Env)(t:Nat)(x ix:V)(K:V->Cmd α):Cmd α:=
 match ix,GH E t with
 | .i _ n,some (false,_,sz)=>match x with
  | .sl u xs=>bif szB sz u then Cmd.opt (J4 xs n) λy=>K (.dp u y 0)else .fail
  | .own bx vw=> .get (Y4+(ML+bx)) λ
   | .blen ln sz' =>(match vw with|none=>bif Nat.beq sz sz' then .br (inb n ln) (K (.ep bx (X4 n) 0)) .fail else .fail|_=> .fail)
   |_=> .get (Y4+bx) λ
   | .barr u xs=>bif szB sz u then Cmd.opt (J4 (iI vw xs) n) λ_=>K (.ep bx (b2g vw (X4 n)) 0)else .fail
   | .bfrz u xs=>bif szB sz u then Cmd.opt (J4 (iI vw xs) n) λy=>K (.dp u y 0)else .fail| .barrs m xs _=>(match vw with|none=>bif Nat.beq sz m.size then Cmd.opt (J4 xs n) λ_=>K (.ep bx (X4 n) 0)else .fail|_=> .fail)|_=> .fail
  |_=> .fail
 | .i _ n,some (true,l,sz)=>match x with
  | .glob g=>match bK E.gl g with
   |some ⟨u,xs⟩=>bif Nat.beq sz u.size&&Nat.beq l xs.length then Cmd.opt (J4 xs n) λy=>K (.dp u y 0)else .fail|none=> .fail
  | .ptr bx off=> .br (inb n l) (K (.ptr bx (off+X4 n*sz))) .fail|_=> .fail
 |_,_=> .fail
def b7a(td:TD)(x:V)(K:V->Cmd α):Cmd α:=
 match td,x with
 | .str,.s l=>K (.i .i64 (o9 l))| .sl _,.sl t xs=>bif t.isEnt then .fail else K (.i .i64 (o9 xs))| .map ..,.sl t xs=>bif t.isEnt then K (.i .i64 (o9 xs))else .fail
 | .map ..,.own bx none=> .get (Y4+bx) λ
  | .barr t xs=>bif t.isEnt then K (.i .i64 (o9 xs))else .fail| .bfrz t xs=>bif t.isEnt then K (.i .i64 (o9 xs))else .fail|_=> .fail
 | .sl _,.nl=>K (.i .i64 0)
 | .sl _,.own bx vw=> .get (Y4+(ML+bx)) λ
  | .blen ln _=>(match vw with|none=>K (.i .i64 ln)|_=> .fail)
  |_=> .get (Y4+bx) λ
  | .barr t xs=>bif t.isEnt then .fail else K (.i .i64 (o9 (iI vw xs)))| .bfrz t xs=>bif t.isEnt then .fail else K (.i .i64 (o9 (iI vw xs)))| .barrs _ xs _=>(match vw with|none=>K (.i .i64 (o9 xs))|_=> .fail)|_=> .fail
 |_,_=> .fail
def zu(d:Int):Option V->Option Int
 |none=>some d|some (.i _ n)=>some n|some _=>none
def Qx(E:Env)(t:Nat)(x:V)(lo hi:Option V)(K:V->Cmd α):Cmd α:=
 match x with
 | .s l=>tiC E t λi=>match i.td,zu 0 lo,zu (o9 l) hi with
  | .str,some a,some b=>Cmd.opt (iQ l a b) λr=>K (.s r)|_,_,_=> .fail
 | .sl u l=>match GH E t,zu 0 lo,zu (o9 l) hi with
  |some (false,_,sz),some a,some b=>bif szB sz u then Cmd.opt (iQ l a b) λr=>K (.sl u r)else .fail|_,_,_=> .fail
 | .own bx none=> .get (Y4+bx) λ
  | .barr u xs=>match GH E t,zu 0 lo,zu (o9 xs) hi with
   |some (false,_,sz),some a,some b=>bif szB sz u then .br (jE a b (o9 xs)) (K (.own bx (some (X4 a,X4 b)))) .fail else .fail|_,_,_=> .fail
  | .bfrz u xs=>match GH E t,zu 0 lo,zu (o9 xs) hi with
   |some (false,_,sz),some a,some b=>bif szB sz u then .br (jE a b (o9 xs)) (K (.own bx (some (X4 a,X4 b)))) .fail else .fail|_,_,_=> .fail
  |_=> .fail
 |_=> .fail
def a0e{α:Type}(u:Ty):Nat->List V->(List u.den->Cmd α)->Cmd α
 |0,cs,K=>match cs with|[]=>K []|_=> .fail
 |n+1,cs,K=>kz yI u cs λx r=>a0e u n r λxs=>K (x::xs)
def Vz(E:Env)(nm t bx:Nat)(K:V->Cmd Unit):Cmd Unit:=tiC E t λi=>match i.td with
 | .arr n e=>tiC E e λj=>(match j.ty with
  |some u=>bif u.flat then .get (Y4+bx) λ
   | .bcells cs=>a0e u n cs λxs=>Cmd.set (Y4+bx) .dead (tH nm (.barr u xs) (K (.own nm none)))|_=> .fail
   else .fail
  |none=> .fail)
 |_=> .fail
def AA(E:Env)(t:Nat):Option (Nat×Ty):=
 match bK E.tt t with
 |some i=>match i.td with
  | .sl e=>match bK E.tt e with
   |some j=>match j.ty with|some u=>bif (Nat.beq u.size j.size&&Nat.ble j.bytes 65536&&!u.isEnt)then some (e,u)else none|none=>none
   |none=>none
  |_=>none
 |none=>none
def SQ(nm:Nat)(u:Ty)(x:V)(ys:List u.den)(K:V->Cmd Unit):Cmd Unit:=
 match x with
 | .nl=>Cmd.opt (aT [] ys) λzs=>tH nm (.barr u zs) (K (.own nm none))
 | .own bx vw=> .get (Y4+bx) λ
  | .barr u' xs=>Ty.castL u' u xs (λxs=>Cmd.opt (aT (iI vw xs) ys) λzs=>Cmd.set (Y4+bx) .dead (tH nm (.barr u zs) (K (.own nm none)))) Cmd.fail|_=> .fail
 |_=> .fail
def b1s(E:Env)(t:Nat)(x y:V)(K:V->Cmd Unit):Cmd Unit:=
 match AA E t with
 |none=> .fail
 |some (_,u)=>match bK E.om t with
  |none=>m_ u y λys=>(match x with
   | .own bx none=> .get (Y4+bx) λ
    | .barr u' xs=>Ty.castL u' u xs (λxs=>Cmd.set (Y4+bx) (.barr u (Oe xs ys)) (K (.i .i64 (xk (o9 xs) (o9 ys))))) Cmd.fail|_=> .fail
   |_=> .fail)
  |some _=> .fail
def a2D(E:Env)(nm:Nat)(t:Nat)(x:V)(l:List UInt8)(K:V->Cmd Unit):Cmd Unit:=
 match AA E t with
 |some (_,.int .u8)=>(match bK E.om t with|none=>SQ nm (.int .u8) x (Wh l) K|some _=> .fail)|_=> .fail
def a5p(E:Env)(nm:Nat)(t:Nat)(l:List UInt8)(K:V->Cmd Unit):Cmd Unit:=
 match AA E t with
 |some (e,.int .u8)=>tiC E e λk=>(match k.td with
  | .int .u8=>tH nm (.barr (.int .u8) (Wh l)) (K (.own nm none))
  |_=> .fail)
 |_=> .fail
def a2C(E:Env)(nm:Nat)(t:Nat)(x y:V)(K:V->Cmd Unit):Cmd Unit:=
 match AA E t with
 |none=> .fail
 |some (_,u)=>match bK E.om t with
  |none=>m_ u y λys=>SQ nm u x ys K
  |some m=>bif Nat.beq m.size u.size then exM yI (.owns m) [y] λys _=>exM yI (.owns m) [x] λxs _=>Cmd.opt (aT xs ys) λzs=>tH nm (.barrs m zs none) (K (.own nm none))else .fail
def xf{α:Type}(u:Ty):List (Nat×V)->Nat->Nat->(List u.den->Cmd α)->Cmd α
 |[],_,0,K=>K []
 |(i,v)::r,n,m+1,K=>bif Nat.beq i n then ER v λcs=>kz yI u cs λx q=>match q with|[]=>xf u r (n+1) m λxs=>K (x::xs)|_=> .fail else .fail
 |_,_,_,_=> .fail
def ug{α:Type}(m:M):List (Nat×V)->Nat->Nat->(List m.den->Cmd α)->Cmd α
 |[],_,0,K=>K []
 |(i,v)::r,n,k+1,K=>bif Nat.beq i n then ER v λcs=>exM yI m cs λx q=>match q with|[]=>ug m r (n+1) k λxs=>K (x::xs)|_=> .fail else .fail
 |_,_,_,_=> .fail
def a2B(E:Env):List (Nat×Nat)->Bool
 |[]=>true
 |(t,_)::r=>match bK E.tt t with|some _=>a2B E r|none=>false
def Am{α:Type}(E:Env)(t:Nat):List (Nat×V)->List V->(List V->Cmd α)->Cmd α
 |[],cs,K=>K cs
 |(f,v)::r,cs,K=>match Jp E t f with
  |some (off,n,_)=>ER v λvs=>bif Nat.beq vs.length n then OE off vs cs (λcs' =>Am E t r cs' K) .fail else .fail|none=> .fail
def Je{α:Type}(sz:Nat):List (Nat×V)->List V->(List V->Cmd α)->Cmd α
 |[],cs,K=>K cs
 |(i,v)::r,cs,K=>ER v λvs=>bif Nat.beq vs.length sz then OE (i*sz) vs cs (λcs' =>Je sz r cs' K) .fail else .fail
def Z5{α:Type} :List MG->List V->List V->Cmd α->Cmd α
 |(_,.box _)::ms,.ptr bx _::vs,.agg cs::os,K=> .get (Y4+bx) λ
  | .dead=>Cmd.set (Y4+bx) (.bcells cs) (Z5 ms vs os K)|_=> .fail
 |(_,.box _)::_,_,_,_=> .fail
 |(_,.ifc _ (.box _))::ms,.ifc _ (.ptr bx _)::vs,.agg cs::os,K=> .get (Y4+bx) λ
  | .dead=>Cmd.set (Y4+bx) (.bcells cs) (Z5 ms vs os K)|_=> .fail
 |(_,.ifc _ (.box _))::_,_,_,_=> .fail
 |(_,.ownb _)::ms,.own bx none::vs,.own nm none::os,K=> .get (Y4+nm) λ
  | .barr u xs=>Cmd.set (Y4+nm) .dead (.get (Y4+bx) λ
   | .gone t=>Ty.castL u t xs (λxs=>Cmd.set (Y4+bx) (.barr t xs) (Z5 ms vs os K)) .fail
   |_=> .fail)
  |_=> .fail
 |(_,.ownb _)::ms,.nl::vs,.own nm none::os,K=>Cmd.set (Y4+nm) .dead (Z5 ms vs os K)|(_,.ownb _)::_,_,_,_=> .fail
 |(_,.sbx _ _)::ms,.ptr bx _::vs,.ptr nm _::os,K=> .get (Y4+nm) λ
  | .bsb tb c=>Cmd.set (Y4+nm) .dead (.get (Y4+bx) λ
   | .dead=>Cmd.set (Y4+bx) (.bsb tb c) (Z5 ms vs os K)
   |_=> .fail)
  |_=> .fail
 |(_,.sbx _ _)::_,_,_,_=> .fail|(_,.sit)::_,_,_,_=> .fail|_::ms,_::vs,os,K=>Z5 ms vs os K|[],[],[],K=>K|_,_,_,_=> .fail
def Ty.occ(t:Ty):Ty->Bool
 | .sl u=>decide (t=u) || Ty.occ t u| .prod a b=>Ty.occ t a || Ty.occ t b| .ent _ _ a b=>Ty.occ t a || Ty.occ t b|_=>false
def Ru(t:Ty):List Ty->Bool|[]=>false|u::r=>decide (t=u) || Ty.occ t u || Ru t r
def M.occ(t:Ty):M->Bool
 | .dat u=>Ty.occ t u| .own u=>Ty.occ t u| .pair a b=>a.occ t || b.occ t| .unit=>false| .box m=>m.occ t| .owns m=>m.occ t| .ownb u=>Ty.occ t u| .rp u=>decide (t=u) || Ty.occ t u| .fn _ ts=>Ru t ts| .ifc _ m=>m.occ t| .cell _=>false| .fr u=>decide (t=u) || Ty.occ t u| .sbx _ _=>false| .sit=>false| .lp u=>decide (t=u) || Ty.occ t u| .dv ..=>false
def JF(t:Ty):List MG->Bool|[]=>false|m::r=>m.2.occ t || JF t r
def Yh(s:FSpec):Ty->Bool:=λt=> !(JF t s.rs || JF t s.outs)
def Ii:Nat->List V->Option (List V×List V)
 |0,vs=>some ([],vs)
 |n+1,v::vs=>match Ii n vs with|some (a,b)=>some (v::a,b)|none=>none
 |_+1,[]=>none
def EQ:List V->Bool|[]=>false| .tup _::_=>true|_::r=>EQ r
def b0u:List V->V|[v]=>v|vs=> .tup vs
def MS:List MG->List V->Bool
 |(_,.fn g _)::ms,.clos f _::vs=>Nat.beq f g&&MS ms vs|(_,.fn g _)::ms,.fnv f::vs=>Nat.beq f g&&MS ms vs|(_,.ifc t _)::ms,.ifc t' _::vs=>Nat.beq t t' &&MS ms vs|(_,.dv _ _ _ fo)::ms,v::vs=>(match v with| .ep _ _ o=>Nat.beq o fo|_=>false)&&MS ms vs|_::ms,_::vs=>MS ms vs|_,_=>true
def n_:List (Nat×FSpec)->Nat->List V->Option FSpec
 |[],_,_=>none|(g,s)::r,f,vs=>bif Nat.beq g f&&MS s.ps vs then some s else n_ r f vs
def a2Z(sz fo:Nat)(c:V)(K:V->Cmd α):Cmd α:=match c with
 | .sl u xs=>bif szB sz u then Cmd.opt (J4 xs (L6 .i64 (o9 xs) 1)) λy=>K (.dp u y fo)else .fail
 | .own bx none=> .get (Y4+(ML+bx)) λ
  | .blen ln sz' =>bif Nat.beq sz sz' then .br (inb (L6 .i64 ln 1) ln) (K (.ep bx (X4 (L6 .i64 ln 1)) fo)) .fail else .fail
  |_=> .get (Y4+bx) λ
   | .barr u xs=>bif szB sz u then Cmd.opt (J4 xs (L6 .i64 (o9 xs) 1)) λ_=>K (.ep bx (X4 (L6 .i64 (o9 xs) 1)) fo)else .fail
   | .bfrz u xs=>bif szB sz u then Cmd.opt (J4 xs (L6 .i64 (o9 xs) 1)) λy=>K (.dp u y fo)else .fail
   | .barrs m xs _=>bif Nat.beq sz m.size then Cmd.opt (J4 xs (L6 .i64 (o9 xs) 1)) λ_=>K (.ep bx (X4 (L6 .i64 (o9 xs) 1)) fo)else .fail|_=> .fail
 |_=> .fail
def l_(off sz fo:Nat)(v:V)(K:V->Cmd α):Cmd α:=match v with
 | .ptr bx o=> .get (Y4+bx) λ
  | .bcells cs=>SN (o+off) 1 cs (λr=>match r with|[c]=>a2Z sz fo c K|_=> .fail) .fail|_=> .fail
 | .dp u x o=>SN (o+off) 1 (flat u x []) (λr=>match r with|[c]=>a2Z sz fo c K|_=> .fail) .fail|_=> .fail
def b6Z(a b:V)(K:Cmd α):Cmd α:=match a,b with
 | .ep n i o,.ep n' i' o' =>bif Nat.beq n n' &&Nat.beq o o' then .br (Ls i i') K .fail else .fail|_,_=> .fail
def a9Z:List V->Nat->V
 |[],_=> .un|v::_,0=>v|_::r,n+1=>a9Z r n
def dvC{α:Type}(all:List V):List MG->List V->Cmd α->Cmd α
 |(_,.dv k off sz fo)::ms,v::vs,K=>l_ off sz fo (a9Z all k) λr=>b6Z r v (dvC all ms vs K)|_::ms,_::vs,K=>dvC all ms vs K|[],[],K=>K|_,_,_=> .fail
def WL(E:Env)(q:Nat)(d:Option Tmp)(f:Nat)(vs:List V):Cmd Unit:=
 match n_ E.fs f vs with
 |none=> .fail|some s=>dvC vs s.ps vs<|
  LU (Yh s) s.ps vs λx=>Cmd.opt (s.fn x) λr=>
   LQ (s.rs++s.outs) r (N7 q d) λws n' =>bif Nat.ble n' (N7 q d+64)then(match Ii s.rs.length ws with
    |some (a,o)=>bif EQ a then .fail else Z5 s.ps vs o (cO E d (b0u a))
    |none=> .fail)else .fail
def ui{α:Type} :List MG->List V->(List ((t:Ty)×t.den)->Cmd α)->Cmd α
 |(_,.rp t)::ms,v::vs,K=>rpC t v λx=>ui ms vs λcs=>K (⟨t,x⟩::cs)|[],[],K=>K []|_,_,_=> .fail
def b6Y(c:(t:Ty)×t.den):V:=.dp c.1 c.2 0
def UG:List ((Nat×String)×Nat×Option Nat)->Nat->String->Option (Nat×Option Nat)
 |[],_,_=>none|((t,n),r)::l,u,m=>bif Nat.beq t u&&(n==m)then some r else UG l u m
def Ty.leaves:Ty->List Ty
 | .prod a b=>a.leaves++b.leaves| .unit=>[]|t=>[t]
def Qu:List Ty->List Ty->Bool
 |[],[]=>true|a::r,b::q=>bif Ty.beq a b then Qu r q else false|_,_=>false
def ZL(E:Env)(ke:Nat)(td:TD)(k:Ty):Bool:=
 match td,k with
 | .bool,.bool=>true| .int i,.int j=>decide (i=j)| .str,.str=>true| .struct _,k=>bif k.flat then(match bK E.eqs ke with|some sh=>Qu sh k.leaves|none=>false)else false|_,_=>false
structure MT where
 ke:Nat
 el:Nat
 ka:Bool
 va:Bool
 k:Ty
 v:Ty
abbrev MT.ent(m:MT):Ty:=.ent m.ka m.va m.k m.v
def Oi(E:Env)(t:Nat):Option MT:=
 match bK E.tt t with
 |some i=>match i.td with
  | .map ke el=>match bK E.tt ke,bK E.tt el with
   |some a,some b=>(match a.ty,b.ty with
    |some k,some v=>bif ZL E ke a.td k&&k.flat then some ⟨ke,el,bf a.td,bf b.td,k,v⟩else none
    |_,_=>none)
   |_,_=>none
  |_=>none
 |none=>none
def a5r(ag:Bool)(t:Ty)(v:V)(K:t.den->Cmd α):Cmd α:=
 TR ag v λcs=>kz yI t cs λx q=>match q with|[]=>K x|_=> .fail
def a6l(u:Ty)(v:V)(K:List u.den->Cmd α):Cmd α:=
 match v with
 | .sl t xs=>Ty.castL t u xs K .fail
 | .own bx none=> .get (Y4+bx) λ
  | .barr t xs=>Ty.castL t u xs K .fail| .bfrz t xs=>Ty.castL t u xs K .fail|_=> .fail
 |_=> .fail
def JC(E:Env)(nm t:Nat)(K:V->Cmd Unit):Cmd Unit:=
 match Oi E t with
 |some m=>tH nm (.barr m.ent []) (K (.own nm none))|none=> .fail
def a3b(E:Env)(t:Nat)(ok:Bool)(x ix:V)(K:V->Cmd Unit):Cmd Unit:=
 match Oi E t with
 |some m=>a5r m.ka m.k ix λkey=>a6l m.ent x λes=>
   bif ok then K (.tup [mkV m.va (flat m.v (a9T (keq m.k) es key m.v.zero) []),.b (a9U (keq m.k) es key)])
   else K (mkV m.va (flat m.v (a9T (keq m.k) es key m.v.zero) []))
 |none=> .fail
def Za(E:Env)(t:Nat)(x ix y:V):Cmd Unit:=
 match Oi E t with
 |some m=>a5r m.ka m.k ix λkey=>a5r m.va m.v y λz=>match x with
  | .own bx none=> .get (Y4+bx) λ
   | .barr u xs=>Ty.castL u m.ent xs (λes=>Cmd.set (Y4+bx) (.barr m.ent (a4q (keq m.k) es key z)) (.ret ())) .fail|_=> .fail
  |_=> .fail
 |none=> .fail
def Rt:M->List V->Bool
 | .dat _,_=>true| .unit,_=>true
 | .own t,cs=>match cs with| .nl::_=> !t.isEnt|_=>false
 | .owns _,cs=>match cs with| .nl::_=>true|_=>false
 | .pair a b,cs=>match Ud a.size cs with|some r=>bif Rt a cs then Rt b r else false|none=>false
 |_,_=>false
def a3O(E:Env)(t:Nat)(m:M):Bool:=
 match AA E t with
 |some (e,_)=>match bK E.tt e with|some j=>bif Nat.beq j.zero.length j.size then Rt m j.zero else false|none=>false
 |none=>false
def Vt:Operand->Operand->Bool
 | .tmp a,.tmp b=>Nat.beq a b|_,_=>false
def b6X(t:Nat)(zs:List V):V:=match zs with
 |[.npt,.nl]=> .bsb t .nl|zs=> .bcells zs
def aP(E:Env)(q:Nat)(o:Oper):Cmd Unit:=
 match o.op with
 | .move x| .assign x=>nV x λv=>cO E o.dst v
 | .pick c a b=>nV c λ
  | .b t=>bif t then nV a λva=>cO E o.dst va else nV b λvb=>cO E o.dst vb|_=> .fail
 | .alloc t=>tiC E t λi=>bif Nat.beq i.zero.length i.size then tH (N7 q o.dst) (b6X t i.zero) (cO E o.dst (.ptr (N7 q o.dst) 0))else .fail
 | .box _ x=>nV x λv=>ER v λcs=>tH (N7 q o.dst) (.bcells cs) (cO E o.dst (.ptr (N7 q o.dst) 0))
 | .build t ps=>tiC E t λi=>match i.td with
  | .struct fs=>bif a2B E fs&&Nat.beq i.zero.length i.size then(OA (ps.toList.map (·.2)) λvs=>
    Am E t ((ps.toList.map (·.1)).zip vs) i.zero (λcs=>cO E o.dst (.agg cs)))else .fail
  | .arr _ e=>tiC E e λj=>bif Nat.beq i.zero.length i.size then(OA (ps.toList.map (·.2)) λvs=>
    Je j.size ((ps.toList.map (·.1)).zip vs) i.zero (λcs=>cO E o.dst (.agg cs)))else .fail
  |_=> .fail
 | .buildSlice t n ps=>match AA E t with
  |some (_,u)=>bif Nat.ble (n*u.size) 16777216 then(OA (ps.toList.map (·.2)) λvs=>match bK E.om t with
    |none=>xf u ((ps.toList.map (·.1)).zip vs) 0 n λxs=>tH (N7 q o.dst) (.barr u xs) (cO E o.dst (.own (N7 q o.dst) none))
    |some m=>bif Nat.beq m.size u.size&&m.el then ug m ((ps.toList.map (·.1)).zip vs) 0 n λxs=>tH (N7 q o.dst) (.barrs m xs none) (cO E o.dst (.own (N7 q o.dst) none))else .fail)else .fail
  |none=> .fail
 | .load t x=>nV x λp=>b1x E o.dst (N7 q o.dst) t p λv=>cO E o.dst v
 | .store t x y=>match o.dst with|none=>nV x λp=>nV y λv=>a9n E t p v|some _=> .fail
 | .binOp op t x y _=>nV x λa=>nV y λb=>Jf E t op y a b λv=>cO E o.dst v
 | .unOp op _ x=>nV x λa=>unC op a λv=>cO E o.dst v
 | .convert src t x=>nV x λa=>tiC E src λj=>tiC E t λi=>match a,i.td with
  | .i _ n,.int k=>cO E o.dst (.i k (wrap k n))| .s l,.str=>cO E o.dst (.s l)| .s l,.sl _=>(match j.td with| .str=>a5p E (N7 q o.dst) t l λv=>cO E o.dst v|_=> .fail)
  |_,.str=>(match j.td with
   | .sl e=>tiC E e λk=>(match k.td with
    | .int .u8=>m_ (.int .u8) a λxs=>cO E o.dst (.s (Zp xs))
    |_=> .fail)
   |_=> .fail)
  |_,_=> .fail
 | .makeSlice t l c=>match bK E.om t with
  |some m=>(match AA E t with
   |some (_,u)=>nV l λ
    | .i _ n=>bif Vt l c&&Nat.beq m.size u.size&&a3O E t m then(if h:m.el=true/\m.ty=u then Cmd.opt (yH n (m.zero h.1)) λxs=>tH (N7 q o.dst) (.barrs m xs none) (.set (Y4+(ML+N7 q o.dst)) (.blen (o9 xs) m.size) (cO E o.dst (.own (N7 q o.dst) none)))else .fail)else .fail|_=> .fail
   |none=> .fail)
  |none=>match AA E t with
  |some (_,u)=>nV l λ
   | .i _ n=>bif Vt l c then
     Cmd.opt (yH n u.zero) λxs=>tH (N7 q o.dst) (.barr u xs) (cO E o.dst (.own (N7 q o.dst) none))
    else nV c λ
     | .i _ k=>Cmd.br (jE n k 1073741824) (Cmd.opt (yH n u.zero) λxs=>tH (N7 q o.dst) (.barr u xs) (cO E o.dst (.own (N7 q o.dst) none))) .fail|_=> .fail
   |_=> .fail
  |none=> .fail
 | .slice t x lo hi none=>nV x λv=>OA (lo.toList++hi.toList) λbs=>
   match lo,hi,bs with
   |none,none,[]=>(match v with
    | .ptr bx 0=>Vz E (N7 q o.dst) t bx λr=>cO E o.dst r
    |_=>Qx E t v none none λr=>cO E o.dst r)
   |some _,none,[a]=>Qx E t v (some a) none λr=>cO E o.dst r
   |none,some _,[b]=>Qx E t v none (some b) λr=>cO E o.dst r
   |some _,some _,[a,b]=>Qx E t v (some a) (some b) λr=>cO E o.dst r|_,_,_=> .fail
 | .fieldAddr t x f=>nV x λp=>match Jp E t f with
  |some (off,_,_)=>match p with
   | .ptr bx o' =>cO E o.dst (.ptr bx (o' +off))| .ep bx ix o' =>cO E o.dst (.ep bx ix (o' +off))| .dp u y o' =>cO E o.dst (.dp u y (o' +off))|_=> .fail
  |none=> .fail
 | .field t x f=>nV x λp=>match Jp E t f with
  |some (off,n,ag)=>TR true p λps=>SN off n ps (λcs=>cO E o.dst (mkV ag cs)) Cmd.fail|none=> .fail
 | .indexAddr t x ix=>nV x λv=>nV ix λn=>Ux E t v n λr=>cO E o.dst r
 | .index t x ix=>nV x λv=>nV ix λn=>tiC E t λi=>match i.td,v,n with
  | .str,.s l,.i _ k=>Cmd.opt (sat l k) λc=>cO E o.dst (.i .u8 c)|_,_,_=> .fail
 | .extract x n=>nV x λ
  | .tup vs=>match vs[n]? with|some v=>cO E o.dst v|none=> .fail
  |_=> .fail
 | .nilCheck x=>nV x λv=>match v with
  | .ptr ..| .ep ..| .dp ..| .glob _=>cO E o.dst v|_=> .fail
 | .call c=>OA c.args.toList λvs=>match c.callee with
  | .builtin .len=>(match c.argTypes.toList,vs with
   |t::_,[x]=>tiC E t λi=>b7a i.td x λv=>cO E o.dst v
   |_,_=> .fail)
  | .builtin .append=>(match c.argTypes.toList,vs with
   |[t,t'],[x,y]=>bif Nat.beq t t' then a2C E (N7 q o.dst) t x y λv=>cO E o.dst v else(match y with
    | .s l=>tiC E t' λi=>(match i.td with| .str=>a2D E (N7 q o.dst) t x l λv=>cO E o.dst v|_=> .fail)
    |_=> .fail)
   |_,_=> .fail)
  | .builtin .copy=>(match c.argTypes.toList,vs with
   |[t,t'],[x,y]=>bif Nat.beq t t' then b1s E t x y λv=>cO E o.dst v else .fail
   |_,_=> .fail)
  | .builtin .min=>(match vs with|[.i k a,.i k' b]=>bif decide (k=k')then cO E o.dst (.i k (xk a b))else .fail|_=> .fail)| .builtin .max=>(match vs with|[.i k a,.i k' b]=>bif decide (k=k')then cO E o.dst (.i k (rF a b))else .fail|_=> .fail)
  | .value (.func f)=>(match bK E.pl f with
   |some (off,sz)=>bif Nat.beq sz 0 then .fail else(match vs with|[v]=>l_ off sz 0 v λr=>cO E o.dst r|_=> .fail)
   |none=>WL E q o.dst f vs)
  | .value x=>nV x λ
   | .clos f caps=>WL E q o.dst f (vs++caps.map b6Y)|_=> .fail
  | .invoke x n=>nV x λ
   | .ifc t v=>(match UG E.ms t n with
    |some (f,none)=>WL E q o.dst f (v::vs)
    |some (f,some e)=>LW E e v λr=>WL E q o.dst f (r::vs)
    |none=> .fail)
   |_=> .fail
  |_=> .fail
 | .makeFunc (.func f) first caps=>bif Nat.beq first.size 0 then(match bK E.pl f with
  |some (n,z)=>bif Nat.beq z 0&&Nat.beq caps.size n then cO E o.dst (.idl f n)else .fail
  |none=>(match bK E.fs f with
   |some s=>OA caps.toList λvs=>ui (s.ps.drop (s.ps.length -vs.length)) vs λcs=>cO E o.dst (.clos f cs)
   |none=> .fail))else .fail
 | .defer c=>bif Nat.beq c.args.size 0 then(match o.dst,c.callee with
  |none,.value x=>nV x λ
   | .idl f n=>(match bK E.pl f with
    |some (k,z)=>bif Nat.beq z 0&&Nat.beq n k then cO E none .undef else .fail
    |none=> .fail)
   |_=> .fail
  |_,_=> .fail)else .fail
 | .makeInterface t x=>tiC E t λi=>(match i.td with
  | .bool| .int _| .str| .ptr _=>nV x λv=>(match v with
   | .b ..| .i ..| .s ..| .ptr ..=>cO E o.dst (.ifc t v)
   |_=> .fail)
  |_=> .fail)
 | .typeAssert x _ t ok=>tiC E t λi=>(match i.td with
  | .other=> .fail
  |_=>nV x λ
   | .ifc t' v=>bif Nat.beq t' t then cO E o.dst (bif ok then .tup [v,.b true]else v)else .fail
   |_=> .fail)
 | .makeMap t r=>(match r with
  |none=>JC E (N7 q o.dst) t λv=>cO E o.dst v
  |some h=>nV h λ
   | .i _ _=>JC E (N7 q o.dst) t λv=>cO E o.dst v
   |_=> .fail)
 | .range t x=>nV x λv=>tiC E t λi=>match i.td,v with
  | .str,.s l=>tH (N7 q o.dst) (.biter l 0) (cO E o.dst (.ptr (N7 q o.dst) 0))|_,_=> .fail
 | .next x isS=>bif isS then(nV x λ
   | .ptr bx 0=> .get (Y4+bx) λ
    | .biter l p=> .br (G5 p (o9 l)) (Cmd.set (Y4+bx) (.biter l (Kr l p)) (cO E o.dst (.tup [.b true,.i .i64 p,.i .i32 (Gn l p)]))) (cO E o.dst (.tup [.b false]))|_=> .fail
   |_=> .fail)else .fail
 | .lookup t x ix ok=>nV x λm=>nV ix λk=>a3b E t ok m k λv=>cO E o.dst v
 | .mapUpdate t x ix y| .insert t x ix y=>match o.dst with|none=>nV x λm=>nV ix λk=>nV y λv=>Za E t m k v|some _=> .fail
 |_=> .fail
def lX(E:Env)(q:Nat)(ops:List Oper)(o:Oper):Cmd Unit:=
 match o.guard with
 |none=>aP E q o
 |some (j,want)=>match ops[j]? with
  |some p=>match p.dst with
   |some t=>bif Nat.blt t Y4 then(.get t λ
    | .b y=>bif (bif want then y else !y)then aP E q o else cO E o.dst .un| .un=>cO E o.dst .un
    |_=> .fail)else .fail
   |none=> .fail
  |none=> .fail
def Ti(t:Nat)(s:St)(K:St->Option R):Option R:=
 (dN s t).force λ
  | .b y=>l7 y (K (.kv t (.b true)::s)) (K (.kv t (.b false)::s))| .un=>K s|_=>none
def b1q(ops:List Oper)(o:Oper):Option Nat:=
 match o.guard with
 |some (j,_)=>match ops[j]? with|some p=>p.dst|none=>none
 |none=>match o.op with| .pick (.tmp t) _ _=>some t|_=>none
abbrev Trs:=List Tr
def Nz{R:Type}(E:Env)(q:Nat)(all:List Oper):List Oper->St->Trs->(St->Trs->Option R)->Option R
 |[],s,t,K=>K s t
 |o::r,s,t,K=>match b1q all o with
  |none=>(lX E q all o).runK s ([],[]) λ_ s' tr=>Nz E q all r s' (tr::t) K
  |some p=>Ti p s λs=>(lX E q all o).runK s ([],[]) λ_ s' tr=>Nz E q all r s' (tr::t) K
def JV:List Nat->List Nat->Bool
 |[],[]=>true|a::r,b::q=>bif Nat.beq a b then JV r q else false|_,_=>false
def mM(o:Oper):Bool:=match o.op with| .call ..=>true|_=>false
def XY(E:Env)(o:Oper):Bool:=!mM o&&(match o.dst with|some d=>Dc d E.rc|none=>false)
def a5x(E:Env)(all:List Oper)(i:Nat):Bool:=match all[i]? with|some o=>XY E o|none=>false
def XN(all:List Oper)(i:Nat):Bool:=match all[i]? with|some o=>mM o|none=>false
def a9x(a b:V)(K:Option R):Option R:=
 a.force λa=>b.force λb=>match a with
  | .i k n=>(match b with| .i k' n' =>bif decide (k=k')then l7 (x8 n n') K none else none|_=>none)| .sl t xs=>(match b with| .sl u ys=>Ty.castL u t ys (λys=>l7 (deq (.sl t) xs ys) K none) none|_=>none)| .b x=>(match b with| .b y=>l7 (Bh x y) K none|_=>none)| .s x=>(match b with| .s y=>l7 (seq x y) K none|_=>none)|_=>none
abbrev a3Q:=List (Oper×Tr×V)
def Xt{R:Type}(E:Env)(q:Nat)(all:List Oper)(s:St):a3Q->Option R->Option R
 |[],K=>K
 |(o,tr,v)::p,K=>(lX E q all o).runK s ([],[]) λ_ s2 tr2=>match o.dst with
  |some d=>bif JV tr.1 tr2.1&&JV tr.2 tr2.2&&JV tr2.2 [d]then a9x v (dN s2 d) (Xt E q all s p K)else none|none=>none
def UV(E:Env)(o:Oper)(s:St)(tr:Tr)(p:a3Q):a3Q:=
 bif XY E o then(match o.dst with|some d=>(o,tr,dN s d)::p|none=>p)else p
def yS{R:Type}(E:Env)(q:Nat)(all:List Oper):List Oper->St->Trs->a3Q->(St->Trs->Option R)->Option R
 |[],s,t,_,K=>K s t
 |o::r,s,t,p,K=>match b1q all o with
  |none=>(lX E q all o).runK s ([],[]) λ_ s' tr=>bif mM o then Xt E q all s' p (yS E q all r s' (tr::t) p K)else yS E q all r s' (tr::t) (UV E o s' tr p) K
  |some g=>Ti g s λs=>(lX E q all o).runK s ([],[]) λ_ s' tr=>bif mM o then Xt E q all s' p (yS E q all r s' (tr::t) p K)else yS E q all r s' (tr::t) (UV E o s' tr p) K
def Sz(a b:List Nat):Bool:=match a with|[]=>true|k::r=>bif Dc k b then false else Sz r b
def a1d(ordered:Bool)(x y:Tr):Bool:=bif ordered then true else(Sz x.2 y.1&&Sz x.2 y.2&&Sz x.1 y.2)
def Tc(mask:Nat)(y:Tr):Trs->Nat->Bool
 |[],_=>true|x::r,i=>a1d (Nat.testBit mask (i -1)) x y&&Tc mask y r (i -1)
def UQ:List Nat->Trs->Bool
 |m::ms,y::r=>Tc m y r r.length&&UQ ms r|[],[]=>true|_,_=>false
def a3i(mask:Nat)(x:Tr):List (Nat×Tr)->Bool
 |[]=>true|(m,z)::r=>(Nat.testBit mask m || Sz x.1 z.2)&&a3i mask x r
def a3m(ordered ex:Bool)(mask:Nat)(x y:Tr)(mids:List (Nat×Tr)):Bool:=
 bif ordered then true else(Sz x.2 y.1&&Sz x.2 y.2&&(bif Sz x.1 y.2 then true else(ex&&Sz x.2 x.1&&a3i mask x mids)))
def Oq(E:Env)(all:List Oper)(mask:Nat)(y:Tr)(cy:Bool):Trs->Nat->List (Nat×Tr)->Bool
 |[],_,_=>true|x::r,i,mids=>a3m (Nat.testBit mask (i -1)) (cy&&a5x E all (i -1)) mask x y mids&&Oq E all mask y cy r (i -1) ((i -1,x)::mids)
def Ou(E:Env)(all:List Oper):List Nat->Trs->Bool
 |m::ms,y::r=>Oq E all m y (XN all r.length) r r.length []&&Ou E all ms r|[],[]=>true|_,_=>false
inductive Flow (ρ:Type) where
 |nm|ex (id:Nat)|rt (r:ρ)
def LP(acc:List Nat)(n:Nat):List Edge->Nat->Option Nat
 |[],m=>some m
 |e::r,m=>match e.ground with
  | .textOnly _=>LP acc n r m| .gcOnly _=>LP acc n r m|_=>bif Nat.blt e.on n then LP acc n r (m ||| 2^e.on ||| acc.getD (n -1 -e.on) 0)else none
def Yq:List Oper->Nat->List Nat->Option (List Nat)
 |[],_,acc=>some acc
 |o::r,n,acc=>match LP acc n o.after.toList 0 with
  |some m=>Yq r (n+1) (m::acc)|none=>none
def Nu(md:Region.Mode)(done:List Nat):List Edge->Bool
 |[]=>true|e::r=>bif (!Region.binds md e || Dc e.on done)then Nu md done r else false
def uw(md:Region.Mode)(done:List Nat):List Oper->Nat->Option Nat
 |[],_=>none|o::r,n=>bif Dc n done then uw md done r (n+1)else bif Nu md done o.after.toList then some n else uw md done r (n+1)
def a2A:Nat->List Nat->Bool
 |0,_=>true|n+1,d=>Dc n d&&a2A n d
def YY(md:Region.Mode)(ops:List Oper):Nat->List Nat->Bool
 |0,d=>a2A ops.length d
 |k+1,done=>match uw md done ops 0 with|some n=>YY md ops k (n::done)|none=>false
def Qh:List Edge->Bool
 |[]=>true
 |e::r=>match e.ground with| .textOnly _=>false| .gcOnly _=>false|_=>Qh r
def Dk:List Oper->Bool|[]=>true|o::r=>bif Qh o.after.toList then Dk r else false
def a5t(ops:List Oper)(t:Trs):Bool:=
 match Yq ops 0 []with
 |some ms=>bif UQ ms t then(bif Dk ops then true else YY .text ops ops.length []&&YY .gc ops ops.length [])else false|none=>false
def a2M(E:Env)(ops:List Oper)(t:Trs):Bool:=
 match Yq ops 0 []with
 |some ms=>bif Ou E ops ms t then(bif Dk ops then true else YY .text ops ops.length []&&YY .gc ops ops.length [])else false|none=>false
abbrev Rgs:=List (Nat×Nat)
inductive Ann where
 |leaf
 |seq (a b:Ann)|cond (a b:Ann)|blk (a:Ann)
 |loop (rs:Rgs) (hd:Sig) (xid:Nat) (xs:Sig) (body:Ann)
 |loopR (rs:Rgs) (hd:Sig) (xid:Nat) (xs:Sig) (body:Ann)
 |join (rs:Rgs) (nm:Sig) (inner:Ann)
 |joinR (rs:Rgs) (nm:Sig) (inner:Ann)
structure Ret where
 rs:List (ResultVar×MG)
 outs:List (Nat×MG)
@[reducible] def Ret.den (r:Ret):Type:=V4 (r.rs.map (·.2)++r.outs.map (·.2))
def Qq{α:Type}(E:Env):List ResultVar->(List V->Cmd α)->Cmd α
 |[],K=>K []| .tmp t::r,K=>bif Nat.blt t Y4 then(.get t λv=>Qq E r λvs=>K (v::vs))else .fail| .cell a t::r,K=>bif Nat.blt a Y4 then(.get a λp=>LW E t p λv=>Qq E r λvs=>K (v::vs))else .fail
def Qe{α:Type} :List Nat->(List V->Cmd α)->Cmd α
 |[],K=>K []
 |n::r,K=>bif Nat.blt n Y4 then .get n λv=>(match v with
  | .ptr bx 0=> .get (Y4+bx) λ
   | .bcells cs=>Cmd.set (Y4+bx) .dead (Qe r λvs=>K (.agg cs::vs))|_=> .fail
  | .ifc _ u=>(match u with
   | .ptr bx 0=> .get (Y4+bx) λ
    | .bcells cs=>Cmd.set (Y4+bx) .dead (Qe r λvs=>K (.agg cs::vs))|_=> .fail
   |_=> .fail)
  | .own bx none=>Qe r λvs=>K (.own bx none::vs)
  |_=> .fail)else .fail
def b0w(E:Env)(r:Ret):Cmd r.den:=
 Qq E (r.rs.map (·.1)) λvs=>Qe (r.outs.map (·.1)) λws=>Jj (vs++ws) (LU yI (r.rs.map (·.2)++r.outs.map (·.2)) (vs++ws) .ret)
def Ann.l:Ann->Ann| .seq a _=>a| .cond a _=>a| .blk a=>a|_=> .leaf
def Ann.r:Ann->Ann| .seq _ b=>b| .cond _ b=>b|_=> .leaf
def xq:Code->Nat
 | .region ..=>2| .seq x y=>1+xq x+xq y| .cond _ x y=>1+xq x+xq y| .block _ x=>1+xq x| .loop x=>3+xq x|_=>1
abbrev Den(ρ:Type):=Nat->Ann->St->Rgs->(R:Type)->(Flow ρ->St->Rgs->Option R)->Option R
def a4j(lo hi:Nat):Rgs->Bool|[]=>false|(a,b)::r=>bif Nat.ble a lo&&Nat.ble hi b then true else a4j lo hi r
def TW(lim:Nat)(rs:Rgs):Rgs->Bool|[]=>true|(a,b)::w=>bif Nat.ble lim a || a4j a b rs then TW lim rs w else false
def Oc(ks:List Nat)(w:Rgs):Rgs:=match ks with|[]=>w|k::r=>(k,k+1)::Oc r w
def CZ(rs:Rgs)(s:St):St:=match rs with|[]=>s|(a,b)::r=> .mask a b::CZ r s
def LV(q:Nat)(sg:Sig)(rs:Rgs)(s:St)(w:Rgs)(K:oP sg->Option R):Option R:=
 (a5z sg).runK s ([],[]) λx _ tr=>bif TW (Y4+CB*q) rs (Oc tr.2 w)then K x else none
def enter(q:Nat)(sg:Sig)(rs:Rgs)(s:St)(x:oP sg)(K:St->Rgs->Option R):Option R:=
 (a5v sg x (CB*q) (CB*q+CB)).runK (CZ rs s) ([],[]) λ_ s' tr=>K s' (Oc tr.2 rs)
def TG(a b:Rgs):Rgs:=match a with|[]=>b|x::r=>x::TG r b
def IU(core:Den ρ):Den ρ:=λq a s w R K=>
 match a with
 | .join rs nm a=>l9 (core (q+1) a s [] (oP nm) λfl s' w' =>match fl with
   | .nm=>LV q nm rs s' w' some
   |_=>none) λx=>enter q nm rs s x λs' w' =>K .nm s' (TG w' w)
 | .joinR rs nm a=>l9 (core (q+1) a s [] (oP nm⊕ρ) λfl s' w' =>match fl with
   | .nm=>LV q nm rs s' w' λx=>some (Sum.inl x)| .rt r=>some (Sum.inr r)
   |_=>none) λo=>U3 o (λx=>enter q nm rs s x λs' w' =>K .nm s' (TG w' w)) (λr=>K (.rt r) [] [])
 |a=>core (q+1) a s w R K
def a7g(core:Den ρ)(q:Nat)(rs:Rgs)(hd:Sig)(xid:Nat)(xs:Sig)(a:Ann)(s:St)(x:oP hd):Option (oP hd⊕oP xs):=
 enter q hd rs s x λs w=>core (q+2) a s w (oP hd⊕oP xs) λfl s' w' =>match fl with
  | .nm=>LV q hd rs s' w' λx=>some (Sum.inl x)
  | .ex id=>bif Nat.beq id xid then LV q xs rs s' w' λy=>some (Sum.inr y)else none| .rt _=>none
def a7h(core:Den ρ)(q:Nat)(rs:Rgs)(hd:Sig)(xid:Nat)(xs:Sig)(a:Ann)(s:St)(x:oP hd):Option (Out (oP hd) (oP xs) ρ):=
 enter q hd rs s x λs w=>core (q+2) a s w (Out (oP hd) (oP xs) ρ) λfl s' w' =>match fl with
  | .nm=>LV q hd rs s' w' λx=>some (.nx x)
  | .ex id=>bif Nat.beq id xid then LV q xs rs s' w' λy=>some (.ex y)else none| .rt r=>some (.rt r)
def ZQ(core:Den ρ):Den ρ:=λq a s w R K=>
 match a with
 | .loop rs hd xid xs a=>LV q hd rs s [] λx0=>
  l9 (aO (λx=>a7g core q rs hd xid xs a s x) x0) λy=>enter (q+1) xs rs s y λs' w' =>K (.ex xid) s' (TG w' w)
 | .loopR rs hd xid xs a=>LV q hd rs s [] λx0=>
  l9 (O6 (λx=>a7h core q rs hd xid xs a s x) x0) λo=>U3 o (λy=>enter (q+1) xs rs s y λs' w' =>K (.ex xid) s' (TG w' w)) (λr=>K (.rt r) [] [])
 |_=>none
def AO(t:Trs)(w:Rgs):Rgs:=match t with|[]=>w|x::r=>Oc x.2 (AO r w)
def Yx(E:Env)(q:Nat)(ops:Array Oper)(draw:Bool)(s:St)(w:Rgs)(K:St->Rgs->Option R):Option R:=
 match E.rc with
 |[]=>Nz E q ops.toList ops.toList s [] λs' t=>
  bif draw then(bif a5t ops.toList t then K s' (AO t w)else none)else K s' (AO t w)
 |_::_=>yS E q ops.toList ops.toList s [] [] λs' t=>
  bif draw then(bif a2M E ops.toList t then K s' (AO t w)else none)else K s' (AO t w)
def den(E:Env)(rt:Ret):Code->Den rt.den
 | .skip=>IU λ_ _ s w _ K=>K .nm s w
 | .label _=>IU λ_ _ s w _ K=>K .nm s w
 | .region _ ops draw=>IU λq _ s w _ K=>Yx E q ops draw s w λs' w' =>K .nm s' w'
 | .seq x y=>IU λq a s w R K=>den E rt x q a.l s w R λfl s' w' =>match fl with
   | .nm=>den E rt y (q+xq x) a.r s' w' R K| .ex id=>K (.ex id) s' w'| .rt r=>K (.rt r) s' w'
 | .cond c x y=>IU λq a s w R K=>(nV c λv=>Cmd.ret v:Cmd V).runK s ([],[]) λv s' _=>match v with
   | .b t=>l7 t (den E rt x q a.l s' w R K) (den E rt y (q+xq x) a.r s' w R K)|_=>none
 | .block id x=>IU λq a s w R K=>den E rt x q a.l s w R λfl s' w' =>match fl with
   | .nm=>K .nm s' w'| .ex j=>bif Nat.beq j id then K .nm s' w' else K (.ex j) s' w'| .rt r=>K (.rt r) s' w'
 | .loop x=>IU (ZQ λq a s w R K=>den E rt x q a s w R K)
 | .exit id=>IU λ_ _ s w _ K=>K (.ex id) s w
 | .ret=>IU λ_ _ s _ _ K=>(b0w E rt).runK s ([],[]) λr _ _=>K (.rt r) [] []
 |_=>λ_ _ _ _ _ _=>none
def jR:List MG->Nat->List Nat
 |[],_=>[]|(_,.box _)::ms,n=>n::jR ms (n+1)|(_,.ifc _ (.box _))::ms,n=>n::jR ms (n+1)|(_,.ownb _)::ms,n=>n::jR ms (n+1)|_::ms,n=>jR ms (n+1)
def a9q:List Nat->List Nat->Bool
 |[],_=>true|a::r,b=>bif Dc a b then a9q r b else false
def a9V:List MG->Bool
 |[]=>true|(_,.sbx _ _)::_=>false|(_,.sit)::_=>false|_::r=>a9V r
def a0G:List MG->Nat->Cmd Unit->Cmd Unit
 |[],_,K=>K
 |(_,.dv k off sz fo)::ms,n,K=>bif Nat.blt k Y4&&Nat.blt n Y4 then .get k λv=>l_ off sz fo v λr=> .set n r (a0G ms (n+1) K)else .fail|_::ms,n,K=>a0G ms (n+1) K
def a4b(E:Env)(ps:List MG)(rt:Ret)(body:Code)(a:Ann)(x:V4 ps):Option rt.den:=
 bif Nat.ble ps.length E.nt&&JV (rt.outs.map (·.1)) (jR ps 0)&&a9q (rt.outs.map (·.1)) E.kp&&a9V ps then
 (LQ ps x 0 λvs n=>bif Nat.ble n CB then Lh (List.range vs.length) vs (a0G ps 0 (.ret ()))else .fail).runK [] ([],[]) λ_ s _=>
  den E rt body 1 a s [] rt.den λfl s' _=>match fl with
   | .rt r=>some r
   | .nm=>(b0w E rt).runK s' ([],[]) λr _ _=>some r| .ex _=>none
 else none
end Go.GP
namespace Go.GP
open RowKit
def bZ(h:Array Obj)(blk off n:Nat):Option (List Value):=
 match h[blk]? with
 |some (.cells c _ _)=>if off+n<=c.size then some ((c.toList.drop off).take n)else none|_=>none
variable {h:Array Obj}{h':Array Obj}{blk:Nat}
theorem qh(e:h'[blk]? =h[blk]?)(off n:Nat):bZ h' blk off n=bZ h blk off n:=by simp[bZ,e]
variable {n:Nat}{off:Nat}{es:List Value}
theorem ou(e:bZ h blk off n=some es):es.length=n:=by
 unfold bZ at e;split at e
 .split at e
  .cases e;simp;omega
  .cases e
 .cases e
theorem ik{c:Array Value}{T:TypeId}{f:Nat×Nat}(hb:h[blk]? =some (.cells c T f))(off n:Nat)(hn:off+n<=c.size):
  bZ h blk off n=some ((c.toList.drop off).take n):=by simp[bZ,hb,hn]
theorem oz(e:bZ h blk off n=some es):
  ∃c T f,h[blk]? =some (.cells c T f)/\off+n<=c.size/\es=(c.toList.drop off).take n:=by
 unfold bZ at e;split at e
 .rename_i c T f hb;split at e
  .cases e;exact⟨c,T,f,hb,by assumption,rfl⟩
  .cases e
 .cases e
theorem xC(e:bZ h blk off n=some es)(a k:Nat)(hk:a+k<=n):
  bZ h blk (off+a) k=some ((es.drop a).take k):=by
 obtain⟨c,T,f,hb,hn,rfl⟩:=oz e;rw[ik hb _ _ o5];congr 1;rw[gp,fE,X8];congr 1;omega
def qI(ag:Bool)(v:Value):List Value:=match ag with
 |true=>v.cells.toList|false=>[v]
def gok(ag:Bool)(v:Value):Prop:=match ag with
 |true=>∃arr,v= .agg arr|false=>v.oneCell' =true
def yg(t:Ty)(e:MapEntry):List Value:=match t with
 | .ent ka va _ _=>qI ka e.key++qI va e.val|_=>[]
def NQ(t:Ty)(e:MapEntry):Prop:=match t with
 | .ent ka va k v=>gok ka e.key/\gok va e.val/\(qI ka e.key).length=k.size|_=>False
def b6U:Option IntKind->Value->Prop
 |none,_=>True|some k,v=>∃n,v= .int k n
def jJ(h:Array Obj)(ok:Nat->Ty->Prop):(t:Ty)->t.den->List Value->Prop
 | .ent _ _ a b,x,cs=>∃c d,cs=c++d/\jJ h ok a x.1 c/\jJ h ok b x.2 d| .bool,x,cs=>cs=[.bool x]| .int k,n,cs=>cs=[.int k n]| .str,l,cs=>cs=[.string ⟨l.toArray⟩]| .prod a b,x,cs=>∃c d,cs=c++d/\jJ h ok a x.1 c/\jJ h ok b x.2 d| .unit,_,cs=>cs=[]| .any o,_,cs=>∃v,cs=[v]/\v.oneCell' =true/\b6U o v
 | .sl t,xs,cs=>(t.isEnt=false/\∃a cap,cs=[.slice a xs.length cap]/\xs.length<=cap/\
   ∀i x,xs[i]? =some x->∃blk off es,a=some ⟨blk,off,none⟩/\ok blk t/\bZ h blk (off+i*t.size) t.size=some es/\jJ h ok t x es)\/
   (t.isEnt=true/\∃mv,cs=[.map mv]/\(mv=none->xs=[])/\∀blk,mv=some blk->ok blk t/\∃(es:Array MapEntry) (ck:Nat),h[blk]? =some (.map es ck)/\es.size=(xs:List t.den).length/\
    ∀(i:Nat) (x:t.den),(xs:List t.den)[i]? =some x->∃e:MapEntry,es[i]? =some e/\NQ t e/\jJ h ok t x (yg t e))
variable {t:Ty}{xs:List t.den}{ok:Nat->Ty->Prop}
theorem xx{cs:List Value}(ht:t.isEnt=false):jJ h ok (.sl t) xs cs↔∃a cap,cs=[.slice a xs.length cap]/\xs.length<=cap/\
   ∀i x,xs[i]? =some x->∃blk off es,a=some ⟨blk,off,none⟩/\ok blk t/\bZ h blk (off+i*t.size) t.size=some es/\jJ h ok t x es:=by
 constructor
 .rintro(h|h)
  .exact h.2
  .rw[ht]at h;cases h.1
 .exact λh=> .inl ⟨ht,h⟩
theorem a1u{cs:List Value}(ht:t.isEnt=true):jJ h ok (.sl t) xs cs↔∃mv,cs=[.map mv]/\(mv=none->xs=[])/\∀blk,mv=some blk->ok blk t/\∃(es:Array MapEntry) (ck:Nat),h[blk]? =some (.map es ck)/\es.size=(xs:List t.den).length/\
    ∀(i:Nat) (x:t.den),(xs:List t.den)[i]? =some x->∃e:MapEntry,es[i]? =some e/\NQ t e/\jJ h ok t x (yg t e):=by
 constructor
 .rintro(h|h)
  .rw[ht]at h;cases h.1
  .exact h.2
 .exact λh=> .inr ⟨ht,h⟩
theorem dJ{h:Array Obj}{ok:Nat->Ty->Prop} :∀{t:Ty} {x:t.den} {cs:List Value},jJ h ok t x cs->cs.length=t.size
 | .bool,_,_,e=>by simp[jJ]at e;simp[e,Ty.size]| .int _,_,_,e=>by simp[jJ]at e;simp[e,Ty.size]| .str,_,_,e=>by simp[jJ]at e;simp[e,Ty.size]| .unit,_,_,e=>by simp[jJ]at e;simp[e,Ty.size]| .any _,_,_,e=>by obtain⟨v,rfl,_⟩:=e;rfl
 | .prod a b,_,_,e=>by obtain⟨c,d,rfl,h1,h2⟩:=e;simp[dJ h1,dJ h2,Ty.size]
 | .ent _ _ a b,_,_,e=>by obtain⟨c,d,rfl,h1,h2⟩:=e;simp[dJ h1,dJ h2,Ty.size]
 | .sl t,_,_,e=>by rcases e with⟨_,a,cap,rfl,_⟩|⟨_,mv,rfl,_⟩<;>simp[Ty.size]
theorem dK{h h' :Array Obj}{ok ok' :Nat->Ty->Prop}(hok:∀b t,ok b t->ok' b t)(hh:∀b t,ok b t->h'[b]? =h[b]?):
  ∀{t:Ty} {x:t.den} {cs:List Value},jJ h ok t x cs->jJ h' ok' t x cs
 | .bool,_,_,e=>e| .int _,_,_,e=>e| .str,_,_,e=>e| .unit,_,_,e=>e| .any _,_,_,e=>e| .prod a b,_,_,e=>by obtain⟨c,d,rfl,h1,h2⟩:=e;exact⟨c,d,rfl,dK hok hh h1,dK hok hh h2⟩
 | .ent _ _ a b,_,_,e=>by obtain⟨c,d,rfl,h1,h2⟩:=e;exact⟨c,d,rfl,dK hok hh h1,dK hok hh h2⟩
 | .sl t,xs,_,e=>by
  rcases e with⟨ht,a,cap,rfl,hc,hx⟩|⟨ht,mv,rfl,hn,hx⟩
  .refine .inl ⟨ht,a,cap,rfl,hc,λi x hi=>?_⟩;obtain⟨blk,off,es,ha,hb,he,hr⟩:=hx i x hi;exact⟨blk,off,es,ha,hok _ _ hb,by rw[qh (hh _ _ hb)];exact he,dK hok hh hr⟩
  .refine .inr ⟨ht,mv,rfl,hn,λblk hb=>?_⟩;obtain⟨ho,es,ck,he,hs,hi⟩:=hx blk hb;refine⟨hok _ _ ho,es,ck,by rw[hh _ _ ho];exact he,hs,λi x hx=>?_⟩;obtain⟨e,h1,h2,h3⟩:=hi i x hx;exact⟨e,h1,h2,dK hok hh h3⟩
theorem yR{h h' :Array Obj}{ok ok' :Nat->Ty->Prop} :∀{t:Ty} {x:t.den} {cs:List Value},t.flat=true->jJ h ok t x cs->jJ h' ok' t x cs
 | .bool,_,_,_,e=>e| .int _,_,_,_,e=>e| .str,_,_,_,e=>e| .unit,_,_,_,e=>e| .prod a b,_,_,f,e=>by simp[Ty.flat]at f;obtain⟨c,d,rfl,h1,h2⟩:=e;exact⟨c,d,rfl,yR f.1 h1,yR f.2 h2⟩
 | .sl t,xs,_,f,e=>by simp[Ty.flat]at f| .ent ..,xs,_,f,e=>by simp[Ty.flat]at f| .any _,xs,_,f,e=>by simp[Ty.flat]at f
theorem uI{h:Array Obj}{ok:Nat->Ty->Prop} :∀{t:Ty} {x:t.den} {cs:List Value},jJ h ok t x cs->∀v∈cs,v.oneCell' =true
 | .bool,_,_,e=>by simp[jJ]at e;subst e;simp[Value.oneCell']| .int _,_,_,e=>by simp[jJ]at e;subst e;simp[Value.oneCell']| .str,_,_,e=>by simp[jJ]at e;subst e;simp[Value.oneCell']| .unit,_,_,e=>by simp[jJ]at e;subst e;simp| .any _,_,_,e=>by obtain⟨v,rfl,h,_⟩:=e;simp[h]
 | .prod a b,_,_,e=>by
  obtain⟨c,d,rfl,h1,h2⟩:=e;intro v hv;rcases N8.1 hv with hv|hv
  .exact uI h1 v hv
  .exact uI h2 v hv
 | .ent _ _ a b,_,_,e=>by
  obtain⟨c,d,rfl,h1,h2⟩:=e;intro v hv;rcases N8.1 hv with hv|hv
  .exact uI h1 v hv
  .exact uI h2 v hv
 | .sl t,xs,_,e=>by rcases e with⟨_,a,cap,rfl,_⟩|⟨_,mv,rfl,_⟩<;>simp[Value.oneCell']
theorem vN{h:Array Obj}{ok ok' :Nat->Ty->Prop} :∀{t:Ty} {x:t.den} {cs:List Value},(∀b u,ok b u->Ty.occ u t=true->ok' b u)->jJ h ok t x cs->jJ h ok' t x cs
 | .bool,_,_,_,e=>e| .int _,_,_,_,e=>e| .str,_,_,_,e=>e| .unit,_,_,_,e=>e| .any _,_,_,_,e=>e| .prod a b,_,_,f,e=>by obtain⟨c,d,rfl,h1,h2⟩:=e;exact⟨c,d,rfl,vN (λb u h k=>f b u h (by simp[Ty.occ,k])) h1,vN (λb u h k=>f b u h (by simp[Ty.occ,k])) h2⟩
 | .ent _ _ a b,_,_,f,e=>by obtain⟨c,d,rfl,h1,h2⟩:=e;exact⟨c,d,rfl,vN (λb u h k=>f b u h (by simp[Ty.occ,k])) h1,vN (λb u h k=>f b u h (by simp[Ty.occ,k])) h2⟩
 | .sl t,xs,_,f,e=>by
  rcases e with⟨ht,a,cap,rfl,hc,hx⟩|⟨ht,mv,rfl,hn,hx⟩
  .refine .inl ⟨ht,a,cap,rfl,hc,λi x hi=>?_⟩;obtain⟨blk,off,es,ha,hb,he,hr⟩:=hx i x hi;exact⟨blk,off,es,ha,f _ _ hb (by simp[Ty.occ]),he,vN (λb u h k=>f b u h (by simp[Ty.occ,k])) hr⟩
  .refine .inr ⟨ht,mv,rfl,hn,λblk hb=>?_⟩;obtain⟨ho,es,ck,he,hs,hi⟩:=hx blk hb;refine⟨f _ _ ho (by simp[Ty.occ]),es,ck,he,hs,λi x hx=>?_⟩;obtain⟨e,h1,h2,h3⟩:=hi i x hx;exact⟨e,h1,h2,vN (λb u h k=>f b u h (by simp[Ty.occ,k])) h3⟩
inductive Loc where
 |nil|arr (blk off len cap sz:Nat)|st (blk:Nat)|mp (blk:Nat)
structure Mp where
 loc:Nat->Option Loc
 kid:Nat->List Nat
instance:CoeFun Mp (λ_=>Nat->Option Loc):=⟨Mp.loc⟩
def nom:Mp:=⟨λ_=>none,λ_=>[]⟩
structure Cx where
 h:Array Obj
 ok:Nat->Ty->Prop
 m:Mp
def Loc.view:Loc->Option (Nat×Nat)->Value->Prop
 | .nil,none,v=>v= .slice none 0 0| .nil,some (lo,hi),v=>lo=0/\hi=0/\v= .slice none 0 0| .arr blk off len cap _,none,v=>v= .slice (some ⟨blk,off,none⟩) len cap| .arr blk off len cap sz,some (lo,hi),v=>lo<=hi/\hi<=len/\v= .slice (some (if cap=lo then⟨blk,off,none⟩else⟨blk,off+lo*sz,none⟩)) (hi -lo) (cap -lo)| .st _,_,_=>False| .mp b,none,v=>v= .map (some b)| .mp _,some _,_=>False
def Loc.blks:Loc->List Nat
 | .nil=>[]| .arr b _ _ _ _=>[b]| .st b=>[b]| .mp b=>[b]
def XW(h:Array Obj)(ok:Nat->Ty->Prop)(t:Ty)(x:t.den)(o:Nat)(v:Value):Prop:=
 ∃blk off es,v= .pointer (some ⟨blk,off+o,none⟩)/\ok blk t/\bZ h blk off t.size=some es/\jJ h ok t x es
def Cb(h:Array Obj)(ok:Nat->Ty->Prop):List ((t:Ty)×t.den)->List Value->Prop
 |[],vs=>vs=[]|c::cs,vs=>∃v r,vs=v::r/\XW h ok c.1 c.2 0 v/\Cb h ok cs r
def sQ(C:Cx):V->Value->Prop
 | .undef,_=>True| .un,v=>v=Go.undef| .b x,v=>v= .bool x| .i k n,v=>v= .int k n| .s l,v=>v= .string ⟨l.toArray⟩| .nl,v=>v= .slice none 0 0| .npt,v=>v= .pointer none| .ne b,v=>∃a c,v= .slice a 0 c/\a.isNone=b| .sl t xs,v=>jJ C.h C.ok (.sl t) xs [v]| .own bx vw,v=>∃loc,C.m bx=some loc/\loc.view vw v| .ptr bx o,v=>∃blk,C.m bx=some (.st blk)/\v= .pointer (some ⟨blk,o,none⟩)| .ep bx ix o,v=>∃blk off len cap sz,C.m bx=some (.arr blk off len cap sz)/\ix<len/\v= .pointer (some ⟨blk,off+ix*sz+o,none⟩)| .dp t x o,v=>XW C.h C.ok t x o v| .glob g,v=>v= .pointer (some ⟨g,0,none⟩)| .fnv f,v=>v= .func (.func f) #[] #[]| .idl f n,v=>∃cap:Array Value,v= .func (.func f) #[] cap/\cap.size=n| .clos f caps,v=>∃vs,v= .func (.func f) #[] vs/\Cb C.h C.ok caps vs.toList| .ifc t c,v=>∃u,v= .iface t u/\u.oneCell' =true/\sQ C c u|_,_=>False
def eX(C:Cx):List V->List Value->Prop
 |[],vs=>vs=[]|c::cs,vs=>∃v r,vs=v::r/\sQ C c v/\v.oneCell' =true/\eX C cs r
def Vh(C:Cx):V->Value->Prop
 | .agg cs,v=>∃arr,v= .agg arr/\eX C cs arr.toList|c,v=>sQ C c v
def YB(C:Cx):List V->List Value->Prop
 |[],vs=>vs=[]|c::cs,vs=>∃v r,vs=v::r/\Vh C c v/\YB C cs r
def jI(C:Cx):V->Value->Prop
 | .tup cs,v=>∃arr,v= .tuple arr/\YB C cs arr.toList|c,v=>Vh C c v
def fzo(t:Ty)(n:Nat)(f:Nat×Nat):Prop:=f=(0,0)\/(t= .int .u8/\f=(n,n+1))
theorem fzo.of{f:Nat×Nat}(h:fzo t n f):f=(0,0)\/f=(n,n+1):=h.elim .inl λh=> .inr h.2
def arrOk(C:Cx)(t:Ty)(xs:List t.den):Loc->Prop
 | .nil=>xs=[]/\t.isEnt=false| .arr blk off len cap sz=>t.isEnt=false/\sz=t.size/\len=xs.length/\len<=cap/\∃c T f,C.h[blk]? =some (.cells c T f)/\fzo t c.size f/\off+cap*sz<=c.size/\
   ∀i x,xs[i]? =some x->∃es,bZ C.h blk (off+i*sz) sz=some es/\jJ C.h C.ok t x es
 | .st _=>False| .mp blk=>t.isEnt=true/\∃(es:Array MapEntry) (ck:Nat),C.h[blk]? =some (.map es ck)/\es.size=xs.length/\
   ∀(i:Nat) (x:t.den),(xs:List t.den)[i]? =some x->∃e:MapEntry,es[i]? =some e/\NQ t e/\jJ C.h C.ok t x (yg t e)
def Aw{α:Type}(h:Array Obj)(sz:Nat)(R:Nat->α->List Value->List Nat->Prop)(xs:List α)(Os:List (List Nat)):Loc->Prop
 | .nil=>xs=[]/\Os=[]| .arr blk off len cap sz' =>sz' =sz/\len=xs.length/\len<=cap/\Os.length=xs.length/\∃c T,h[blk]? =some (.cells c T (0,0))/\off+cap*sz<=c.size/\
   ∀i x,xs[i]? =some x->∃es O,Os[i]? =some O/\bZ h blk (off+i*sz) sz=some es/\R i x es O
 | .st _=>False| .mp _=>False
def qY(h:Array Obj)(te:Nat)(xs:List UInt8):Loc->Prop
 | .nil=>xs=[]
 | .arr g off len cap sz=>off=0/\sz=1/\len=xs.length/\len<=cap/\cap<=maxLen/\∃cur fz,h[g]? =some (.cells cur te fz)/\fz.2<=len/\cur.size=cap/\cur.toList.take len=xs.map λc=>Value.int .u8 (c.toNat:Int)| .st _=>False| .mp _=>False
variable {l:Loc}
theorem uJ{te:Nat}{xs:List UInt8}(hh:∀b∈l.blks,h'[b]? =h[b]?)(hr:qY h te xs l):qY h' te xs l:=by
 cases l with
 |nil=>exact hr|st b=>exact hr|mp b=>exact hr|arr g off len cap sz=>obtain⟨h1,h2,h3,h4,h5,cur,fz,h6,h7⟩:=hr;exact⟨h1,h2,h3,h4,h5,cur,fz,by rw[hh g (by simp[Loc.blks])];exact h6,h7⟩
def nP(h:Array Obj)(ok:Nat->Ty->Prop):(m:M)->Option Nat->m.den->List Value->List Nat->Prop
 | .dat t,_,x,cs,O=>jJ h ok t x cs/\O=[]| .own t,ho,xs,cs,O=>∃v,cs=[v]/\v.oneCell' =true/\(match ho with|some 0=>O=[]|_=>∃l,l.view none v/\arrOk ⟨h,ok,nom⟩ t xs l/\O=l.blks)| .pair a b,ho,x,cs,O=>∃c d O1 O2,cs=c++d/\O=O1++O2/\nP h ok a (match ho with|some o=>if o<a.size then some o else none|none=>none) x.1 c O1/\
   nP h ok b (match ho with|some o=>if o<a.size then none else some (o -a.size)|none=>none) x.2 d O2
 | .unit,_,_,cs,O=>cs=[]/\O=[]| .box m,_,x,cs,O=>∃blk arr T O',cs=[.pointer (some ⟨blk,0,none⟩)]/\h[blk]? =some (.cells arr T (0,0))/\nP h ok m none x arr.toList O' /\O=blk::O'| .owns m,ho,xs,cs,O=>∃v,cs=[v]/\v.oneCell' =true/\(match ho with|some 0=>O=[]|_=>m.el=true/\∃l Os,l.view none v/\Aw h m.size (λ_ x es O=>nP h ok m none x es O) xs Os l/\O=l.blks++Os.flatten)| .ownb t,_,xs,cs,O=>∃l v,cs=[v]/\l.view none v/\arrOk ⟨h,ok,nom⟩ t xs l/\O=l.blks| .rp t,_,x,cs,O=>∃v,cs=[v]/\XW h ok t x 0 v/\O=[]| .fn f ts,_,x,cs,O=>∃vs,cs=[.func (.func f) #[] vs]/\Cb h ok (QG ts x) vs.toList/\O=[]| .ifc t m,_,x,cs,O=>∃u,cs=[.iface t u]/\nP h ok m none x [u] O| .lp t,_,x,cs,O=>∃v,cs=[v]/\XW h ok t x 0 v/\O=[]| .dv ..,_,x,cs,O=>∃v,cs=[v]/\v.oneCell' =true/\O=[]| .cell b,_,x,cs,O=>∃v,cs=[v]/\v.oneCell' =true/\(b=some none->v= .slice none 0 0)/\(∀b',b=some (some b')->∃a c,v= .slice a 0 c/\a.isNone=b')/\O=[]| .fr t,_,xs,cs,O=>∃l v,cs=[v]/\l.view none v/\arrOk ⟨h,ok,nom⟩ t xs l/\(∀b∈l.blks,ok b t)/\O=[]| .sit,_,x,cs,O=>∃blk s q,cs=[.pointer (some ⟨blk,0,none⟩)]/\h[blk]? =some (.stringIter s q)/\s.data.toList=x.1/\x.2=((q:Nat):Int)/\O=[blk]| .sbx tb te,_,xs,cs,O=>∃blk a v l,cs=[.pointer (some ⟨blk,0,none⟩)]/\h[blk]? =some (.cells #[a,v] tb (0,0))/\(a= .pointer none\/a= .pointer (some ⟨blk,0,none⟩))/\l.view none v/\qY h te xs l/\O=blk::l.blks
def We(hole:Option (Nat×Nat×Option Nat))(i:Nat):Option Nat:=match hole with|some (j,o,_)=>if i=j then some o else none|none=>none
def Uu(C:Cx)(sz:Nat)(l:Loc):Option (Nat×Nat×Option Nat)->Prop
 |none=>True|some (_,_,none)=>True|some (i,o,some n)=>∃blk off len cap u l',l= .arr blk off len cap sz/\bZ C.h blk (off+i*sz+o) 1=some [u]/\C.m n=some l' /\l'.view none u
def a2G(C:Cx)(m:M)(xs:List m.den)(hole:Option (Nat×Nat×Option Nat))(Os:List (List Nat))(l:Loc):Prop:=
 Aw C.h m.size (λi x es O=>nP C.h C.ok m (We hole i) x es O) xs Os l/\Uu C m.size l hole
def BD(C:Cx)(n:Nat):V->Prop
 | .bcells cs=>∃blk arr T,C.m n=some (.st blk)/\C.h[blk]? =some (.cells arr T (0,0))/\eX C cs arr.toList| .biter l p=>∃blk s q,C.m n=some (.st blk)/\C.h[blk]? =some (.stringIter s q)/\s.data.toList=l/\p=((q:Nat):Int)| .bsb tb c=>∃blk a v,C.m n=some (.st blk)/\C.h[blk]? =some (.cells #[a,v] tb (0,0))/\(a= .pointer none\/a= .pointer (some ⟨blk,0,none⟩))/\sQ C c v| .brow te xs=>∃loc,C.m n=some loc/\qY C.h te xs loc| .barr t xs=>∃loc,C.m n=some loc/\arrOk C t xs loc| .bfrz t xs=>∃loc,C.m n=some loc/\arrOk C t xs loc/\(∀blk,blk∈loc.blks->C.ok blk t)| .barrs m xs hole=>m.el=true/\∃loc Os,C.m n=some loc/\a2G C m xs hole Os loc/\C.m.kid n=Os.flatten| .bfc t x=>∃blk es,C.m n=some (.st blk)/\C.ok blk t/\bZ C.h blk 0 t.size=some es/\jJ C.h C.ok t x es| .gone t=>∃l,C.m n=some l/\∀blk off len cap sz,l= .arr blk off len cap sz->sz=t.size| .blen ln sz=>∃k l,n=ML+k/\C.m k=some l/\(match l with| .arr _ _ len _ sz' =>ln=(len:Int)/\sz=sz'| .nil=>ln=0| .st _=>False| .mp _=>False)|_=>True
def P9(m:Mp)(n:Nat):V->List Nat
 | .bcells _=>match m n with|some (.st blk)=>[blk]|_=>[]
 | .biter _ _=>match m n with|some (.st blk)=>[blk]|_=>[]
 | .bsb _ _=>match m n with|some (.st blk)=>[blk]|_=>[]
 | .brow _ _=>match m n with|some (.arr blk _ _ _ _)=>[blk]|_=>[]
 | .barr _ _=>match m n with|some (.arr blk _ _ _ _)=>[blk]|some (.mp blk)=>[blk]|_=>[]
 | .barrs _ _ _=>(match m n with|some (.arr blk _ _ _ _)=>[blk]|_=>[])++m.kid n|_=>[]
def b0i:V->List Ty
 | .barr t _=>[t]| .barrs m _ _=>m.ty::m.owned|_=>[]
def a6j(v:V)(t:Ty):Prop:=match v with
 | .bcells _=>True|v=>t∈b0i v
structure Cx.le (C D:Cx):Prop where
 ok:∀b t,C.ok b t->D.ok b t
 h:∀b t,C.ok b t->D.h[b]? =C.h[b]?
 m:∀n l,C.m n=some l->D.m n=some l
theorem Cx.le.refl(C:Cx):C.le C:=⟨λ_ _ h=>h,λ_ _ _=>rfl,λ_ _ h=>h⟩
theorem Cx.le.trans{A B C:Cx}(h:A.le B)(k:B.le C):A.le C:=
 ⟨λb t x=>k.ok _ _ (h.ok _ _ x),λb t x=>(k.h _ _ (h.ok _ _ x)).trans (h.h _ _ x),λn l x=>k.m _ _ (h.m _ _ x)⟩
variable {v:Value}{ok':Nat->Ty->Prop}
theorem BL(hok:∀b t,ok b t->ok' b t)(hh:∀b t,ok b t->h'[b]? =h[b]?){x:t.den}{o:Nat}(hr:XW h ok t x o v):XW h' ok' t x o v:=by obtain⟨b,o',es,hv,hb,hc,hp⟩:=hr;exact⟨b,o',es,hv,hok _ _ hb,by rw[qh (hh _ _ hb)];exact hc,dK hok hh hp⟩
theorem Jh{h h' :Array Obj}{ok ok' :Nat->Ty->Prop}(hok:∀b t,ok b t->ok' b t)(hh:∀b t,ok b t->h'[b]? =h[b]?):∀{cs:List ((t:Ty)×t.den)} {vs:List Value},Cb h ok cs vs->Cb h' ok' cs vs
 |[],_,hr=>hr|_::_,_,⟨v,r,e,h1,h2⟩=>⟨v,r,e,BL hok hh h1,Jh hok hh h2⟩
variable {C:Cx}{D:Cx}
theorem YA(h:C.le D):∀{c:V} {v:Value},sQ C c v->sQ D c v:=by
 intro c;induction c using V.rec (motive_2:=λ_=>True)<;>try trivial
 all_goals
  intro v hr;simp only[sQ]at hr ⊢
  try exact hr
 case sl t xs=>exact dK h.ok h.h hr
 case own bx vw=>obtain⟨l,hm,hv⟩:=hr;exact⟨l,h.m _ _ hm,hv⟩
 case ptr bx o=>obtain⟨b,hm,hv⟩:=hr;exact⟨b,h.m _ _ hm,hv⟩
 case ep bx ix o=>obtain⟨b,o',l,c,s,hm,hv⟩:=hr;exact⟨b,o',l,c,s,h.m _ _ hm,hv⟩
 case dp t x o=>exact BL h.ok h.h hr
 case clos f caps=>obtain⟨vs,e,hc⟩:=hr;exact⟨vs,e,Jh h.ok h.h hc⟩
 case ifc t c ih=>obtain⟨u,e,h1,hc⟩:=hr;exact⟨u,e,h1,ih hc⟩
theorem EC{C D:Cx}(h:C.le D):∀{cs:List V} {vs:List Value},eX C cs vs->eX D cs vs
 |[],_,hr=>hr|_::_,_,⟨v,r,e,h1,h2,h3⟩=>⟨v,r,e,YA h h1,h2,EC h h3⟩
theorem a3s(h:C.le D){c:V}(hr:Vh C c v):Vh D c v:=by
 cases c<;>simp only[Vh]at hr ⊢<;>try exact YA h hr
 case agg cs=>obtain⟨arr,e,hl⟩:=hr;exact⟨arr,e,EC h hl⟩
theorem a3t{C D:Cx}(h:C.le D):∀{cs:List V} {vs:List Value},YB C cs vs->YB D cs vs
 |[],_,hr=>hr|_::_,_,⟨v,r,e,h1,h3⟩=>⟨v,r,e,a3s h h1,a3t h h3⟩
theorem Lc(h:C.le D){c:V}(hr:jI C c v):jI D c v:=by
 cases c<;>simp only[jI]at hr ⊢<;>try exact a3s h hr
 case tup cs=>obtain⟨arr,e,hl⟩:=hr;exact⟨arr,e,a3t h hl⟩
theorem mf{m m' :Mp}(hok:∀b t,ok b t->ok' b t)(hh:∀b t,ok b t->h'[b]? =h[b]?)
  (hb:∀b∈l.blks,h'[b]? =h[b]?) (hr:arrOk ⟨h,ok,m⟩ t xs l):arrOk ⟨h',ok',m'⟩ t xs l:=by
 cases l with
 |nil=>exact hr|st b=>exact hr|mp blk=>have e:=hb blk (by simp[Loc.blks]);obtain⟨h1,es,ck,h2,h3,h4⟩:=hr;refine⟨h1,es,ck,by show h'[blk]? =_;rw[e];exact h2,h3,λi x hi=>?_⟩;obtain⟨en,a1,a2,a3⟩:=h4 i x hi;exact⟨en,a1,a2,dK hok hh a3⟩
 |arr blk off len cap sz=>have e:=hb blk (by simp[Loc.blks]);obtain⟨h0,h1,h2,h3,c,T,f,h4,hz,h5,h6⟩:=hr;refine⟨h0,h1,h2,h3,c,T,f,by show h'[blk]? =_;rw[e];exact h4,hz,h5,λi x hi=>?_⟩;obtain⟨es,he,hp⟩:=h6 i x hi;exact⟨es,by show bZ h' _ _ _=_;rw[qh e];exact he,dK hok hh hp⟩
theorem Zj(h:C.le D)(hb:∀b∈l.blks,D.h[b]? =C.h[b]?)(hr:arrOk C t xs l):arrOk D t xs l:=
 mf h.ok h.h hb hr
theorem DV{α:Type}{sz:Nat}{R R' :Nat->α->List Value->List Nat->Prop}{xs:List α}{Os:List (List Nat)}(hb:∀b∈l.blks,h'[b]? =h[b]?)
  (hR:∀i x es O,O∈Os->R i x es O->R' i x es O) (hr:Aw h sz R xs Os l):Aw h' sz R' xs Os l:=by
 cases l with
 |nil=>exact hr|st b=>exact hr|mp b=>exact hr|arr blk off len cap sz=>have e:=hb blk (by simp[Loc.blks]);obtain⟨h1,h2,h3,h7,c,T,h4,h5,h6⟩:=hr;refine⟨h1,h2,h3,h7,c,T,by rw[e];exact h4,h5,λi x hi=>?_⟩;obtain⟨es,O,hO,he,hp⟩:=h6 i x hi;exact⟨es,O,hO,by rw[qh e];exact he,hR _ _ _ _ (rH hO) hp⟩
theorem ji{h h' :Array Obj}{ok ok' :Nat->Ty->Prop}(hok:∀b t,ok b t->ok' b t)(hh:∀b t,ok b t->h'[b]? =h[b]?):
  ∀{m:M} {ho:Option Nat} {x:m.den} {cs:List Value} {O:List Nat},(∀b∈O,h'[b]? =h[b]?)->nP h ok m ho x cs O->nP h' ok' m ho x cs O
 | .dat t,_,_,_,_,_,e=>⟨dK hok hh e.1,e.2⟩| .own t,ho,_,_,O,hb,⟨v,e,h1,ha⟩=>by
  refine⟨v,e,h1,?_⟩;split at ha
  .exact ha
  .obtain⟨l,hv,ha,ho⟩:=ha;exact⟨l,hv,mf hok hh (by subst ho;exact hb) ha,ho⟩
 | .pair a b,_,_,_,_,hb,⟨c,d,O1,O2,e,eo,h1,h2⟩=>by subst eo;exact⟨c,d,O1,O2,e,rfl,ji hok hh (λb h=>hb b (by simp[h])) h1,ji hok hh (λb h=>hb b (by simp[h])) h2⟩| .unit,_,_,_,_,_,e=>e| .box m,_,_,_,_,hb,⟨blk,arr,T,O',e,hh',hr,eo⟩=>by subst eo;exact⟨blk,arr,T,O',e,by rw[hb blk A8];exact hh',ji hok hh (λb h=>hb b (by simp[h])) hr,rfl⟩| .owns m,ho,_,_,O,hb,⟨v,e,h1,ha⟩=>by
  refine⟨v,e,h1,?_⟩;split at ha
  .exact ha
  .obtain⟨he,l,Os,hv,ha,ho⟩:=ha;subst ho;exact⟨he,l,Os,hv,DV (λb h=>hb b (by simp[h])) (λi x es O hO hr=>ji hok hh (λb h=>hb b (by simp only[N8,bW];exact .inr ⟨O,hO,h⟩)) hr) ha,rfl⟩
 | .ownb t,_,_,_,_,hb,⟨l,v,e,hv,ha,ho⟩=>⟨l,v,e,hv,mf hok hh (by subst ho;exact hb) ha,ho⟩| .rp t,_,_,_,_,_,⟨v,e,h1,h2⟩=>⟨v,e,BL hok hh h1,h2⟩| .fn f ts,_,_,_,_,_,⟨vs,e,h1,h2⟩=>⟨vs,e,Jh hok hh h1,h2⟩| .lp t,_,_,_,_,_,⟨v,e,h1,h2⟩=>⟨v,e,BL hok hh h1,h2⟩| .dv ..,_,_,_,_,_,h=>h| .ifc t m,_,_,_,_,hb,⟨u,e,h1⟩=>⟨u,e,ji hok hh hb h1⟩| .cell b,_,_,_,_,_,h=>h| .fr t,_,_,_,_,_,⟨l,v,e,hv,ha,hk,ho⟩=>⟨l,v,e,hv,mf hok hh (λb h=>hh _ _ (hk b h)) ha,λb h=>hok _ _ (hk b h),ho⟩| .sit,_,_,_,_,hb,⟨blk,s,q,e,hh',h2,h3,eo⟩=>by subst eo;exact⟨blk,s,q,e,by rw[hb blk A8];exact hh',h2,h3,rfl⟩| .sbx tb te,_,_,_,_,hb,⟨blk,a,v,l,e,hh',h2,h3,h4,eo⟩=>by subst eo;exact⟨blk,a,v,l,e,by rw[hb blk A8];exact hh',h2,h3,uJ (λb h=>hb b (by simp[h])) h4,rfl⟩
theorem Tj(h:C.le D){v:V}(hk:D.m.kid n=C.m.kid n)(hb:∀b∈P9 C.m n v,D.h[b]? =C.h[b]?)(hr:BD C n v):BD D n v:=by
 cases v<;>simp only[BD]at hr ⊢
 case bcells cs=>obtain⟨blk,arr,T,hm,hh,hl⟩:=hr;exact⟨blk,arr,T,h.m _ _ hm,by rw[hb blk (by simp[P9,hm])];exact hh,EC h hl⟩
 case biter l p=>obtain⟨blk,s,q,hm,hh,h2,h3⟩:=hr;exact⟨blk,s,q,h.m _ _ hm,by rw[hb blk (by simp[P9,hm])];exact hh,h2,h3⟩
 case bsb tb c=>obtain⟨blk,a,v,hm,hh,h2,h3⟩:=hr;exact⟨blk,a,v,h.m _ _ hm,by rw[hb blk (by simp[P9,hm])];exact hh,h2,YA h h3⟩
 case brow te xs=>
  obtain⟨l,hm,ha⟩:=hr;refine⟨l,h.m _ _ hm,uJ (λb hbl=>hb b ?_) ha⟩;cases l<;>simp[Loc.blks]at hbl
  .subst hbl;simp[P9,hm]
  .cases ha
  .cases ha
 case barr t xs=>
  obtain⟨l,hm,ha⟩:=hr;refine⟨l,h.m _ _ hm,Zj h ?_ ha⟩;intro b hbl;refine hb b ?_;cases l<;>simp[Loc.blks]at hbl
  .subst hbl;simp[P9,hm]
  .cases ha
  .subst hbl;simp[P9,hm]
 case bfrz t xs=>obtain⟨l,hm,ha,hok⟩:=hr;refine⟨l,h.m _ _ hm,Zj h ?_ ha,λblk e=>h.ok _ _ (hok _ e)⟩;intro b hbl;exact h.h _ _ (hok _ hbl)
 case barrs m xs hole=>
  obtain⟨he,l,Os,hm,ha,ho⟩:=hr;obtain⟨ha,hh⟩:=ha;refine⟨he,l,Os,h.m _ _ hm,⟨DV ?_ ?_ ha,?_⟩,hk.trans ho⟩
  .intro b hbl;refine hb b ?_;cases l<;>simp[Loc.blks]at hbl
   .subst hbl;simp[P9,hm]
   .cases ha
   .cases ha
  .intro i x es O hO hr;refine ji h.ok h.h (λb hbO=>hb b ?_) hr;simp only[P9,N8];right;rw[ho];exact bW.2 ⟨O,hO,hbO⟩
  .rcases hole with _|⟨i,o,_|k⟩
   .trivial
   .trivial
   .obtain⟨blk,off,len,cap,u,l',rfl,h1,h2,h3⟩:=hh;exact⟨blk,off,len,cap,u,l',rfl,by rw[qh (hb blk (by simp[P9,hm]))];exact h1,h.m _ _ h2,h3⟩
 case bfc t x=>obtain⟨blk,es,hm,hok,he,hr⟩:=hr;exact⟨blk,es,h.m _ _ hm,h.ok _ _ hok,by rw[qh (h.h _ _ hok)];exact he,dK h.ok h.h hr⟩
 case gone t=>obtain⟨l,hm,hs⟩:=hr;exact⟨l,h.m _ _ hm,hs⟩
 case blen ln sz=>obtain⟨k,l,e,hm,hs⟩:=hr;exact⟨k,l,e,h.m _ _ hm,hs⟩
theorem je{C:Cx} :∀{cs:List V} {vs:List Value},eX C cs vs->cs.length=vs.length
 |[],_,h=>by simp[eX]at h;simp[h]|_::_,_,⟨v,r,e,_,_,h3⟩=>by subst e;simp[je h3]
theorem uG{C:Cx} :∀{a:List V} {va:List Value} {b:List V} {vb:List Value},eX C a va->eX C b vb->eX C (a++b) (va++vb)
 |[],_,_,_,h,k=>by simp[eX]at h;subst h;exact k|_::_,_,_,_,⟨v,r,e,h1,h2,h3⟩,k=>by subst e;exact⟨v,r++_,rfl,h1,h2,uG h3 k⟩
theorem OJ{C:Cx} :∀{cs:List V} {vs:List Value},eX C cs vs->∀v∈vs,v.oneCell' =true
 |[],_,h=>by simp[eX]at h;simp[h]|_::_,_,⟨v,r,e,_,h2,h3⟩=>by
  subst e;intro u hu;rcases D6.1 hu with rfl|hu
  .exact h2
  .exact OJ h3 u hu
theorem qV{C:Cx} :∀(n:Nat) {cs:List V} {vs:List Value},eX C cs vs->eX C (cs.drop n) (vs.drop n)
 |0,_,_,h=>by simpa using h|n+1,[],_,h=>by simp[eX]at h;subst h;simp[eX]|n+1,_::_,_,⟨v,r,e,_,_,h3⟩=>by subst e;simpa using qV n h3
theorem sW{C:Cx} :∀(n:Nat) {cs:List V} {vs:List Value},eX C cs vs->eX C (cs.take n) (vs.take n)
 |0,_,_,h=>by simp[eX]|n+1,[],_,h=>by simp[eX]at h;subst h;simp[eX]|n+1,_::_,_,⟨v,r,e,h1,h2,h3⟩=>by subst e;exact⟨v,r.take n,A8,h1,h2,sW n h3⟩
theorem jZ:∀(t:Ty) (x:t.den) (r:List V),flat t x r=flat t x []++r
 | .bool,_,_=>rfl| .int _,_,_=>rfl| .str,_,_=>rfl| .sl _,_,_=>rfl| .unit,_,_=>rfl| .any _,_,_=>rfl| .prod a b,x,r=>by simp only[flat];rw[jZ a x.1 (flat b x.2 r),jZ b x.2 r,jZ a x.1 (flat b x.2 [])];simp| .ent _ _ a b,x,r=>by simp only[flat];rw[jZ a x.1 (flat b x.2 r),jZ b x.2 r,jZ a x.1 (flat b x.2 [])];simp
theorem nZ{C:Cx} :∀{t:Ty} {x:t.den} {cs:List Value},jJ C.h C.ok t x cs->eX C (flat t x []) cs
 | .bool,x,_,h=>by simp[jJ]at h;subst h;exact⟨_,_,rfl,rfl,rfl,rfl⟩| .int _,x,_,h=>by simp[jJ]at h;subst h;exact⟨_,_,rfl,rfl,rfl,rfl⟩| .str,x,_,h=>by simp[jJ]at h;subst h;exact⟨_,_,rfl,rfl,rfl,rfl⟩| .unit,_,_,h=>by simp[jJ]at h;subst h;rfl| .any _,_,_,h=>by obtain⟨v,rfl,h1,_⟩:=h;exact⟨v,[],rfl,trivial,h1,rfl⟩
 | .sl t,xs,_,h=>by have h' :=h;rcases h with⟨_,a,cap,rfl,_⟩|⟨_,mv,rfl,_⟩<;>exact⟨_,_,rfl,h',rfl,rfl⟩
 | .ent _ _ a b,x,_,h=>by obtain⟨c,d,rfl,h1,h2⟩:=h;simp only[flat];rw[jZ a];exact uG (nZ h1) (nZ h2)
 | .prod a b,x,_,h=>by obtain⟨c,d,rfl,h1,h2⟩:=h;simp only[flat];rw[jZ a];exact uG (nZ h1) (nZ h2)
theorem lw:∀(t:Ty) (x:t.den),(flat t x []).length=t.size
 | .bool,_=>rfl| .int _,_=>rfl| .str,_=>rfl| .sl _,_=>rfl| .unit,_=>rfl| .any _,_=>rfl| .prod a b,x=>by simp only[flat,Ty.size];rw[jZ a,H9,lw a x.1,lw b x.2]| .ent _ _ a b,x=>by simp only[flat,Ty.size];rw[jZ a,H9,lw a x.1,lw b x.2]
theorem mG{vw:Option (Nat×Nat)}(ha:arrOk C t xs l)(hv:l.view vw v)
  (hok:∀b t,C.ok b t->ok' b t) (hb:∀blk,blk∈l.blks->ok' blk t):jJ C.h ok' (.sl t) (iI vw xs) [v]:=by
 cases l with
 |st b=>cases ha|mp b=>
  obtain⟨h0,es,ck,h1,h2,h3⟩:=ha;cases vw with
  |some p=>cases hv|none=>simp only[Loc.view]at hv;subst hv;refine .inr ⟨h0,some b,rfl,(λh=>nomatch h),λblk e=>?_⟩;cases e;refine⟨hb b (by simp[Loc.blks]),es,ck,h1,h2,λi x hi=>?_⟩;obtain⟨en,a1,a2,a3⟩:=h3 i x hi;exact⟨en,a1,a2,dK hok (λ_ _ _=>rfl) a3⟩
 |nil=>
  obtain⟨ha,h0⟩:=ha;subst ha;cases vw with
  |none=>simp only[Loc.view]at hv;subst hv;exact .inl ⟨h0,none,0,rfl,E9 _,λi x hi=>by simp[iI]at hi⟩|some p=>obtain⟨lo,hi⟩:=p;obtain⟨rfl,rfl,rfl⟩:=hv;exact .inl ⟨h0,none,0,by simp[iI,iM],by simp[iI,iM],λi x hi=>by simp[iI,iM]at hi⟩
 |arr blk off len cap sz=>
  obtain⟨h0,rfl,rfl,hc,c,T,f,hh,hz,hs,hx⟩:=ha;have hbk:=hb blk (by simp[Loc.blks]);cases vw with
  |none=>simp only[Loc.view]at hv;subst hv;refine .inl ⟨h0,_,cap,rfl,hc,λi x hi=>?_⟩;obtain⟨es,he,hr⟩:=hx i x hi;exact⟨blk,off,es,rfl,hbk,he,dK hok (λ_ _ _=>rfl) hr⟩
  |some p=>
   obtain⟨lo,hi⟩:=p;obtain⟨h1,h2,rfl⟩:=hv;have hl:(iI (some (lo,hi)) xs).length=hi -lo:=by simp[iI,iM];omega
   refine .inl ⟨h0,_,cap -lo,by rw[hl],by rw[hl];omega,λi x hix=>?_⟩;have hi' :i<hi -lo:=by rw[←hl];exact(aK.1 hix).1
   have hx' :xs[lo+i]? =some x:=by
    simp only[iI,iM,S9,U7]at hix;split at hix
    .exact hix
    .cases hix
   obtain⟨es,he,hr⟩:=hx _ x hx';have hne:cap≠lo:=o5;refine⟨blk,off+lo*t.size,es,by simp[hne],hbk,?_,dK hok (λ_ _ _=>rfl) hr⟩;rw[←he];congr 1;rw[I9];omega
end Go.GP
namespace Go.GP
abbrev Sm:=Nat->V
def upd(S:Sm)(k:Nat)(v:V):Sm:=λn=>if n=k then v else S n
@[simp] theorem jG (S:Sm) (k:Nat) (v:V):upd S k v k=v:=by simp[upd]
theorem aU(S:Sm){k n:Nat}(v:V)(h:n≠k):upd S k v n=S n:=by simp[upd,h]
variable {α:Type}
def Cmd.eval :Cmd α->Sm->Tr->Option (α×Sm×Tr)
 | .ret x,S,t=>some (x,S,t)| .fail,_,_=>none| .get k c,S,t=>(c (S k)).eval S (k::t.1,t.2)| .set k v c,S,t=>c.eval (upd S k v) (t.1,k::t.2)
 | .opt o c,S,t=>match o with|some x=>(c x).eval S t|none=>none
 | .br b c d,S,t=>if b=true then c.eval S t else d.eval S t
def Cmd.post :Cmd α->Sm->(α->Sm->Prop)->Prop
 | .ret x,S,Q=>Q x S| .fail,_,_=>True| .get k c,S,Q=>(c (S k)).post S Q| .set k v c,S,Q=>c.post (upd S k v) Q| .opt o c,S,Q=>∀x,o=some x->(c x).post S Q| .br b c d,S,Q=>(b=true->c.post S Q)/\(b=false->d.post S Q)
theorem qP{α:Type}{Q:α->Sm->Prop} :∀{c:Cmd α} {S S' :Sm} {t t' :Tr} {x:α},c.post S Q->c.eval S t=some (x,S',t')->Q x S'
 | .ret x,_,_,_,_,_,h,e=>by simp[Cmd.eval]at e;obtain⟨rfl,rfl,rfl⟩:=e;exact h
 | .fail,_,_,_,_,_,h,e=>by simp[Cmd.eval]at e| .get k c,_,_,_,_,_,h,e=>qP (c:=c _) h e| .set k v c,_,_,_,_,_,h,e=>qP (c:=c) h e| .opt o c,_,_,_,_,_,h,e=>by
  cases o with
  |none=>simp[Cmd.eval]at e|some x=>exact qP (c:=c x) (h x rfl) e
 | .br b c d,_,_,_,_,_,h,e=>by
  cases b
  .exact qP (c:=d) (h.2 rfl) (by simpa[Cmd.eval]using e)
  .exact qP (c:=c) (h.1 rfl) (by simpa[Cmd.eval]using e)
theorem zI{α:Type}{Q Q' :α->Sm->Prop}(hq:∀x S,Q x S->Q' x S):∀{c:Cmd α} {S:Sm},c.post S Q->c.post S Q'
 | .ret x,_,h=>hq _ _ h| .fail,_,_=>trivial| .get k c,_,h=>zI hq (c:=c _) h| .set k v c,_,h=>zI hq (c:=c) h
 | .opt o c,_,h=>λx e=>zI hq (c:=c x) (h x e)| .br b c d,_,h=>⟨λe=>zI hq (c:=c) (h.1 e),λe=>zI hq (c:=d) (h.2 e)⟩
theorem FV{R:Type} :∀(v:V) (K:V->R),v.force K=K v:=by
 intro v;induction v using V.rec (motive_2:=λ_=>True)<;>try trivial
 all_goals intro K
 all_goals try rfl
 case i k n=>cases k<;>rfl
 case own bx vw=>cases vw<;>rfl
 case barrs m xs h=>rcases h with _|⟨p,q,_|r⟩<;>rfl
 case ifc t v ih=>simp only[V.force];rw[ih]
 case bsb tb c ih=>simp only[V.force];rw[ih]
theorem WU{R:Type} :∀(l:List V) (K:List V->R),PT l K=K l
 |[],_=>rfl|v::r,K=>by simp[PT,FV,WU r]
theorem a4f{R:Type}(v:V)(K:V->R):v.force2 K=K v:=by unfold V.force2;rw[FV];cases v<;>simp[WU]
theorem a3a(k:Nat)(v:V)(s:St):dN (.kv k v::s)=upd (dN s) k v:=by
 funext n;simp only[dN,upd];by_cases h:n=k
 .subst h;simp
 .have:Nat.beq k n=false:=by
   cases hb:Nat.beq k n with
   |false=>rfl|true=>exact absurd (fC hb).symm h
  simp[h,this]
theorem Di{α β:Type}{o:Option α}{f:α->Option β}{r:β}(h:l9 o f=some r):∃x,o=some x/\f x=some r:=by
 cases o with
 |none=>simp[l9]at h|some x=>exact⟨x,rfl,h⟩
theorem og{α R:Type} :∀{c:Cmd α} {s:St} {t:Tr} {K:α->St->Tr->Option R} {r:R},c.runK s t K=some r->
  ∃x s' t',c.eval (dN s) t=some (x,dN s',t')/\K x s' t' =some r
 | .ret x,s,t,K,r,h=>⟨x,s,t,rfl,h⟩| .fail,_,_,_,_,h=>by simp[Cmd.runK]at h| .get k c,s,t,K,r,h=>by simp only[Cmd.runK,FV]at h;exact og (c:=c _) h| .set k v c,s,t,K,r,h=>by simp only[Cmd.runK,a4f]at h;obtain⟨x,s',t',e,hk⟩:=og (c:=c) h;exact⟨x,s',t',by simpa[Cmd.eval,a3a]using e,hk⟩
 | .opt o c,s,t,K,r,h=>by simp only[Cmd.runK]at h;obtain⟨y,rfl,h⟩:=Di h;exact og (c:=c y) h
 | .br b c d,s,t,K,r,h=>by
  simp only[Cmd.runK]at h;cases b
  .obtain⟨x,s',t',e,hk⟩:=og (c:=d) (show d.runK s t K=some r from h);exact⟨x,s',t',by simpa[Cmd.eval]using e,hk⟩
  .obtain⟨x,s',t',e,hk⟩:=og (c:=c) (show c.runK s t K=some r from h);exact⟨x,s',t',by simpa[Cmd.eval]using e,hk⟩
theorem zy{α:Type} :∀{c:Cmd α} {S S' :Sm} {t t' :Tr} {x:α},c.eval S t=some (x,S',t')->(∀k∈t.1,k∈t'.1)/\(∀k∈t.2,k∈t'.2)
 | .ret x,_,_,_,_,_,e=>by simp[Cmd.eval]at e;obtain⟨rfl,rfl,rfl⟩:=e;exact⟨λ_ h=>h,λ_ h=>h⟩
 | .fail,_,_,_,_,_,e=>by simp[Cmd.eval]at e| .get k c,_,_,_,_,_,e=>by have h:=zy (c:=c _) e;exact⟨λn hn=>h.1 n (by simp[hn]),h.2⟩| .set k v c,_,_,_,_,_,e=>by have h:=zy (c:=c) e;exact⟨h.1,λn hn=>h.2 n (by simp[hn])⟩| .opt o c,_,_,_,_,_,e=>by
  cases o with
  |none=>simp[Cmd.eval]at e|some x=>exact zy (c:=c x) e
 | .br b c d,_,_,_,_,_,e=>by
  cases b
  .exact zy (c:=d) (by simpa[Cmd.eval]using e)
  .exact zy (c:=c) (by simpa[Cmd.eval]using e)
theorem xh{α:Type} :∀{c:Cmd α} {S S' :Sm} {t t' :Tr} {x:α},c.eval S t=some (x,S',t')->∀T:Sm,(∀k∈t'.1,T k=S k)->
  ∃T',c.eval T t=some (x,T',t')/\(∀k,T k=S k->T' k=S' k)/\(∀k,k∉t'.2->T' k=T k)/\(∀k,k∈t'.2->k∉t.2->T' k=S' k)
 | .ret x,_,_,_,_,_,e,T,hT=>by simp[Cmd.eval]at e;obtain⟨rfl,rfl,rfl⟩:=e;exact⟨T,rfl,λk h=>h,λ_ _=>rfl,λk h1 h2=>absurd h1 h2⟩
 | .fail,_,_,_,_,_,e,_,_=>by simp[Cmd.eval]at e| .get k c,S,_,t,t',_,e,T,hT=>by have hk:T k=S k:=hT k ((zy (c:=c _) e).1 k A8);obtain⟨T',h1,h2,h3,h4⟩:=xh (c:=c _) e T hT;exact⟨T',by simpa[Cmd.eval,hk]using h1,h2,h3,h4⟩
 | .set k v c,S,_,t,t',_,e,T,hT=>by
  obtain⟨T',h1,h2,h3,h4⟩:=xh (c:=c) e (upd T k v) (λn hn=>by
   by_cases h:n=k
   .subst h;simp
   .rw[aU _ _ h,aU _ _ h];exact hT n hn)
  have hkin:k∈t'.2:=(zy (c:=c) e).2 k A8;refine⟨T',h1,λn hn=>h2 n ?_,λn hn=>?_,λn hn hn' =>?_⟩
  .by_cases h:n=k
   .subst h;simp
   .rw[aU _ _ h,aU _ _ h];exact hn
  .have:n≠k:=λh=>hn (h▸hkin);rw[h3 n hn,aU _ _ this]
  .by_cases h:n=k
   .subst h;exact h2 n A8
   .exact h4 n hn (by simp[h,hn'])
 | .opt o c,_,_,_,_,_,e,T,hT=>by
  cases o with
  |none=>simp[Cmd.eval]at e|some x=>exact xh (c:=c x) e T hT
 | .br b c d,_,_,_,_,_,e,T,hT=>by
  cases b
  .obtain⟨T',h1,h2⟩:=xh (c:=d) (by simpa[Cmd.eval]using e) T hT;exact⟨T',by simpa[Cmd.eval]using h1,h2⟩
  .obtain⟨T',h1,h2⟩:=xh (c:=c) (by simpa[Cmd.eval]using e) T hT;exact⟨T',by simpa[Cmd.eval]using h1,h2⟩
theorem GM{c:Cmd α}{S S' :Sm}{t t' :Tr}{x:α}(e:c.eval S t=some (x,S',t'))(k:Nat)(h:k∉t'.2):S' k=S k:=by obtain⟨T',h1,_,h3,_⟩:=xh e S (λ_ _=>rfl);rw[e]at h1;simp at h1;rw[h1];exact h3 k h
section draws
variable {n:Nat} {c:Nat->Cmd Unit} {S:Nat->Sm} {T:Nat->Tr}
def SD(S:Nat->Sm)(T:Nat->Tr)(D:List Nat):Nat->Sm
 |0=>S 0
 |m+1=>λk=>if m∈D/\k∈(T m).2 then S (m+1) k else SD S T D m k
theorem KH(hs:∀i,i<n->(c i).eval (S i) ([],[])=some ((),S (i+1),T i))(D:List Nat)(k:Nat):
  ∀m,m<=n->(∀j,j<m->k∈(T j).2->j∈D)->SD S T D m k=S m k
 |0,_,_=>rfl|m+1,hm,h=>by
  have ih:=KH hs D k m o5 (λj hj=>h j o5);simp only[SD];by_cases hk:k∈(T m).2
  .rw[if_pos ⟨h m o5 hk,hk⟩]
  .rw[if_neg (λx=>hk x.2),ih,GM (hs m o5) k hk]
theorem TB(D:List Nat)(k i:Nat):∀m,i<=m->(∀j,i<=j->j<m->k∈(T j).2->j∉D)->SD S T D m k=SD S T D i k
 |m,hm,h=>by
  induction m with
  |zero=>have:i=0:=o5;subst this;rfl|succ m ih=>
   by_cases e:i=m+1
   .subst e;rfl
   .simp only[SD];rw[if_neg (λx=>h m o5 o5 x.2 x.1)];exact ih o5 (λj h1 h2=>h j h1 o5)
theorem a2z(D:List Nat)(i k:Nat)(hk:k∉(T i).2):∀m,SD S T (i::D) m k=SD S T D m k
 |0=>rfl|m+1=>by
  simp only[SD,a2z D i k hk m];by_cases e:m=i
  .subst e;simp[hk]
  .simp[D6,e]
theorem a5h(hs:∀i,i<n->(c i).eval (S i) ([],[])=some ((),S (i+1),T i)){D:List Nat}(hD:∀i,i<n->i∈D):SD S T D n=S n:=by funext k;exact KH hs D k n o5 (λj hj _=>hD j hj)
theorem b1P(n:Nat):SD S T [] n=S 0:=by
 induction n with
 |zero=>rfl|succ m ih=>funext k;simp[SD,ih]
end draws
end Go.GP
namespace Go.GP
def Zg(P:Program)(d:Deferred):Prop:=∃fv cap f args,d.target= .fn fv cap/\(∀w:World,(invoke d.target d.args).run P w= .ok (.enter f args) w)/\
 ∀w,CallsD P f args .returning w λe u' w' =>(∃v,e= .returned v)/\u' = .returning/\w' =w
def b6G(P:Program)(f n:Nat):Prop:=∀cap:Array Value,cap.size=n->Zg P { target:=.fn (.func f) cap,args:=#[] }
theorem Jy{P:Program}{fn:Func}{tmps:Array Value}{R:Ending->World->Prop}{w:World}(h:∃v,(results fn tmps).run P w= .ok v w/\R (.returned v) w):∀(ds:List Deferred),(∀d∈ds,Zg P d)->Leaves P fn tmps R ds .returning w
 |[],_=>h
 |d::ds,hd=>by obtain⟨fv,cap,f,args,ht,hi,hc⟩:=hd d A8;refine⟨A8,fv,cap,f,args,ht,hi w,(hc w).mono ?_⟩;rintro e u' w' ⟨⟨v,rfl⟩,rfl,rfl⟩;exact Jy h ds λx hx=>hd x (by simp[hx])
structure Fx where
 P:Program
 E:Env
 w0:World
 O:List Nat
 ok0:Nat->Ty->Prop
 tm0:Array Value
structure Frame' (w0 w:World) (O:List Nat):Prop where
 os:w.os=w0.os
 tape:w.tape=w0.tape
 output:w.output=w0.output
 size:w0.heap.size<=w.heap.size
 block:∀b,b<w0.heap.size->b∉O->w.heap[b]? =w0.heap[b]?
theorem Frame'.refl(w:World)(O:List Nat):Frame' w w O:=⟨rfl,rfl,rfl,E9 _,λ_ _ _=>rfl⟩
def b1m(h:Array Obj)(g n:Nat):Prop:=∃c T f,h[g]? =some (.cells c T f)/\c.size=n
def IY(C:Cx)(g:Nat)(t:Ty)(xs:List t.den):Prop:=
 C.ok g t/\b1m C.h g (xs.length*t.size)/\∀i x,xs[i]? =some x->∃es,bZ C.h g (i*t.size) t.size=some es/\jJ C.h C.ok t x es
theorem IY.le{C D:Cx}(h:C.le D){g:Nat}{t:Ty}{xs:List t.den}(k:IY C g t xs):IY D g t xs:=by obtain⟨h1,h3,h2⟩:=k;refine⟨h.ok _ _ h1,by unfold b1m at h3 ⊢;rw[h.h _ _ h1];exact h3,λi x hi=>?_⟩;obtain⟨es,he,hr⟩:=h2 i x hi;exact⟨es,by rw[qh (h.h _ _ h1)];exact he,dK h.ok h.h hr⟩
structure Rel (X:Fx) (cl ch:Nat) (S:Sm) (m:Mp) (ok:Nat->Ty->Prop) (a:Act) (w:World):Prop where
 size:a.tmps.size=X.E.nt
 nodef:∀d∈a.defers,Zg X.P d
 slot:∀n,n<Y4->jI ⟨w.heap,ok,m⟩ (S n) (a.tmps.getD n Go.undef)
 box:∀n,BD ⟨w.heap,ok,m⟩ n (S (Y4+n))
 inj:∀n n' b,b∈P9 m n (S (Y4+n))->b∈P9 m n' (S (Y4+n'))->n=n'
 nd:∀n,(P9 m n (S (Y4+n))).Nodup
 sep:∀n b,b∈P9 m n (S (Y4+n))->(∀t,¬ok b t)/\b<w.heap.size/\(X.w0.heap.size<=b\/b∈X.O)
 okLt:∀b t,ok b t->b<w.heap.size
 okIn:∀b t,X.ok0 b t->ok b t
 okOut:∀b t,ok b t->X.ok0 b t\/X.w0.heap.size<=b\/b∈X.O
 frame:Frame' X.w0 w X.O
 fresh:∀n,cl<=n->S (Y4+n)= .undef->m n=none
 strict:∀n,ch<=n->m n=none
 gl:∀g u,bK X.E.gl g=some u->IY ⟨w.heap,ok,m⟩ g u.1 u.2
 kept:∀n∈X.E.kp,a.tmps.getD n Go.undef=X.tm0.getD n Go.undef
def kU(m:Mp)(n:Nat)(l:Loc)(ks:List Nat):Mp:=⟨λk=>if k=n then some l else m k,λk=>if k=n then ks else m.kid k⟩
@[simp] theorem ax (m:Mp) (n:Nat) (l:Loc) (ks:List Nat):kU m n l ks n=some l:=by simp[kU]
variable {n:Nat}{k:Nat}
theorem iH(m:Mp)(l:Loc)(ks:List Nat)(h:k≠n):kU m n l ks k=m k:=by simp[kU,h]
@[simp] theorem c7g (m:Mp) (n:Nat) (l:Loc) (ks:List Nat):(kU m n l ks).kid n=ks:=by simp[kU]
theorem QK(m:Mp)(l:Loc)(ks:List Nat)(h:k≠n):(kU m n l ks).kid k=m.kid k:=by simp[kU,h]
def BH(m:Mp)(n:Nat)(ks:List Nat):Mp:=⟨m.loc,λk=>if k=n then ks else m.kid k⟩
@[simp] theorem c6h (m:Mp) (n k:Nat) (ks:List Nat):BH m n ks k=m k:=rfl
@[simp] theorem c6g (m:Mp) (n:Nat) (ks:List Nat):(BH m n ks).kid n=ks:=by simp[BH]
theorem XC(m:Mp)(ks:List Nat)(h:k≠n):(BH m n ks).kid k=m.kid k:=by simp[BH,h]
theorem vP(m:Mp)(n:Nat):BH m n (m.kid n)=m:=by
 cases m with|mk l k=>
 simp only[BH,Mp.mk.injEq,true_and];funext j;split
 .rename_i e;rw[e]
 .rfl
variable {v:V}
theorem Hm{m m' :Mp}(h:m' n=m n)(k:m'.kid n=m.kid n):P9 m' n v=P9 m n v:=by cases v<;>simp only[P9,h,k]
variable {d:Nat}
theorem VZ{tmps:Array Value}(h:d<tmps.size)(x e:Value):(tmps.setIfInBounds d x).getD d e=x:=by simp[Array.getD,h]
theorem Jr{tmps:Array Value}(h:n≠d)(x e:Value):(tmps.setIfInBounds d x).getD n e=tmps.getD n e:=by simp only[Y1];rw[jH];simp[Ne.symm h]
structure Tk (X:Fx) (S:Sm) (m:Mp) (ok:Nat->Ty->Prop) (w:World) (T:List Nat):Prop where
 nodup:T.Nodup
 free:∀b∈T,(∀t,¬ok b t)/\b<w.heap.size/\(X.w0.heap.size<=b\/b∈X.O)/\∀n,b∉P9 m n (S (Y4+n))
theorem Tk.nil{X:Fx}{S:Sm}{m:Mp}{ok:Nat->Ty->Prop}{w:World} :Tk X S m ok w []:=⟨cZ,λb h=>by cases h⟩
def okW(ok:Nat->Ty->Prop)(bs:List Nat)(Ts:List Ty):Nat->Ty->Prop:=λb t=>ok b t\/(b∈bs/\t∈Ts)
variable {w':World}{bs:List Nat}
section
variable {X:Fx} {cl ch:Nat} {S:Sm} {m:Mp} {ok:Nat->Ty->Prop} {a:Act} {w:World} {T:List Nat}
theorem Tk.perm{T T' :List Nat}(h:Tk X S m ok w T)(p:T.Perm T'):Tk X S m ok w T' :=
 ⟨p.nodup_iff.1 h.nodup,λb hb=>h.free b (p.mem_iff.2 hb)⟩
theorem UE{n:Nat} :∀{l:List Nat},Dc n l=false->n∉l
 |[],_,h=>by cases h|k::r,hb,h=>by
  unfold Dc at hb;cases hk:Nat.beq k n<;>rw[hk]at hb
  .rcases D6.1 h with e|h
   .subst e;rw[show Nat.beq n n=true from Nat.beq_refl n]at hk;cases hk
   .exact UE hb h
  .cases hb
theorem Xh{n:Nat} :∀{l:List Nat},Dc n l=true->n∈l
 |[],h=>by cases h|k::r,hb=>by
  unfold Dc at hb;cases hk:Nat.beq k n<;>rw[hk]at hb
  .exact V5 _ (Xh hb)
  .have:=fC hk;subst this;exact gW
theorem zH{E:Env}{t:Nat}(h:Xj E t=true):t<E.nt/\t∉E.kp:=by
 unfold Xj at h;cases hb:Nat.blt t E.nt<;>rw[hb]at h
 .cases h
 .simp only[cond_true,bH]at h;exact⟨by rw[dF]at hb;exact hb,UE h⟩
theorem Rel.put(R:Rel X cl ch S m ok a w)(hnt:X.E.nt<=Y4){x:Value}(hd:Xj X.E d=true)(hv:jI ⟨w.heap,ok,m⟩ v x):
  Rel X cl ch (upd S d v) m ok (a.put (some d) x) w:=by
 obtain⟨hd,hkp⟩:=zH hd;have hb:∀n,upd S d v (Y4+n)=S (Y4+n):=λn=>aU _ _ o5;have hkept:∀n∈X.E.kp,(a.put (some d) x).tmps.getD n Go.undef=X.tm0.getD n Go.undef:=λn hn=>by have e:n≠d:=λe=>hkp (e▸hn);simp only[Act.put];rw[Jr e];exact R.kept n hn
 refine { R with size:=(by simp[Act.put,R.size]),nodef:=(by simpa[Act.put]using R.nodef),slot:=λn hn=>?_,box:=λn=>(by rw[hb];exact R.box n),inj:=λn n' b=>(by rw[hb,hb];exact R.inj n n' b),nd:=λn=>(by rw[hb];exact R.nd n),sep:=λn b=>(by rw[hb];exact R.sep n b),fresh:=λn h1 h2=>R.fresh n h1 (by rwa[hb]at h2),kept:=hkept };by_cases e:n=d
 .subst e;simp only[jG,Act.put];rw[VZ (by rw[R.size];exact hd)];exact hv
 .rw[aU _ _ e];simp only[Act.put];rw[Jr e];exact R.slot n hn
theorem Rel.slotV(R:Rel X cl ch S m ok a w)(hd:d<Y4)(hv:jI ⟨w.heap,ok,m⟩ v (a.tmps.getD d Go.undef)):
  Rel X cl ch (upd S d v) m ok a w:=by
 have hb:∀n,upd S d v (Y4+n)=S (Y4+n):=λn=>aU _ _ o5;refine { R with slot:=λn hn=>?_,box:=λn=>(by rw[hb];exact R.box n),inj:=λn n' b=>(by rw[hb,hb];exact R.inj n n' b),nd:=λn=>(by rw[hb];exact R.nd n),sep:=λn b=>(by rw[hb];exact R.sep n b),fresh:=λn h1 h2=>R.fresh n h1 (by rwa[hb]at h2) };by_cases e:n=d
 .subst e;simp only[jG];exact hv
 .rw[aU _ _ e];exact R.slot n hn
theorem Rel.world(R:Rel X cl ch S m ok a w){ok' :Nat->Ty->Prop}(hos:w'.os=w.os)(htp:w'.tape=w.tape)(hout:w'.output=w.output)(hsz:w.heap.size<=w'.heap.size)
  (hkeep:∀b,b<w.heap.size->((∃t,ok b t)\/(∃n,b∈P9 m n (S (Y4+n)))\/¬(X.w0.heap.size<=b\/b∈X.O))->w'.heap[b]? =w.heap[b]?)
  (hok:∀b t,ok b t->ok' b t) (hok' :∀b t,ok' b t->b<w'.heap.size/\(ok b t\/((X.w0.heap.size<=b\/b∈X.O)/\∀n,b∉P9 m n (S (Y4+n))))):
  Rel X cl ch S m ok' a w' :=by
 have hle:Cx.le ⟨w.heap,ok,m⟩ ⟨w'.heap,ok',m⟩:=⟨hok,λb t hb=>hkeep b (R.okLt b t hb) (.inl ⟨t,hb⟩),λ_ _ h=>h⟩;refine { kept:=R.kept,size:=R.size,nodef:=R.nodef,inj:=R.inj,nd:=R.nd,fresh:=R.fresh,strict:=R.strict,slot:=λn hn=>Lc hle (R.slot n hn),box:=λn=>Tj hle rfl (λb hb=>hkeep b (R.sep n b hb).2.1 (.inr (.inl ⟨n,hb⟩))) (R.box n),sep:=λn b hb=>?_,okLt:=λb t hb=>(hok' b t hb).1,okIn:=λb t hb=>hok b t (R.okIn b t hb),okOut:=λb t hb=>?_,frame:=?_,gl:=λg u hg=>IY.le hle (R.gl g u hg) }
 .obtain⟨h1,h2,h3⟩:=R.sep n b hb;refine⟨λt h=>?_,o5,h3⟩;rcases(hok' b t h).2 with h|⟨_,h⟩
  .exact h1 t h
  .exact h n hb
 .rcases(hok' b t hb).2 with h|⟨h,_⟩
  .exact R.okOut b t h
  .exact .inr h
 .obtain⟨f1,f2,f3,f4,f5⟩:=R.frame;refine⟨hos.trans f1,htp.trans f2,hout.trans f3,o5,λb hb hO=>?_⟩;rw[hkeep b o5 (.inr (.inr (by simp[hO];omega)))];exact f5 b hb hO
theorem Rel.same(R:Rel X cl ch S m ok a w)(hos:w'.os=w.os)(htp:w'.tape=w.tape)(hout:w'.output=w.output)(hh:w'.heap=w.heap):Rel X cl ch S m ok a w' :=by refine R.world hos htp hout (by rw[hh];exact E9 _) (λb _ _=>by rw[hh]) (λ_ _ h=>h) (λb t h=>⟨by rw[hh];exact R.okLt b t h,.inl h⟩)
theorem xQ{n k b:Nat}(hv:P9 m n v=[])(h:b∈P9 m k (upd S (Y4+n) v (Y4+k))):k≠n/\b∈P9 m k (S (Y4+k)):=by
 by_cases e:k=n
 .subst e;rw[jG,hv]at h;cases h
 .rw[aU _ _ o5]at h;exact⟨e,h⟩
theorem Rel.killV(R:Rel X cl ch S m ok a w)(n:Nat)(hv:v≠.undef)(hw:P9 m n v=[])(hB:BD ⟨w.heap,ok,m⟩ n v):Rel X cl ch (upd S (Y4+n) v) m ok a w:=by
 have ho:∀k b,b∈P9 m k (upd S (Y4+n) v (Y4+k))->k≠n/\b∈P9 m k (S (Y4+k)):=λk b h=>xQ hw h;refine { R with slot:=λk hk=>(by rw[aU _ _ o5];exact R.slot k hk),box:=λk=>?_,inj:=λk k' b h h' =>R.inj k k' b (ho _ _ h).2 (ho _ _ h').2,nd:=λk=>?_,sep:=λk b h=>R.sep k b (ho _ _ h).2,fresh:=λk h1 h2=>?_ }
 .by_cases e:k=n
  .subst e;rw[jG];exact hB
  .rw[aU _ _ o5];exact R.box k
 .by_cases e:k=n
  .subst e;rw[jG,hw];exact cZ
  .rw[aU _ _ o5];exact R.nd k
 .by_cases e:k=n
  .subst e;rw[jG]at h2;exact absurd h2 hv
  .rw[aU _ _ o5]at h2;exact R.fresh k h1 h2
theorem Rel.kill(R:Rel X cl ch S m ok a w)(n:Nat):Rel X cl ch (upd S (Y4+n) .dead) m ok a w:=R.killV n A8 rfl trivial
theorem Tk.killV(R:Rel X cl ch S m ok a w)(h:Tk X S m ok w T)(n:Nat)(hw:P9 m n v=[])(hbs:∀b,b∈bs->b∈P9 m n (S (Y4+n)))(hnd:bs.Nodup):
  Tk X (upd S (Y4+n) v) m ok w (T++bs):=by
 refine⟨U5.2 ⟨h.nodup,hnd,λx hx y hy e=>?_⟩,λb hb=>?_⟩
 .subst e;exact(h.free x hx).2.2.2 n (hbs x hy)
 .rcases N8.1 hb with hb|hb
  .obtain⟨h1,h2,h3,h4⟩:=h.free b hb;exact⟨h1,h2,h3,λk e=>h4 k (xQ hw e).2⟩
  .obtain⟨h1,h2,h3⟩:=R.sep n b (hbs b hb);exact⟨h1,h2,h3,λk e=>(xQ hw e).1 (R.inj k n b (xQ hw e).2 (hbs b hb))⟩
theorem Rel.mark(R:Rel X cl ch S m ok a w){md:M}{xs:List md.den}(hS:S (Y4+n)= .barrs md xs none):Rel X cl ch (upd S (Y4+(ML+n)) (.blen (o9 xs) md.size)) m ok a w:=by
 refine R.killV (ML+n) A8 rfl ?_;have hb:=R.box n;rw[hS]at hb;obtain⟨_,l,Os,hm,⟨ha,hho⟩,_⟩:=hb;refine⟨n,l,rfl,hm,?_⟩;cases l with
 |nil=>obtain⟨rfl,_⟩:=ha;rfl
 |st b=>cases ha|mp b=>cases ha|arr blk off len cap sz=>exact⟨by rw[ha.2.1];rfl,ha.1.symm⟩
theorem Tk.kill(R:Rel X cl ch S m ok a w)(h:Tk X S m ok w T)(n:Nat)(hbs:∀b,b∈bs->b∈P9 m n (S (Y4+n)))(hnd:bs.Nodup):
  Tk X (upd S (Y4+n) .dead) m ok w (T++bs):=h.killV R n rfl hbs hnd
theorem Rel.lay(R:Rel X cl ch S m ok a w){l:Loc}{ks:List Nat}(hn:S (Y4+n)= .undef)(hcl:cl<=n)(hch:n<ch)(hv:v≠.undef)
  (hos:w'.os=w.os) (htp:w'.tape=w.tape) (hout:w'.output=w.output) (hsz:w.heap.size<=w'.heap.size)
  (hkeep:∀b,b<w.heap.size->b∉P9 (kU m n l ks) n v->w'.heap[b]? =w.heap[b]?)
  (hnd:(P9 (kU m n l ks) n v).Nodup)
  (hfree:∀b∈P9 (kU m n l ks) n v,(∀t,¬ok b t)/\b<w'.heap.size/\(X.w0.heap.size<=b\/b∈X.O)/\∀k,b∉P9 m k (S (Y4+k)))
  (hB:BD ⟨w'.heap,ok,kU m n l ks⟩ n v):Rel X cl ch (upd S (Y4+n) v) (kU m n l ks) ok a w' :=by
 have hm:m n=none:=R.fresh n hcl hn;have hR:Rel X cl ch S m ok a w' :=by
  refine R.world hos htp hout hsz (λb hb h=>?_) (λ_ _ h=>h) (λb t h=>⟨by have:=R.okLt b t h;omega,.inl h⟩);refine hkeep b hb (λe=>?_);obtain⟨h1,h2,h3,h4⟩:=hfree b e;rcases h with⟨t,h⟩|⟨k,h⟩|h
  .exact h1 t h
  .exact h4 k h
  .exact h h3
 have hle:Cx.le ⟨w'.heap,ok,m⟩ ⟨w'.heap,ok,kU m n l ks⟩:=⟨λ_ _ h=>h,λ_ _ _=>rfl,λk x h=>by
  by_cases e:k=n
  .subst e;simp[hm]at h
  .show kU m n l ks k=some x;rw[iH _ _ _ e];exact h⟩
 have hob:∀k,k≠n->P9 (kU m n l ks) k (upd S (Y4+n) v (Y4+k))=P9 m k (S (Y4+k)):=λk e=>by rw[aU _ _ o5];exact Hm (iH _ _ _ e) (QK _ _ _ e)
 have hobn:P9 (kU m n l ks) n (upd S (Y4+n) v (Y4+n))=P9 (kU m n l ks) n v:=by rw[jG]
 refine { kept:=hR.kept,size:=hR.size,nodef:=hR.nodef,okLt:=hR.okLt,okIn:=hR.okIn,okOut:=hR.okOut,frame:=hR.frame,slot:=λk hk=>(by rw[aU _ _ o5];exact Lc hle (hR.slot k hk)),box:=λk=>?_,inj:=λk k' b h h' =>?_,nd:=λk=>?_,sep:=λk b h=>?_,fresh:=λk h1 h2=>?_,strict:=λk h=>?_,gl:=λg u hg=>IY.le hle (hR.gl g u hg) }
 .by_cases e:k=n
  .subst e;rw[jG];exact hB
  .rw[aU _ _ o5];refine Tj hle (QK _ _ _ e) (λb hb=>rfl) (hR.box k)
 .by_cases e:k=n
  .by_cases e' :k' =n
   .rw[e,e']
   .subst e;rw[hobn]at h;rw[hob k' e']at h';exact absurd h' ((hfree b h).2.2.2 k')
  .by_cases e' :k' =n
   .subst e';rw[hobn]at h';rw[hob k e]at h;exact absurd h ((hfree b h').2.2.2 k)
   .rw[hob k e]at h;rw[hob k' e']at h';exact R.inj k k' b h h'
 .by_cases e:k=n
  .subst e;rw[hobn];exact hnd
  .rw[hob k e];exact R.nd k
 .by_cases e:k=n
  .subst e;rw[hobn]at h;obtain⟨h1,h2,h3,_⟩:=hfree b h;exact⟨h1,h2,h3⟩
  .rw[hob k e]at h;exact hR.sep k b h
 .by_cases e:k=n
  .subst e;rw[jG]at h2;exact absurd h2 hv
  .rw[aU _ _ o5]at h2;rw[iH _ _ _ e];exact R.fresh k h1 h2
 .have e:k≠n:=o5;rw[iH _ _ _ e];exact R.strict k h
theorem Rel.modK(R:Rel X cl ch S m ok a w)(hT:Tk X S m ok w T){ks:List Nat}(hv:v≠.undef)
  (hnd:(P9 (BH m n ks) n v).Nodup) (hsub:∀b∈P9 (BH m n ks) n v,b∈P9 m n (S (Y4+n))\/b∈T)
  (hos:w'.os=w.os) (htp:w'.tape=w.tape) (hout:w'.output=w.output) (hsz:w'.heap.size=w.heap.size)
  (hkeep:∀b,b∉P9 m n (S (Y4+n))->w'.heap[b]? =w.heap[b]?) (hB:BD ⟨w'.heap,ok,BH m n ks⟩ n v)
  {T' :List Nat} (hnd' :T'.Nodup) (hT' :∀b∈T',(b∈P9 m n (S (Y4+n))\/b∈T)/\b∉P9 (BH m n ks) n v):
  Rel X cl ch (upd S (Y4+n) v) (BH m n ks) ok a w' /\Tk X (upd S (Y4+n) v) (BH m n ks) ok w' T' :=by
 have hsep:∀b,b∈P9 m n (S (Y4+n))\/b∈T->(∀t,¬ok b t)/\b<w.heap.size/\(X.w0.heap.size<=b\/b∈X.O)/\∀k,k≠n->b∉P9 m k (S (Y4+k)):=λb h=>by
  rcases h with h|h
  .obtain⟨h1,h2,h3⟩:=R.sep n b h;exact⟨h1,h2,h3,λk e h' =>e (R.inj k n b h' h)⟩
  .obtain⟨h1,h2,h3,h4⟩:=hT.free b h;exact⟨h1,h2,h3,λk _=>h4 k⟩
 have hle:Cx.le ⟨w.heap,ok,m⟩ ⟨w'.heap,ok,BH m n ks⟩:=⟨λ_ _ h=>h,λb t hb=>hkeep b (λe=>(R.sep n b e).1 t hb),λ_ _ h=>h⟩;have hob:∀k,k≠n->P9 (BH m n ks) k (upd S (Y4+n) v (Y4+k))=P9 m k (S (Y4+k)):=λk e=>by rw[aU _ _ o5];exact Hm rfl (XC _ _ e)
 have hobn:P9 (BH m n ks) n (upd S (Y4+n) v (Y4+n))=P9 (BH m n ks) n v:=by rw[jG]
 refine⟨?_,hnd',λb hb=>?_⟩
 .refine { kept:=R.kept,size:=R.size,nodef:=R.nodef,okLt:=λb t hb=>(by rw[hsz];exact R.okLt b t hb),okIn:=R.okIn,okOut:=R.okOut,strict:=R.strict,slot:=λk hk=>(by rw[aU _ _ o5];exact Lc hle (R.slot k hk)),box:=λk=>?_,inj:=λk k' b h h' =>?_,nd:=λk=>?_,sep:=λk b h=>?_,fresh:=λk h1 h2=>?_,frame:=?_,gl:=λg u hg=>IY.le hle (R.gl g u hg) }
  .by_cases e:k=n
   .subst e;rw[jG];exact hB
   .rw[aU _ _ o5];refine Tj hle (XC _ _ e) (λb hb=>hkeep b (λe' =>e (R.inj k n b hb e'))) (R.box k)
  .by_cases e:k=n
   .by_cases e' :k' =n
    .rw[e,e']
    .subst e;rw[hobn]at h;rw[hob k' e']at h';exact absurd h' ((hsep b (hsub b h)).2.2.2 k' e')
   .by_cases e' :k' =n
    .subst e';rw[hobn]at h';rw[hob k e]at h;exact absurd h ((hsep b (hsub b h')).2.2.2 k e)
    .rw[hob k e]at h;rw[hob k' e']at h';exact R.inj k k' b h h'
  .by_cases e:k=n
   .subst e;rw[hobn];exact hnd
   .rw[hob k e];exact R.nd k
  .by_cases e:k=n
   .subst e;rw[hobn]at h;obtain⟨h1,h2,h3,_⟩:=hsep b (hsub b h);exact⟨h1,by rw[hsz];exact h2,h3⟩
   .rw[hob k e]at h;obtain⟨h1,h2,h3⟩:=R.sep k b h;exact⟨h1,by rw[hsz];exact h2,h3⟩
  .obtain⟨f1,f2,f3,f4,f5⟩:=R.frame;refine⟨hos.trans f1,htp.trans f2,hout.trans f3,by rw[hsz];exact f4,λb hb hO=>?_⟩;rw[hkeep b (λe=>?_)]
   .exact f5 b hb hO
   .rcases(R.sep n b e).2.2 with h|h
    .omega
    .exact hO h
  .by_cases e:k=n
   .subst e;rw[jG]at h2;exact absurd h2 hv
   .rw[aU _ _ o5]at h2;exact R.fresh k h1 h2
 .obtain⟨h0,h0'⟩:=hT' b hb;obtain⟨h1,h2,h3,h4⟩:=hsep b h0;refine⟨h1,by rw[hsz];exact h2,h3,λk h=>?_⟩;by_cases e:k=n
  .subst e;rw[hobn]at h;exact h0' h
  .rw[hob k e]at h;exact h4 k e h
theorem Rel.mod(R:Rel X cl ch S m ok a w)(ho:P9 m n v=P9 m n (S (Y4+n)))(hv:v≠.undef)
  (hos:w'.os=w.os) (htp:w'.tape=w.tape) (hout:w'.output=w.output) (hsz:w'.heap.size=w.heap.size)
  (hkeep:∀b,b∉P9 m n (S (Y4+n))->w'.heap[b]? =w.heap[b]?) (hB:BD ⟨w'.heap,ok,m⟩ n v):Rel X cl ch (upd S (Y4+n) v) m ok a w' :=by
 have h:=R.modK (T:=[]) Tk.nil (n:=n) (v:=v) (ks:=m.kid n) (w' :=w') (T' :=[]) hv (by rw[vP,ho];exact R.nd n) (by rw[vP,ho];exact λb h=> .inl h) hos htp hout hsz hkeep (by rw[vP];exact hB) cZ (λb h=>by cases h);rw[vP]at h;exact h.1
theorem Rel.widen(R:Rel X cl ch S m ok a w)(hv:v≠.undef)(ho:P9 m n v=[]){Ts:List Ty}(hbs:∀b∈bs,b∈P9 m n (S (Y4+n)))
  (hB:BD ⟨w.heap,okW ok bs Ts,m⟩ n v):Rel X cl ch (upd S (Y4+n) v) m (okW ok bs Ts) a w:=by
 have hmono:∀b t,ok b t->okW ok bs Ts b t:=λb t h=> .inl h;have hob:∀k b,b∈P9 m k (upd S (Y4+n) v (Y4+k))->k≠n/\b∈P9 m k (S (Y4+k)):=λk b h=>xQ ho h;have hle:Cx.le ⟨w.heap,ok,m⟩ ⟨w.heap,okW ok bs Ts,m⟩:=⟨hmono,λ_ _ _=>rfl,λ_ _ h=>h⟩;refine { kept:=R.kept,size:=R.size,nodef:=R.nodef,strict:=R.strict,frame:=R.frame,okIn:=λb t h=>hmono b t (R.okIn b t h),slot:=λk hk=>(by rw[aU _ _ o5];exact Lc hle (R.slot k hk)),box:=λk=>?_,inj:=λk k' b h h' =>R.inj k k' b (hob _ _ h).2 (hob _ _ h').2,nd:=λk=>?_,sep:=λk b h=>?_,okLt:=λb t h=>?_,okOut:=λb t h=>?_,fresh:=λk h1 h2=>?_,gl:=λg u hg=>IY.le hle (R.gl g u hg) }
 .by_cases e:k=n
  .subst e;rw[jG];exact hB
  .rw[aU _ _ o5];exact Tj hle rfl (λb hb=>rfl) (R.box k)
 .by_cases e:k=n
  .subst e;rw[jG,ho];exact cZ
  .rw[aU _ _ o5];exact R.nd k
 .obtain⟨e,h⟩:=hob k b h;obtain⟨h1,h2,h3⟩:=R.sep k b h;refine⟨λt h' =>?_,h2,h3⟩;rcases h' with h'|⟨h',_⟩
  .exact h1 t h'
  .exact e (R.inj k n b h (hbs b h'))
 .rcases h with h|⟨h,_⟩
  .exact R.okLt b t h
  .exact(R.sep n b (hbs b h)).2.1
 .rcases h with h|⟨h,_⟩
  .exact R.okOut b t h
  .exact .inr (R.sep n b (hbs b h)).2.2
 .by_cases e:k=n
  .subst e;rw[jG]at h2;exact absurd h2 hv
  .rw[aU _ _ o5]at h2;exact R.fresh k h1 h2
theorem Tk.widen(h:Tk X S m ok w T)(ho:P9 m n v=[]){Ts:List Ty}(hbs:∀b∈bs,b∈P9 m n (S (Y4+n))):
  Tk X (upd S (Y4+n) v) m (okW ok bs Ts) w T:=by
 refine⟨h.nodup,λb hb=>?_⟩;obtain⟨h1,h2,h3,h4⟩:=h.free b hb;refine⟨λt e=>?_,h2,h3,λk e=>h4 k (xQ ho e).2⟩;rcases e with e|⟨e,_⟩
 .exact h1 t e
 .exact h4 n (hbs b e)
theorem Rel.backV(R:Rel X cl ch S m ok a w){O1 B:List Nat}(hv:v≠.undef)(hT:Tk X S m ok w (O1++B))(ho:P9 m n v=O1)(hB:BD ⟨w.heap,ok,m⟩ n v):
  Rel X cl ch (upd S (Y4+n) v) m ok a w/\Tk X (upd S (Y4+n) v) m ok w B:=by
 have hnd:=U5.1 hT.nodup;have h:=R.modK hT (n:=n) (v:=v) (ks:=m.kid n) (w' :=w) (T' :=B) hv (by rw[vP,ho];exact hnd.1) (by rw[vP,ho];exact λb h=> .inr (by simp[h])) rfl rfl rfl rfl (λ_ _=>rfl) (by rw[vP];exact hB) hnd.2.1
  (λb hb=>⟨.inr (by simp[hb]),by rw[vP,ho];exact λh=>hnd.2.2 b h b hb rfl⟩)
 rw[vP]at h;exact h
end
end Go.GP
namespace Go.GP
def Il:Loc->Option (Nat×Nat)->Loc
 | .arr blk off len cap sz,some (lo,hi)=>if cap=lo then .arr blk off 0 0 sz else .arr blk (off+lo*sz) (hi -lo) (cap -lo) sz|l,_=>l
variable {v:Value}{t:Ty}{l:Loc}
theorem Gw{C:Cx}{xs:List t.den}{vw:Option (Nat×Nat)}(ha:arrOk C t xs l)(hv:l.view vw v):
  arrOk C t (iI vw xs) (Il l vw)/\(Il l vw).view none v/\(Il l vw).blks=l.blks:=by
 cases l with
 |st b=>cases ha|mp b=>
  cases vw with
  |none=>exact⟨ha,hv,rfl⟩|some p=>cases hv
 |nil=>
  obtain⟨ha,h0⟩:=ha;subst ha;cases vw with
  |none=>exact⟨⟨rfl,h0⟩,hv,rfl⟩|some p=>obtain⟨lo,hi⟩:=p;obtain⟨rfl,rfl,rfl⟩:=hv;exact⟨⟨rfl,h0⟩,rfl,rfl⟩
 |arr blk off len cap sz=>
  cases vw with
  |none=>exact⟨ha,hv,rfl⟩|some p=>
   obtain⟨lo,hi⟩:=p;obtain⟨h0,rfl,rfl,hc,c,T,f,hh,hz,hs,hx⟩:=ha;obtain⟨h1,h2,rfl⟩:=hv;have hl:(iI (some (lo,hi)) xs).length=hi -lo:=by simp[iI,iM];omega
   by_cases e:cap=lo
   .subst e;have e2:hi=cap:=o5;subst e2;simp only[Il,if_true,Loc.view,gQ];refine⟨⟨h0,rfl,by rw[hl];omega,E9 _,c,T,f,hh,hz,?_,λi x hi=>?_⟩,trivial,rfl⟩
    .have:=dC (hi*t.size);omega
    .have:i<0:=by
      have:=(aK.1 hi).1;rw[hl]at this;omega
     omega
   .simp only[Il,e,if_false,Loc.view];refine⟨⟨h0,rfl,by rw[hl],o5,c,T,f,hh,hz,?_,λi x hix=>?_⟩,trivial,rfl⟩
    .have:off+lo*t.size+(cap -lo)*t.size=off+cap*t.size:=by
      rw[dH,←I9];congr 2;omega
     rw[this];exact hs
    .have hi' :i<hi -lo:=by rw[←hl];exact(aK.1 hix).1
     have hx' :xs[lo+i]? =some x:=by
      simp only[iI,iM,S9,U7]at hix;split at hix
      .exact hix
      .cases hix
     obtain⟨es,he,hr⟩:=hx _ x hx';refine⟨es,?_,hr⟩;rw[←he];congr 1;rw[I9];omega
def Ql(ag:Bool)(v:Value)(cs:List Value):Prop:=match ag with
 |true=>∃arr,v= .agg arr/\arr.toList=cs|false=>cs=[v]
def qW(h:Array Obj)(ok:Nat->Ty->Prop):(ms:List MG)->V4 ms->List Value->List Nat->Prop
 |[],_,vs,O=>vs=[]/\O=[]|[m],x,vs,O=>∃v cs,vs=[v]/\Ql m.1 v cs/\nP h ok m.2 none x cs O|m::m' ::r,x,vs,O=>∃v cs vs' O1 O2,vs=v::vs' /\O=O1++O2/\Ql m.1 v cs/\nP h ok m.2 none x.1 cs O1/\qW h ok (m' ::r) x.2 vs' O2
theorem kG{vw:Option (Nat×Nat)}(h:l.view vw v):v.oneCell' =true:=by
 cases l<;>rcases vw with _|⟨lo,hi⟩<;>simp only[Loc.view]at h
 .subst h;rfl
 .obtain⟨_,_,rfl⟩:=h;rfl
 .subst h;rfl
 .obtain⟨_,_,rfl⟩:=h;rfl
 .subst h;rfl
variable {h:Array Obj}
theorem Jm{ok:Nat->Ty->Prop}{x:t.den}{o:Nat}(k:XW h ok t x o v):v.oneCell' =true:=by obtain⟨_,_,_,rfl,_⟩:=k;rfl
variable {α:Type}{ok':Nat->Ty->Prop}{cs:List Value}{O:List Nat}
section
variable {h:Array Obj} {ok:Nat->Ty->Prop}
theorem uH{xs:List t.den} :nP h ok (.own t) none xs cs O↔∃l v,cs=[v]/\l.view none v/\arrOk ⟨h,ok,nom⟩ t xs l/\O=l.blks:=by
 constructor
 .rintro⟨v,e,_,l,hv,ha,ho⟩;exact⟨l,v,e,hv,ha,ho⟩
 .rintro⟨l,v,e,hv,ha,ho⟩;exact⟨v,e,kG hv,l,hv,ha,ho⟩
theorem xW{m:M}{xs:List m.den} :nP h ok (.owns m) none xs cs O↔m.el=true/\∃l v Os,cs=[v]/\l.view none v/\
  Aw h m.size (λ_ x es O=>nP h ok m none x es O) xs Os l/\O=l.blks++Os.flatten:=by
 constructor
 .rintro⟨v,e,_,he,l,Os,hv,ha,ho⟩;exact⟨he,l,v,Os,e,hv,ha,ho⟩
 .rintro⟨he,l,v,Os,e,hv,ha,ho⟩;exact⟨v,e,kG hv,he,l,Os,hv,ha,ho⟩
theorem a4L{a b:M}{x:a.den×b.den} :nP h ok (.pair a b) none x cs O↔∃c d O1 O2,cs=c++d/\O=O1++O2/\nP h ok a none x.1 c O1/\nP h ok b none x.2 d O2:=Iff.rfl
theorem mW:∀{m:M} {ho:Option Nat} {x:m.den} {cs:List Value} {O:List Nat},nP h ok m ho x cs O->∀v∈cs,v.oneCell' =true
 | .dat t,_,_,_,_,e=>uI e.1| .own t,_,_,_,_,⟨v,e,hv,_⟩=>by subst e;simp[hv]| .owns t,_,_,_,_,⟨v,e,hv,_⟩=>by subst e;simp[hv]| .ownb t,_,_,_,_,⟨l,v,e,hv,_⟩=>by subst e;simp[kG hv]| .pair a b,_,_,_,_,⟨c,d,_,_,e,_,h1,h2⟩=>by
  subst e;intro v hv;rcases N8.1 hv with hv|hv
  .exact mW h1 v hv
  .exact mW h2 v hv
 | .unit,_,_,_,_,⟨e,_⟩=>by subst e;simp| .box m,_,_,_,_,⟨_,_,_,_,e,_⟩=>by subst e;simp[Value.oneCell']| .rp t,_,_,_,_,⟨v,e,hv,_⟩=>by subst e;simp[Jm hv]| .fn f ts,_,_,_,_,⟨vs,e,_⟩=>by subst e;simp[Value.oneCell']| .ifc t m,_,_,_,_,⟨u,e,_⟩=>by subst e;simp[Value.oneCell']| .cell _,_,_,_,_,⟨v,e,h,_⟩=>by subst e;simp[h]| .fr t,_,_,_,_,⟨l,v,e,hv,_⟩=>by subst e;simp[kG hv]| .lp t,_,_,_,_,⟨v,e,hv,_⟩=>by subst e;simp[Jm hv]| .dv ..,_,_,_,_,⟨v,e,h,_⟩=>by subst e;simp[h]| .sit,_,_,_,_,⟨blk,a,v,e,_⟩=>by subst e;simp[Value.oneCell']| .sbx tb te,_,_,_,_,⟨blk,a,v,l,e,_⟩=>by subst e;simp[Value.oneCell']
theorem PD{α β α' β' :Type}(ea:α=α')(eb:β=β')(e:(α×β)=(α' ×β'))(x:α×β):cast e x=(cast ea x.1,cast eb x.2):=by subst ea;subst eb;rfl
theorem M.ty_size:∀{m:M},m.el=true->m.ty.size=m.size
 | .dat _,_=>rfl| .own _,_=>rfl| .owns _,_=>rfl| .unit,_=>rfl| .pair a b,h=>by
  have h' :a.el=true/\b.el=true:=by simpa[M.el]using h
  simp[M.ty,Ty.size,M.size,M.ty_size h'.1,M.ty_size h'.2]
 | .box _,h=>by simp[M.el]at h| .ownb _,h=>by simp[M.el]at h| .rp _,h=>by simp[M.el]at h| .fn _ _,h=>by simp[M.el]at h| .ifc _ _,h=>by simp[M.el]at h| .cell _,h=>by simp[M.el]at h| .fr _,h=>by simp[M.el]at h| .sbx _ _,h=>by simp[M.el]at h| .lp _,h=>by simp[M.el]at h| .dv ..,h=>by simp[M.el]at h| .sit,h=>by simp[M.el]at h
theorem aW:∀{m:M} {ho:Option Nat} {x:m.den} {cs:List Value} {O:List Nat},nP h ok m ho x cs O->cs.length=m.size
 | .dat t,_,_,_,_,e=>dJ e.1| .own t,_,_,_,_,⟨v,e,hv,_⟩=>by subst e;rfl| .owns t,_,_,_,_,⟨v,e,hv,_⟩=>by subst e;rfl| .ownb t,_,_,_,_,⟨l,v,e,hv,_⟩=>by subst e;rfl| .pair a b,_,_,_,_,⟨c,d,_,_,e,_,h1,h2⟩=>by subst e;simp[aW h1,aW h2,M.size]| .unit,_,_,_,_,⟨e,_⟩=>by subst e;rfl| .box m,_,_,_,_,⟨_,_,_,_,e,_⟩=>by subst e;rfl| .rp t,_,_,_,_,⟨v,e,hv,_⟩=>by subst e;rfl| .fn f ts,_,_,_,_,⟨vs,e,_⟩=>by subst e;rfl| .ifc t m,_,_,_,_,⟨u,e,_⟩=>by subst e;rfl| .cell _,_,_,_,_,⟨v,e,_⟩=>by subst e;rfl| .fr t,_,_,_,_,⟨l,v,e,hv,_⟩=>by subst e;rfl| .lp t,_,_,_,_,⟨v,e,_⟩=>by subst e;rfl| .dv ..,_,_,_,_,⟨v,e,_⟩=>by subst e;rfl| .sit,_,_,_,_,⟨blk,a,v,e,_⟩=>by subst e;rfl| .sbx tb te,_,_,_,_,⟨blk,a,v,l,e,_⟩=>by subst e;rfl
theorem Zk{sz:Nat}{mp:Mp}(h0:t.isEnt=false)(e:α=t.den)(e' :List α=List t.den)(hs:t.size=sz){R:Nat->α->List Value->List Nat->Prop}{xs:List α}{Os:List (List Nat)}
  (hR:∀i x es O,O∈Os->R i x es O->jJ h ok' t (cast e x) es) (ha:Aw h sz R xs Os l):arrOk ⟨h,ok',mp⟩ t (cast e' xs) l:=by
 subst e;simp only[cast_eq]at hR ⊢;cases l with
 |nil=>exact⟨ha.1,h0⟩|st b=>exact ha|mp b=>exact ha.elim|arr blk off len cap sz' =>obtain⟨h1,h2,h3,h7,c,T,h4,h5,h6⟩:=ha;refine⟨h0,by rw[hs];exact h1,h2,h3,c,T,_,h4,.inl rfl,by rw[h1];exact h5,λi x hi=>?_⟩;obtain⟨es,O,hO,hc,hr⟩:=h6 i x hi;exact⟨es,by rw[h1];exact hc,hR i x es O (rH hO) hr⟩
theorem M.ty_ent:∀{m:M},m.el=true->m.ty.isEnt=false
 | .dat t,h=>by simpa[M.el,M.ty]using h| .own _,_=>rfl| .owns _,_=>rfl| .unit,_=>rfl| .pair _ _,_=>rfl| .box _,h=>by simp[M.el]at h| .ownb _,h=>by simp[M.el]at h| .rp _,h=>by simp[M.el]at h| .fn _ _,h=>by simp[M.el]at h| .ifc _ _,h=>by simp[M.el]at h| .cell _,h=>by simp[M.el]at h| .fr _,h=>by simp[M.el]at h| .sbx _ _,h=>by simp[M.el]at h| .lp _,h=>by simp[M.el]at h| .dv ..,h=>by simp[M.el]at h| .sit,h=>by simp[M.el]at h
theorem OL{ok' :Nat->Ty->Prop}(hok:∀b t,ok b t->ok' b t):∀{m:M} (he:m.el=true) {x:m.den} {cs:List Value} {O:List Nat},(∀b∈O,∀t∈m.owned,ok' b t)->nP h ok m none x cs O->jJ h ok' m.ty (cast (M.denEq m he) x) cs
 | .dat t,_,_,_,_,_,e=>dK hok (λ_ _ _=>rfl) e.1| .unit,_,_,_,_,_,e=>e.1| .own t,he,xs,_,_,hO,e=>by obtain⟨l,v,rfl,hv,ha,rfl⟩:=uH.1 e;exact mG (C:=⟨h,ok,nom⟩) (vw:=none) ha hv hok (λblk hb=>hO blk hb t (by simp[M.owned]))
 | .pair a b,he,x,_,_,hO,e=>by
  obtain⟨c,d,O1,O2,rfl,rfl,h1,h2⟩:=e;have h' :a.el=true/\b.el=true:=by simpa[M.el]using he
  have e:cast (M.denEq (.pair a b) he) x=(cast (M.denEq a h'.1) x.1,cast (M.denEq b h'.2) x.2):=PD _ _ _ _;refine⟨c,d,rfl,?_,?_⟩
  .rw[e];exact OL hok h'.1 (λb hb t ht=>hO b (by simp[hb]) t (by simp[M.owned,ht])) h1
  .rw[e];exact OL hok h'.2 (λb hb t ht=>hO b (by simp[hb]) t (by simp[M.owned,ht])) h2
 | .owns m,he,xs,_,_,hO,e=>by
  obtain⟨_,l,v,Os,rfl,hv,ha,rfl⟩:=xW.1 e;have he' :m.el=true:=he;have hA:arrOk ⟨h,ok',nom⟩ m.ty (cast (congrArg List (M.denEq m he')) xs) l:=Zk (M.ty_ent he') (M.denEq m he') _ (M.ty_size he') (λi x es O hOi hr=>OL hok he' (λb hb t ht=>hO b (by simp only[N8,bW];exact .inr ⟨O,hOi,hb⟩) t (by simp[M.owned,ht])) hr) ha
  exact mG (C:=⟨h,ok',nom⟩) (t:=m.ty) (vw:=none) hA hv (λ_ _ h=>h) (λblk hb=>hO blk (by simp[hb]) m.ty (by simp[M.owned]))
 | .box _,h,_,_,_,_,_=>by simp[M.el]at h| .ownb _,h,_,_,_,_,_=>by simp[M.el]at h| .rp _,h,_,_,_,_,_=>by simp[M.el]at h| .fn _ _,h,_,_,_,_,_=>by simp[M.el]at h| .ifc _ _,h,_,_,_,_,_=>by simp[M.el]at h| .cell _,h,_,_,_,_,_=>by simp[M.el]at h| .fr _,h,_,_,_,_,_=>by simp[M.el]at h| .sbx _ _,h,_,_,_,_,_=>by simp[M.el]at h| .lp _,h,_,_,_,_,_=>by simp[M.el]at h| .dv ..,h,_,_,_,_,_=>by simp[M.el]at h| .sit,h,_,_,_,_,_=>by simp[M.el]at h
theorem LJ{m:M}{mp:Mp}(he:m.el=true)(hok:∀b t,ok b t->ok' b t){xs:List m.den}{Os:List (List Nat)}(hO:∀b∈Os.flatten,∀t∈m.owned,ok' b t)
  (ha:Aw h m.size (λ_ x es O=>nP h ok m none x es O) xs Os l):arrOk ⟨h,ok',mp⟩ m.ty (cast (congrArg List (M.denEq m he)) xs) l:=
 Zk (M.ty_ent he) (M.denEq m he) _ (M.ty_size he) (λi x es O hOi hr=>OL hok he (λb hb t ht=>hO b (bW.2 ⟨O,hOi,hb⟩) t ht) hr) ha
end
theorem RI{h h' :Array Obj}{ok ok' :Nat->Ty->Prop}(hok:∀b t,ok b t->ok' b t)(hh:∀b t,ok b t->h'[b]? =h[b]?):
  ∀{ms:List MG} {x:V4 ms} {vs:List Value} {O:List Nat},(∀b∈O,h'[b]? =h[b]?)->qW h ok ms x vs O->qW h' ok' ms x vs O
 |[],_,_,_,_,e=>e|[m],_,_,_,hb,⟨v,cs,e,hg,hr⟩=>⟨v,cs,e,hg,ji hok hh hb hr⟩|m::m' ::r,_,_,_,hb,⟨v,cs,vs',O1,O2,e,eo,hg,h1,h2⟩=>by subst eo;exact⟨v,cs,vs',O1,O2,e,rfl,hg,ji hok hh (λb h=>hb b (by simp[h])) h1,RI hok hh (λb h=>hb b (by simp[h])) h2⟩
variable {Q:α->Sm->Prop}{c:V}
section
variable {X:Fx} {cl ch:Nat} {S:Sm} {m:Mp} {ok:Nat->Ty->Prop} {a:Act} {w:World} {T:List Nat}
theorem dY{p q:Ty}{xs:List p.den}{k:List q.den->Cmd α}{S:Sm}
  (h:∀e:p=q,(k (e▸xs)).post S Q):(Ty.castL p q xs k .fail).post S Q:=by
 unfold Ty.castL;split
 .rename_i e;exact h e
 .trivial
theorem bC{b:Bool}{c:Cmd α}{S:Sm}(h:b=true->c.post S Q):(bif b then c else Cmd.fail).post S Q:=by
 cases b
 .trivial
 .exact h rfl
theorem Cc{p q:Ty}{x:p.den}{k:q.den->Cmd α}{S:Sm}
  (h:∀e:p=q,(k (e▸x)).post S Q):(TQ p q x k .fail).post S Q:=by
 unfold TQ;split
 .rename_i e;exact h e
 .trivial
theorem TP{p q:M}{xs:List p.den}{k:List q.den->Cmd α}{S:Sm}
  (h:∀e:p=q,(k (e▸xs)).post S Q):(a2H p q xs k .fail).post S Q:=by
 unfold a2H;split
 .rename_i e;exact h (M.beq_eq e)
 .trivial
theorem Zy{p:M}{xs:List p.den}{k:List t.den->Cmd α}{S:Sm}
  (h:∀(e:p.el=true) (e' :p.ty=t),(k (e' ▸cast (congrArg List (M.denEq p e)) xs)).post S Q):(a0N p t xs k .fail).post S Q:=by
 unfold a0N;split
 .rename_i e;obtain⟨e,rfl⟩:=e;exact h e rfl
 .trivial
theorem Ia{ok ok' :Nat->Ty->Prop}{m:Mp}(k:∀b t,ok b t->ok' b t){cs:List V}{vs:List Value}(hr:eX ⟨h,ok,m⟩ cs vs):eX ⟨h,ok',m⟩ cs vs:=
 EC (C:=⟨h,ok,m⟩) (D:=⟨h,ok',m⟩) ⟨k,λ_ _ _=>rfl,λ_ _ h=>h⟩ hr
theorem Ld{ok ok' :Nat->Ty->Prop}{m:Mp}(k:∀b t,ok b t->ok' b t)(hr:jI ⟨h,ok,m⟩ c v):jI ⟨h,ok',m⟩ c v:=
 Lc (C:=⟨h,ok,m⟩) (D:=⟨h,ok',m⟩) ⟨k,λ_ _ _=>rfl,λ_ _ h=>h⟩ hr
theorem Dj{bs:List Nat}{Ts:List Ty} :∀b t,ok b t->okW ok bs Ts b t:=λ_ _ h=> .inl h
def okL(ln:Ty->Bool)(S:Sm)(m:Mp)(ok:Nat->Ty->Prop):Nat->Ty->Prop:=λb t=>ok b t\/(ln t=true/\∃n,b∈P9 m n (S (Y4+n))/\a6j (S (Y4+n)) t)
theorem a1c:okL yI S m ok=ok:=by funext b t;simp[okL,yI]
theorem Xk{ln:Ty->Bool}{n:Nat}{v:V}(hv:P9 m n v=[]){Ts:List Ty}{bs:List Nat}(hbs:P9 m n (S (Y4+n)) ⊆ bs)(hTs:∀t,a6j (S (Y4+n)) t->t∈Ts):
  ∀b t,okL ln S m ok b t->okL ln (upd S (Y4+n) v) m (okW ok bs Ts) b t:=by
 intro b t h;rcases h with h|⟨hl,k,hk,ht⟩
 .exact .inl (.inl h)
 .by_cases e:k=n
  .subst e;exact .inl (.inr ⟨hbs hk,hTs _ ht⟩)
  .exact .inr ⟨hl,k,by rw[aU _ _ o5];exact⟨hk,ht⟩⟩
def aJ(S S' :Sm):Prop:=∀n,n<Y4->S' n=S n
theorem aJ.refl(S:Sm):aJ S S:=λ_ _=>rfl
theorem aJ.trans{A B C:Sm}(h:aJ A B)(k:aJ B C):aJ A C:=λn hn=>(k n hn).trans (h n hn)
theorem aJ.box(S:Sm)(n:Nat)(v:V):aJ S (upd S (Y4+n) v):=λk hk=>aU _ _ o5
theorem WH{ln:Ty->Bool} :∀{ts:List Ty},Zi ln ts=true->∀t∈ts,ln t=true
 |[],_,_,h=>by cases h|u::r,e,t,h=>by
  unfold Zi at e;cases hl:ln u with
  |false=>rw[hl]at e;cases e|true=>
   rw[hl]at e;rcases D6.1 h with rfl|h
   .exact hl
   .exact WH e t h
theorem Ar{α:Type}{Q:α->Sm->Prop}(ln:Ty->Bool):∀(t:Ty) {cs:List V} {K:t.den->List V->Cmd α} {S:Sm} {ok:Nat->Ty->Prop} {vs:List Value} (R:Rel X cl ch S m ok a w) (hT:Tk X S m ok w T)
  (hL:eX ⟨w.heap,ok,m⟩ cs vs)
  (hK:∀S' ok' x r us us',Rel X cl ch S' m ok' a w->Tk X S' m ok' w T->(∀b t,ok b t->ok' b t)->(∀b t,okL ln S m ok b t->okL ln S' m ok' b t)->aJ S S' ->vs=us++us' ->jJ w.heap (okL ln S' m ok') t x us->eX ⟨w.heap,ok',m⟩ r us' ->(K x r).post S' Q),
  (kz ln t cs K).post S Q
 | .bool,cs,K,S,ok,vs,R,hT,hL,hK=>by
  unfold kz;split
  .obtain⟨v,r,rfl,h1,_,h3⟩:=hL;exact hK _ _ _ _ [v] r R hT (λ_ _ h=>h) (λ_ _ h=>h) (aJ.refl _) rfl (by simp only[sQ]at h1;simp[jJ,h1]) h3
  .trivial
 | .int k,cs,K,S,ok,vs,R,hT,hL,hK=>by
  unfold kz;split
  .rename_i k' n r0;obtain⟨v,r,rfl,h1,_,h3⟩:=hL;by_cases e:k=k'
   .subst e;simp only[decide_true,cond_true];exact hK _ _ _ _ [v] r R hT (λ_ _ h=>h) (λ_ _ h=>h) (aJ.refl _) rfl (by simp only[sQ]at h1;simp[jJ,h1]) h3
   .simp only[e,decide_false,cond_false];trivial
  .trivial
 | .str,cs,K,S,ok,vs,R,hT,hL,hK=>by
  unfold kz;split
  .obtain⟨v,r,rfl,h1,_,h3⟩:=hL;exact hK _ _ _ _ [v] r R hT (λ_ _ h=>h) (λ_ _ h=>h) (aJ.refl _) rfl (by simp only[sQ]at h1;simp[jJ,h1]) h3
  .trivial
 | .unit,cs,K,S,ok,vs,R,hT,hL,hK=>by unfold kz;exact hK _ _ _ _ [] vs R hT (λ_ _ h=>h) (λ_ _ h=>h) (aJ.refl _) rfl rfl hL| .any none,cs,K,S,ok,vs,R,hT,hL,hK=>by
  unfold kz;split
  .obtain⟨v,r,rfl,h1,h2,h3⟩:=hL;exact hK _ _ _ _ [v] r R hT (λ_ _ h=>h) (λ_ _ h=>h) (aJ.refl _) rfl ⟨v,rfl,h2,trivial⟩ h3
  .trivial
 | .any (some k),cs,K,S,ok,vs,R,hT,hL,hK=>by
  unfold kz;split
  .rename_i k' n r0;obtain⟨v,r,rfl,h1,h2,h3⟩:=hL;by_cases e:k=k'
   .subst e;simp only[decide_true,cond_true];exact hK _ _ _ _ [v] r R hT (λ_ _ h=>h) (λ_ _ h=>h) (aJ.refl _) rfl ⟨v,rfl,h2,n,h1⟩ h3
   .simp only[e,decide_false,cond_false];trivial
  .trivial
 | .prod p q,cs,K,S,ok,vs,R,hT,hL,hK=>by unfold kz;refine Ar ln p R hT hL λS1 ok1 x r us us' R1 T1 k1 g1 s1 e1 h1 l1=>?_;refine Ar ln q R1 T1 l1 λS2 ok2 y r' vs2 vs2' R2 T2 k2 g2 s2 e2 h2 l2=>?_;subst e1;subst e2;exact hK _ _ _ _ (us++vs2) vs2' R2 T2 (λb t h=>k2 b t (k1 b t h)) (λb t h=>g2 b t (g1 b t h)) (s1.trans s2) A8 ⟨us,vs2,rfl,dK g2 (λ_ _ _=>rfl) h1,h2⟩ l2| .ent ..,cs,K,S,ok,vs,R,hT,hL,hK=>by unfold kz;trivial| .sl t,cs,K,S,ok,vs,R,hT,hL,hK=>by
  unfold kz;split
  .obtain⟨v,r,rfl,h1,_,h3⟩:=hL;simp only[sQ]at h1;subst h1;cases ht:t.isEnt
   .exact hK _ _ _ _ [_] r R hT (λ_ _ h=>h) (λ_ _ h=>h) (aJ.refl _) rfl (.inl ⟨ht,none,0,rfl,E9 _,λi x hi=>by simp at hi⟩) h3
   .trivial
  .rename_i t' xs r0;obtain⟨v,r,rfl,h1,_,h3⟩:=hL;refine dY λe=>?_;subst e;exact hK _ _ _ _ [v] r R hT (λ_ _ h=>h) (λ_ _ h=>h) (aJ.refl _) rfl (dK (λ_ _ h=> .inl h) (λ_ _ _=>rfl) h1) h3
  .rename_i bx vw r0;obtain⟨v,r,rfl,h1,_,h3⟩:=hL;obtain⟨l,hm,hv⟩:=h1;show Cmd.post (match S (Y4+bx)with| .barr t' xs=>_| .bfrz t' xs=>_| .barrs el xs none=>_|_=>_) S Q;have hb:=R.box bx;split
   .rename_i t' xs hS;rw[hS]at hb;obtain⟨l',hm',ha⟩:=hb;simp only at hm hm';rw[hm]at hm';cases hm';refine dY λe=>?_;subst e;have hob:P9 m bx (S (Y4+bx))=l.blks:=by
     rw[hS];cases l<;>first|(simp[P9,hm,Loc.blks];done)|cases ha
    cases hl:ln t'
    .simp only[cond_false];show Cmd.post _ (upd S (Y4+bx) (.bfrz t' xs)) Q;have hbs:∀b∈l.blks,b∈P9 m bx (S (Y4+bx)):=λb h=>by rw[hob];exact h
     refine hK _ (okW ok l.blks [t']) _ _ [v] r (R.widen A8 rfl hbs ?_) (hT.widen rfl hbs) Dj (Xk rfl (by rw[hob];exact λ_ h=>h) (by rw[hS];exact λ_ h=>h)) (aJ.box _ _ _) rfl ?_ (Ia Dj h3)
     .exact⟨l,hm,mf Dj (λ_ _ _=>rfl) (λ_ _=>rfl) ha,λblk hb=> .inr ⟨hb,A8⟩⟩
     .exact mG (C:=⟨w.heap,ok,m⟩) ha hv (λb t h=> .inl (.inl h)) (λblk hb=> .inl (.inr ⟨hb,A8⟩))
    .simp only[cond_true];refine hK _ _ _ _ [v] r R hT (λ_ _ h=>h) (λ_ _ h=>h) (aJ.refl _) rfl ?_ h3;refine mG (C:=⟨w.heap,ok,m⟩) ha hv (λb t h=> .inl h) (λblk hb=> .inr ⟨hl,bx,?_,by rw[hS];simp[a6j,b0i]⟩);rw[hob];exact hb
   .rename_i t' xs hS;rw[hS]at hb;obtain⟨l',hm',ha,hok⟩:=hb;simp only at hm hm';rw[hm]at hm';cases hm';refine dY λe=>?_;subst e;exact hK _ _ _ _ [v] r R hT (λ_ _ h=>h) (λ_ _ h=>h) (aJ.refl _) rfl (mG (C:=⟨w.heap,ok,m⟩) ha hv (λ_ _ h=> .inl h) (λblk e=> .inl (hok _ e))) h3
   .rename_i md xs hS;rw[hS]at hb;obtain⟨hel,l',Os,hm',⟨ha,hho⟩,hk⟩:=hb;simp only at hm hm' hk;rw[hm]at hm';cases hm';refine Zy λe e' =>?_;subst e';have hob:P9 m bx (S (Y4+bx))=l.blks++Os.flatten:=by
     rw[hS];simp only[P9];rw[hk];cases l<;>first|(simp[hm,Loc.blks];done)|cases ha
    simp only;cases hl:(ln md.ty&&Zi ln md.owned)
    .simp only[cond_false];show Cmd.post _ (upd S (Y4+bx) (.bfrz md.ty _)) Q;have hbs:∀b∈l.blks++Os.flatten,b∈P9 m bx (S (Y4+bx)):=λb h=>by rw[hob];exact h
     have ha' :arrOk ⟨w.heap,okW ok (l.blks++Os.flatten) (md.ty::md.owned),m⟩ md.ty (cast (congrArg List (M.denEq md e)) xs) l:=
      LJ e Dj (λb hb t ht=> .inr ⟨by simp[hb],by simp[ht]⟩) ha
     refine hK _ (okW ok (l.blks++Os.flatten) (md.ty::md.owned)) _ _ [v] r (R.widen A8 rfl hbs ?_) (hT.widen rfl hbs) Dj (Xk rfl (by rw[hob];exact λ_ h=>h) (by rw[hS];exact λ_ h=>h)) (aJ.box _ _ _) rfl ?_ (Ia Dj h3)
     .exact⟨l,hm,ha',λblk hb=> .inr ⟨by simp[hb],A8⟩⟩
     .exact mG (C:=⟨w.heap,okW ok (l.blks++Os.flatten) (md.ty::md.owned),m⟩) ha' hv (λb t h=> .inl h) (λblk hb=> .inl (.inr ⟨by simp[hb],A8⟩))
    .simp only[cond_true];simp only[A7]at hl;have ha' :arrOk ⟨w.heap,okL ln S m ok,m⟩ md.ty (cast (congrArg List (M.denEq md e)) xs) l:=
      LJ e (λb t h=> .inl h) (λb hb t ht=> .inr ⟨WH hl.2 t ht,bx,by rw[hob];simp[hb],by rw[hS];simp[a6j,b0i,ht]⟩) ha
     refine hK _ _ _ _ [v] r R hT (λ_ _ h=>h) (λ_ _ h=>h) (aJ.refl _) rfl ?_ h3;refine mG (C:=⟨w.heap,okL ln S m ok,m⟩) ha' hv (λb t h=>h) (λblk hb=> .inr ⟨hl.1,bx,?_,by rw[hS];simp[a6j,b0i]⟩);rw[hob];simp[hb]
   .trivial
  .trivial
theorem BU(t:Ty){cs:List V}{K:t.den->List V->Cmd α}{S:Sm}{ok:Nat->Ty->Prop}{vs:List Value}(R:Rel X cl ch S m ok a w)(hT:Tk X S m ok w T)
  (hL:eX ⟨w.heap,ok,m⟩ cs vs)
  (hK:∀S' ok' x r us us',Rel X cl ch S' m ok' a w->Tk X S' m ok' w T->(∀b t,ok b t->ok' b t)->aJ S S' ->vs=us++us' ->jJ w.heap ok' t x us->eX ⟨w.heap,ok',m⟩ r us' ->(K x r).post S' Q):
  (kz yI t cs K).post S Q:=
 Ar yI t R hT hL λS' ok' x r us us' R' T' k g s e h l=>hK S' ok' x r us us' R' T' k s e (by rw[a1c]at h;exact h) l
theorem Loc.blks_nodup(l:Loc):l.blks.Nodup:=by cases l<;>simp[Loc.blks]
theorem C_(t:Ty){K:t.den->Cmd α}{S:Sm}{ok:Nat->Ty->Prop}(R:Rel X cl ch S m ok a w)(hT:Tk X S m ok w T)
  (hv:sQ ⟨w.heap,ok,m⟩ c v)
  (hK:∀S' ok' x,Rel X cl ch S' m ok' a w->Tk X S' m ok' w T->(∀b t,ok b t->ok' b t)->aJ S S' ->XW w.heap ok' t x 0 v->(K x).post S' Q):(rpC t c K).post S Q:=by
 unfold rpC;split
 .refine Cc λe=>?_;subst e;exact hK _ _ _ R hT (λ_ _ h=>h) (aJ.refl _) hv
 .rename_i bx;obtain⟨blk,hm,rfl⟩:=hv;show Cmd.post (match S (Y4+bx)with| .bfc t' x=>_| .bcells bs=>_|_=>_) S Q;have hb:=R.box bx;split
  .rename_i t' x hS;rw[hS]at hb;obtain⟨blk',es,hm',hok,hc,hr⟩:=hb;simp only at hm hm';rw[hm]at hm';cases hm';refine Cc λe=>?_;subst e;exact hK _ _ _ R hT (λ_ _ h=>h) (aJ.refl _) ⟨blk,0,es,rfl,hok,hc,hr⟩
  .rename_i bs hS;rw[hS]at hb;obtain⟨blk',arr,Ty',hm',hh,hl⟩:=hb;simp only at hm hm';rw[hm]at hm';cases hm';refine BU t R hT hl λS1 ok1 x q us us' R1 T1 k1 s1 e1 h1 l1=>?_;cases q with
   |cons c q=>trivial|nil=>
    simp only[eX]at l1;subst l1;simp only[H6]at e1;show Cmd.post (match S1 (Y4+bx)with| .bcells _=>_|_=>_) S1 Q;split
    .rename_i bs' hS';show Cmd.post _ (upd S1 (Y4+bx) (.bfc t x)) Q;have hbs:∀b∈[blk],b∈P9 m bx (S1 (Y4+bx)):=λb h=>by rw[hS'];simp at h;subst h;simp[P9,hm]
     have hce:bZ w.heap blk 0 t.size=some us:=by rw[ik hh 0 t.size (by have:=dJ h1;rw[←e1]at this;simp at this;omega)];rw[e1,←dJ h1];simp
     have hr:=dK (Dj (bs:=[blk]) (Ts:=[t])) (λ_ _ _=>rfl) h1;refine hK _ (okW ok1 [blk] [t]) _ (R1.widen A8 rfl hbs ?_) (T1.widen rfl hbs) (λb t h=> .inl (k1 b t h)) (s1.trans (aJ.box _ _ _)) ?_
     .exact⟨blk,us,hm,.inr ⟨A8,A8⟩,hce,hr⟩
     .exact⟨blk,0,us,rfl,.inr ⟨A8,A8⟩,hce,hr⟩
    .trivial
  .trivial
 .trivial
theorem ZR(ln:Ty->Bool)(t:Ty){K:t.den->Cmd α}{S:Sm}{ok:Nat->Ty->Prop}(R:Rel X cl ch S m ok a w)(hT:Tk X S m ok w T)
  (hv:sQ ⟨w.heap,ok,m⟩ c v)
  (hK:∀S' ok' x,Rel X cl ch S' m ok' a w->Tk X S' m ok' w T->(∀b t,ok b t->ok' b t)->(∀b t,okL ln S m ok b t->okL ln S' m ok' b t)->aJ S S' ->XW w.heap (okL ln S' m ok') t x 0 v->(K x).post S' Q):(lpC ln t c K).post S Q:=by
 unfold lpC;split
 .refine Cc λe=>?_;subst e;exact hK _ _ _ R hT (λ_ _ h=>h) (λ_ _ h=>h) (aJ.refl _) (BL (λ_ _ h=> .inl h) (λ_ _ _=>rfl) hv)
 .rename_i bx;obtain⟨blk,hm,rfl⟩:=hv;show Cmd.post (match S (Y4+bx)with| .bcells bs=>_|_=>_) S Q;have hb:=R.box bx;split
  .rename_i bs hS;rw[hS]at hb;obtain⟨blk',arr,Ty',hm',hh,hl⟩:=hb;simp only at hm hm';rw[hm]at hm';cases hm';cases hlt:ln t
   .trivial
   simp only[cond_true];refine Ar ln t R hT hl λS1 ok1 x q us us' R1 T1 k1 g1 s1 e1 h1 l1=>?_;cases q with
   |cons c q=>trivial|nil=>
    simp only[eX]at l1;subst l1;simp only[H6]at e1;show Cmd.post (match S1 (Y4+bx)with| .bcells _=>_|_=>_) S1 Q;split
    .rename_i bs' hS';have hce:bZ w.heap blk 0 t.size=some us:=by
      rw[ik hh 0 t.size (by have:=dJ h1;rw[←e1]at this;simp at this;omega)];rw[e1,←dJ h1];simp
     exact hK _ _ _ R1 T1 k1 g1 s1 ⟨blk,0,us,rfl,.inr ⟨hlt,bx,by rw[hS'];simp[P9,hm],by rw[hS'];trivial⟩,hce,h1⟩
    .trivial
  .trivial
 .trivial
theorem Ji{α:Type}{Q:α->Sm->Prop}{h:Array Obj}{ok:Nat->Ty->Prop} :∀(ts:List Ty) {cs:List ((t:Ty)×t.den)} {vs:List Value} {K:QJ ts->Cmd α} {S:Sm}
  (hc:Cb h ok cs vs) (hK:∀x,Cb h ok (QG ts x) vs->(K x).post S Q),(MN ts cs K).post S Q
 |[],cs,vs,K,S,hc,hK=>by
  unfold MN;split
  .exact hK _ hc
  .trivial
 |[t],cs,vs,K,S,hc,hK=>by
  unfold MN;split
  .refine Cc λe=>?_;subst e;exact hK _ hc
  .trivial
 |t::t' ::r,cs,vs,K,S,hc,hK=>by
  unfold MN;split
  .obtain⟨v,vs',rfl,h1,h2⟩:=hc;refine Cc λe=>?_;subst e;exact Ji (t' ::r) h2 λy hy=>hK _ ⟨v,vs',rfl,h1,hy⟩
  .trivial
theorem a7P{te:Nat}{K:List UInt8->Cmd α}{S:Sm}{ok:Nat->Ty->Prop}{T:List Nat}(R:Rel X cl ch S m ok a w)(hT:Tk X S m ok w T)(hv:sQ ⟨w.heap,ok,m⟩ c v)
  (hK:∀S' ys l,Rel X cl ch S' m ok a w->Tk X S' m ok w (T++l.blks)->aJ S S' ->(∀n,(∀t xs,S (Y4+n)≠.brow t xs)->S' (Y4+n)=S (Y4+n))->l.view none v->qY w.heap te ys l->(K ys).post S' Q):(sbC te c K).post S Q:=by
 unfold sbC;split
 .exact hK S [] .nil R (by simpa[Loc.blks]using hT) (aJ.refl _) (λ_ _=>rfl) hv rfl
 .rename_i b;obtain⟨l,hm,hvw⟩:=hv;show Cmd.post (match S (Y4+b)with| .brow te' xs=>_|_=>_) S Q;have hb:=R.box b;split
  .rename_i t' xs hS;rw[hS]at hb;obtain⟨l',hm',ha⟩:=hb;simp only at hm hm';rw[hm]at hm';cases hm';cases he:Nat.beq t' te
   .trivial
   have e:=fC he;subst e;show Cmd.post _ (upd S (Y4+b) .dead) Q;refine hK _ xs l (R.kill b) (hT.kill R b (λb' hb' =>?_) (Loc.blks_nodup l)) (aJ.box _ _ _) (λn hn=>?_) hvw ha
   .cases l with
    |nil=>simp[Loc.blks]at hb'|st _=>cases ha|arr blk off len cap sz=>simp[Loc.blks]at hb';subst hb';simp[P9,hS,hm]|mp blk=>cases ha
   .by_cases en:n=b
    .subst en;exact absurd hS (hn _ _)
    .rw[aU _ _ o5]
  .trivial
 .trivial
theorem CO{α:Type}{Q:α->Sm->Prop} :∀(md:M) {cs:List V} {K:md.den->List V->Cmd α} {S:Sm} {ok:Nat->Ty->Prop} {vs:List Value} {T:List Nat} (R:Rel X cl ch S m ok a w) (hT:Tk X S m ok w T)
  (hL:eX ⟨w.heap,ok,m⟩ cs vs)
  (hK:∀S' ok' x r us us' O,Rel X cl ch S' m ok' a w->Tk X S' m ok' w (T++O)->(∀b t,ok b t->ok' b t)->aJ S S' ->vs=us++us' ->nP w.heap ok' md none x us O->eX ⟨w.heap,ok',m⟩ r us' ->(K x r).post S' Q),
  (exM yI md cs K).post S Q
 | .dat t,cs,K,S,ok,vs,T,R,hT,hL,hK=>by unfold exM;exact BU t R hT hL λS' ok' x r us us' R' T' k s e h l=>hK S' ok' x r us us' [] R' (by simpa using T') k s e ⟨h,rfl⟩ l| .own t,cs,K,S,ok,vs,T,R,hT,hL,hK=>by
  unfold exM;split
  .obtain⟨v,r,rfl,h1,_,h3⟩:=hL;simp only[sQ]at h1;subst h1;cases ht:t.isEnt
   .exact hK _ _ _ _ [_] r [] R (by simpa using hT) (λ_ _ h=>h) (aJ.refl _) rfl (uH.2 ⟨.nil,_,rfl,rfl,⟨rfl,ht⟩,rfl⟩) h3
   .trivial
  .rename_i bx vw r0;obtain⟨v,r,rfl,h1,_,h3⟩:=hL;obtain⟨l,hm,hv⟩:=h1;show Cmd.post (match S (Y4+bx)with| .barr t' xs=>_|_=>_) S Q;have hb:=R.box bx;split
   .rename_i t' xs hS;rw[hS]at hb;obtain⟨l',hm',ha⟩:=hb;simp only at hm hm';rw[hm]at hm';cases hm';refine dY λe=>?_;subst e;obtain⟨a1,a2,a3⟩:=Gw (C:=⟨w.heap,ok,m⟩) ha hv;show Cmd.post _ (upd S (Y4+bx) .dead) Q;refine hK _ ok _ _ [v] r (Il l vw).blks (R.kill bx) ?_ (λ_ _ h=>h) (aJ.box _ _ _) rfl (uH.2 ⟨_,v,rfl,a2,mf (λ_ _ h=>h) (λ_ _ _=>rfl) (λ_ _=>rfl) a1,rfl⟩) h3;rw[a3];refine hT.kill R bx (λb hb=>?_) (Loc.blks_nodup l);cases l with
    |nil=>simp[Loc.blks]at hb|st _=>cases ha|arr blk off len cap sz=>simp[Loc.blks]at hb;subst hb;simp[P9,hS,hm]|mp blk=>simp[Loc.blks]at hb;subst hb;simp[P9,hS,hm]
   .trivial
  .trivial
 | .ownb t,cs,K,S,ok,vs,T,R,hT,hL,hK=>by
  unfold exM;split
  .obtain⟨v,r,rfl,h1,_,h3⟩:=hL;simp only[sQ]at h1;subst h1;cases ht:t.isEnt
   .exact hK _ _ _ _ [_] r [] R (by simpa using hT) (λ_ _ h=>h) (aJ.refl _) rfl ⟨.nil,_,rfl,rfl,⟨rfl,ht⟩,rfl⟩ h3
   .trivial
  .rename_i bx r0;obtain⟨v,r,rfl,h1,_,h3⟩:=hL;obtain⟨l,hm,hv⟩:=h1;show Cmd.post (match S (Y4+bx)with| .barr t' xs=>_|_=>_) S Q;have hb:=R.box bx;split
   .rename_i t' xs hS;rw[hS]at hb;obtain⟨l',hm',ha⟩:=hb;simp only at hm hm';rw[hm]at hm';cases hm';refine dY λe=>?_;subst e;show Cmd.post _ (upd S (Y4+bx) (.gone t')) Q;refine hK _ ok _ _ [v] r l.blks (R.killV bx A8 rfl ⟨l,hm,λblk off len cap sz e=>by subst e;exact ha.2.1⟩) ?_ (λ_ _ h=>h) (aJ.box _ _ _) rfl ⟨l,v,rfl,hv,mf (λ_ _ h=>h) (λ_ _ _=>rfl) (λ_ _=>rfl) ha,rfl⟩ h3;refine hT.killV R bx rfl (λb hb=>?_) (Loc.blks_nodup l);cases l with
    |nil=>simp[Loc.blks]at hb|st _=>cases ha|arr blk off len cap sz=>simp[Loc.blks]at hb;subst hb;simp[P9,hS,hm]|mp blk=>simp[Loc.blks]at hb;subst hb;simp[P9,hS,hm]
   .trivial
  .trivial
 | .owns md,cs,K,S,ok,vs,T,R,hT,hL,hK=>by
  unfold exM;split
  .obtain⟨v,r,rfl,h1,_,h3⟩:=hL;simp only[sQ]at h1;subst h1;refine bC λhe=>?_;exact hK _ _ _ _ [_] r [] R (by simpa using hT) (λ_ _ h=>h) (aJ.refl _) rfl (xW.2 ⟨he,.nil,_,[],rfl,rfl,⟨rfl,rfl⟩,rfl⟩) h3
  .rename_i bx r0;obtain⟨v,r,rfl,h1,_,h3⟩:=hL;obtain⟨l,hm,hv⟩:=h1;show Cmd.post (match S (Y4+bx)with| .barrs m' xs none=>_|_=>_) S Q;have hb:=R.box bx;split
   .rename_i md' xs hS;rw[hS]at hb;obtain⟨hel,l',Os,hm',⟨ha,hho⟩,hk⟩:=hb;simp only at hm hm' hk;rw[hm]at hm';cases hm';refine TP λe=>?_;subst e;have hob:P9 m bx (S (Y4+bx))=l.blks++Os.flatten:=by
     rw[hS];simp only[P9];rw[hk];cases l<;>first|(simp[hm,Loc.blks];done)|cases ha
    show Cmd.post _ (upd S (Y4+bx) .dead) Q;refine hK _ ok _ _ [v] r (l.blks++Os.flatten) (R.kill bx) ?_ (λ_ _ h=>h) (aJ.box _ _ _) rfl (xW.2 ⟨hel,l,v,Os,rfl,hv,ha,rfl⟩) h3;refine hT.kill R bx (λb hb=>by rw[hob];exact hb) (by rw[←hob];exact R.nd bx)
   .trivial
  .trivial
 | .unit,cs,K,S,ok,vs,T,R,hT,hL,hK=>by unfold exM;exact hK _ _ _ _ [] vs [] R (by simpa using hT) (λ_ _ h=>h) (aJ.refl _) rfl ⟨rfl,rfl⟩ hL
 | .pair p q,cs,K,S,ok,vs,T,R,hT,hL,hK=>by unfold exM;refine CO p R hT hL λS1 ok1 x r us us' O1 R1 T1 k1 s1 e1 h1 l1=>?_;refine CO q R1 T1 l1 λS2 ok2 y r' vs2 vs2' O2 R2 T2 k2 s2 e2 h2 l2=>?_;subst e1;subst e2;exact hK _ _ _ _ (us++vs2) vs2' (O1++O2) R2 (by simpa using T2) (λb t h=>k2 b t (k1 b t h)) (s1.trans s2) A8 ⟨us,vs2,O1,O2,rfl,rfl,ji k2 (λ_ _ _=>rfl) (λ_ _=>rfl) h1,h2⟩ l2| .box md,cs,K,S,ok,vs,T,R,hT,hL,hK=>by
  unfold exM;split
  .rename_i bx r0;obtain⟨v,r,rfl,h1,_,h3⟩:=hL;obtain⟨blk,hm,hv⟩:=h1;show Cmd.post (match S (Y4+bx)with| .bcells bs=>_|_=>_) S Q;have hb:=R.box bx;split
   .rename_i bs hS;rw[hS]at hb;obtain⟨blk',arr,Ty',hm',hh,hl⟩:=hb;simp only at hm hm' hv;rw[hm]at hm';cases hm';subst hv;show Cmd.post _ (upd S (Y4+bx) .dead) Q;have hT1:Tk X (upd S (Y4+bx) .dead) m ok w (T++[blk]):=hT.kill R bx (λb hb=>by simp at hb;subst hb;simp[P9,hS,hm]) A8;refine CO md (R.kill bx) hT1 hl λS1 ok1 x q us us' O R1 T1 k1 s1 e1 h1 l1=>?_;cases q with
    |nil=>simp only[eX]at l1;subst l1;simp only[H6]at e1;refine hK _ _ _ _ [_] r (blk::O) R1 (by simpa using T1) k1 ((aJ.box _ _ _).trans s1) rfl ⟨blk,arr,Ty',O,rfl,hh,by rw[e1];exact h1,rfl⟩ (Ia k1 h3)|cons c q=>trivial
   .trivial
  .trivial
 | .rp t,cs,K,S,ok,vs,T,R,hT,hL,hK=>by
  unfold exM;split
  .obtain⟨v,r,rfl,h1,_,h3⟩:=hL;refine C_ t R hT h1 λS1 ok1 x R1 T1 k1 s1 h1=>?_;exact hK _ _ _ _ [v] r [] R1 (by simpa using T1) k1 s1 rfl ⟨v,rfl,h1,rfl⟩ (Ia k1 h3)
  .trivial
 | .fn f ts,cs,K,S,ok,vs,T,R,hT,hL,hK=>by
  unfold exM;split
  .rename_i g caps r0;obtain⟨v,r,rfl,⟨us,rfl,hc⟩,_,h3⟩:=hL;cases hb:Nat.beq g f
   .trivial
   .simp only[cond_true];have e:=fC hb;subst e;exact Ji ts hc λx hx=>hK _ _ _ _ [_] r [] R (by simpa using hT) (λ_ _ h=>h) (aJ.refl _) rfl ⟨us,rfl,hx,rfl⟩ h3
  .rename_i g r0;obtain⟨v,r,rfl,h1,_,h3⟩:=hL;have h1:v= .func (.func g) #[] #[]:=h1;subst h1;cases hb:Nat.beq g f
   .trivial
   .simp only[cond_true];have e:=fC hb;subst e;exact Ji (cs:=[]) (vs:=[]) ts rfl λx hx=>hK _ _ _ _ [_] r [] R (by simpa using hT) (λ_ _ h=>h) (aJ.refl _) rfl ⟨#[],rfl,hx,rfl⟩ h3
  .trivial
 | .ifc t md,cs,K,S,ok,vs,T,R,hT,hL,hK=>by
  unfold exM;split
  .rename_i t' c r0;obtain⟨v,r,rfl,⟨u,rfl,hu,hc⟩,_,h3⟩:=hL;cases hb:Nat.beq t' t
   .trivial
   .simp only[cond_true];have e:=fC hb;subst e;refine CO md (vs:=[u]) R hT ⟨u,[],rfl,hc,hu,rfl⟩ λS1 ok1 x q us us' O R1 T1 k1 s1 e1 h1 l1=>?_;cases q with
    |cons c q=>trivial|nil=>simp only[eX]at l1;subst l1;simp only[H6]at e1;subst e1;exact hK _ _ _ _ [_] r O R1 T1 k1 s1 rfl ⟨u,rfl,h1⟩ (Ia k1 h3)
  .trivial
 | .cell (some none),cs,K,S,ok,vs,T,R,hT,hL,hK=>by
  unfold exM;split
  .obtain⟨v,r,rfl,h1,h2,h3⟩:=hL;exact hK _ _ _ _ [v] r [] R (by simpa using hT) (λ_ _ h=>h) (aJ.refl _) rfl ⟨v,rfl,h2,λ_=>h1,(λ_ h=>nomatch h),rfl⟩ h3
  .trivial
 | .cell (some (some b)),cs,K,S,ok,vs,T,R,hT,hL,hK=>by
  unfold exM;split
  .obtain⟨v,r,rfl,h1,h2,h3⟩:=hL;cases b
   .trivial
   .exact hK _ _ _ _ [v] r [] R (by simpa using hT) (λ_ _ h=>h) (aJ.refl _) rfl ⟨v,rfl,h2,(λh=>nomatch h),(λb' h=>by cases h;exact h1),rfl⟩ h3
  .obtain⟨v,r,rfl,h1,h2,h3⟩:=hL;cases b
   .exact hK _ _ _ _ [v] r [] R (by simpa using hT) (λ_ _ h=>h) (aJ.refl _) rfl ⟨v,rfl,h2,(λh=>nomatch h),(λb' h=>by cases h;exact h1),rfl⟩ h3
   .trivial
  .trivial
 | .cell none,cs,K,S,ok,vs,T,R,hT,hL,hK=>by
  unfold exM;split
  .obtain⟨v,r,rfl,h1,h2,h3⟩:=hL;exact hK _ _ _ _ [v] r [] R (by simpa using hT) (λ_ _ h=>h) (aJ.refl _) rfl ⟨v,rfl,h2,(λh=>nomatch h),(λ_ h=>nomatch h),rfl⟩ h3
  .trivial
 | .fr t,cs,K,S,ok,vs,T,R,hT,hL,hK=>by
  unfold exM;split
  .obtain⟨v,r,rfl,h1,_,h3⟩:=hL;simp only[sQ]at h1;subst h1;cases ht:t.isEnt
   .exact hK _ _ _ _ [_] r [] R (by simpa using hT) (λ_ _ h=>h) (aJ.refl _) rfl ⟨.nil,_,rfl,rfl,⟨rfl,ht⟩,(λb h=>by cases h),rfl⟩ h3
   .trivial
  .rename_i bx r0;obtain⟨v,r,rfl,h1,_,h3⟩:=hL;obtain⟨l,hm,hv⟩:=h1;show Cmd.post (match S (Y4+bx)with| .barr t' xs=>_| .bfrz t' xs=>_|_=>_) S Q;have hb:=R.box bx;split
   .rename_i t' xs hS;rw[hS]at hb;obtain⟨l',hm',ha⟩:=hb;simp only at hm hm';rw[hm]at hm';cases hm';refine dY λe=>?_;subst e;have hob:P9 m bx (S (Y4+bx))=l.blks:=by
     rw[hS];cases l<;>first|(simp[P9,hm,Loc.blks];done)|cases ha
    show Cmd.post _ (upd S (Y4+bx) (.bfrz t' xs)) Q;have hbs:∀b∈l.blks,b∈P9 m bx (S (Y4+bx)):=λb h=>by rw[hob];exact h
    have ha' :arrOk ⟨w.heap,okW ok l.blks [t'],nom⟩ t' xs l:=mf (m:=m) Dj (λ_ _ _=>rfl) (λ_ _=>rfl) ha;exact hK _ (okW ok l.blks [t']) _ _ [v] r [] (R.widen A8 rfl hbs ⟨l,hm,mf Dj (λ_ _ _=>rfl) (λ_ _=>rfl) ha,λblk hb=> .inr ⟨hb,A8⟩⟩) (by simpa using hT.widen rfl hbs) Dj (aJ.box _ _ _) rfl ⟨l,v,rfl,hv,ha',λb hb=> .inr ⟨hb,A8⟩,rfl⟩ (Ia Dj h3)
   .rename_i t' xs hS;rw[hS]at hb;obtain⟨l',hm',ha,hk⟩:=hb;simp only at hm hm';rw[hm]at hm';cases hm';refine dY λe=>?_;subst e;exact hK _ ok _ _ [v] r [] R (by simpa using hT) (λ_ _ h=>h) (aJ.refl _) rfl ⟨l,v,rfl,hv,mf (m:=m) (λ_ _ h=>h) (λ_ _ _=>rfl) (λ_ _=>rfl) ha,hk,rfl⟩ h3
   .trivial
  .trivial
 | .lp t,cs,K,S,ok,vs,T,R,hT,hL,hK=>by
  unfold exM;split
  .obtain⟨v,r,rfl,h1,_,h3⟩:=hL;refine ZR yI t R hT h1 λS1 ok1 x R1 T1 k1 g1 s1 h1=>?_;rw[a1c]at h1;exact hK _ _ _ _ [v] r [] R1 (by simpa using T1) k1 s1 rfl ⟨v,rfl,h1,rfl⟩ (Ia k1 h3)
  .trivial
 | .dv ..,cs,K,S,ok,vs,T,R,hT,hL,hK=>by
  unfold exM;split
  .obtain⟨v,r,rfl,h1,h2,h3⟩:=hL;exact hK _ _ _ _ [v] r [] R (by simpa using hT) (λ_ _ h=>h) (aJ.refl _) rfl ⟨v,rfl,h2,rfl⟩ h3
  .trivial
 | .sit,cs,K,S,ok,vs,T,R,hT,hL,hK=>by
  unfold exM;split
  .rename_i bx r0;obtain⟨v,r,rfl,h1,_,h3⟩:=hL;obtain⟨blk,hm,rfl⟩:=h1;have hb:=R.box bx;show Cmd.post (match S (Y4+bx)with| .biter l p=>_|_=>_) S Q;split
   .rename_i l p hS;rw[hS]at hb;obtain⟨blk',s,q,hm',hh,g1,g2⟩:=hb;simp only at hm hm';rw[hm]at hm';cases hm';show Cmd.post _ (upd S (Y4+bx) .dead) Q;have T2:=hT.kill R bx (bs:=[blk]) (λb hb=>by rw[hS];simpa[P9,hm]using hb) A8;exact hK _ ok (l,p) _ _ r [blk] (R.kill bx) T2 (λ_ _ h=>h) (aJ.box _ _ _) rfl ⟨blk,s,q,rfl,hh,g1,g2,rfl⟩ h3
   .trivial
  .trivial
 | .sbx tb te,cs,K,S,ok,vs,T,R,hT,hL,hK=>by
  unfold exM;split
  .rename_i bx r0;obtain⟨v,r,rfl,h1,_,h3⟩:=hL;obtain⟨blk,hm,rfl⟩:=h1;have hb:=R.box bx;show Cmd.post (match S (Y4+bx)with| .bsb tb' c=>_|_=>_) S Q;split
   .rename_i tb' c hS;rw[hS]at hb;obtain⟨blk',a0,v0,hm',hh,hs,g2⟩:=hb;simp only at hm hm';rw[hm]at hm';cases hm';cases he:Nat.beq tb' tb
    .trivial
    have e:=fC he;subst e;simp only[cond_true];refine a7P R hT g2 λS1 ys l R1 T1 s1 n1 hv1 ha1=>?_;show Cmd.post _ (upd S1 (Y4+bx) .dead) Q;have T2:=T1.kill R1 bx (bs:=[blk]) (λb hb=>by rw[n1 bx (λ_ _=>by rw[hS];simp),hS];simpa[P9,hm]using hb) A8;refine hK _ ok ys _ _ r (blk::l.blks) (R1.kill bx) (T2.perm ?_) (λ_ _ h=>h) (s1.trans (aJ.box _ _ _)) rfl ⟨blk,a0,v0,l,rfl,hh,hs,hv1,ha1,rfl⟩ h3;rw[E5];exact oH _ iC
   .trivial
  .trivial
end
end Go.GP
namespace Go.GP
def fK(C:Cx):List V->List Value->Prop
 |[],vs=>vs=[]|c::cs,vs=>∃v r,vs=v::r/\jI C c v/\fK C cs r
theorem JM{h:Array Obj}{ok ok' :Nat->Ty->Prop}{m:Mp}(k:∀b t,ok b t->ok' b t):∀{cs:List V} {vs:List Value},fK ⟨h,ok,m⟩ cs vs->fK ⟨h,ok',m⟩ cs vs
 |[],_,e=>e|_::_,_,⟨v,r,e,h1,h2⟩=>⟨v,r,e,Ld k h1,JM k h2⟩
theorem a3v{h:Array Obj}{ok:Nat->Ty->Prop}{m m' :Mp}(k:∀n l,m n=some l->m' n=some l):∀{cs:List V} {vs:List Value},fK ⟨h,ok,m⟩ cs vs->fK ⟨h,ok,m'⟩ cs vs
 |[],_,e=>e|_::_,_,⟨v,r,e,h1,h2⟩=>⟨v,r,e,Lc (C:=⟨h,ok,m⟩) (D:=⟨h,ok,m'⟩) ⟨λ_ _ h=>h,λ_ _ _=>rfl,k⟩ h1,a3v k h2⟩
theorem AL{h:Array Obj}{ok:Nat->Ty->Prop}{m m' :Mp}(k:∀n l,m n=some l->m' n=some l){cs:List V}{vs:List Value}(hr:eX ⟨h,ok,m⟩ cs vs):eX ⟨h,ok,m'⟩ cs vs:=
 EC (C:=⟨h,ok,m⟩) (D:=⟨h,ok,m'⟩) ⟨λ_ _ h=>h,λ_ _ _=>rfl,k⟩ hr
variable {C:Cx}
theorem u_{c:V}{v:Value}(h1:c≠.undef)(h2:c≠.un)(h:sQ C c v):v.oneCell' =true:=by
 cases c<;>simp only[sQ]at h<;>try (subst h;rfl)
 case ne=>obtain⟨_,_,rfl,_⟩:=h;rfl
 .exact absurd rfl h1
 .exact absurd rfl h2
 .rcases h with⟨_,a,cap,e,_⟩|⟨_,mv,e,_⟩<;>(simp at e;subst e;rfl)
 .obtain⟨l,_,hv⟩:=h;exact kG hv
 .obtain⟨b,_,rfl⟩:=h;rfl
 .obtain⟨_,_,_,_,_,_,_,rfl⟩:=h;rfl
 .exact Jm h
 all_goals first|exact h.elim|(obtain⟨_,rfl,_⟩:=h;rfl)|(obtain⟨_,_,rfl⟩:=h;rfl)
theorem BF{c:V}{v:Value}(h:sQ C c v):jI C c v:=by
 cases c<;>simp only[sQ]at h<;>try exact h
 all_goals exact h.elim
variable {α:Type}{v:V}{Q:α->Sm->Prop}{x:Value}{ln:Ty->Bool}
section
variable {X:Fx} {cl ch:Nat} {S:Sm} {m:Mp} {ok:Nat->Ty->Prop} {a:Act} {w:World} {T:List Nat}
theorem Ad{ag:Bool}{K:List V->Cmd α}{S:Sm}(hv:jI C v x)
  (hK:∀cs us,Ql ag x us->eX C cs us->(K cs).post S Q):(TR ag v K).post S Q:=by
 unfold TR;split<;>try trivial
 .obtain⟨arr,rfl,hl⟩:=hv;exact hK _ _ ⟨arr,rfl,rfl⟩ hl
 .rename_i h1 h2 h3 h4;have hc:sQ C v x:=by cases v<;>first|exact hv|exact absurd rfl (h1 _)|exact absurd rfl (h2 _)
  exact hK [v] [x] rfl ⟨x,[],rfl,hc,u_ (λe=>h3 e) (λe=>h4 e) hc,rfl⟩
theorem rf{K:List V->Cmd α}{S:Sm}(hv:jI C v x)
  (hK:∀cs,eX C cs x.cells.toList->(K cs).post S Q):(ER v K).post S Q:=by
 unfold ER;split<;>try trivial
 .obtain⟨arr,rfl,hl⟩:=hv;exact hK _ hl
 .rename_i h1 h2 h3 h4;have hc:sQ C v x:=by cases v<;>first|exact hv|exact absurd rfl (h1 _)|exact absurd rfl (h2 _)
  have h1' :=u_ (λe=>h3 e) (λe=>h4 e) hc;have e:x.cells.toList=[x]:=by cases x<;>simp[Value.cells]<;>simp[Value.oneCell']at h1'
  refine hK [v] ?_;rw[e];exact⟨x,[],rfl,hc,h1',rfl⟩
theorem ZA{md:MG}{K:md.2.den->Cmd α}(R:Rel X cl ch S m ok a w)(hT:Tk X S m ok w T)(hv:jI ⟨w.heap,ok,m⟩ v x)
  (hK:∀S' ok' y cs O,Rel X cl ch S' m ok' a w->Tk X S' m ok' w (T++O)->(∀b t,ok b t->ok' b t)->aJ S S' ->Ql md.1 x cs->nP w.heap ok' md.2 none y cs O->(K y).post S' Q):
  (Uk yI md v K).post S Q:=by
 refine Ad hv λcs us hg hl=>?_;refine CO md.2 R hT hl λS1 ok1 y r us1 us' O R1 T1 k1 s1 e1 h1 l1=>?_;cases r with
 |cons c q=>trivial|nil=>simp only[eX]at l1;subst l1;simp only[H6]at e1;subst e1;exact hK _ _ _ _ _ R1 T1 k1 s1 hg h1
theorem a5y{md:M}(hd:md.isDat=false)(cs:List V)(K:md.den->List V->Cmd α):exM ln md cs K=exM yI md cs K:=by cases md<;>first|rfl|(simp[M.isDat]at hd;done)|(rename_i b;cases b<;>first|rfl|(rename_i b;cases b<;>rfl))
theorem WP{md:MG}(hd:md.2.isDat=true){K:md.2.den->Cmd α}(R:Rel X cl ch S m ok a w)(hT:Tk X S m ok w T)(hv:jI ⟨w.heap,ok,m⟩ v x)
  (hK:∀S' ok' y cs,Rel X cl ch S' m ok' a w->Tk X S' m ok' w T->(∀b t,ok b t->ok' b t)->(∀b t,okL ln S m ok b t->okL ln S' m ok' b t)->aJ S S' ->Ql md.1 x cs->nP w.heap (okL ln S' m ok') md.2 none y cs []->(K y).post S' Q):
  (Uk ln md v K).post S Q:=by
 obtain⟨ag,mm⟩:=md;cases mm<;>simp[M.isDat]at hd
 case dat t=>
  refine Ad hv λcs us hg hl=>?_;dsimp only;unfold exM;refine Ar ln _ R hT hl λS1 ok1 y r us1 us' R1 T1 k1 g1 s1 e1 h1 l1=>?_;cases r with
  |cons c q=>trivial|nil=>simp only[eX]at l1;subst l1;simp only[H6]at e1;subst e1;exact hK _ _ _ _ R1 T1 k1 g1 s1 hg ⟨h1,rfl⟩
 case lp t=>
  refine Ad hv λcs us hg hl=>?_;dsimp only;unfold exM;cases cs with
  |nil=>trivial|cons c q=>
   obtain⟨u,r',rfl,h1,h2,h3⟩:=hl;refine ZR ln t R hT h1 λS1 ok1 y R1 T1 k1 g1 s1 d1=>?_;cases q with
   |cons c q=>trivial|nil=>simp only[eX]at h3;subst h3;exact hK _ _ _ _ R1 T1 k1 g1 s1 hg ⟨u,rfl,d1,rfl⟩
theorem b2l :∀b t,ok b t->okL ln S m ok b t:=λ_ _ h=> .inl h
theorem GR{α:Type}{Q:α->Sm->Prop}{ln:Ty->Bool} :∀(ms:List MG) {vs:List V} {xs:List Value} {K:V4 ms->Cmd α} {S:Sm} {ok:Nat->Ty->Prop} {T:List Nat} (R:Rel X cl ch S m ok a w) (hT:Tk X S m ok w T)
  (hv:fK ⟨w.heap,ok,m⟩ vs xs)
  (hK:∀S' ok' y O,Rel X cl ch S' m ok' a w->Tk X S' m ok' w (T++O)->(∀b t,ok b t->ok' b t)->aJ S S' ->qW w.heap (okL ln S' m ok') ms y xs O->(K y).post S' Q),
  (LU ln ms vs K).post S Q
 |[],vs,xs,K,S,ok,T,R,hT,hv,hK=>by
  unfold LU;split
  .simp only[fK]at hv;subst hv;exact hK _ _ _ [] R (by simpa using hT) (λ_ _ h=>h) (aJ.refl _) ⟨rfl,rfl⟩
  .trivial
 |[md],vs,xs,K,S,ok,T,R,hT,hv,hK=>by
  unfold LU;split
  .obtain⟨x,r,rfl,h1,h2⟩:=hv;simp only[fK]at h2;subst h2;cases hd:md.2.isDat
   .unfold Uk;simp only[a5y hd];exact ZA R hT h1 λS' ok' y cs O R' T' k s g h=>hK _ _ _ O R' T' k s ⟨x,cs,rfl,g,ji b2l (λ_ _ _=>rfl) (λ_ _=>rfl) h⟩
   .exact WP hd R hT h1 λS' ok' y cs R' T' k g s hg h=>hK _ _ _ [] R' (by simpa using T') k s ⟨x,cs,rfl,hg,h⟩
  .trivial
 |md::md' ::r,vs,xs,K,S,ok,T,R,hT,hv,hK=>by
  unfold LU;split
  .obtain⟨x,xr,rfl,h1,h2⟩:=hv;cases hd:md.2.isDat
   .simp only[cond_false];unfold Uk;simp only[a5y hd];refine ZA R hT h1 λS1 ok1 y cs O R1 T1 k1 s1 g1 h1' =>?_;refine GR (md' ::r) R1 T1 (JM k1 h2) λS2 ok2 z O2 R2 T2 k2 s2 h2' =>?_;exact hK _ _ _ (O++O2) R2 (by simpa using T2) (λb t h=>k2 b t (k1 b t h)) (s1.trans s2) ⟨x,cs,xr,O,O2,rfl,rfl,g1,ji (λb t h=> .inl (k2 b t h)) (λ_ _ _=>rfl) (λ_ _=>rfl) h1',h2'⟩
   .simp only[cond_true];refine GR (md' ::r) R hT h2 λS2 ok2 z O2 R2 T2 k2 s2 h2' =>?_;refine WP hd R2 T2 (Ld k2 h1) λS1 ok1 y cs R1 T1 k1 g1 s1 hg h1' =>?_;exact hK _ _ _ ([]++O2) R1 (by simpa using T1) (λb t h=>k1 b t (k2 b t h)) (s2.trans s1) ⟨x,cs,xr,[],O2,rfl,rfl,hg,h1',RI g1 (λ_ _ _=>rfl) (λ_ _=>rfl) h2'⟩
  .trivial
theorem Zz(ms:List MG){vs:List V}{xs:List Value}{K:V4 ms->Cmd α}{S:Sm}{ok:Nat->Ty->Prop}{T:List Nat}(R:Rel X cl ch S m ok a w)(hT:Tk X S m ok w T)
  (hv:fK ⟨w.heap,ok,m⟩ vs xs)
  (hK:∀S' ok' y O,Rel X cl ch S' m ok' a w->Tk X S' m ok' w (T++O)->(∀b t,ok b t->ok' b t)->aJ S S' ->qW w.heap ok' ms y xs O->(K y).post S' Q):
  (LU yI ms vs K).post S Q:=
 GR ms R hT hv λS' ok' y O R' T' k s h=>hK S' ok' y O R' T' k s (by rw[a1c]at h;exact h)
theorem QW{α:Type}{Q:α->Sm->Prop}{tmps:Array Value}{C:Cx} :∀(ns:List Nat) {K:List V->Cmd α} {S:Sm} (hs:∀n,n<Y4->jI C (S n) (tmps.getD n Go.undef))
  (hK:∀vs,fK C vs (ns.map λn=>tmps.getD n Go.undef)->(K vs).post S Q),(Yb ns K).post S Q
 |[],K,S,hs,hK=>hK [] rfl|n::ns,K,S,hs,hK=>by
  unfold Yb;cases hb:Nat.blt n Y4
  .trivial
  .simp only[cond_true];show Cmd.post _ S Q;refine QW ns hs λvs hvs=>?_;exact hK _ ⟨_,_,rfl,hs n (by rw[dF]at hb;exact hb),hvs⟩
def a0n(h:Array Obj)(ok:Nat->Ty->Prop)(sg:Sig)(x:oP sg)(tmps:Array Value)(O:List Nat):Prop:=
 qW h ok (sg.ms.map (·.2)) x ((sg.ms.map (·.1)).map λn=>tmps.getD n Go.undef) O/\∀p∈sg.als,tmps.getD p.1 Go.undef=tmps.getD p.2 Go.undef
theorem a7O{v u:V}{x y:Value}(h:b1G v u=true)(hv:jI C v x)(hu:jI C u y):x=y:=by
 cases v<;>try (cases h;done)
 case own a vw=>
 cases u<;>try (cases vw<;>cases h;done)
 case own b vu=>
 cases vw<;>cases vu<;>try (cases h;done)
 have:=fC (show Nat.beq a b=true from h);subst this;obtain⟨l,hm,h1⟩:=hv;obtain⟨l',hm',h2⟩:=hu;rw[hm]at hm';cases hm';cases l with
 |nil=>exact(show x=_ from h1).trans (show y=_ from h2).symm|st b=>cases h1|mp b=>exact(show x=_ from h1).trans (show y=_ from h2).symm|arr blk off len cap sz=>exact(show x=_ from h1).trans (show y=_ from h2).symm
theorem WI{α:Type}{Q:α->Sm->Prop}{tmps:Array Value}{C:Cx} :∀(als:List (Nat×Nat)) {K:Cmd α} {S:Sm} (hs:∀n,n<Y4->jI C (S n) (tmps.getD n Go.undef))
  (hK:(∀p∈als,tmps.getD p.1 Go.undef=tmps.getD p.2 Go.undef)->K.post S Q),(a9C als K).post S Q
 |[],K,S,hs,hK=>hK (λp hp=>by cases hp)|(n,k)::r,K,S,hs,hK=>by
  unfold a9C;refine bC λhb=>?_;simp only[A7]at hb;show Cmd.post _ S Q;refine bC λhv=>WI r hs λh=>hK λp hp=>?_;rcases D6.1 hp with rfl|hp
  .have h1:=hb.1;have h2:=hb.2;rw[dF]at h1 h2;exact a7O hv (hs n h1) (hs k h2)
  .exact h p hp
theorem a0O{sg:Sig}{Q:oP sg->Sm->Prop}(R:Rel X cl ch S m ok a w)
  (hK:∀S' ok' y O,Rel X cl ch S' m ok' a w->Tk X S' m ok' w O->(∀b t,ok b t->ok' b t)->aJ S S' ->
   a0n w.heap ok' sg y a.tmps O->Q y S'):(a5z sg).post S Q:=by
 unfold a5z;refine WI _ R.slot λhals=>QW _ R.slot λvs hvs=>?_;refine Zz (T:=[]) _ R Tk.nil hvs λS' ok' y O R' T' k s h=>?_;exact hK S' ok' y O R' T' k s ⟨h,hals⟩
theorem Rel.chmono(R:Rel X cl ch S m ok a w){ch' :Nat}(h:ch<=ch'):Rel X cl ch' S m ok a w:={ R with strict:=λn hn=>R.strict n o5 }
theorem pK{n:Nat}{K:Cmd α}(hK:S (Y4+n)= .undef->K.post (upd S (Y4+n) v) Q):(tH n v K).post S Q:=by
 unfold tH;show Cmd.post (match S (Y4+n)with| .undef=>_|_=>_) S Q;split
 .rename_i h;exact hK h
 .trivial
theorem Rel.adopt(R:Rel X cl ch S m ok a w){n:Nat}{l:Loc}{ks:List Nat}{O:List Nat}(hn:S (Y4+n)= .undef)(hcl:cl<=n)(hv:v≠.undef)
  (hT:Tk X S m ok w (O++T)) (ho:∀b∈P9 (kU m n l ks) n v,b∈O) (hnd:(P9 (kU m n l ks) n v).Nodup) (hB:BD ⟨w.heap,ok,kU m n l ks⟩ n v):
  Rel X cl (max ch (n+1)) (upd S (Y4+n) v) (kU m n l ks) ok a w/\Tk X (upd S (Y4+n) v) (kU m n l ks) ok w T/\(∀k l',m k=some l' ->kU m n l ks k=some l'):=by
 have hm:m n=none:=R.fresh n hcl hn;refine⟨(R.chmono (bQ ch (n+1))).lay hn hcl o5 hv rfl rfl rfl (E9 _) (λ_ _ _=>rfl) hnd (λb hb=>hT.free b (by simp[ho b hb])) hB,⟨?_,λb hb=>?_⟩,λk l' h=>?_⟩
 .exact(U5.1 hT.nodup).2.1
 .obtain⟨h1,h2,h3,h4⟩:=hT.free b (by simp[hb]);refine⟨h1,h2,h3,λk e=>?_⟩;by_cases ek:k=n
  .subst ek;rw[jG]at e;exact(U5.1 hT.nodup).2.2 b (ho b e) b hb rfl
  .rw[aU _ _ o5]at e;refine h4 k ?_;rw[←Hm (m:=m) (iH m l ks ek) (QK m l ks ek)];exact e
 .by_cases ek:k=n
  .subst ek;simp[hm]at h
  .rw[iH _ _ _ ek];exact h
theorem FD{h:Array Obj}{ok:Nat->Ty->Prop}{m m' :Mp}{t:Ty}{xs:List t.den}{l:Loc}(hr:arrOk ⟨h,ok,m⟩ t xs l):arrOk ⟨h,ok,m'⟩ t xs l:=by cases l<;>exact hr
theorem a4R{S:Sm}{k:Nat}{c:Cmd α}(h:c.post (upd S k v) Q):(Cmd.set k v c).post S Q:=h
theorem FN{α:Type}{Q:α->Sm->Prop} :∀(md:M) {x:md.den} {n:Nat} {r:List V} {K:List V->Nat->Cmd α} {S:Sm} {m:Mp} {ch:Nat} {us us' :List Value} {O T:List Nat}
  (R:Rel X cl ch S m ok a w) (hcl:cl<=n) (hT:Tk X S m ok w (O++T)) (h:nP w.heap ok md none x us O) (hL:eX ⟨w.heap,ok,m⟩ r us')
  (hK:∀S' m' cs n' ch',Rel X cl ch' S' m' ok a w->ch' <=max ch n' ->Tk X S' m' ok w T->(∀k l,m k=some l->m' k=some l)->aJ S S' ->eX ⟨w.heap,ok,m'⟩ cs (us++us')->n<=n' ->(K cs n').post S' Q),
  (emM md x n r K).post S Q
 | .dat t,x,n,r,K,S,m,ch,us,us',O,T,R,hcl,hT,h,hL,hK=>by unfold emM;obtain⟨hr,rfl⟩:=h;refine hK S m _ n ch R (bQ _ _) (by simpa using hT) (λ_ _ h=>h) (aJ.refl _) ?_ (E9 _);rw[jZ];exact uG (nZ (C:=⟨w.heap,ok,m⟩) hr) hL
 | .own t,x,n,r,K,S,m,ch,us,us',O,T,R,hcl,hT,h,hL,hK=>by
  unfold emM;obtain⟨l,v,rfl,hv,ha,rfl⟩:=uH.1 h;refine pK λhn=>?_;have hob:P9 (kU m n l []) n (.barr t x)=l.blks:=by cases l<;>first|(simp[P9,Loc.blks];done)|cases ha
  obtain⟨R',T',k'⟩:=R.adopt (l:=l) (ks:=[]) (v:=.barr t x) hn hcl A8 hT (λb hb=>by rw[hob]at hb;exact hb) (by rw[hob];exact Loc.blks_nodup l) ⟨l,ax _ _ _ _,FD ha⟩;exact hK _ _ _ _ _ R' o5 T' k' (aJ.box _ _ _) ⟨v,us',rfl,⟨l,ax _ _ _ _,hv⟩,kG hv,AL k' hL⟩ o5
 | .ownb t,x,n,r,K,S,m,ch,us,us',O,T,R,hcl,hT,h,hL,hK=>by
  unfold emM;obtain⟨l,v,rfl,hv,ha,rfl⟩:=h;refine pK λhn=>?_;have hob:P9 (kU m n l []) n (.barr t x)=l.blks:=by cases l<;>first|(simp[P9,Loc.blks];done)|cases ha
  obtain⟨R',T',k'⟩:=R.adopt (l:=l) (ks:=[]) (v:=.barr t x) hn hcl A8 hT (λb hb=>by rw[hob]at hb;exact hb) (by rw[hob];exact Loc.blks_nodup l) ⟨l,ax _ _ _ _,FD ha⟩;exact hK _ _ _ _ _ R' o5 T' k' (aJ.box _ _ _) ⟨v,us',rfl,⟨l,ax _ _ _ _,hv⟩,kG hv,AL k' hL⟩ o5
 | .owns md,x,n,r,K,S,m,ch,us,us',O,T,R,hcl,hT,h,hL,hK=>by
  unfold emM;obtain⟨hw,l,v,Os,rfl,hv,ha,rfl⟩:=xW.1 h;refine pK λhn=>?_;have hob:P9 (kU m n l Os.flatten) n (.barrs md x none)=l.blks++Os.flatten:=by cases l<;>first|(simp[P9,Loc.blks];done)|cases ha
  obtain⟨R',T',k'⟩:=R.adopt (l:=l) (ks:=Os.flatten) (v:=.barrs md x none) hn hcl A8 hT (λb hb=>by rw[hob]at hb;exact hb) (by rw[hob];exact(U5.1 hT.nodup).1)
   ⟨hw,l,Os,ax _ _ _ _,⟨ha,trivial⟩,A8⟩
  refine a4R ?_;have T2:=T'.killV R' (ML+n) (v:=.blen (o9 x) md.size) rfl (bs:=[]) (λb h=>by cases h) cZ;rw[H6]at T2;exact hK _ _ _ _ _ (R'.mark (jG _ _ _)) o5 T2 k' ((aJ.box _ _ _).trans (aJ.box _ _ _)) ⟨v,us',rfl,⟨l,ax _ _ _ _,hv⟩,kG hv,AL k' hL⟩ o5
 | .pair p q,x,n,r,K,S,m,ch,us,us',O,T,R,hcl,hT,h,hL,hK=>by
  unfold emM;obtain⟨c,d,O1,O2,rfl,rfl,h1,h2⟩:=a4L.1 h;have hT1:Tk X S m ok w (O2++(O1++T)):=hT.perm (by rw[E5];exact(List.perm_append_comm_assoc _ _ _))
  refine FN q R hcl hT1 h2 hL λS1 m1 cs1 n1 ch1 R1 c1 T1 k1 s1 l1 e1=>?_;refine FN p R1 o5 T1 h1 l1 λS2 m2 cs2 n2 ch2 R2 c2 T2 k2 s2 l2 e2=>?_;exact hK _ _ _ _ _ R2 o5 T2 (λk l h=>k2 k l (k1 k l h)) (s1.trans s2) (by simpa using l2) o5
 | .unit,x,n,r,K,S,m,ch,us,us',O,T,R,hcl,hT,h,hL,hK=>by unfold emM;obtain⟨rfl,rfl⟩:=h;exact hK S m _ n ch R (bQ _ _) (by simpa using hT) (λ_ _ h=>h) (aJ.refl _) (by simpa using hL) (E9 _)
 | .box md,x,n,r,K,S,m,ch,us,us',O,T,R,hcl,hT,h,hL,hK=>by
  unfold emM;obtain⟨blk,arr,Tt,O',rfl,hh,hr,rfl⟩:=h;have hT1:Tk X S m ok w (O' ++([blk]++T)):=hT.perm (by simpa using List.perm_middle.symm);refine FN md (r:=[]) (us' :=[]) R o5 hT1 hr rfl λS1 m1 cs1 n1 ch1 R1 c1 T1 k1 s1 l1 e1=>?_;refine pK λhn=>?_;obtain⟨R',T',k'⟩:=R1.adopt (l:=.st blk) (ks:=[]) (v:=.bcells cs1) hn hcl A8 T1 (λb hb=>by
   simp only[P9,ax]at hb;simp at hb;simp[hb]) (by simp[P9]) ⟨blk,arr,Tt,ax _ _ _ _,hh,AL (λk l (h:m1 k=some l)=>by
    by_cases ek:k=n
    .subst ek;have:=R1.fresh k hcl hn;rw[this]at h;cases h
    .rw[iH _ _ _ ek];exact h) (by simpa using l1)⟩
  refine hK _ _ _ _ _ R' o5 T' (λk l h=>k' k l (k1 k l h)) (s1.trans (aJ.box _ _ _)) ⟨_,us',rfl,⟨blk,ax _ _ _ _,rfl⟩,rfl,AL k' (AL k1 hL)⟩ o5
 | .rp t,x,n,r,K,S,m,ch,us,us',O,T,R,hcl,hT,h,hL,hK=>by unfold emM;obtain⟨v,rfl,hv,rfl⟩:=h;exact hK S m _ n ch R (bQ _ _) (by simpa using hT) (λ_ _ h=>h) (aJ.refl _) ⟨v,us',rfl,hv,Jm hv,hL⟩ (E9 _)
 | .fn f ts,x,n,r,K,S,m,ch,us,us',O,T,R,hcl,hT,h,hL,hK=>by unfold emM;obtain⟨vs,rfl,hv,rfl⟩:=h;exact hK S m _ n ch R (bQ _ _) (by simpa using hT) (λ_ _ h=>h) (aJ.refl _) ⟨_,us',rfl,⟨vs,rfl,hv⟩,rfl,hL⟩ (E9 _)
 | .ifc t md,x,n,r,K,S,m,ch,us,us',O,T,R,hcl,hT,h,hL,hK=>by
  unfold emM;obtain⟨u,rfl,h1⟩:=h;refine FN md (r:=[]) (us' :=[]) R hcl hT h1 rfl λS1 m1 cs1 n1 ch1 R1 c1 T1 k1 s1 l1 e1=>?_;split
  .rename_i c;obtain⟨v',r',e,h1',h2',h3'⟩:=l1;simp only[H6,Z4,J3,G7]at e;obtain⟨rfl,rfl⟩:=e;exact hK _ _ _ _ _ R1 c1 T1 k1 s1 ⟨_,us',rfl,⟨u,rfl,h2',h1'⟩,rfl,AL k1 hL⟩ e1
  .trivial
 | .cell (some none),x,n,r,K,S,m,ch,us,us',O,T,R,hcl,hT,h,hL,hK=>by unfold emM;obtain⟨v,rfl,hv,h2,h4,rfl⟩:=h;exact hK S m _ n ch R (bQ _ _) (by simpa using hT) (λ_ _ h=>h) (aJ.refl _) ⟨v,us',rfl,h2 rfl,hv,hL⟩ (E9 _)
 | .cell (some (some b)),x,n,r,K,S,m,ch,us,us',O,T,R,hcl,hT,h,hL,hK=>by unfold emM;obtain⟨v,rfl,hv,h2,h4,rfl⟩:=h;exact hK S m _ n ch R (bQ _ _) (by simpa using hT) (λ_ _ h=>h) (aJ.refl _) ⟨v,us',rfl,h4 _ rfl,hv,hL⟩ (E9 _)
 | .cell none,x,n,r,K,S,m,ch,us,us',O,T,R,hcl,hT,h,hL,hK=>by unfold emM;obtain⟨v,rfl,hv,h2,h4,rfl⟩:=h;exact hK S m _ n ch R (bQ _ _) (by simpa using hT) (λ_ _ h=>h) (aJ.refl _) ⟨v,us',rfl,trivial,hv,hL⟩ (E9 _)
 | .lp t,x,n,r,K,S,m,ch,us,us',O,T,R,hcl,hT,h,hL,hK=>by unfold emM;obtain⟨v,rfl,hv,rfl⟩:=h;exact hK S m _ n ch R (bQ _ _) (by simpa using hT) (λ_ _ h=>h) (aJ.refl _) ⟨v,us',rfl,hv,Jm hv,hL⟩ (E9 _)
 | .dv ..,x,n,r,K,S,m,ch,us,us',O,T,R,hcl,hT,h,hL,hK=>by unfold emM;obtain⟨v,rfl,hv,rfl⟩:=h;exact hK S m _ n ch R (bQ _ _) (by simpa using hT) (λ_ _ h=>h) (aJ.refl _) ⟨v,us',rfl,trivial,hv,hL⟩ (E9 _)
 | .sit,x,n,r,K,S,m,ch,us,us',O,T,R,hcl,hT,h,hL,hK=>by
  unfold emM;obtain⟨blk,s,q,rfl,hh,h2,h3,rfl⟩:=h;refine pK λhn=>?_;obtain⟨R2,T2,k2⟩:=R.adopt (n:=n) (l:=.st blk) (ks:=[]) (v:=.biter x.1 x.2) hn hcl A8 hT (λb hb=>by simp only[P9,ax]at hb;simp at hb;simp[hb]) (by simp[P9]) ⟨blk,s,q,ax _ _ _ _,hh,h2,h3⟩
  exact hK _ _ _ _ _ R2 o5 T2 k2 (aJ.box _ _ _) ⟨_,us',rfl,⟨blk,ax _ _ _ _,rfl⟩,rfl,AL k2 hL⟩ o5
 | .sbx tb te,x,n,r,K,S,m,ch,us,us',O,T,R,hcl,hT,h,hL,hK=>by
  unfold emM;obtain⟨blk,a0,v,l,rfl,hh,hs,hv,ha,rfl⟩:=h;have hT1:Tk X S m ok w (l.blks++([blk]++T)):=hT.perm (by simpa using List.perm_middle.symm);refine pK λhn1=>?_;have hob:P9 (kU m (n+1) l []) (n+1) (.brow te x)=l.blks:=by cases l<;>first|(simp[P9,Loc.blks];done)|cases ha
  obtain⟨R1,T1,k1⟩:=R.adopt (n:=n+1) (l:=l) (ks:=[]) (v:=.brow te x) hn1 o5 A8 hT1 (λb hb=>by rw[hob]at hb;exact hb) (by rw[hob];exact Loc.blks_nodup l) ⟨l,ax _ _ _ _,ha⟩;refine pK λhn=>?_;obtain⟨R2,T2,k2⟩:=R1.adopt (n:=n) (l:=.st blk) (ks:=[]) (v:=.bsb tb (.own (n+1) none)) hn hcl A8 T1 (λb hb=>by simp only[P9,ax]at hb;simp at hb;simp[hb]) (by simp[P9]) ⟨blk,a0,v,ax _ _ _ _,hh,hs,⟨l,(by rw[iH _ _ _ o5];exact ax _ _ _ _),hv⟩⟩
  refine hK _ _ _ _ _ R2 o5 T2 (λk l h=>k2 k l (k1 k l h)) ((aJ.box _ _ _).trans (aJ.box _ _ _)) ⟨_,us',rfl,⟨blk,ax _ _ _ _,rfl⟩,rfl,AL k2 (AL k1 hL)⟩ o5
 | .fr t,x,n,r,K,S,m,ch,us,us',O,T,R,hcl,hT,h,hL,hK=>by unfold emM;obtain⟨l,v,rfl,hv,ha,hk,rfl⟩:=h;refine pK λhn=>?_;obtain⟨R',T',k'⟩:=R.adopt (l:=l) (ks:=[]) (v:=.bfrz t x) hn hcl A8 hT (λb hb=>by cases hb) cZ ⟨l,ax _ _ _ _,FD ha,hk⟩;exact hK _ _ _ _ _ R' o5 T' k' (aJ.box _ _ _) ⟨v,us',rfl,⟨l,ax _ _ _ _,hv⟩,kG hv,AL k' hL⟩ o5
theorem OM{ag:Bool}{cs:List V}{us:List Value}(hg:Ql ag x us)(hl:eX C cs us):jI C (mkV ag cs) x:=by
 cases ag
 .simp only[Ql]at hg;subst hg;cases cs with
  |nil=>simp[eX]at hl|cons c r=>
   obtain⟨v,r',e,h1,h2,h3⟩:=hl;simp at e;obtain⟨rfl,rfl⟩:=e;cases r with
   |nil=>exact BF h1|cons d r=>obtain⟨_,_,e,_⟩:=h3;cases e
 .obtain⟨arr,rfl,rfl⟩:=hg;exact⟨arr,rfl,hl⟩
theorem GK{α:Type}{Q:α->Sm->Prop} :∀(ms:List MG) {x:V4 ms} {n:Nat} {K:List V->Nat->Cmd α} {S:Sm} {m:Mp} {ch:Nat} {xs:List Value} {O T:List Nat}
  (R:Rel X cl ch S m ok a w) (hcl:cl<=n) (hT:Tk X S m ok w (O++T)) (h:qW w.heap ok ms x xs O)
  (hK:∀S' m' vs n' ch',Rel X cl ch' S' m' ok a w->ch' <=max ch n' ->Tk X S' m' ok w T->(∀k l,m k=some l->m' k=some l)->aJ S S' ->fK ⟨w.heap,ok,m'⟩ vs xs->n<=n' ->(K vs n').post S' Q),
  (LQ ms x n K).post S Q
 |[],x,n,K,S,m,ch,xs,O,T,R,hcl,hT,h,hK=>by unfold LQ;obtain⟨rfl,rfl⟩:=h;exact hK S m [] n ch R (bQ _ _) (by simpa using hT) (λ_ _ h=>h) (aJ.refl _) rfl (E9 _)
 |[md],x,n,K,S,m,ch,xs,O,T,R,hcl,hT,h,hK=>by unfold LQ;obtain⟨v,cs,rfl,hg,hr⟩:=h;refine FN md.2 (us' :=[]) R hcl hT hr rfl λS1 m1 cs1 n1 ch1 R1 c1 T1 k1 s1 l1 e1=>?_;exact hK _ _ _ _ _ R1 c1 T1 k1 s1 ⟨v,[],rfl,OM hg (by simpa using l1),rfl⟩ e1
 |md::md' ::r,x,n,K,S,m,ch,xs,O,T,R,hcl,hT,h,hK=>by unfold LQ;obtain⟨v,cs,vs',O1,O2,rfl,rfl,hg,h1,h2⟩:=h;refine FN md.2 (us' :=[]) R hcl (by simpa using hT) h1 rfl λS1 m1 cs1 n1 ch1 R1 c1 T1 k1 s1 l1 e1=>?_;refine GK (md' ::r) R1 o5 T1 h2 λS2 m2 vs2 n2 ch2 R2 c2 T2 k2 s2 l2 e2=>?_;exact hK _ _ _ _ _ R2 o5 T2 (λk l h=>k2 k l (k1 k l h)) (s1.trans s2) ⟨v,vs',rfl,OM hg (AL k2 (by simpa using l1)),l2⟩ o5
theorem Ih{Q:Unit->Sm->Prop} :∀(ns:List Nat) {vs:List V} {S:Sm} {K:Cmd Unit} (R:Rel X cl ch S m ok a w) (hv:fK ⟨w.heap,ok,m⟩ vs (ns.map λn=>a.tmps.getD n Go.undef))
  (hK:∀S',Rel X cl ch S' m ok a w->K.post S' Q),(Lh ns vs K).post S Q
 |[],vs,S,K,R,hv,hK=>by
  simp only[jM]at hv;cases vs with
  |nil=>exact hK S R|cons _ _=>obtain⟨_,_,e,_⟩:=hv;cases e
 |n::ns,vs,S,K,R,hv,hK=>by
  cases vs with
  |nil=>trivial
  |cons v vs=>obtain⟨x,r,e,h1,h2⟩:=hv;simp only[fA,G7]at e;obtain⟨rfl,rfl⟩:=e;unfold Lh;refine bC λhb=>?_;show Cmd.post _ (upd S n v) Q;exact Ih ns (R.slotV (by rw[dF]at hb;exact hb) h1) h2 hK
theorem RV{Q:Unit->Sm->Prop} :∀(als:List (Nat×Nat)) {S:Sm} (R:Rel X cl ch S m ok a w) (h:∀p∈als,a.tmps.getD p.1 Go.undef=a.tmps.getD p.2 Go.undef)
  (hK:∀S',Rel X cl ch S' m ok a w->Q () S'),(YF als).post S Q
 |[],S,R,h,hK=>hK S R
 |(n,k)::r,S,R,h,hK=>by unfold YF;refine bC λhb=>?_;simp only[A7]at hb;have h1:=hb.1;have h2:=hb.2;rw[dF]at h1 h2;show Cmd.post _ (upd S n (S k)) Q;refine RV r (R.slotV h1 ?_) (λp hp=>h p (V5 _ hp)) hK;rw[h (n,k) gW];exact R.slot k h2
theorem a0K{sg:Sig}{x:oP sg}{nb lim:Nat}{Q:Unit->Sm->Prop}{O:List Nat}(R:Rel X cl ch S m ok a w)(hcl:cl<=nb)(hT:Tk X S m ok w O)
  (h:a0n w.heap ok sg x a.tmps O)
  (hK:∀S' m',Rel X cl (max ch lim) S' m' ok a w->(∀k l,m k=some l->m' k=some l)->Q () S'):(a5v sg x nb lim).post S Q:=by
 unfold a5v;refine GK (T:=[]) _ R hcl (by simpa using hT) h.1 λS1 m1 vs n1 ch1 R1 c1 T1 k1 s1 l1 e1=>?_;cases hb:Nat.ble n1 lim
 .trivial
 .simp only[cond_true];have:n1<=lim:=V9 hb;exact Ih _ (R1.chmono (ch' :=max ch lim) o5) l1 λS' R' =>RV _ R' h.2 λS'' R'' =>hK S'' m1 R'' k1
end
end Go.GP
namespace Go.GP
def a9v(P:Program)(t:TypeId):TD->Prop
 | .bool=>P.underlying t=some .bool| .int k=>P.underlying t=some (.int k)| .str=>P.underlying t=some .string| .sl e=>P.underlying t=some (.slice e)| .ptr e=>P.underlying t=some (.pointer e)| .struct fs=>∃fields,P.underlying t=some (.struct fields)/\fields.toList.map (λf=>(f.type,f.offset))=fs| .arr n e=>P.underlying t=some (.array n e)| .map k e=>P.underlying t=some (.map k e)| .other=>∃d,P.underlying t=some d/\(match d with| .struct _| .array _ _=>False|_=>True)
structure TiOk (P:Program) (t:TypeId) (i:TI):Prop where
 info:∃inf,P.info? t=some inf/\inf.size=i.size/\inf.bytes=i.bytes/\
  (i.zero.length=i.size->∃z,inf.zero=some z/\eX ⟨#[],λ_ _=>False,nom⟩ i.zero z.cells.toList)/\
  (∀u,i.ty=some u->u.size=i.size/\∃z,inf.zero=some z/\jJ #[] (λ_ _=>False) u u.zero z.cells.toList)
 td:a9v P t i.td
 one:bf i.td=false->i.size=1
 agg:∀inf z,P.info? t=some inf->inf.zero=some z->(bf i.td=true->∃arr,z= .agg arr)/\(bf i.td=false->z.oneCell' =true)
def a0m(n:Nat)(v:Value)(rs:List Value):Prop:=rs.length=n/\v=(match rs with|[x]=>x|l=> .tuple l.toArray)
def vU(h:Array Obj):List MG->List Value->List Value->List Nat->Prop
 |[],[],os,B=>os=[]/\B=[]|(_,.box _)::ms,v::vs,os,B=>∃b arr T os' B',v= .pointer (some ⟨b,0,none⟩)/\h[b]? =some (.cells arr T (0,0))/\os= .agg arr::os' /\B=b::B' /\vU h ms vs os' B'|(_,.ifc _ (.box _))::ms,v::vs,os,B=>∃t b arr T os' B',v= .iface t (.pointer (some ⟨b,0,none⟩))/\h[b]? =some (.cells arr T (0,0))/\os= .agg arr::os' /\B=b::B' /\vU h ms vs os' B'|(_,.ownb _)::ms,v::vs,os,B=>∃os',os=v::os' /\vU h ms vs os' B|(_,.sbx _ _)::ms,v::vs,os,B=>∃os',os=v::os' /\vU h ms vs os' B|_::ms,_::vs,os,B=>vU h ms vs os B|_,_,_,_=>False
def Po(h:Array Obj)(x:Value)(off sz fo:Nat)(y:Value):Prop:=∃blk o b bo n c,x= .pointer (some ⟨blk,o,none⟩)/\bZ h blk (o+off) 1=some [.slice (some ⟨b,bo,none⟩) n c]/\
 0<=L6 .i64 (n:Int) 1/\L6 .i64 (n:Int) 1<(n:Int)/\y= .pointer (some ⟨b,bo+(L6 .i64 (n:Int) 1).toNat*sz+fo,none⟩)
theorem Po.det{h:Array Obj}{x y z:Value}{off sz fo:Nat}(h1:Po h x off sz fo y)(h2:Po h x off sz fo z):y=z:=by obtain⟨blk,o,b,bo,n,c,rfl,e,_,_,rfl⟩:=h1;obtain⟨blk',o',b',bo',n',c',e1,e',_,_,rfl⟩:=h2;simp only[kZ,F6,fV,and_true]at e1;obtain⟨rfl,rfl⟩:=e1;rw[e]at e';simp only[F6,G7,nK,fV,and_true]at e';obtain⟨⟨rfl,rfl⟩,rfl,rfl⟩:=e';rfl
def a3P(h:Array Obj)(all:List Value):List MG->List Value->Prop
 |(_,.dv k off sz fo)::ms,v::vs=>(∃p,all[k]? =some p/\Po h p off sz fo v)/\a3P h all ms vs|_::ms,_::vs=>a3P h all ms vs|_,_=>True
def a2y(P:Program)(f:FuncId)(off sz:Nat):Prop:=(∃fn,P.funcs[f]? =some fn/\fn.body.isSome=true/\(fn.name== "runtime.NumGoroutine")=false)/\
 ∀(w:World) (x y:Value),Po w.heap x off sz 0 y->Calls P f #[x] w λe w' =>e= .returned y/\∃n,w' =w.drewN n
def PlP(P:Program)(f:FuncId)(off sz:Nat):Prop:=match sz with|0=>b6G P f off|_+1=>a2y P f off sz
theorem PlP.snd{P:Program}{f:FuncId}{off sz:Nat}(h:PlP P f off sz)(hz:Nat.beq sz 0=false):a2y P f off sz:=by
 cases sz with
 |zero=>cases hz|succ n=>exact h
def aH(P:Program)(gl:List (Nat×(t:Ty)×List t.den))(f:FuncId)(s:FSpec):Prop:=
 ∀(w:World) (ok:Nat->Ty->Prop) (O:List Nat) (vals:List Value) (x:V4 s.ps) (r:V4 (s.rs++s.outs)),
  (∀b t,ok b t->b<w.heap.size)->O.Nodup->(∀b∈O,(∀t,¬ok b t)/\b<w.heap.size)->(∀g u,bK gl g=some u->IY ⟨w.heap,ok,nom⟩ g u.1 u.2)->
  qW w.heap ok s.ps x vals O->a3P w.heap vals s.ps vals->s.fn x=some r->
  Calls P f vals.toArray w λe w' =>∃v ok' O' rs os B,e= .returned v/\Frame' w w' O/\(∀b t,ok b t->ok' b t)/\(∀b t,ok' b t->b<w'.heap.size/\(ok b t\/w.heap.size<=b\/b∈O))/\
   (O' ++B).Nodup/\(∀b∈O' ++B,(∀t,¬ok' b t)/\b<w'.heap.size/\(w.heap.size<=b\/b∈O))/\
   a0m s.rs.length v rs/\vU w'.heap s.ps vals os B/\qW w'.heap ok' (s.rs++s.outs) r (rs++os) O'
def iW:List Ty->List Value->Prop
 |[],vs=>vs=[]| .bool::ts,vs=>∃b r,vs= .bool b::r/\iW ts r| .int k::ts,vs=>∃b r,vs= .int k b::r/\iW ts r| .str::ts,vs=>∃b r,vs= .string b::r/\iW ts r|_::_,_=>False
def a5e(P:Program)(t:TypeId)(sh:List Ty):Prop:=
 ∀(w:World) (C:Cx) (cs ds:List V) (xs ys:Array Value) (e:Bool) (op:BinOp) (x y:Operand),yT sh cs=true->yT sh ds=true->eX C cs xs.toList->eX C ds ys.toList->yh cs ds=some e->
  (op= .eql\/op= .neq)->(do eqGuard op t x y (.agg xs) (.agg ys);binOp op t (.agg xs) (.agg ys):Sem Value).run P w= .ok (.bool (if op= .eql then e else !e)) w
def Zh(P:Program)(t:TypeId)(sh:List Ty):Prop:=
 (∃fs,P.underlying t=some (.struct fs))/\∀(w:World) (xs:Array Value),iW sh xs.toList->(∀em,(Instr.checkKey em 10000 t (.agg xs)).run P w= .ok () w)/\
  ∀ys:Array Value,iW sh ys.toList->∃r,(Op.equal t (.agg xs) (.agg ys)).run P w= .ok r w/\(r=true↔xs.toList=ys.toList)
def KE(P:Program)(t:TypeId)(sh:List Ty):Prop:=a5e P t sh/\Zh P t sh
def BX(P:Program)(t:Nat)(n:String)(f:Nat)(d:Option Nat):Prop:=
 ∀(v:Value) (w:World),match d with
  |none=>(method (P.types.size+Made.depth) t v n).run P w= .ok (f,v) w
  |some e=>∀ad,v= .pointer (some ad)->(method (P.types.size+Made.depth) t v n).run P w=((loadVar e ad).run P w).andThen λu w' => .ok (f,u) w'
structure FxOk (X:Fx):Prop where
 nt:64*X.E.nt<=999936
 tt:∀t i,bK X.E.tt t=some i->TiOk X.P t i
 fs:∀p∈X.E.fs,aH X.P X.E.gl p.1 p.2
 eqs:∀t sh,bK X.E.eqs t=some sh->KE X.P t sh
 ms:∀p∈X.E.ms,BX X.P p.1.1 p.1.2 p.2.1 p.2.2
 fn:∀p∈X.E.fs,∃fn,X.P.funcs[p.1]? =some fn/\fn.body.isSome=true/\(fn.name== "runtime.NumGoroutine")=false
 pl:∀p∈X.E.pl,PlP X.P p.1 p.2.1 p.2.2
theorem FxOk.ntB{X:Fx}(H:FxOk X):X.E.nt<=Y4:=by have:=H.nt;show X.E.nt<=1000000;omega
def gI(X:Fx)(cl ch:Nat)(o:Oper)(a:Act)(w:World)(m:Mp)(ok:Nat->Ty->Prop)(S' :Sm):Prop:=
 ∀(next:Act->World->Prop) (Q:Exit->Act->World->Prop),
  (∀m' ok' a' w',Rel X cl ch S' m' ok' a' w' ->(∀k l,m k=some l->m' k=some l)->(∀b t,ok b t->ok' b t)->next a' w')->o.wp X.P a w next Q
theorem Gj{α:Type}{ι:Sort _}{Q:ι->α->Sm->Prop} :∀{c:Cmd α} {S:Sm},(∀i,c.post S (Q i))->c.post S (λx S' =>∀i,Q i x S')
 | .ret x,S,h=>λi=>h i| .fail,S,h=>trivial| .get k c,S,h=>Gj (c:=c (S k)) h| .set k v c,S,h=>Gj (c:=c) h
 | .opt o c,S,h=>λx e=>Gj (c:=c x) λi=>h i x e| .br b c d,S,h=>⟨λe=>Gj (c:=c) λi=>(h i).1 e,λe=>Gj (c:=d) λi=>(h i).2 e⟩
variable {x:Operand}{k:IntKind}{y:Operand}{α:Type}{Q:α->Sm->Prop}{C:Cx}{v:Value}{op:BinOp}{t:TypeId}{yt:TypeId}
section
variable {X:Fx} {cl ch:Nat} {S:Sm} {m:Mp} {ok:Nat->Ty->Prop} {a:Act} {w:World} {o:Oper}
theorem bi{b:Bool}{c:Cmd α}{S:Sm}(h:b=true->c.post S Q):(bif b then c else Cmd.fail).post S Q:=by
 cases b
 .trivial
 .exact h rfl
theorem Gx{a b:Nat}(h:Nat.blt a b=true):a<b:=by rw[dF]at h;exact h
theorem qi(H:FxOk X){S:Sm}{m0 m:Mp}{ok0 ok:Nat->Ty->Prop}{w0 w:World}{a:Act}(R:Rel X cl ch S m ok a w)(hm:∀k l,m0 k=some l->m k=some l)(hok:∀b t,ok0 b t->ok b t)
  {v:V} {x:Value} (hv:jI ⟨w.heap,ok,m⟩ v x) (run:(execOp a.eval o).run X.P w0= .ok (.value x) w):
  (cO X.E o.dst v).post S (λ_ S' =>gI X cl ch o a w0 m0 ok0 S'):=by
 unfold cO;cases hd:o.dst with
 |none=>
  intro next Q hn
  unfold Oper.wp;rw[run,lF,hd];exact hn m ok a w R hm hok
 |some d=>
  refine bi λhb=>?_;intro next Q hn
  unfold Oper.wp;rw[run,lF,hd];exact hn m ok _ w (R.put H.ntB hb hv) hm hok
theorem a0F(C:Cx)(v:Value):jI C (a0E v) v:=by unfold a0E;split<;>first|exact rfl|trivial
theorem Z8(R:Rel X cl ch S m ok a w){K:V->Cmd α}(hK:∀v,jI ⟨w.heap,ok,m⟩ v (a.eval x)->(K v).post S Q):(nV x K).post S Q:=by
 unfold nV;cases x with
 |tmp t=>exact bi λhb=>hK (S t) (R.slot t (Gx hb))|const v=>exact hK _ (a0F _ v)|global g=>exact hK _ rfl|func f=>exact hK _ rfl
theorem jQ{α:Type}{Q:α->Sm->Prop}(R:Rel X cl ch S m ok a w):∀(xs:List Operand) {K:List V->Cmd α} (hK:∀vs,fK ⟨w.heap,ok,m⟩ vs (xs.map a.eval)->(K vs).post S Q),(OA xs K).post S Q
 |[],K,hK=>hK [] rfl
 |x::r,K,hK=>by unfold OA;refine Z8 R λv hv=>?_;exact jQ R r λvs hvs=>hK _ ⟨_,_,rfl,hv,hvs⟩
theorem aB(H:FxOk X)(R:Rel X cl ch S m ok a w){v:V}{x:Value}(hv:jI ⟨w.heap,ok,m⟩ v x)(run:(execOp a.eval o).run X.P w= .ok (.value x) w):
  (cO X.E o.dst v).post S (λ_ S' =>gI X cl ch o a w m ok S'):=qi H R (λ_ _ h=>h) (λ_ _ h=>h) hv run
theorem Qm{x:Bool}(h:jI C (.b x) v):v= .bool x:=h
theorem qX{n:Int}(h:jI C (.i k n) v):v= .int k n:=h
theorem JL{l:List UInt8}(h:jI C (.s l) v):v= .string ⟨l.toArray⟩:=h
theorem a3n(H:FxOk X)(R:Rel X cl ch S m ok a w)(ho:o.op= .move x\/o.op= .assign x):(nV x λv=>cO X.E o.dst v).post S (λ_ S' =>gI X cl ch o a w m ok S'):=by refine Z8 R λv hv=>aB H R hv ?_;rcases ho with ho|ho<;>simp[execOp,ho]
theorem b0g(H:FxOk X)(R:Rel X cl ch S m ok a w){c x y:Operand}{q:Nat}(ho:o.op= .pick c x y):(aP X.E q o).post S (λ_ S' =>gI X cl ch o a w m ok S'):=by
 unfold aP;simp only[ho];refine Z8 R λv hv=>?_;split<;>try trivial
 rename_i t;have hc:=Qm hv;cases t
 .simp only[cond_false];refine Z8 R λv hv=>aB H R hv ?_;simp[execOp,ho,hc,asBool]
 .simp only[cond_true];refine Z8 R λv hv=>aB H R hv ?_;simp[execOp,ho,hc,asBool]
theorem dI{α β:Type}{Q:α->Sm->Prop}{x:Option β}{c:β->Cmd α}{S:Sm}(h:∀y,x=some y->(c y).post S Q):(Cmd.opt x c).post S Q:=h
theorem a3N{yc:Operand}{a:Act}{b:Int}(h:BN yc=false)(he:a.eval yc= .int k b):b≠0:=by
 unfold BN at h;split at h
 .simp[Act.eval]at he;obtain⟨_,rfl⟩:=he;simpa using h
 .simp at h
theorem a5R{yc:Operand}{a:Act}{b:Int}(h:FX yc=false)(he:a.eval yc= .int k b):¬b<0:=by
 unfold FX at h;split at h
 .simp[Act.eval]at he;obtain⟨_,rfl⟩:=he;simpa using h
 .simp at h
theorem a4z(H:FxOk X)(R:Rel X cl ch S m ok a w)(ho:o.op= .binOp op t x y yt){k k' :IntKind}{p q:Int}
  (hx:a.eval x= .int k p) (hy:a.eval y= .int k' q):(Jf X.E t op y (.i k p) (.i k' q) λv=>cO X.E o.dst v).post S (λ_ S' =>gI X cl ch o a w m ok S'):=by
 have run:∀v,(binOp op t (.int k p) (.int k' q)).run X.P w= .ok v w->(execOp a.eval o).run X.P w= .ok (.value v) w:=λv h=>by simp[execOp,ho,hx,hy,eqGuard_at_int,h]
 have fin:∀(v:V) (u:Value),jI ⟨w.heap,ok,m⟩ v u->(binOp op t (.int k p) (.int k' q)).run X.P w= .ok u w->(cO X.E o.dst v).post S (λ_ S' =>gI X cl ch o a w m ok S'):=
  λv u hv h=>aB H R hv (run u h)
 unfold Jf;cases op<;>simp only[]
 case shl=>
  cases hn:FX y
  .simp only[cond_false];have h0:=a5R hn hy;exact fin _ _ rfl (by simp[binOp,Op.shift,h0,a9N])
  .simp only[cond_true];refine dI λr hr=>?_;unfold ZK at hr;split at hr
   .cases hr
   .rename_i h0;cases hr;exact fin _ _ rfl (by simp[binOp,Op.shift,h0,a9N])
 case shr=>
  cases hn:FX y
  .simp only[cond_false];have h0:=a5R hn hy;exact fin _ _ rfl (by simp[binOp,Op.shift,h0,tu])
  .simp only[cond_true];refine dI λr hr=>?_;unfold a2U at hr;split at hr
   .cases hr
   .rename_i h0;cases hr;exact fin _ _ rfl (by simp[binOp,Op.shift,h0,tu])
 all_goals
  refine bi λhk=>?_;have hk' :k=k' :=of_decide_eq_true hk;subst hk'
 case quo=>
  cases hz:BN y
  .simp only[cond_false];have h0:=a3N hz hy;exact fin _ _ rfl (by simp[binOp,Op.intDiv,h0,aY])
  .simp only[cond_true];refine dI λr hr=>?_;unfold WZ at hr;split at hr
   .cases hr
   .rename_i h0;cases hr;exact fin _ _ rfl (by simp[binOp,Op.intDiv,h0])
 case rem=>
  cases hz:BN y
  .simp only[cond_false];have h0:=a3N hz hy;exact fin _ _ rfl (by simp[binOp,Op.intDiv,h0,fU])
  .simp only[cond_true];refine dI λr hr=>?_;unfold a2T at hr;split at hr
   .cases hr
   .rename_i h0;cases hr;exact fin _ _ rfl (by simp[binOp,Op.intDiv,h0])
 case add=>exact fin _ _ rfl (by simp[binOp,Op.intArith,D8])
 case sub=>exact fin _ _ rfl (by simp[binOp,Op.intArith,L6])
 case mul=>exact fin _ _ rfl (by simp[binOp,Op.intArith,lK])
 case and=>exact fin _ _ rfl (by simp[binOp,Op.intBits,a4i])
 case or=>exact fin _ _ rfl (by simp[binOp,Op.intBits,ior])
 case xor=>exact fin _ _ rfl (by simp[binOp,Op.intBits,a5G])
 case andNot=>exact fin _ _ rfl (by simp[binOp,Op.intBits,a2R])
 case eql=>exact fin _ _ rfl (by simp[binOp,Op.intCmp,x8];rfl)
 case neq=>exact fin _ _ rfl (by simp[binOp,Op.intCmp,x8,D9];rfl)
 case lss=>exact fin _ _ rfl (by simp[binOp,Op.intCmp,G5])
 case leq=>exact fin _ _ rfl (by simp[binOp,Op.intCmp,O7])
 case gtr=>exact fin _ _ rfl (by simp[binOp,Op.intCmp,G5])
 case geq=>exact fin _ _ rfl (by simp[binOp,Op.intCmp,O7])
theorem a4A(H:FxOk X)(R:Rel X cl ch S m ok a w)(ho:o.op= .binOp op t x y yt){p q:List UInt8}
  (hx:a.eval x= .string ⟨p.toArray⟩) (hy:a.eval y= .string ⟨q.toArray⟩):(Jf X.E t op y (.s p) (.s q) λv=>cO X.E o.dst v).post S (λ_ S' =>gI X cl ch o a w m ok S'):=by
 have run:∀v,(Op.stringOp op ⟨p.toArray⟩ ⟨q.toArray⟩).run X.P w= .ok v w->(execOp a.eval o).run X.P w= .ok (.value v) w:=λv h=>by simp[execOp,ho,hx,hy,eqGuard_at_string,binOp,h]
 have fin:∀(v:V) (u:Value),jI ⟨w.heap,ok,m⟩ v u->(Op.stringOp op ⟨p.toArray⟩ ⟨q.toArray⟩).run X.P w= .ok u w->(cO X.E o.dst v).post S (λ_ S' =>gI X cl ch o a w m ok S'):=
  λv u hv h=>aB H R hv (run u h)
 unfold Jf;cases op<;>simp only[]<;>try trivial
 case add=>
  refine dI λr hr=>?_;unfold J8 at hr;split at hr
  .rename_i hle;cases hr;have e:(⟨p.toArray⟩:ByteArray)++⟨q.toArray⟩=⟨(p++q).toArray⟩:=by
    apply ByteArray.ext;apply jm;simp[ByteArray.data_append]
   refine fin _ (.string ⟨(p++q).toArray⟩) rfl ?_;have hs:¬((9223372036854775807:Int)<(p.length:Int)+(q.length:Int)):=o5;simp[Op.stringOp,e,ByteArray.size,hs]
  .cases hr
 case eql=>exact fin _ _ rfl (by simp only[Op.stringOp,ByteArray.toList_mk,seq,U6];rw[show(p==q)=decide (p=q) by rw[jA];simp])
 case neq=>exact fin _ _ rfl (by simp only[Op.stringOp,ByteArray.toList_mk,seq,D9,U6];rw[show(p==q)=decide (p=q) by rw[jA];simp])
 case lss=>exact fin _ _ rfl (by simp[Op.stringOp,ByteArray.toList_mk,slt])
theorem a1e(H:FxOk X)(R:Rel X cl ch S m ok a w)(ho:o.op= .binOp op t x y yt){p q:Bool}
  (hx:a.eval x= .bool p) (hy:a.eval y= .bool q):(Jf X.E t op y (.b p) (.b q) λv=>cO X.E o.dst v).post S (λ_ S' =>gI X cl ch o a w m ok S'):=by
 unfold Jf;cases hi:bK X.E.tt t with
 |none=>trivial|some i=>
 have ht' :=(H.tt t i hi).td;simp only[];cases hd:i.td<;>try trivial
 rw[hd]at ht';have ht:X.P.underlying t=some .bool:=ht';have he' :∀d,(Op.equalIn (d+1) t (.bool p) (.bool q)).run X.P w= .ok (p==q) w:=λd=>by simp[Op.equalIn,run_underlying ht]
 have he:(Op.equal t (.bool p) (.bool q)).run X.P w= .ok (p==q) w:=he' 9999;have run:∀v,(binOp op t (.bool p) (.bool q)).run X.P w= .ok v w->(execOp a.eval o).run X.P w= .ok (.value v) w:=λv h=>by simp[execOp,ho,hx,hy,eqGuard_at_bool,h]
 have fin:∀(v:V) (u:Value),jI ⟨w.heap,ok,m⟩ v u->(binOp op t (.bool p) (.bool q)).run X.P w= .ok u w->(cO X.E o.dst v).post S (λ_ S' =>gI X cl ch o a w m ok S'):=
  λv u hv h=>aB H R hv (run u h)
 cases op<;>try trivial
 case eql=>exact fin _ _ rfl (by simp[binOp,he,Bh])
 case neq=>exact fin _ _ rfl (by simp[binOp,he,Bh,D9])
end
end Go.GP
namespace Go.GP
variable {x:Operand}{t:TypeId}{q:Nat}
section
variable {X:Fx} {cl ch:Nat} {S:Sm} {m:Mp} {ok:Nat->Ty->Prop} {a:Act} {w:World} {o:Oper}
theorem jF{α:Type}{Q:α->Sm->Prop}(H:FxOk X){t:Nat}{K:TI->Cmd α}(hK:∀i,TiOk X.P t i->(K i).post S Q):(tiC X.E t K).post S Q:=by
 unfold tiC;cases hi:bK X.E.tt t with
 |none=>trivial|some i=>exact hK i (H.tt t i hi)
theorem a4W{P:Program} :∀{d:TD},a9v P t d->∃e,P.underlying t=some e
 | .bool,h=>⟨_,h⟩| .int _,h=>⟨_,h⟩| .str,h=>⟨_,h⟩| .sl _,h=>⟨_,h⟩| .ptr _,h=>⟨_,h⟩| .struct _,⟨_,h,_⟩=>⟨_,h⟩| .arr _ _,h=>⟨_,h⟩| .map _ _,h=>⟨_,h⟩| .other,⟨_,h,_⟩=>⟨_,h⟩
theorem Yo(H:FxOk X)(R:Rel X cl ch S m ok a w){op:BinOp}{x y:Operand}{yt:TypeId}(ho:o.op= .binOp op t x y yt){ad:Option Addr}{n c:Nat}
  (hx:a.eval x= .slice ad n c) (hy:a.eval y= .slice none 0 0):(a5S X.E t op ad.isNone λv=>cO X.E o.dst v).post S (λ_ S' =>gI X cl ch o a w m ok S'):=by
 unfold a5S;cases hi:bK X.E.tt t with
 |none=>trivial|some i=>
 have ht' :=(H.tt t i hi).td;simp only[];cases hd:i.td<;>try trivial
 rename_i e;rw[hd]at ht';have ht:X.P.underlying t=some (.slice e):=ht';have he' :∀d,(Op.equalIn (d+1) t (.slice ad n c) (.slice none 0 0)).run X.P w= .ok ad.isNone w:=λd=>by cases ad<;>simp[Op.equalIn,run_underlying ht]
 have he:(Op.equal t (.slice ad n c) (.slice none 0 0)).run X.P w= .ok ad.isNone w:=he' 9999;have run:∀v,(binOp op t (.slice ad n c) (.slice none 0 0)).run X.P w= .ok v w->(execOp a.eval o).run X.P w= .ok (.value v) w:=λv h=>by simp[execOp,ho,hx,hy,eqGuard_at_slice,h]
 cases op<;>try trivial
 case eql=>exact aB H R (v:=.b ad.isNone) (x:=.bool ad.isNone) rfl (run _ (by simp[binOp,he]))
 case neq=>exact aB H R (v:=.b (D9 ad.isNone)) (x:=.bool (!ad.isNone)) rfl (run _ (by simp[binOp,he]))
theorem a5Z(H:FxOk X)(R:Rel X cl ch S m ok a w){op:BinOp}{x y:Operand}{yt:TypeId}(ho:o.op= .binOp op t x y yt):
  (aP X.E q o).post S (λ_ S' =>gI X cl ch o a w m ok S'):=by
 unfold aP;simp only[ho];refine Z8 R λu hu=>Z8 R λv hv=>?_;cases u<;>try (unfold Jf;trivial)
 case b p=>
  cases v<;>try (unfold Jf;trivial)
  exact a1e H R ho (Qm hu) (Qm hv)
 case i k p=>
  cases v<;>try (unfold Jf;trivial)
  exact a4z H R ho (qX hu) (qX hv)
 case s p=>
  cases v<;>try (unfold Jf;trivial)
  exact a4A H R ho (JL hu) (JL hv)
 case nl=>
  cases v<;>try (unfold Jf;trivial)
  exact Yo H R ho (ad:=none) (show a.eval x= .slice none 0 0 from hu) hv
 case ne=>
  cases v<;>try (unfold Jf;trivial)
  obtain⟨ad,c,hx,hb⟩:=hu;subst hb;exact Yo H R ho (ad:=ad) hx hv
 case sl t' xs=>
  cases v<;>try (unfold Jf;trivial)
  unfold Jf;simp only[];cases ht:t'.isEnt
  .simp only[cond_false];obtain⟨ad,c,hx,hle,hx'⟩:=(xx ht).1 (show jJ w.heap ok (.sl t') xs [a.eval x]from hu);cases xs with
   |nil=>exact⟨λ_=>trivial,λh=>by simp[x8,o9]at h⟩|cons z zs=>obtain⟨blk,off,es,rfl,_⟩:=hx' 0 z rfl;exact⟨λ_=>trivial,λ_=>Yo H R ho (ad:=some _) (by simpa using hx) hv⟩
  .trivial
 case agg cs=>
  cases v<;>try (unfold Jf;trivial)
  case agg ds=>
  obtain⟨xs,hx,hl⟩:=hu;obtain⟨ys,hy,hl'⟩:=hv;unfold Jf;simp only[];cases hq:bK X.E.eqs t with
  |none=>trivial|some sh=>
  simp only[];refine bi λhm=>?_;simp only[A7]at hm;have hE:=(H.eqs t sh hq).1;cases he:yh cs ds with
  |none=>cases op<;>trivial|some e=>
   cases op<;>try trivial
   case eql=>refine aB H R (v:=.b e) (x:=.bool e) rfl ?_;have h:=hE w _ cs ds xs ys e .eql x y hm.1 hm.2 hl hl' he (.inl rfl);simp only[execOp,ho,hx,hy];rw[G9,h];rfl
   case neq=>refine aB H R (v:=.b (D9 e)) (x:=.bool (!e)) rfl ?_;have h:=hE w _ cs ds xs ys e .neq x y hm.1 hm.2 hl hl' he (.inr rfl);simp only[execOp,ho,hx,hy];rw[G9,h];rfl
theorem b0h(H:FxOk X)(R:Rel X cl ch S m ok a w){op:UnOp}(ho:o.op= .unOp op t x):
  (aP X.E q o).post S (λ_ S' =>gI X cl ch o a w m ok S'):=by
 unfold aP;simp only[ho];refine Z8 R λu hu=>?_;cases u<;>cases op<;>try (unfold unC;trivial)
 case b.not p=>exact aB H R (v:=.b (D9 p)) (x:=.bool (!p)) rfl (by simp[execOp,ho,Qm hu,Op.unary])
 case i.neg k p=>exact aB H R (v:=.i k (L6 k 0 p)) (x:=.int k (k.wrap (0 -p))) rfl (by simp[execOp,ho,qX hu,Op.unary,Op.intArith])
 case i.xor k p=>exact aB H R (v:=.i k (a5G k (bif k.signed then -1 else k.max) p)) rfl (by simp only[execOp,ho,qX hu,Op.unary,Op.intBits,a5G];cases k.signed<;>simp)
theorem a6m{α:Type}{Q:α->Sm->Prop}(R:Rel X cl ch S m ok a w){u:Ty}{y:V}{vy:Value}{K:List u.den->Cmd α}(hy:jI ⟨w.heap,ok,m⟩ y vy)
  (hK:∀xs,jJ w.heap (λ_ _=>True) (.sl u) xs [vy]->(K xs).post S Q):(m_ u y K).post S Q:=by
 unfold m_;split<;>try trivial
 .have hv:vy= .slice none 0 0:=hy;subst hv;cases ht:u.isEnt
  .exact hK [] (.inl ⟨ht,none,0,rfl,E9 _,λi x hi=>by simp at hi⟩)
  .trivial
 .obtain⟨ad,c,rfl,_⟩:=(show ∃a c,vy=Value.slice a 0 c/\a.isNone=_ from hy);cases ht:u.isEnt
  .exact hK [] (.inl ⟨ht,ad,c,rfl,dC _,λi x hi=>by simp at hi⟩)
  .trivial
 .refine dY λe=>?_;subst e;exact hK _ (dK (λ_ _ _=>trivial) (λ_ _ _=>rfl) (show jJ w.heap ok (.sl _) _ [vy]from hy))
 .rename_i bx vw;obtain⟨l,hm,hv⟩:=hy;show Cmd.post (match S (Y4+bx)with| .barr t' xs=>_| .bfrz t' xs=>_|_=>_) S Q;have hb:=R.box bx;split<;>try trivial
  .rename_i t' xs hS;rw[hS]at hb;obtain⟨l',hm',ha⟩:=hb;simp only at hm hm';rw[hm]at hm';cases hm';refine dY λe=>?_;subst e;exact hK _ (mG (C:=⟨w.heap,ok,m⟩) ha hv (λ_ _ _=>trivial) (λ_ _=>trivial))
  .rename_i t' xs hS;rw[hS]at hb;obtain⟨l',hm',ha,hok⟩:=hb;simp only at hm hm';rw[hm]at hm';cases hm';refine dY λe=>?_;subst e;exact hK _ (mG (C:=⟨w.heap,ok,m⟩) ha hv (λ_ _ _=>trivial) (λ_ _=>trivial))
theorem f_(H:FxOk X)(R:Rel X cl ch S m ok a w){src t:TypeId}(ho:o.op= .convert src t x)
  (hB:∀l,a.eval x= .string ⟨l.toArray⟩->X.P.underlying src=some .string->(a5p X.E (N7 q o.dst) t l λv=>cO X.E o.dst v).post S (λ_ S' =>gI X cl ch o a w m ok S')):
  (aP X.E q o).post S (λ_ S' =>gI X cl ch o a w m ok S'):=by
 unfold aP;simp only[ho];refine Z8 R λu hu=>jF H λj hj=>jF H λi hi=>?_;obtain⟨e,he⟩:=a4W hj.td;have hd:=hi.td;split<;>try trivial
 .rename_i k' n k htd;rw[htd]at hd;exact aB H R (v:=.i k (wrap k n)) (x:=.int k (k.wrap n)) rfl (by simp[execOp,ho,qX hu,convert,run_underlying he,run_underlying (show X.P.underlying t=some (.int k)from hd),Conv.intToInt])
 .rename_i l htd;rw[htd]at hd;refine aB H R (v:=.s l) (x:=.string ⟨l.toArray⟩) rfl ?_;simp only[execOp,ho,JL hu,convert,G9,run_underlying he,run_underlying (show X.P.underlying t=some .string from hd),H7];cases e<;>simp
 .split<;>try trivial
  rename_i l _ _ _ hjd;have hjs:=hj.td;rw[hjd]at hjs;exact hB l (JL hu) hjs
 .rename_i hns htd;rw[htd]at hd;split<;>try trivial
  rename_i el hjd;have hjs:=hj.td;rw[hjd]at hjs;refine jF H λk hk=>?_;have hkd:=hk.td;split<;>try trivial
  rename_i hke;rw[hke]at hkd;refine a6m R hu λxs hr=>?_;obtain⟨ad,cap,hv,hcap,hcells⟩:=(xx rfl).1 hr;have hv:=(O5 hv).1;refine aB H R (v:=.s (Zp xs)) (x:=.string ⟨(Zp xs).toArray⟩) rfl ?_;have hh:(convert src t (a.eval x)).run X.P w= .ok (.string ⟨(Zp xs).toArray⟩) w:=by
   rw[hv];cases xs with
   |nil=>
    have:=run_convert_bytes_nil (P:=X.P) w src el hjs hkd 0 cap t hd;cases ad with
    |none=>exact this|some ad=>obtain⟨b,o,s⟩:=ad;rw[run_convert_bytes_string w src t el _ _ cap hjs hkd hd];simp[Conv.bytesToString,Zp];rfl
   |cons y ys=>
    obtain⟨blk,off,es,rfl,_,_,_⟩:=hcells 0 y rfl;have:=run_convert_bytes_arg (P:=X.P) w src el hjs hkd blk off (y::ys).length cap (y::ys) rfl (λi hi=>?_) t hd
    .exact this
    .obtain⟨blk2,off2,es2,e2,_,hc,hr2⟩:=hcells i _ (kN hi);simp only[F6,fV]at e2;obtain⟨rfl,rfl,_⟩:=e2;obtain⟨c,T,f,hb,hn,rfl⟩:=oz hc;have hr3:((c.toList.drop (off+i*1)).take 1)=[.int .u8 (y::ys)[i]]:=hr2;have h5:=congrArg (λl=>l[0]?) hr3;simp only[aN (show 0<1 by omega),S9,aQ,aS,bY,Y6]at h5;simp only[World.cell?,hb,h5,Option.isSome_none];simp[List.getD,kN hi]
  simp only[execOp,ho];rw[G9,hh];rfl
theorem a1g(H:FxOk X)(R:Rel X cl ch S m ok a w){n:Nat}(ho:o.op= .extract x n):
  (aP X.E q o).post S (λ_ S' =>gI X cl ch o a w m ok S'):=by
 unfold aP;simp only[ho];refine Z8 R λu hu=>?_;cases u<;>try trivial
 case tup vs=>
 obtain⟨arr,hx,hl⟩:=hu;have key:∀(vs:List V) (us:List Value) (n:Nat) (v:V),YB ⟨w.heap,ok,m⟩ vs us->vs[n]? =some v->∃u,us[n]? =some u/\jI ⟨w.heap,ok,m⟩ v u:=by
  intro vs;induction vs with
  |nil=>intro us n v _ h;simp at h|cons c cs ih=>
   rintro us n v ⟨u,r,rfl,h1,h2⟩ h;cases n with
   |zero=>simp at h;subst h;refine⟨u,rfl,?_⟩;cases c<;>first|exact h1|exact h1.elim
   |succ n=>simpa using ih r n v h2 (by simpa using h)
 simp only[];split
 .rename_i v hv;obtain⟨u,hu,hr⟩:=key vs arr.toList n v hl hv;refine aB H R hr ?_;have:arr[n]? =some u:=by simpa using hu
  simp[execOp,ho,hx,Instr.extract,this]
 .trivial
theorem a6e(H:FxOk X)(R:Rel X cl ch S m ok a w){x ix:Operand}(ho:o.op= .index t x ix):
  (aP X.E q o).post S (λ_ S' =>gI X cl ch o a w m ok S'):=by
 unfold aP;simp only[ho];refine Z8 R λu hu=>Z8 R λv hv=>jF H λi hi=>?_;have hd:=hi.td;split<;>try trivial
 rename_i l k n htd;rw[htd]at hd;refine dI λc hc=>?_;unfold sat at hc;split at hc
 .rename_i h0;cases hl:l[n.toNat]? with
  |none=>simp[hl]at hc|some b=>
   simp[hl]at hc;subst hc;refine aB H R (v:=.i .u8 b.toNat) (x:=.int .u8 b.toNat) rfl ?_;have e:(⟨l.toArray⟩:ByteArray)[n.toNat]? =some b:=by
    obtain⟨h1,h2⟩:=aK.1 hl;have hs:n.toNat<(⟨l.toArray⟩:ByteArray).size:=by simpa[ByteArray.size]using h1
    show decidableGetElem? _ _=_;unfold decidableGetElem?;rw[dif_pos hs,←h2];rfl
   simp[execOp,ho,JL hu,qX hv,Instr.index,asIntOf,run_underlying (show X.P.underlying t=some .string from hd),h0,e]
 .cases hc
theorem h_(H:FxOk X)(R:Rel X cl ch S m ok a w)(ho:o.op= .nilCheck x):
  (aP X.E q o).post S (λ_ S' =>gI X cl ch o a w m ok S'):=by
 unfold aP;simp only[ho];refine Z8 R λu hu=>?_;cases u<;>try trivial
 case ptr bx f=>obtain⟨b,h1,h2⟩:=hu;exact aB H R (v:=.ptr bx f) ⟨b,h1,h2⟩ (by simp[execOp,ho,h2])
 case ep bx ix f=>obtain⟨_,_,_,_,_,h1,h2,h3⟩:=hu;exact aB H R (v:=.ep bx ix f) ⟨_,_,_,_,_,h1,h2,h3⟩ (by simp[execOp,ho,h3])
 case dp u y f=>obtain⟨_,_,_,h1,h2⟩:=hu;exact aB H R (v:=.dp u y f) ⟨_,_,_,h1,h2⟩ (by simp[execOp,ho,h1])
 case glob g=>exact aB H R (v:=.glob g) hu (by have hu:a.eval x=_:=hu;simp[execOp,ho,hu])
end
end Go.GP
namespace Go.GP
variable {n:Nat}{off:Nat}{blk:Nat}{es:List Value}
theorem sD{w:World}(e:bZ w.heap blk off n=some es){j:Nat}{v:Value}(h:es[j]? =some v):w.cell? ⟨blk,off+j,none⟩=some v:=by
 obtain⟨c,T,f,hb,hn,rfl⟩:=oz e;rw[cell_of_row w blk (off+j) c T f hb];have hj:j<n:=by have:=(aK.1 h).1;simp at this;omega
 rw[U7,if_pos hj,S9]at h;simpa using h
variable {t:TypeId}{P:Program}
theorem BR{d:TD}(h:a9v P t d)(w:World):(isAgg t).run P w= .ok (bf d) w:=by
 unfold isAgg;cases d<;>simp only[a9v]at h
 case struct fs=>obtain⟨fields,hu,_⟩:=h;rw[G9,run_underlying hu];rfl
 case other=>obtain⟨e,hu,hn⟩:=h;rw[G9,run_underlying hu];cases e<;>first|rfl|exact hn.elim
 all_goals (rw[G9,run_underlying h];rfl)
variable {i:TI}
theorem oO(h:TiOk P t i)(w:World):(sizeOf t).run P w= .ok i.size w:=by obtain⟨inf,h1,h2,_⟩:=h.info;simp[sizeOf,typeInfo,h1,h2]
def Pm(ag:Bool)(es:List Value):Value:=match ag with|true=> .agg es.toArray|false=>es.headD Go.undef
theorem uM(hi:TiOk P t i)(w:World)(e:bZ w.heap blk off i.size=some es):
  (loadVar t ⟨blk,off,none⟩).run P w= .ok (Pm (bf i.td) es) w:=by
 have hl:=ou e;unfold loadVar;rw[G9,BR hi.td];simp only[H7];cases ha:bf i.td
 .have h1:=hi.one ha;rw[h1]at hl;obtain⟨v,rfl⟩:∃v,es=[v]:=by
   cases es with
   |nil=>simp at hl
   |cons v r=>cases r with
    |nil=>exact⟨v,rfl⟩|cons _ _=>simp at hl
  have hc:=sD e (j:=0) (v:=v) rfl;simp only[aQ]at hc;simp[hc,Pm]
 .have hc:=run_loadCells_list (P:=P) w ⟨blk,off,none⟩ es (λj v h=>by rw[fJ];exact sD e h);rw[hl]at hc;simp[oO hi,hc,Pm]
variable {C:Cx}{cs:List V}
theorem zO{ag:Bool}(h:eX C cs es)(h1:ag=false->es.length=1):jI C (mkV ag cs) (Pm ag es):=by
 refine OM (us:=es) ?_ h;cases ag
 .have:=h1 rfl;obtain⟨v,rfl⟩:∃v,es=[v]:=by
   cases es with
   |nil=>simp at this
   |cons v r=>cases r with
    |nil=>exact⟨v,rfl⟩|cons _ _=>simp at this
  rfl
 .exact⟨es.toArray,rfl,A8⟩
theorem Ue:∀(n:Nat) (cs r:List V),Ud n cs=some r->n<=cs.length/\r=cs.drop n
 |0,cs,r,h=>by simp[Ud]at h;simp[h]|n+1,[],r,h=>by simp[Ud]at h|n+1,c::cs,r,h=>by obtain⟨h1,h2⟩:=Ue n cs r (by simpa[Ud]using h);exact⟨by simp;omega,by simpa using h2⟩
theorem VF{α:Type}{Q:α->Sm->Prop}{S:Sm} :∀(n:Nat) (cs:List V) {K:List V->Cmd α} (hK:n<=cs.length->(K (cs.take n)).post S Q),(a0c n cs K .fail).post S Q
 |0,cs,K,hK=>by simpa[a0c]using hK (dC _)|n+1,[],K,hK=>trivial
 |n+1,c::cs,K,hK=>by unfold a0c;exact VF n cs λh=>by simpa using hK F5
variable {α:Type}{Q:α->Sm->Prop}
theorem xY{S:Sm}{K:List V->Cmd α}(hK:off+n<=cs.length->(K ((cs.drop off).take n)).post S Q):(SN off n cs K .fail).post S Q:=by
 unfold SN;split
 .rename_i r hr;obtain⟨h1,rfl⟩:=Ue _ _ _ hr;refine VF n _ λh=>hK ?_;simp at h;omega
 .trivial
def aC(off:Nat)(vs cs:List α):List α:=cs.take off++vs++cs.drop (off+vs.length)
theorem zJ{α:Type}{Q:α->Sm->Prop}{S:Sm} :∀(off:Nat) (vs cs:List V) {K:List V->Cmd α} (hK:off+vs.length<=cs.length->(K (aC off vs cs)).post S Q),(OE off vs cs K .fail).post S Q
 |0,[],cs,K,hK=>by have:=hK A8;cases cs<;>simpa[OE,aC]using this|0,v::vs,[],K,hK=>by simp[OE];trivial
 |0,v::vs,c::cs,K,hK=>by unfold OE;exact zJ 0 vs cs λh=>by simpa[aC]using hK (by simp at h ⊢;omega)|n+1,vs,[],K,hK=>by cases vs<;>simp[OE]<;>trivial|n+1,vs,c::cs,K,hK=>by
  have e:OE (n+1) vs (c::cs) K Cmd.fail=OE n vs cs (λr=>K (c::r)) Cmd.fail:=by cases vs<;>rfl
  rw[e];refine zJ n vs cs λh=>?_;have:=hK F5;have e2:n+1+vs.length=(n+vs.length)+1:=o5;simpa[aC,e2]using this
theorem Ak{vs cs:List V}{us xs:List Value}(hv:eX C vs us)(hc:eX C cs xs):eX C (aC off vs cs) (aC off us xs):=by unfold aC;rw[←je hv];exact uG (uG (sW off hc) hv) (qV _ hc)
theorem vO{P:Program}(g o:Nat)(t:TypeId):∀(vs:List Value) (i:Nat) (cur:Array Value) (f:Nat×Nat) (w:World),w.heap[g]? =some (.cells cur t f)->(f=(0,0)\/f=(cur.size,cur.size+1))->o+i+vs.length<=cur.size->(∀v∈vs,v.oneCell' =true)->
  (storeCells ⟨g,o,none⟩ vs i).run P w= .ok () (w.setRow g (cur.toList.take (o+i)++vs++cur.toList.drop (o+i+vs.length)).toArray)
 |[],i,cur,f,w,hg,_,_,_=>by simp only[storeCells,H6,ai,aQ,iD,Array.toArray_toList];rw[setRow_self w g cur t f hg];rfl|v::rest,i,cur,f,w,hg,hf,hl,h1=>by
  have hi:o+i<cur.size:=by simp at hl;omega
  have hadd:(⟨g,o,none⟩:Addr).add i=⟨g,o+i,none⟩:=by unfold Addr.add;split<;>simp_all
  have hcell:w.cell? ⟨g,o+i,none⟩=some cur[o+i]:=by simp[World.cell?,hg,hi]
  have hfro:w.frozen? ⟨g,o+i,none⟩=false:=by rcases hf with rfl|rfl<;>simp[World.frozen?,hg];omega
  have hst:(store ((⟨g,o,none⟩:Addr).add i) v).run P w= .ok () (w.setRow g (cur.setIfInBounds (o+i) v)):=by rw[hadd,run_store P w _ v _ (h1 v A8),hcell];simp[hfro,setCell_eq_setRow w g (o+i) cur t f v hg]
  have ih:=vO (P:=P) g o t rest (i+1) (cur.setIfInBounds (o+i) v) f (w.setRow g (cur.setIfInBounds (o+i) v)) (setRow_heap w g cur _ t _ hg) (by simpa using hf) (by simp at hl ⊢;omega) (λx hx=>h1 x (by simp[hx]));simp only[storeCells,G9,hst,H7,ih,setRow_setRow];congr 3;have e:=list_seg_step cur.toList (o+i) v rest (by simp at hl ⊢;omega);simpa[kw,dH]using e
theorem BG(hi:TiOk P t i)(w:World){c:Array Value}{T:TypeId}{f:Nat×Nat}(hb:w.heap[blk]? =some (.cells c T f))(hf:f=(0,0)\/f=(c.size,c.size+1)){v:Value}
  (hs:v.cells.size=i.size) (ho:off+i.size<=c.size) (h1:∀u∈v.cells.toList,u.oneCell' =true):
  (storeVar t ⟨blk,off,none⟩ v).run P w= .ok () (w.setRow blk (aC off v.cells.toList c.toList).toArray):=by
 have h:=vO (P:=P) blk off T v.cells.toList 0 c f w hb hf F5 h1;simp only[aQ]at h;unfold storeVar;simp[oO hi,hs,h,aC]
variable {v:V}{l:Loc}{obj:Obj}{q:Nat}{ks:List Nat}
section
variable {X:Fx} {cl ch:Nat} {S:Sm} {m:Mp} {ok:Nat->Ty->Prop} {a:Act} {w:World} {o:Oper}
theorem Rel.own_cells(R:Rel X cl ch S m ok a w)(h:S (Y4+n)= .bcells cs):∃blk arr T,m n=some (.st blk)/\w.heap[blk]? =some (.cells arr T (0,0))/\eX ⟨w.heap,ok,m⟩ cs arr.toList:=by have:=R.box n;rw[h]at this;exact this
theorem Rel.own_arr(R:Rel X cl ch S m ok a w){t:Ty}{xs:List t.den}(h:S (Y4+n)= .barr t xs):∃l,m n=some l/\arrOk ⟨w.heap,ok,m⟩ t xs l:=by have:=R.box n;rw[h]at this;exact this
theorem Rel.own_frz(R:Rel X cl ch S m ok a w){t:Ty}{xs:List t.den}(h:S (Y4+n)= .bfrz t xs):∃l,m n=some l/\arrOk ⟨w.heap,ok,m⟩ t xs l/\(∀blk,blk∈l.blks->ok blk t):=by have:=R.box n;rw[h]at this;exact this
theorem Rel.own_barrs(R:Rel X cl ch S m ok a w){md:M}{xs:List md.den}{hole:Option (Nat×Nat×Option Nat)}(h:S (Y4+n)= .barrs md xs hole):md.el=true/\∃l Os,m n=some l/\a2G ⟨w.heap,ok,m⟩ md xs hole Os l/\m.kid n=Os.flatten:=by have:=R.box n;rw[h]at this;exact this
theorem Rel.own_fc(R:Rel X cl ch S m ok a w){t:Ty}{x:t.den}(h:S (Y4+n)= .bfc t x):∃blk es,m n=some (.st blk)/\ok blk t/\bZ w.heap blk 0 t.size=some es/\jJ w.heap ok t x es:=by have:=R.box n;rw[h]at this;exact this
theorem yl:∀(m:M) (x:m.den) (r:List V),IA m x r=IA m x []++r
 | .dat t,x,r=>jZ t x r| .pair a b,x,r=>by simp only[IA];rw[yl a x.1 (IA b x.2 r),yl b x.2 r,yl a x.1 (IA b x.2 [])];simp| .unit,_,_=>rfl| .own _,_,_=>rfl| .owns _,_,_=>rfl| .box _,_,_=>rfl| .ownb _,_,_=>rfl| .rp _,_,_=>rfl| .fn _ _,_,_=>rfl| .ifc _ _,_,_=>rfl| .cell _,_,_=>rfl| .fr _,_,_=>rfl| .sbx _ _,_,_=>rfl| .lp _,_,_=>rfl| .dv ..,_,_=>rfl| .sit,_,_=>rfl
theorem GV:∀(m:M) (x:m.den),(IA m x []).length=m.size
 | .dat t,x=>lw t x| .pair a b,x=>by simp only[IA,M.size];rw[yl a,H9,GV a x.1,GV b x.2]| .unit,_=>rfl| .own _,_=>rfl| .owns _,_=>rfl| .box _,_=>rfl| .ownb _,_=>rfl| .rp _,_=>rfl| .fn _ _,_=>rfl| .ifc _ _,_=>rfl| .cell _,_=>rfl| .fr _,_=>rfl| .sbx _ _,_=>rfl| .lp _,_=>rfl| .dv ..,_=>rfl| .sit,_=>rfl
theorem kT{cs:List Value}(h:cs.length=1)(h1:∀v∈cs,v.oneCell' =true):eX C [.undef] cs:=by
 match cs,h with
 |[v],_=>exact⟨v,[],rfl,trivial,h1 v A8,rfl⟩
theorem Ny{C:Cx} :∀{m:M} {ho:Option Nat} {x:m.den} {cs:List Value} {O:List Nat},nP C.h C.ok m ho x cs O->eX C (IA m x []) cs
 | .dat t,_,_,_,_,h=>nZ h.1| .pair a b,_,x,_,_,h=>by obtain⟨c,d,O1,O2,rfl,rfl,h1,h2⟩:=h;simp only[IA];rw[yl a];exact uG (Ny h1) (Ny h2)
 | .unit,_,_,_,_,h=>by obtain⟨rfl,_⟩:=h;rfl
 | .own _,_,_,_,_,h=>kT (aW h) (mW h)| .owns _,_,_,_,_,h=>kT (aW h) (mW h)| .box _,_,_,_,_,h=>kT (aW h) (mW h)| .ownb _,_,_,_,_,h=>kT (aW h) (mW h)| .rp _,_,_,_,_,h=>kT (aW h) (mW h)| .fn _ _,_,_,_,_,h=>kT (aW h) (mW h)| .ifc _ _,_,_,_,_,h=>kT (aW h) (mW h)| .cell _,_,_,_,_,h=>kT (aW h) (mW h)| .fr _,_,_,_,_,h=>kT (aW h) (mW h)| .sbx _ _,_,_,_,_,h=>kT (aW h) (mW h)| .lp _,_,_,_,_,h=>kT (aW h) (mW h)| .dv ..,_,_,_,_,h=>kT (aW h) (mW h)| .sit,_,_,_,_,h=>kT (aW h) (mW h)
theorem aI{S:Sm}{k:Nat}{c:V->Cmd α}(h:(c (S k)).post S Q):(Cmd.get k c).post S Q:=h
theorem fQ{S:Sm}{k:Nat}{c:Cmd α}(h:c.post (upd S k v) Q):(Cmd.set k v c).post S Q:=h
theorem He(H:FxOk X)(R:Rel X cl ch S m ok a w){t:Nat}{p:V}{x:Value}(hp:jI ⟨w.heap,ok,m⟩ p x){K:V->Cmd α}
  (hK:∀v u ad,jI ⟨w.heap,ok,m⟩ v u->x= .pointer (some ad)->(loadVar t ad).run X.P w= .ok u w->(K v).post S Q):(LW X.E t p K).post S Q:=by
 unfold LW;refine jF H λi hi=>?_;cases p<;>try trivial
 case ptr bx off=>
  obtain⟨blk,hm,rfl⟩:=hp;refine aI ?_;split<;>try trivial
  .rename_i cs hS;obtain⟨blk',arr,T,hm',hh,hl⟩:=R.own_cells hS;simp only at hm;rw[hm]at hm';cases hm';refine xY λhle=>?_;have hlen:=je hl;have e:=ik hh off i.size (by simp at hlen;omega);refine hK _ _ _ (zO (sW _ (qV _ hl)) (λha=>by have:=ou e;rw[hi.one ha]at this;rw[hi.one ha];exact this)) rfl ?_;exact uM hi w e
  .rename_i u y hS;obtain⟨blk',es,hm',hok,he,hr⟩:=R.own_fc hS;simp only at hm;rw[hm]at hm';cases hm';refine xY λhle=>?_;rw[lw]at hle;have e:=xC he off i.size hle;rw[bV]at e;refine hK _ _ _ (zO (sW _ (qV _ (nZ (C:=⟨w.heap,ok,m⟩) hr))) (λha=>by have:=ou e;rw[hi.one ha]at this;rw[hi.one ha];exact this)) rfl ?_;exact uM hi w e
 case ep bx ix off=>
  obtain⟨blk,o',len,cap,sz,hm,hlt,rfl⟩:=hp;refine aI ?_;have key:∀{u:Ty} {xs:List u.den},arrOk ⟨w.heap,ok,m⟩ u xs (.arr blk o' len cap sz)->(Cmd.opt (Y5 xs ix) λx=>SN off i.size (flat u x []) (λr=>K (mkV (bf i.td) r)) Cmd.fail).post S Q:=by intro u xs ha;obtain⟨_,rfl,rfl,h3,c,T,f,hh,hz,hs,hx⟩:=ha;refine dI λy hy=>?_;obtain⟨es,he,hr⟩:=hx ix y hy;refine xY λhle=>?_;rw[lw]at hle;have e:=xC he off i.size hle;refine hK _ _ _ (zO (sW _ (qV _ (nZ (C:=⟨w.heap,ok,m⟩) hr))) (λha=>by have:=ou e;rw[hi.one ha]at this;rw[hi.one ha];exact this)) rfl ?_;exact uM hi w e
  split<;>try trivial
  .rename_i u xs hS;obtain⟨l,hm',ha⟩:=R.own_arr hS;simp only at hm;rw[hm]at hm';cases hm';exact key ha
  .rename_i u xs hS;obtain⟨l,hm',ha,_⟩:=R.own_frz hS;simp only at hm;rw[hm]at hm';cases hm';exact key ha
  .rename_i md xs hole hS;obtain⟨_,l,Os,hm',⟨ha,hho⟩,_⟩:=R.own_barrs hS;simp only at hm;rw[hm]at hm';cases hm';obtain⟨rfl,rfl,h3,h7,c,T,hh,hs,hx⟩:=ha;refine dI λy hy=>?_;obtain⟨es,O,hO,he,hr⟩:=hx ix y hy;refine xY λhle=>?_;rw[GV]at hle;have e:=xC he off i.size hle;refine hK _ _ _ (zO (sW _ (qV _ (Ny (C:=⟨w.heap,ok,m⟩) hr))) (λha=>by have:=ou e;rw[hi.one ha]at this;rw[hi.one ha];exact this)) rfl ?_;exact uM hi w e
 case dp u y off=>obtain⟨blk,o',es,rfl,hb,he,hr⟩:=hp;refine xY λhle=>?_;rw[lw]at hle;have e:=xC he off i.size hle;refine hK _ _ _ (zO (sW _ (qV _ (nZ (C:=⟨w.heap,ok,m⟩) hr))) (λha=>by have:=ou e;rw[hi.one ha]at this;rw[hi.one ha];exact this)) rfl ?_;exact uM hi w e
theorem wB(h:Array Obj)(o:Obj){b:Nat}(hb:b<h.size):(h.push o)[b]? =h[b]?:=by rw[Array.getElem?_push,if_neg o5]
theorem Rel.new(R:Rel X cl ch S m ok a w)(hn:S (Y4+n)= .undef)(hcl:cl<=n)(hch:n<ch)(hv:v≠.undef)
  (hb:P9 (kU m n l ks) n v=[w.heap.size]) (hB:BD ⟨(w.alloc obj).heap,ok,kU m n l ks⟩ n v):
  Rel X cl ch (upd S (Y4+n) v) (kU m n l ks) ok a (w.alloc obj):=by
 refine R.lay hn hcl hch hv rfl rfl rfl A8 (λb hb' _=>wB _ _ hb') (by rw[hb];simp) (λb h=>?_) hB;rw[hb]at h;simp only[lT]at h;subst h;refine⟨λt h' =>oK _ (R.okLt _ t h'),A8,.inl R.frame.size,λk h' =>oK _ (R.sep k _ h').2.1⟩
theorem Rel.newK(R:Rel X cl ch S m ok a w){T:List Nat}(hT:Tk X S m ok w T)(hn:S (Y4+n)= .undef)(hcl:cl<=n)(hch:n<ch)(hv:v≠.undef)
  (hb:P9 (kU m n l ks) n v=w.heap.size::ks) (hnd:ks.Nodup) (hks:∀b∈ks,b∈T) (hB:BD ⟨(w.alloc obj).heap,ok,kU m n l ks⟩ n v):
  Rel X cl ch (upd S (Y4+n) v) (kU m n l ks) ok a (w.alloc obj):=by
 refine R.lay hn hcl hch hv rfl rfl rfl A8 (λb hb' _=>wB _ _ hb') (by rw[hb];exact aj.2 ⟨λh=>oK _ (hT.free _ (hks _ h)).2.1,hnd⟩) (λb h=>?_) hB;rw[hb]at h;rcases D6.1 h with rfl|h
 .exact⟨λt h' =>oK _ (R.okLt _ t h'),A8,.inl R.frame.size,λk h' =>oK _ (R.sep k _ h').2.1⟩
 .obtain⟨h1,h2,h3,h4⟩:=hT.free b (hks b h);exact⟨h1,by simp;omega,h3,h4⟩
theorem Rel.le_new(R:Rel X cl ch S m ok a w)(hn:S (Y4+n)= .undef)(hcl:cl<=n):Cx.le ⟨w.heap,ok,m⟩ ⟨(w.alloc obj).heap,ok,kU m n l ks⟩:=
 ⟨λ_ _ h=>h,λb t hb=>wB _ _ (R.okLt b t hb),λk x h=>by
  by_cases e:k=n
  .subst e;have:=R.fresh k hcl hn;simp only at h;rw[this]at h;cases h
  .show kU m n l ks k=some x;rw[iH _ _ _ e];exact h⟩
theorem qg(H:FxOk X)(d:Option Tmp)(hd:∀t,d=some t->t<X.E.nt):CB*q<=N7 q d/\N7 q d+64<=CB*q+CB:=by
 have:=H.nt;cases d with
 |none=>simp only[N7];show 1000000*q<=1000000*q+999936/\1000000*q+999936+64<=1000000*q+1000000;omega|some t=>simp only[N7];have h2:LT.lt (α:=Nat) t X.E.nt:=hd t rfl;clear hd;generalize X.E.nt=n at*;revert this h2;generalize (t:Nat)=t';intro this h2;show 1000000*q<=1000000*q+64*t' /\1000000*q+64*t' +64<=1000000*q+1000000;omega
theorem Gg(H:FxOk X)(R:Rel X (CB*q) (CB*q+CB) S m ok a w){vv:V}{x:Value}(hv:v≠.undef)
  (hb:P9 (kU m (N7 q o.dst) l []) (N7 q o.dst) v=[w.heap.size]) (hB:S (Y4+N7 q o.dst)= .undef->CB*q<=N7 q o.dst->BD ⟨(w.alloc obj).heap,ok,kU m (N7 q o.dst) l []⟩ (N7 q o.dst) v)
  (hx:jI ⟨(w.alloc obj).heap,ok,kU m (N7 q o.dst) l []⟩ vv x) (run:(execOp a.eval o).run X.P w= .ok (.value x) (w.alloc obj)):
  (tH (N7 q o.dst) v (cO X.E o.dst vv)).post S (λ_ S' =>gI X (CB*q) (CB*q+CB) o a w m ok S'):=by
 refine pK λhn=>?_;cases hd:o.dst with
 |none=>have hin:=qg H (q:=q) none (λt h=>by cases h);rw[hd]at hn hB hb hx;have R' :=R.new hn hin.1 o5 hv hb (hB hn hin.1);have:=qi (o:=o) H R' (m0:=m) (ok0:=ok) (λk l' h=>(R.le_new (obj:=obj) hn hin.1).m k l' h) (λ_ _ h=>h) hx run;rw[hd]at this;exact this
 |some t=>unfold cO;refine bi λhb' =>?_;have hin:=qg H (q:=q) (some t) (λt' h=>by cases h;exact(zH hb').1);rw[hd]at hn hB hb hx;have R' :=R.new hn hin.1 o5 hv hb (hB hn hin.1);have:=qi (o:=o) H R' (m0:=m) (ok0:=ok) (λk l' h=>(R.le_new (obj:=obj) hn hin.1).m k l' h) (λ_ _ h=>h) hx run;rw[hd]at this;unfold cO at this;simp only[hb',cond_true]at this;exact this
theorem Nw :∀{cs:List V} {vs:List Value},eX ⟨#[],λ_ _=>False,nom⟩ cs vs->eX C cs vs:=by intro cs vs h;exact EC (C:=⟨#[],λ_ _=>False,nom⟩) ⟨λ_ _ h=>h.elim,λ_ _ h=>h.elim,λ_ _ h=>by cases h⟩ h
theorem a5Y(H:FxOk X)(R:Rel X (CB*q) (CB*q+CB) S m ok a w)(ho:o.op= .alloc t):(aP X.E q o).post S (λ_ S' =>gI X (CB*q) (CB*q+CB) o a w m ok S'):=by
 unfold aP;simp only[ho];refine jF H λi hi=>bi λhz=>?_;obtain⟨inf,h1,h2,h3,h4,h5⟩:=hi.info;obtain⟨z,hz1,hz2⟩:=h4 (fC hz);have hex:(execOp a.eval o).run X.P w= .ok (.value (.pointer (some ⟨w.heap.size,0,none⟩))) (w.alloc (.cells z.cells t)):=by simp[execOp,ho,Instr.alloc,zeroValue,typeInfo,h1,hz1,newVar,newRow]
 unfold b6X;split
 .rename_i hz0;rw[hz0]at hz2;obtain⟨a0,r1,e1,g1,_,v0,r2,rfl,g2,_,g3⟩:=hz2;simp only[eX]at g3;subst g3;refine Gg (l:=.st w.heap.size) (obj:=.cells z.cells t) H R A8 (by simp[P9]) (λhn hc=>?_) ⟨w.heap.size,A8,rfl⟩ hex;refine⟨w.heap.size,a0,v0,A8,?_,.inl g1,g2⟩;have:=heap_alloc_new w (.cells z.cells t);rw[show z.cells=#[a0,v0]from Array.toList_inj.1 e1]at this ⊢;exact this
 .refine Gg (l:=.st w.heap.size) (obj:=.cells z.cells t) H R A8 (by simp[P9]) (λhn hc=>?_) ⟨w.heap.size,A8,rfl⟩ hex;exact⟨w.heap.size,z.cells,t,A8,heap_alloc_new w _,Nw hz2⟩
theorem b2n(H:FxOk X)(R:Rel X (CB*q) (CB*q+CB) S m ok a w){x:Operand}(ho:o.op= .box t x):(aP X.E q o).post S (λ_ S' =>gI X (CB*q) (CB*q+CB) o a w m ok S'):=by
 unfold aP;simp only[ho];refine Z8 R λu hu=>rf hu λcs hcs=>?_;refine Gg (l:=.st w.heap.size) (obj:=.cells (a.eval x).cells t) H R A8 (by simp[P9]) (λhn hc=>?_) ⟨w.heap.size,A8,rfl⟩ ?_
 .exact⟨w.heap.size,(a.eval x).cells,t,A8,heap_alloc_new w _,EC (R.le_new hn hc) hcs⟩
 .simp[execOp,ho,Instr.box,newVar,newRow]
end
end Go.GP
namespace Go.GP
variable {α:Type}{us:List α}{L:List α}{p:Nat}
theorem qy(h:p+us.length<=L.length)(i:Nat):
  (aC p us L)[i]? =if i<p then L[i]? else if i<p+us.length then us[i -p]? else L[i]?:=by
 unfold aC;rw[E5];by_cases h1:i<p
 .rw[if_pos h1,U4 F5,U7,if_pos h1]
 .rw[if_neg h1,I8 F5];have e:(L.take p).length=p:=by simp;omega
  rw[e];by_cases h2:i<p+us.length
  .rw[if_pos h2,U4 o5]
  .rw[if_neg h2,I8 o5,S9];congr 1;omega
theorem tq(h:p+us.length<=L.length):(aC p us L).length=L.length:=by unfold aC;simp;omega
variable {b:Nat}{n:Nat}
theorem a2p(h:p+us.length<=L.length)(hd:b+n<=p\/p+us.length<=b):((aC p us L).drop b).take n=(L.drop b).take n:=by
 apply bI;intro i;rw[U7,U7];split
 .rw[S9,S9,qy h];rcases hd with hd|hd
  .rw[if_pos o5]
  .rw[if_neg o5,if_neg o5]
 .rfl
variable {off:Nat}
theorem Lj(h:b+n<=L.length)(ho:off+us.length<=n):((aC (b+off) us L).drop b).take n=aC off us ((L.drop b).take n):=by
 have hl:((L.drop b).take n).length=n:=by simp;omega
 apply bI;intro i;rw[U7,qy (by rw[hl];exact ho)];by_cases hi:i<n
 .rw[if_pos hi,S9,qy o5,U7,if_pos hi,S9];by_cases h1:i<off
  .rw[if_pos o5,if_pos h1]
  .rw[if_neg o5,if_neg h1];by_cases h2:i<off+us.length
   .rw[if_pos o5,if_pos h2];congr 1;omega
   .rw[if_neg o5,if_neg h2]
 .rw[if_neg hi,if_neg o5,if_neg o5,U7,if_neg hi]
variable {blk:Nat}
theorem Kq{w:World}{c:Array Value}{T:TypeId}{f:Nat×Nat}(hb:w.heap[blk]? =some (.cells c T f))(L:List Value)(off n:Nat)(h:off+n<=L.length):
  bZ (w.setRow blk L.toArray).heap blk off n=some ((L.drop off).take n):=by
 rw[ik (setRow_heap w blk c L.toArray T f hb) off n (by simpa using h)]
theorem a5m{a b:Nat}(h:a<b):Nat.blt a b=true:=by unfold Nat.blt;exact Nat.ble_eq_true_of_le h
theorem a5l{a b:Nat}(h:¬a<b):Nat.blt a b=false:=by
 cases e:Nat.blt a b
 .rfl
 .exact absurd (Gx e) h
theorem uX{α:Type} :∀{Os:List (List α)} {i:Nat} {O1 P O2:List α},Os[i]? =some (O1++P++O2)->Os.flatten.Perm ((Os.set i (O1++O2)).flatten++P)
 |[],i,_,_,_,h=>by simp at h|A::Os,0,O1,P,O2,h=>by simp at h;subst h;simp only[List.set_cons_zero,List.flatten_cons,E5];refine oH O1 ?_;have:=(iC (l₁:=P) (l₂:=O2++Os.flatten));simpa using this|A::Os,i+1,O1,P,O2,h=>by simp at h;simp only[List.set_cons_succ,List.flatten_cons,E5];exact oH A (uX (by simpa using h))
variable {Op:List Nat}{idx:Nat}{t:TypeId}{i:Nat}{k:Option Nat}{md:M}{xs:List md.den}{q:Nat}{x:Operand}{bx:Nat}
section
variable {X:Fx} {cl ch:Nat} {S:Sm} {m:Mp} {ok:Nat->Ty->Prop} {a:Act} {w:World} {o:Oper}
theorem b2r{h h' :Array Obj}{ok:Nat->Ty->Prop}{m:Mp}(k:∀b t,ok b t->h'[b]? =h[b]?){cs:List V}{vs:List Value}(hr:eX ⟨h,ok,m⟩ cs vs):eX ⟨h',ok,m⟩ cs vs:=
 EC (C:=⟨h,ok,m⟩) (D:=⟨h',ok,m⟩) ⟨λ_ _ h=>h,k,λ_ _ h=>h⟩ hr
theorem Nq{α:Type}{Q:α->Sm->Prop}{S:Sm}{h:Array Obj}{ok:Nat->Ty->Prop} :∀(md:M) (off:Nat) {x:md.den} {es:List Value} {O:List Nat} {K:V->Cmd α} (hr:nP h ok md none x es O)
  (hK:∀v l ks u O1 Op O2,O=O1++Op++O2->nP h ok md (some off) x es (O1++O2)->es[off]? =some u->l.view none u->
   (∀mp n,BD ⟨h,ok,kU mp n l ks⟩ n v/\P9 (kU mp n l ks) n v=Op/\kU mp n l ks n=some l)->v≠.undef->(K v).post S Q),
  (UT md off x K .fail).post S Q
 | .own t,off,x,es,O,K,hr,hK=>by unfold UT;refine bi λhb=>?_;have:=fC hb;subst this;obtain⟨l,v,rfl,hv,ha,rfl⟩:=uH.1 hr;refine hK _ l [] v [] l.blks [] A8 ⟨v,rfl,kG hv,rfl⟩ rfl hv (λmp n=>⟨⟨l,A8,FD ha⟩,?_,A8⟩) A8;cases l<;>first|(simp[P9,Loc.blks];done)|cases ha
 | .owns md,off,x,es,O,K,hr,hK=>by unfold UT;refine bi λhb=>?_;have:=fC hb;subst this;obtain⟨he,l,v,Os,rfl,hv,ha,rfl⟩:=xW.1 hr;refine hK _ l Os.flatten v [] (l.blks++Os.flatten) [] A8 ⟨v,rfl,kG hv,rfl⟩ rfl hv (λmp n=>⟨⟨he,l,Os,A8,⟨ha,trivial⟩,A8⟩,?_,A8⟩) A8;cases l<;>first|(simp[P9,Loc.blks];done)|cases ha
 | .pair p q,off,x,es,O,K,hr,hK=>by
  unfold UT;obtain⟨c,d,O1,O2,rfl,rfl,h1,h2⟩:=hr;have hc:=aW h1;by_cases hlt:off<p.size
  .have hb:Nat.blt off p.size=true:=a5m hlt;simp only[hb,cond_true];refine Nq p off h1 λv l ks u A Op B e1 e2 e3 e4 e5 e6=>?_;refine hK v l ks u A Op (B++O2) (by subst e1;simp) ⟨c,d,A++B,O2,rfl,A8,?_,?_⟩ (by rw[U4 (by rw[hc];exact hlt)];exact e3) e4 e5 e6
   .simp only[hlt,if_true];exact e2
   .simp only[hlt,if_true];exact h2
  .have hb:Nat.blt off p.size=false:=a5l hlt;simp only[hb,cond_false];refine Nq q (off -p.size) h2 λv l ks u A Op B e1 e2 e3 e4 e5 e6=>?_;refine hK v l ks u (O1++A) Op B (by subst e1;simp) ⟨c,d,O1,A++B,rfl,A8,?_,?_⟩ (by rw[I8 o5,hc];exact e3) e4 e5 e6
   .simp only[hlt,if_false];exact h1
   .simp only[hlt,if_false];exact e2
 | .dat _,_,_,_,_,_,_,_=>trivial| .unit,_,_,_,_,_,_,_=>trivial| .box _,_,_,_,_,_,_,_=>trivial| .ownb _,_,_,_,_,_,_,_=>trivial| .cell _,_,_,_,_,_,_,_=>trivial| .fr _,_,_,_,_,_,_,_=>trivial| .sbx _ _,_,_,_,_,_,_,_=>trivial| .lp _,_,_,_,_,_,_,_=>trivial| .dv ..,_,_,_,_,_,_,_=>trivial| .sit,_,_,_,_,_,_,_=>trivial| .rp _,_,_,_,_,_,_,_=>trivial| .fn _ _,_,_,_,_,_,_,_=>trivial| .ifc _ _,_,_,_,_,_,_,_=>trivial
def TA(h:Array Obj)(ok:Nat->Ty->Prop)(v:V)(u:Value)(Op:List Nat):Prop:=
 (v= .nl/\u= .slice none 0 0/\Op=[])\/(∃t ys l,v= .barr t ys/\l.view none u/\arrOk ⟨h,ok,nom⟩ t ys l/\Op=l.blks)\/
 (∃md ys l Os,v= .barrs md ys none/\md.el=true/\l.view none u/\Aw h md.size (λ_ x es O=>nP h ok md none x es O) ys Os l/\Op=l.blks++Os.flatten)
theorem TA.one{h:Array Obj}{v:V}{u:Value}(k:TA h ok v u Op):u.oneCell' =true:=by
 rcases k with⟨_,rfl,_⟩|⟨_,_,l,_,hv,_⟩|⟨_,_,l,_,_,_,hv,_⟩
 .rfl
 .exact kG hv
 .exact kG hv
theorem KT{α:Type}{Q:α->Sm->Prop}{S:Sm}{h:Array Obj}{ok:Nat->Ty->Prop}{v:V}{u:Value}{Op:List Nat}(hp:TA h ok v u Op):∀(md:M) (off:Nat) {ho:Option Nat} {x:md.den} {es:List Value} {O:List Nat} {K:md.den->Cmd α}
  (hr:nP h ok md ho x es O) (hh:ho=none\/ho=some off) (hel:md.el=true)
  (hK:∀y O1 Old O2,O=O1++Old++O2->nP h ok md none y (es.set off u) (O1++Op++O2)->off<es.length->(K y).post S Q),
  (Yg md off v x K .fail).post S Q
 | .own t,off,ho,x,es,O,K,hr,hh,hel,hK=>by
  unfold Yg;refine bi λhb=>?_;have:=fC hb;subst this;obtain⟨v0,rfl,_,_⟩:=hr;rcases hp with⟨rfl,rfl,rfl⟩|⟨t',ys,l,rfl,hv,ha,rfl⟩|⟨md',ys,l,Os,rfl,_,hv,ha,rfl⟩
  .have ht:t.isEnt=false:=by simpa[M.el]using hel
   simp only[ht,cond_false];exact hK [] [] O [] A8 ⟨_,rfl,rfl,.nil,rfl,⟨rfl,ht⟩,rfl⟩ A8
  .simp only;refine dY λe=>?_;subst e;exact hK _ [] O [] A8 ⟨u,rfl,kG hv,l,hv,ha,A8⟩ A8
  .trivial
 | .owns md,off,ho,x,es,O,K,hr,hh,hel,hK=>by
  unfold Yg;refine bi λhb=>?_;have:=fC hb;subst this;obtain⟨v0,rfl,_,_⟩:=hr;rcases hp with⟨rfl,rfl,rfl⟩|⟨t',ys,l,rfl,hv,ha,rfl⟩|⟨md',ys,l,Os,rfl,he,hv,ha,rfl⟩
  .exact hK [] [] O [] A8 ⟨_,rfl,rfl,by simpa[M.el]using hel,.nil,[],rfl,⟨rfl,rfl⟩,rfl⟩ A8
  .trivial
  .simp only;refine TP λe=>?_;subst e;exact hK _ [] O [] A8 ⟨u,rfl,kG hv,he,l,Os,hv,ha,A8⟩ A8
 | .pair p q,off,ho,x,es,O,K,hr,hh,hel,hK=>by
  unfold Yg;obtain⟨c,d,O1,O2,rfl,rfl,h1,h2⟩:=hr;have hc:=aW h1;have hel' :p.el=true/\q.el=true:=by simpa[M.el]using hel
  by_cases hlt:off<p.size
  .have hb:Nat.blt off p.size=true:=a5m hlt;simp only[hb,cond_true];have h2' :nP h ok q none x.2 d O2:=by
    rcases hh with rfl|rfl
    .exact h2
    .simpa only[hlt,if_true]using h2
   refine KT hp p off h1 (by rcases hh with rfl|rfl<;>first|exact .inl rfl|(right;simp only[hlt,if_true])) hel'.1 λy A Old B e1 e2 e3=>?_;refine hK _ A Old (B++O2) (by subst e1;simp) ⟨c.set off u,d,A++Op++B,O2,?_,A8,e2,h2'⟩ F5;rw[List.set_append_left _ _ o5]
  .have hb:Nat.blt off p.size=false:=a5l hlt;simp only[hb,cond_false];have h1' :nP h ok p none x.1 c O1:=by
    rcases hh with rfl|rfl
    .exact h1
    .simpa only[hlt,if_false]using h1
   refine KT hp q (off -p.size) h2 (by rcases hh with rfl|rfl<;>first|exact .inl rfl|(right;simp only[hlt,if_false])) hel'.2 λy A Old B e1 e2 e3=>?_;refine hK _ (O1++A) Old B (by subst e1;simp) ⟨c,d.set (off -p.size) u,O1,A++Op++B,?_,A8,h1',e2⟩ F5;rw[oJ _ _ o5,hc]
 | .dat _,_,_,_,_,_,_,_,_,_,_=>trivial| .unit,_,_,_,_,_,_,_,_,_,_=>trivial| .box _,_,_,_,_,_,_,_,_,_,_=>trivial| .ownb _,_,_,_,_,_,_,_,_,_,_=>trivial| .cell _,_,_,_,_,_,_,_,_,_,_=>trivial| .fr _,_,_,_,_,_,_,_,_,_,_=>trivial| .sbx _ _,_,_,_,_,_,_,_,_,_,_=>trivial| .lp _,_,_,_,_,_,_,_,_,_,_=>trivial| .dv ..,_,_,_,_,_,_,_,_,_,_=>trivial| .sit,_,_,_,_,_,_,_,_,_,_=>trivial| .rp _,_,_,_,_,_,_,_,_,_,_=>trivial| .fn _ _,_,_,_,_,_,_,_,_,_,_=>trivial| .ifc _ _,_,_,_,_,_,_,_,_,_,_=>trivial
theorem EL{α:Type}{Q:α->Sm->Prop}{C:Cx}{ln:Ty->Bool} :∀(t:Ty) {cs:List V} {K:t.den->List V->Cmd α} {S:Sm} {vs:List Value} (hf:t.flat=true) (hL:eX C cs vs)
  (hK:∀x r us us',vs=us++us' ->(∀h ok,jJ h ok t x us)->eX C r us' ->(K x r).post S Q),(kz ln t cs K).post S Q
 | .bool,cs,K,S,vs,hf,hL,hK=>by
  unfold kz;split
  .obtain⟨v,r,rfl,h1,_,h3⟩:=hL;exact hK _ _ [v] r rfl (λ_ _=>by simp only[sQ]at h1;simp[jJ,h1]) h3
  .trivial
 | .int k,cs,K,S,vs,hf,hL,hK=>by
  unfold kz;split
  .obtain⟨v,r,rfl,h1,_,h3⟩:=hL;refine bC λe=>?_;have e:=of_decide_eq_true e;subst e;exact hK _ _ [v] r rfl (λ_ _=>by simp only[sQ]at h1;simp[jJ,h1]) h3
  .trivial
 | .str,cs,K,S,vs,hf,hL,hK=>by
  unfold kz;split
  .obtain⟨v,r,rfl,h1,_,h3⟩:=hL;exact hK _ _ [v] r rfl (λ_ _=>by simp only[sQ]at h1;simp[jJ,h1]) h3
  .trivial
 | .unit,cs,K,S,vs,hf,hL,hK=>by unfold kz;exact hK _ _ [] vs rfl (λ_ _=>rfl) hL
 | .prod p q,cs,K,S,vs,hf,hL,hK=>by unfold kz;simp[Ty.flat]at hf;refine EL p hf.1 hL λx r us us' e1 h1 l1=>?_;refine EL q hf.2 l1 λy r' vs2 vs2' e2 h2 l2=>?_;subst e1;subst e2;exact hK _ _ (us++vs2) vs2' A8 (λh ok=>⟨us,vs2,rfl,h1 h ok,h2 h ok⟩) l2| .sl t,cs,K,S,vs,hf,hL,hK=>by simp[Ty.flat]at hf
theorem X_{us c d:List α}(h:off+us.length<=c.length):aC off us (c++d)=aC off us c++d:=by
 apply bI;intro i;have hs:=tq h;rw[qy F5];by_cases hi:i<c.length
 .rw[U4 hi,U4 (l₁:=aC off us c) (by rw[hs];exact hi),qy h]
 .rw[I8 o5,I8 (l₁:=aC off us c) (by rw[hs];omega),hs,if_neg o5,if_neg o5]
theorem YU{us c d:List α}(h:(off -c.length)+us.length<=d.length)(h' :c.length<=off):aC off us (c++d)=c++aC (off -c.length) us d:=by
 apply bI;intro i;rw[qy F5];by_cases hi:i<c.length
 .rw[U4 hi,if_pos o5,U4 hi]
 .rw[I8 o5,I8 (l₂:=aC (off -c.length) us d) o5,qy h];by_cases h1:i<off
  .simp only[h1,if_true,show i -c.length<off -c.length by omega]
  .by_cases h2:i<off+us.length
   .simp only[h1,if_false,h2,if_true,show ¬(i -c.length<off -c.length) by omega,show i -c.length<off -c.length+us.length by omega];congr 1;omega
   .simp only[h1,if_false,h2,show ¬(i -c.length<off -c.length) by omega,show ¬(i -c.length<off -c.length+us.length) by omega]
theorem PI{α:Type}{Q:α->Sm->Prop}{h:Array Obj}{ok:Nat->Ty->Prop}{m:Mp} :∀(md:M) (off:Nat) {ho:Option Nat} {x:md.den} {es us:List Value} {vs:List V} {O:List Nat} {K:md.den->Cmd α} {S:Sm}
  (hr:nP h ok md ho x es O) (hv:eX ⟨h,ok,m⟩ vs us)
  (hK:∀y,off+us.length<=es.length->nP h ok md ho y (aC off us es) O->(K y).post S Q),(a4a md off vs x K).post S Q
 | .dat t,off,ho,x,es,us,vs,O,K,S,hr,hv,hK=>by
  unfold a4a;refine bC λhf=>zJ _ _ _ λhle=>?_;rw[lw]at hle;obtain⟨hr,rfl⟩:=hr;have hl:=dJ hr;have hlv:=je hv;have hnew:=Ak (off:=off) hv (nZ (C:=⟨h,ok,m⟩) hr);refine EL t hf hnew λy q vs1 vs2 e1 h1 l1=>?_;cases q with
  |cons _ _=>trivial|nil=>
  simp only[eX]at l1;subst l1;simp only[H6]at e1;subst e1;exact hK y o5 ⟨h1 _ _,rfl⟩
 | .pair p q,off,ho,x,es,us,vs,O,K,S,hr,hv,hK=>by
  unfold a4a;obtain⟨c,d,O1,O2,rfl,rfl,h1,h2⟩:=hr;have hc:=aW h1;by_cases hlt:off<p.size
  .have hb:Nat.blt off p.size=true:=a5m hlt;simp only[hb,cond_true];refine PI p off h1 hv λy hle e2=>?_;exact hK _ F5 ⟨_,d,O1,O2,X_ hle,rfl,e2,h2⟩
  .have hb:Nat.blt off p.size=false:=a5l hlt;simp only[hb,cond_false];refine PI q (off -p.size) h2 hv λy hle e2=>?_;refine hK _ F5 ⟨c,_,O1,O2,?_,rfl,h1,e2⟩;rw[YU o5 o5,hc]
 | .own _,_,_,_,_,_,_,_,_,_,_,_,_=>trivial| .owns _,_,_,_,_,_,_,_,_,_,_,_,_=>trivial| .unit,_,_,_,_,_,_,_,_,_,_,_,_=>trivial| .box _,_,_,_,_,_,_,_,_,_,_,_,_=>trivial| .ownb _,_,_,_,_,_,_,_,_,_,_,_,_=>trivial| .cell _,_,_,_,_,_,_,_,_,_,_,_,_=>trivial| .fr _,_,_,_,_,_,_,_,_,_,_,_,_=>trivial| .sbx _ _,_,_,_,_,_,_,_,_,_,_,_,_=>trivial| .lp _,_,_,_,_,_,_,_,_,_,_,_,_=>trivial| .dv ..,_,_,_,_,_,_,_,_,_,_,_,_=>trivial| .sit,_,_,_,_,_,_,_,_,_,_,_,_=>trivial| .rp _,_,_,_,_,_,_,_,_,_,_,_,_=>trivial| .fn _ _,_,_,_,_,_,_,_,_,_,_,_,_=>trivial| .ifc _ _,_,_,_,_,_,_,_,_,_,_,_,_=>trivial
theorem WX(i:Nat):We none i=none:=rfl
theorem MW{i o j:Nat}(h:j≠i):We (some (i,o,k)) j=none:=by simp[We,h]
theorem PU{i o:Nat} :We (some (i,o,k)) i=some o:=by simp[We]
theorem OI{C:Cx}{hole:Option (Nat×Nat×Option Nat)}{blk off len cap sz:Nat}{Os:List (List Nat)}(he:md.el=true)(hm:C.m n=some (.arr blk off len cap sz))
  (ha:Aw C.h md.size (λi x es O=>nP C.h C.ok md (We hole i) x es O) xs Os (.arr blk off len cap sz)) (hk:C.m.kid n=Os.flatten) (hh:Uu C md.size (.arr blk off len cap sz) hole):BD C n (.barrs md xs hole):=⟨he,_,Os,hm,⟨ha,hh⟩,hk⟩
theorem Js{j o2 idx off:Nat}(h:Yd (some (j,o2,k)) idx off=true):j=idx/\o2=off:=by
 simp only[Yd]at h;cases hb:Nat.beq o2 off<;>rw[hb]at h
 .cases h
 .exact⟨fC h,fC hb⟩
theorem a4s(H:FxOk X){S1:Sm}{m1:Mp}{ok1:Nat->Ty->Prop}{w0:World}(R:Rel X (CB*q) (CB*q+CB) S1 m1 ok1 a w)(hT:Tk X S1 m1 ok1 w Op)
  (hm:∀k l,m k=some l->m1 k=some l) (hok:∀b t,ok b t->ok1 b t) {v:V} {l:Loc} {ks:List Nat} {x:Value} (hv:v≠.undef)
  (ho:P9 (kU m1 (N7 q o.dst) l ks) (N7 q o.dst) v=Op) (hB:BD ⟨w.heap,ok1,kU m1 (N7 q o.dst) l ks⟩ (N7 q o.dst) v)
  (hx:l.view none x) {bx idx off:Nat} {md:M} {xs:List md.den} (hS:S1 (Y4+bx)= .barrs md xs (some (idx,off,none))) {blk o' len cap sz:Nat} (hmb:m1 bx=some (.arr blk o' len cap sz))
  (hc:bZ w.heap blk (o' +idx*md.size+off) 1=some [x]) (hsz:sz=md.size)
  (run:(execOp a.eval o).run X.P w0= .ok (.value x) w):
  (tH (N7 q o.dst) v (Cmd.set (Y4+bx) (.barrs md xs (some (idx,off,some (N7 q o.dst)))) (cO X.E o.dst (.own (N7 q o.dst) none)))).post S1 (λ_ S' =>gI X (CB*q) (CB*q+CB) o a w0 m ok S'):=by
 refine pK λhn=>?_;have key:∀n,n=N7 q o.dst->CB*q<=n->n<CB*q+CB->∃R2:Rel X (CB*q) (CB*q+CB) (upd (upd S1 (Y4+n) v) (Y4+bx) (.barrs md xs (some (idx,off,some n)))) (kU m1 n l ks) ok1 a w,∀k l',m k=some l' ->kU m1 n l ks k=some l' :=by
  rintro n rfl h1 h2;obtain⟨R',_,hm'⟩:=R.adopt (T:=[]) hn h1 hv (by simpa using hT) (λb h=>by rw[ho]at h;exact h) (by rw[ho];exact hT.nodup) hB;rw[Nat.max_eq_left o5]at R';have hne:bx≠N7 q o.dst:=λe=>by have:=R.fresh _ h1 hn;rw[←e,hmb]at this;cases this
  have hS' :upd S1 (Y4+N7 q o.dst) v (Y4+bx)= .barrs md xs (some (idx,off,none)):=by rw[aU _ _ o5];exact hS
  have hb:=R'.box bx;rw[hS']at hb;obtain⟨hel,l0,Os,hm0,⟨ha,_⟩,hk⟩:=hb;have hmb' :=hm' _ _ hmb;simp only at hm0;rw[hmb']at hm0;cases hm0;refine⟨R'.mod (by rw[hS'];rfl) A8 rfl rfl rfl rfl (λ_ _=>rfl) ⟨hel,_,Os,hmb',⟨?_,?_⟩,hk⟩,λk l' h=>hm' k l' (hm k l' h)⟩
  .exact DV (λ_ _=>rfl) (λi x es O _ hr=>hr) ha
  .exact⟨blk,o',len,cap,x,l,by rw[hsz],hc,ax _ _ _ _,hx⟩
 cases hd:o.dst with
 |none=>have hin:=qg H (q:=q) none (λt h=>by cases h);obtain⟨R2,hm2⟩:=key (N7 q none) (by rw[hd]) hin.1 o5;have:=qi (o:=o) H R2 (m0:=m) (ok0:=ok) hm2 hok (v:=.own (N7 q none) none) ⟨l,ax _ _ _ _,hx⟩ run;rw[hd]at this;exact this
 |some t=>unfold cO;refine fQ (bi λhb' =>?_);have hin:=qg H (q:=q) (some t) (λt' h=>by cases h;exact(zH hb').1);obtain⟨R2,hm2⟩:=key (N7 q (some t)) (by rw[hd]) hin.1 o5;have:=qi (o:=o) H R2 (m0:=m) (ok0:=ok) hm2 hok (v:=.own (N7 q (some t)) none) ⟨l,ax _ _ _ _,hx⟩ run;rw[hd]at this;unfold cO at this;simp only[hb',cond_true]at this;exact this
theorem b0e(H:FxOk X)(R:Rel X (CB*q) (CB*q+CB) S m ok a w)(ho:o.op= .load t x):(aP X.E q o).post S (λ_ S' =>gI X (CB*q) (CB*q+CB) o a w m ok S'):=by
 unfold aP;simp only[ho];refine Z8 R λp hp=>?_;have plain:(LW X.E t p λv=>cO X.E o.dst v).post S (λ_ S' =>gI X (CB*q) (CB*q+CB) o a w m ok S'):=by refine He H R hp λv u ad hv hx hr=>aB H R hv ?_;simp[execOp,ho,hx,Instr.loadAt,Instr.sureAddr,hr]
 unfold b1x;split
 .rename_i bx idx off;refine aI ?_;split
  .rename_i md xs hS;cases hown:md.ownAt off
   .simpa only[cond_false]using plain
   simp only[cond_true];refine jF H λi hi=>bC λhi1=>?_;simp only[A7,bH]at hi1;obtain⟨hsz,hagg⟩:=hi1;have hsz:=fC hsz;have hp' :=hp;obtain⟨blk,o',len,cap,sz,hm,hlt,hx⟩:=hp;obtain⟨hel,l,Os,hm',⟨ha,hho⟩,hk⟩:=R.own_barrs hS;simp only at hm;rw[hm]at hm';cases hm';cases Dc (match o.dst with|some d=>d|none=>Y4) X.E.tk<;>simp only[cond_true,cond_false]
   .refine BU (T:=[]) (.sl md.ty) R Tk.nil (cs:=[.own bx none]) (vs:=[.slice (some ⟨blk,o',none⟩) len cap]) ⟨_,_,rfl,⟨_,hm,rfl⟩,rfl,rfl⟩ λS1 ok1 _ _ us us' R1 T1 k1 s1 e1 h1 l1=>?_;refine He H R1 (Ld k1 hp') λv u ad hv hx hr=>qi H R1 (λ_ _ h=>h) k1 hv ?_;simp[execOp,ho,hx,Instr.loadAt,Instr.sureAddr,hr]
   .refine dI λe0 he0=>?_;obtain⟨rfl,rfl,h3,h7,c,T,hh,hs,hxs⟩:=ha;obtain⟨es,O,hO,he,hr⟩:=hxs idx e0 he0;refine Nq md off hr λv l2 ks u O1 Op O2 eO hr' hu hv hB hvu=>?_;refine fQ ?_;have hOs:Os.flatten.Perm ((Os.set idx (O1++O2)).flatten++Op):=uX (by rw[hO,eO]);have hown0:P9 m bx (S (Y4+bx))=blk::Os.flatten:=by simp[P9,hS,hm,hk]
    have hown1:P9 (BH m bx (Os.set idx (O1++O2)).flatten) bx (.barrs md xs (some (idx,off,none)))=blk::(Os.set idx (O1++O2)).flatten:=by simp[P9,hm]
    have hnd:=R.nd bx;rw[hown0]at hnd;have hperm:(blk::Os.flatten).Perm ((blk::(Os.set idx (O1++O2)).flatten)++Op):=by simpa using hOs.cons blk
    have hnd' :=U5.1 (hperm.nodup_iff.1 hnd);have hB1:BD ⟨w.heap,ok,BH m bx (Os.set idx (O1++O2)).flatten⟩ bx (.barrs md xs (some (idx,off,none))):=by
     refine OI (Os:=Os.set idx (O1++O2)) hel hm ⟨rfl,rfl,h3,by simp[h7],c,T,hh,hs,λj z hz=>?_⟩ A8 trivial;by_cases hj:j=idx
     .subst hj;rw[show xs[j]? =some e0 from he0]at hz;cases hz;refine⟨es,O1++O2,?_,he,by simp only[PU];exact hr'⟩;rw[P8,if_pos rfl,if_pos (by rw[h7];exact hlt)]
     .obtain⟨es2,O',hO2,he2,hr2⟩:=hxs j z hz;refine⟨es2,O',?_,he2,by simp only[MW hj];exact hr2⟩;rw[P8,if_neg (λe=>hj e.symm)];exact hO2
    obtain⟨R1,T1⟩:=R.modK (T:=[]) Tk.nil (n:=bx) (v:=.barrs md xs (some (idx,off,none))) (ks:=(Os.set idx (O1++O2)).flatten) (w' :=w) (T' :=Op) A8 (by rw[hown1];exact hnd'.1)
     (λb hb=> .inl (by rw[hown0];rw[hown1]at hb;exact hperm.mem_iff.2 (bg _ hb))) rfl rfl rfl rfl (λ_ _=>rfl) hB1 hnd'.2.1
     (λb hb=>⟨.inl (by rw[hown0];exact hperm.mem_iff.2 (fG _ hb)),λh=>hnd'.2.2 b (by rw[hown1]at h;exact h) b hb rfl⟩)
    obtain⟨hB2,hB3,hB4⟩:=hB (BH m bx (Os.set idx (O1++O2)).flatten) (N7 q o.dst);have hlt2:=(aK.1 hu);have hle:off+1<=md.size:=by have:=aW hr;have:=hlt2.1;omega
    have e:=xC he off i.size o5;have hr2:=uM hi w e;have h1:(es.drop off).take i.size=[u]:=by obtain⟨hlt3,rfl⟩:=hlt2;rw[hsz,dB hlt3];rfl
    refine a4s (ok:=ok) (m:=m) H R1 T1 (λ_ _ h=>h) (λ_ _ h=>h) hvu hB3 hB2 hv (by rw[jG]) hm (by rw[←h1,←hsz];exact e) rfl ?_;rw[h1,hagg]at hr2;simp[execOp,ho,hx,Instr.loadAt,Instr.sureAddr,hr2,Pm]
  .rename_i md xs i2 o2 n2 hS;cases hown:md.ownAt off
   .simpa only[cond_false]using plain
   simp only[cond_true];refine jF H λi hi=>bC λhi1=>⟨λhat=>?_,λ_=>trivial⟩;simp only[A7,bH]at hi1;obtain⟨hsz,hagg⟩:=hi1;have hsz:=fC hsz;obtain⟨e1,e2⟩:=Js hat
   subst e1;subst e2;obtain⟨blk,o',len,cap,sz,hm,hlt,hx⟩:=hp;obtain⟨hel,l,Os,hm',⟨ha,blk',off',len',cap',u,l',hl,hc,hmn,hvw⟩,hk⟩:=R.own_barrs hS;simp only at hm;rw[hm]at hm';cases hm';cases hl;have e:bZ w.heap blk (o' +i2*md.size+o2) i.size=some [u]:=by rw[hsz];exact hc
   have hr2:=uM hi w e;rw[hagg]at hr2;refine aB H R (v:=.own n2 none) (x:=u) ⟨l',hmn,hvw⟩ ?_;simp[execOp,ho,hx,Instr.loadAt,Instr.sureAddr,hr2,Pm]
  .exact plain
 .exact plain
theorem Ij{S' :Sm}{x y:Operand}{w' :World}{m' :Mp}{ok' :Nat->Ty->Prop}(ho:o.op= .store t x y)(hd:o.dst=none)(run:(Instr.storeAt t (a.eval x) (a.eval y)).run X.P w= .ok () w')
  (R:Rel X cl ch S' m' ok' a w') (hm:∀k l,m k=some l->m' k=some l) (hok:∀b t,ok b t->ok' b t):gI X cl ch o a w m ok S' :=by
 intro next Q hn
 unfold Oper.wp;have e:(execOp a.eval o).run X.P w= .ok .skip w' :=by simp[execOp,ho,run]
 rw[e,Oper.upon_skip,hd];exact hn m' ok' a w' R hm hok
theorem a2o{u:α}(h:off<L.length):aC off [u] L=L.set off u:=by
 apply bI;intro i;rw[qy F5,P8];by_cases h1:i=off
 .subst h1;rw[if_neg o5,if_pos A8,if_pos rfl,if_pos h];simp
 .by_cases h2:i<off
  .rw[if_pos h2,if_neg o5]
  .rw[if_neg h2,if_neg F5,if_neg o5]
theorem a3Y{u:Value}(h:u.oneCell' =true):u.cells.toList=[u]:=by cases u<;>simp[Value.oneCell',Value.cells]at*
theorem Vq{w:World}{blk o' sz len cap off idx:Nat}{c:Array Value}{T:TypeId}{f:Nat×Nat}(hh:w.heap[blk]? =some (.cells c T f))(hs:o' +cap*sz<=c.size)(hlc:len<=cap)(hlt:idx<len){us es:List Value}
  (he:bZ w.heap blk (o' +idx*sz) sz=some es) (hf:off+us.length<=sz):
  o' +idx*sz+off+us.length<=c.size/\(aC (o' +idx*sz+off) us c.toList).length=c.size/\
  bZ (w.setRow blk (aC (o' +idx*sz+off) us c.toList).toArray).heap blk (o' +idx*sz) sz=some (aC off us es)/\
  (∀j,j<len->j≠idx->bZ (w.setRow blk (aC (o' +idx*sz+off) us c.toList).toArray).heap blk (o' +j*sz) sz=bZ w.heap blk (o' +j*sz) sz):=by
 have hcap:(idx+1)*sz<=cap*sz:=G8 _ o5;rw[I9,Z7]at hcap;have hfit:o' +idx*sz+off+us.length<=c.size:=o5;have hcl:c.toList.length=c.size:=A8;have hsp:(aC (o' +idx*sz+off) us c.toList).length=c.size:=by rw[tq (by rw[hcl];exact hfit)];exact hcl
 refine⟨hfit,hsp,?_,λj hj hne=>?_⟩
 .rw[Kq hh _ _ _ (by rw[hsp];omega),Lj (by rw[hcl];omega) o5];obtain⟨c2,T2,f2,hb2,hn2,rfl⟩:=oz he;rw[hh]at hb2;cases hb2;rfl
 .have hcap' :(j+1)*sz<=cap*sz:=G8 _ o5;rw[I9,Z7]at hcap';rw[Kq hh _ _ _ (by rw[hsp];omega),ik hh _ _ o5,a2p (by rw[hcl];exact hfit)];rcases Nat.lt_or_gt_of_ne hne with hlt'|hgt
  .left;have:(j+1)*sz<=idx*sz:=G8 _ o5;rw[I9,Z7]at this;omega
  .right;have:(idx+1)*sz<=j*sz:=G8 _ o5;rw[I9,Z7]at this;omega
theorem RY{Q:Unit->Sm->Prop}(R:Rel X cl ch S m ok a w)(hT:Tk X S m ok w Op){i:TI}(hi:TiOk X.P t i)(h1:i.size=1){hole:Option (Nat×Nat×Option Nat)}
  (hS:S (Y4+bx)= .barrs md xs hole) {blk o' len cap sz:Nat} (hm:m bx=some (.arr blk o' len cap sz)) {v:V} {u:Value} (hp:TA w.heap ok v u Op)
  (hK:∀S' m' w',Rel X cl ch S' m' ok a w' ->(∀k l,m k=some l->m' k=some l)->(storeVar t ⟨blk,o' +idx*sz+off,none⟩ u).run X.P w= .ok () w' ->Q () S'):
  (YV bx idx off md xs hole v (.ret ())).post S Q:=by
 unfold YV;refine⟨λhb=>?_,λ_=>trivial⟩;refine dI λe0 he0=>?_;have he0' :xs[idx]? =some e0:=he0;obtain⟨hel,l,Os,hm',⟨ha,hho⟩,hk⟩:=R.own_barrs hS;rw[hm]at hm';cases hm';obtain⟨rfl,rfl,h3,h7,c,T,hh,hs,hxs⟩:=ha;obtain⟨es,O,hO,he,hr⟩:=hxs idx e0 he0';have hho:We hole idx=none\/We hole idx=some off:=by
  rcases hole with _|⟨j,o2,o3⟩
  .exact .inl rfl
  .obtain⟨e1,e2⟩:=Js hb;subst e1;subst e2;exact .inr PU
 have hho' :∀j,j≠idx->We hole j=none:=λj hj=>by
  rcases hole with _|⟨j',o2,o3⟩
  .rfl
  .obtain⟨e1,_⟩:=Js hb;subst e1;exact MW hj
 refine KT hp md off hr hho hel λy O1 Old O2 eO hr' hoff=>fQ ?_;have hlt:idx<xs.length:=(aK.1 he0').1;have hes:es.length=md.size:=aW hr;have hu1:=hp.one;have huc:=a3Y hu1;obtain⟨hfit,hsp,hnew,hold⟩:=Vq (us:=[u]) (off:=off) hh hs h3 hlt he F5;have run:=BG hi w (off:=o' +idx*md.size+off) hh (.inl rfl) (v:=u) (by have:=congrArg List.length huc;simp at this;omega) (by simpa[h1]using hfit) (by rw[huc];simp[hu1]);rw[huc]at run;generalize hw' :w.setRow blk (aC (o' +idx*md.size+off) [u] c.toList).toArray=w' at run hnew hold;have hrow:w'.heap[blk]? =some (.cells (aC (o' +idx*md.size+off) [u] c.toList).toArray T (0,0)):=by subst hw';exact setRow_heap w blk c _ T (0,0) hh
 have hoth:∀b,b≠blk->w'.heap[b]? =w.heap[b]?:=λb hb=>by subst hw';exact setRow_other w blk b _ hb
 have hsize:w'.heap.size=w.heap.size:=by subst hw';simp
 have hos:w'.os=w.os:=by subst hw';rfl
 have htp:w'.tape=w.tape:=by subst hw';rfl
 have hout:w'.output=w.output:=by subst hw';rfl
 have hO1:Os.flatten.Perm ((Os.set idx (O1++O2)).flatten++Old):=uX (by rw[hO,eO]);have hO2:(Os.set idx (O1++Op++O2)).flatten.Perm ((Os.set idx (O1++O2)).flatten++Op):=by have:=uX (Os:=Os.set idx (O1++Op++O2)) (i:=idx) (O1:=O1) (P:=Op) (O2:=O2) (by rw[P8,if_pos rfl,if_pos (by rw[h7];exact hlt)]);rwa[List.set_set]at this
 have hown0:P9 m bx (S (Y4+bx))=blk::Os.flatten:=by simp[P9,hS,hm,hk]
 have hown1:P9 (BH m bx (Os.set idx (O1++Op++O2)).flatten) bx (.barrs md (dW xs idx y) none)=blk::(Os.set idx (O1++Op++O2)).flatten:=by simp[P9,hm]
 have hnd:=R.nd bx;rw[hown0]at hnd;have hnd0:=aj.1 hnd;have hndA:=U5.1 (hO1.nodup_iff.1 hnd0.2);have hfreeOp:∀b∈Op,b∉blk::Os.flatten:=λb hb h=>(hT.free b hb).2.2.2 bx (by rw[hown0];exact h);have hsubA:∀b∈(Os.set idx (O1++O2)).flatten,b∈Os.flatten:=λb hb=>hO1.mem_iff.2 (bg _ hb);have hneO:∀b∈Os.flatten,b≠blk:=λb hb e=>hnd0.1 (e▸hb);have hneP:∀b∈Op,b≠blk:=λb hb e=>hfreeOp b hb (by simp[e]);have hkeep:∀b t,ok b t->w'.heap[b]? =w.heap[b]?:=λb t hb=>hoth b (λe=>(R.sep bx blk (by rw[hown0];simp)).1 t (e▸hb));have hB:BD ⟨w'.heap,ok,BH m bx (Os.set idx (O1++Op++O2)).flatten⟩ bx (.barrs md (dW xs idx y) none):=by
  refine OI (Os:=Os.set idx (O1++Op++O2)) hel hm ⟨rfl,by simp[dW],h3,by simp[h7,dW],_,T,hrow,by simp[hsp];exact hs,λj z hz=>?_⟩ A8 trivial;unfold dW at hz;rw[P8]at hz;split at hz
  .rename_i hj;subst hj;cases hz;refine⟨_,O1++Op++O2,by rw[P8,if_pos rfl,if_pos (by rw[h7];exact hlt)],hnew,?_⟩;rw[a2o o5];refine ji (λ_ _ h=>h) hkeep (λb hb=>hoth b ?_) hr';rcases N8.1 hb with hb|hb
   .rcases N8.1 hb with hb|hb
    .exact hneO b (bW.2 ⟨O,rH hO,by rw[eO];simp[hb]⟩)
    .exact hneP b hb
   .exact hneO b (bW.2 ⟨O,rH hO,by rw[eO];simp[hb]⟩)
  .rename_i hj;obtain⟨es2,O',hO2',he2,hr2⟩:=hxs j z hz;refine⟨es2,O',by rw[P8,if_neg hj];exact hO2',by rw[←he2];exact hold j (aK.1 hz).1 (λe=>hj e.symm),?_⟩;simp only[WX];rw[hho' j (λe=>hj e.symm)]at hr2;exact ji (λ_ _ h=>h) hkeep (λb hb=>hoth b (hneO b (bW.2 ⟨O',rH hO2',hb⟩))) hr2
 have hmod:=R.modK hT (n:=bx) (v:=.barrs md (dW xs idx y) none) (ks:=(Os.set idx (O1++Op++O2)).flatten) (w' :=w') (T' :=[]) A8
  (by
   rw[hown1];refine aj.2 ⟨λh=>?_,hO2.nodup_iff.2 (U5.2 ⟨hndA.1,hT.nodup,λx hx z hz e=>?_⟩)⟩
   .rcases N8.1 (hO2.mem_iff.1 h)with h|h
    .exact hnd0.1 (hsubA _ h)
    .exact hneP _ h rfl
   .subst e;exact hfreeOp x hz (by simp[hsubA x hx]))
  (λb hb=>by
   rw[hown1]at hb;rw[hown0];rcases D6.1 hb with hb|hb
   .exact .inl (by simp[hb])
   .rcases N8.1 (hO2.mem_iff.1 hb)with h|h
    .exact .inl (by simp[hsubA _ h])
    .exact .inr h)
  hos htp hout hsize (λb hb=>hoth b (λe=>hb (by rw[hown0,e];simp))) hB cZ (λb hb=>by cases hb)
 exact hK _ _ w' hmod.1 (λ_ _ h=>h) run
theorem a7R{l:List α}{u:α}(h:l[i]? =some u):l.set i u=l:=by
 apply bI;intro j;rw[P8];split
 .rename_i e;subst e;have:=(aK.1 h).1;simp[this,←h]
 .rfl
theorem a0P{Q:α->Sm->Prop}{K:Cmd α}(R:Rel X cl ch S m ok a w){T Op:List Nat}(hT:Tk X S m ok w (T++Op)){k0:Option Nat}
  (hS:S (Y4+bx)= .barrs md xs (some (idx,off,k0))) {blk o' len cap sz:Nat} (hm:m bx=some (.arr blk o' len cap sz)) {v:V} {u:Value} (hp:TA w.heap ok v u Op)
  (hu:bZ w.heap blk (o' +idx*sz+off) 1=some [u])
  (hK:∀S' m',Rel X cl ch S' m' ok a w->Tk X S' m' ok w T->(∀k l,m k=some l->m' k=some l)->K.post S' Q):
  (Cmd.opt (Y5 xs idx) λx=>Yg md off v x (λy=>Cmd.set (Y4+bx) (.barrs md (dW xs idx y) none) K) .fail).post S Q:=by
 refine dI λe0 he0=>?_;have he0' :xs[idx]? =some e0:=he0;obtain⟨hel,l,Os,hm',⟨ha,hho⟩,hk⟩:=R.own_barrs hS;rw[hm]at hm';cases hm';obtain⟨rfl,rfl,h3,h7,c,T0,hh,hs,hxs⟩:=ha;obtain⟨es,O,hO,he,hr⟩:=hxs idx e0 he0';rw[PU]at hr;refine KT hp md off hr (.inr rfl) hel λy O1 Old O2 eO hr' hoff=>fQ ?_;have hlt:idx<xs.length:=(aK.1 he0').1;have hes:es.length=md.size:=aW hr;have hnd1:=U5.1 hT.nodup;have hTo:Tk X S m ok w Op:=⟨hnd1.2.1,λb hb=>hT.free b (fG _ hb)⟩;have heu:es[off]? =some u:=by obtain⟨c2,T2,f2,hb2,hn2,e2⟩:=oz he;obtain⟨c3,T3,f3,hb3,hn3,e3⟩:=oz hu;rw[hh]at hb2 hb3;cases hb2;cases hb3;have h1:=congrArg (λl=>l[0]?) e3;simp only[bY,aN (show 0<1 by omega),S9,aQ]at h1;rw[e2,aN o5,S9];exact h1.symm
 rw[a7R heu]at hr';have hO1:Os.flatten.Perm ((Os.set idx (O1++O2)).flatten++Old):=uX (by rw[hO,eO]);have hO2:(Os.set idx (O1++Op++O2)).flatten.Perm ((Os.set idx (O1++O2)).flatten++Op):=by have:=uX (Os:=Os.set idx (O1++Op++O2)) (i:=idx) (O1:=O1) (P:=Op) (O2:=O2) (by rw[P8,if_pos rfl,if_pos (by rw[h7];exact hlt)]);rwa[List.set_set]at this
 have hown0:P9 m bx (S (Y4+bx))=blk::Os.flatten:=by simp[P9,hS,hm,hk]
 have hown1:P9 (BH m bx (Os.set idx (O1++Op++O2)).flatten) bx (.barrs md (dW xs idx y) none)=blk::(Os.set idx (O1++Op++O2)).flatten:=by simp[P9,hm]
 have hnd:=R.nd bx;rw[hown0]at hnd;have hnd0:=aj.1 hnd;have hndA:=U5.1 (hO1.nodup_iff.1 hnd0.2);have hfreeOp:∀b∈Op,b∉blk::Os.flatten:=λb hb h=>(hTo.free b hb).2.2.2 bx (by rw[hown0];exact h);have hsubA:∀b∈(Os.set idx (O1++O2)).flatten,b∈Os.flatten:=λb hb=>hO1.mem_iff.2 (bg _ hb);have hneP:∀b∈Op,b≠blk:=λb hb e=>hfreeOp b hb (by simp[e]);have hB:BD ⟨w.heap,ok,BH m bx (Os.set idx (O1++Op++O2)).flatten⟩ bx (.barrs md (dW xs idx y) none):=by
  refine OI (Os:=Os.set idx (O1++Op++O2)) hel hm ⟨rfl,by simp[dW],h3,by simp[h7,dW],c,T0,hh,hs,λj z hz=>?_⟩ A8 trivial;unfold dW at hz;rw[P8]at hz;split at hz
  .rename_i hj;subst hj;cases hz;exact⟨es,O1++Op++O2,by rw[P8,if_pos rfl,if_pos (by rw[h7];exact hlt)],he,hr'⟩
  .rename_i hj;obtain⟨es2,O',hO2',he2,hr2⟩:=hxs j z hz;refine⟨es2,O',by rw[P8,if_neg hj];exact hO2',he2,?_⟩;simp only[WX];rw[MW (λe=>hj e.symm)]at hr2;exact hr2
 have hmod:=R.modK hT (n:=bx) (v:=.barrs md (dW xs idx y) none) (ks:=(Os.set idx (O1++Op++O2)).flatten) (w' :=w) (T' :=T) A8
  (by
   rw[hown1];refine aj.2 ⟨λh=>?_,hO2.nodup_iff.2 (U5.2 ⟨hndA.1,hTo.nodup,λx hx z hz e=>?_⟩)⟩
   .rcases N8.1 (hO2.mem_iff.1 h)with h|h
    .exact hnd0.1 (hsubA _ h)
    .exact hneP _ h rfl
   .subst e;exact hfreeOp x hz (by simp[hsubA x hx]))
  (λb hb=>by
   rw[hown1]at hb;rw[hown0];rcases D6.1 hb with hb|hb
   .exact .inl (by simp[hb])
   .rcases N8.1 (hO2.mem_iff.1 hb)with h|h
    .exact .inl (by simp[hsubA _ h])
    .exact .inr (fG _ h))
  rfl rfl rfl rfl (λb hb=>rfl) hB hnd1.1 (λb hb=>⟨.inr (bg _ hb),λh=>by
   rw[hown1]at h;have h1:b∉blk::Os.flatten:=λh' =>(hT.free b (bg _ hb)).2.2.2 bx (by rw[hown0];exact h');rcases D6.1 h with h|h
   .exact h1 (by simp[h])
   .rcases N8.1 (hO2.mem_iff.1 h)with h|h
    .exact h1 (by simp[hsubA _ h])
    .exact hnd1.2.2 b hb b h rfl⟩)
 exact hK _ _ hmod.1 hmod.2 (λ_ _ h=>h)
theorem QP{Q:α->Sm->Prop}{K:Cmd α}(R:Rel X cl ch S m ok a w){T:List Nat}(hT:Tk X S m ok w T)
  (hK:∀S' m',Rel X cl ch S' m' ok a w->Tk X S' m' ok w T->(∀k l,m k=some l->m' k=some l)->K.post S' Q):(XQ bx K).post S Q:=by
 unfold XQ;refine aI ?_;split
 .rename_i md0 xs0 i0 o0 n hS;refine aI ?_;refine bC λharr=>fQ (aI ?_);split<;>try trivial
  rename_i md xs i o n' hS2;have hne:n≠bx:=λe=>by subst e;rw[jG]at hS2;cases hS2
  have hS3:S (Y4+bx)= .barrs md xs (some (i,o,some n')):=by rw[←hS2,aU _ _ o5]
  have hn:n' =n:=by rw[hS]at hS3;injection hS3 with _ _ h3;injection h3 with h3;injection h3 with _ h3;injection h3 with _ h3;injection h3 with h3;exact h3.symm
  subst hn;obtain⟨hel,l,Os,hm',⟨ha,hho⟩,hk⟩:=R.own_barrs hS3;obtain⟨blk,off,len,cap,u,l',rfl,hu,hmn,hvu⟩:=hho;have T1:=Tk.kill R hT n' (bs:=P9 m n' (S (Y4+n'))) (λ_ h=>h) (R.nd n');refine a0P (R.kill n') T1 hS2 hm' (u:=u) ?_ hu hK;cases hb2:S (Y4+n')<;>rw[hb2]at harr<;>try cases harr
  .rename_i t2 ys;obtain⟨l2,hm2,ha'⟩:=R.own_arr hb2;have e:l' =l2:=lG (hmn.symm.trans hm2);subst e;refine .inr (.inl ⟨t2,ys,l',rfl,hvu,FD ha',?_⟩);have hm2:m n' =some l' :=hm2;cases l'<;>first|(simp[P9,hm2,Loc.blks];done)|cases ha'
  .rename_i md3 ys hole3;obtain⟨hel3,l2,Os3,hm2,⟨ha',hho3⟩,hk'⟩:=R.own_barrs hb2;have e:l' =l2:=lG (hmn.symm.trans hm2);subst e;rcases hole3 with _|⟨p1,p2,p3⟩
   .refine .inr (.inr ⟨md3,ys,l',Os3,rfl,hel3,hvu,ha',?_⟩);have hm2:m n' =some l' :=hm2;cases l'<;>first|(simp[P9,hm2,Loc.blks,hk'];done)|cases ha'
   .cases harr
 .exact hK S m R hT (λ_ _ h=>h)
theorem DY{α:Type}{Q:α->Sm->Prop}{K:Cmd α} :∀(cs:List V) {S:Sm} {m:Mp} (R:Rel X cl ch S m ok a w) {T:List Nat} (hT:Tk X S m ok w T)
  (hK:∀S' m',Rel X cl ch S' m' ok a w->Tk X S' m' ok w T->(∀k l,m k=some l->m' k=some l)->K.post S' Q),(PE cs K).post S Q
 |[],S,m,R,T,hT,hK=>hK S m R hT (λ_ _ h=>h)|v::r,S,m,R,T,hT,hK=>by
  unfold PE;split
  .exact QP R hT λS1 m1 R1 T1 k1=>DY r R1 T1 λS2 m2 R2 T2 k2=>hK S2 m2 R2 T2 (λk l h=>k2 k l (k1 k l h))
  .exact DY r R hT hK
theorem xE{α:Type}{Q:α->Sm->Prop}{K:Cmd α} :∀(cs:List V) {S:Sm} {m:Mp} (R:Rel X cl ch S m ok a w) {T:List Nat} (hT:Tk X S m ok w T)
  (hK:∀S' m',Rel X cl ch S' m' ok a w->Tk X S' m' ok w T->(∀k l,m k=some l->m' k=some l)->K.post S' Q),(Jj cs K).post S Q
 |[],S,m,R,T,hT,hK=>hK S m R hT (λ_ _ h=>h)|v::r,S,m,R,T,hT,hK=>by
  unfold Jj;split
  .exact QP R hT λS1 m1 R1 T1 k1=>xE r R1 T1 λS2 m2 R2 T2 k2=>hK S2 m2 R2 T2 (λk l h=>k2 k l (k1 k l h))
  .refine aI ?_;split
   .exact DY _ R hT λS1 m1 R1 T1 k1=>xE r R1 T1 λS2 m2 R2 T2 k2=>hK S2 m2 R2 T2 (λk l h=>k2 k l (k1 k l h))
   .exact xE r R hT hK
  .exact DY _ R hT λS1 m1 R1 T1 k1=>xE r R1 T1 λS2 m2 R2 T2 k2=>hK S2 m2 R2 T2 (λk l h=>k2 k l (k1 k l h))
  .exact xE r R hT hK
theorem a6h(H:FxOk X)(R:Rel X cl ch S m ok a w){x y:Operand}(ho:o.op= .store t x y):(aP X.E q o).post S (λ_ S' =>gI X cl ch o a w m ok S'):=by
 unfold aP;simp only[ho];cases hd:o.dst with
 |some d=>trivial|none=>
 refine Z8 R λp hp=>Z8 R λv hv=>?_;unfold a9n;refine jF H λi hi=>?_;cases p<;>try trivial
 case ptr bx off=>
  obtain⟨blk,hm,hx⟩:=hp;refine aI ?_;split<;>try trivial
  rename_i cs hS;obtain⟨blk',arr,T,hm',hh,hl⟩:=R.own_cells hS;simp only at hm hm';rw[hm]at hm';cases hm';refine rf hv λvs hvs=>bC λhlen=>zJ _ _ _ λhle=>fQ ?_;have hlen' :=fC hlen;have hL:=je hl;have hL2:=je hvs;have hsz:(a.eval y).cells.size=i.size:=by simp at hL2;omega
  have hown:P9 m bx (S (Y4+bx))=[blk]:=by simp[P9,hS,hm]
  have hfit:off+i.size<=arr.size:=by simp at hL;omega
  have run:=BG hi w hh (.inl rfl) (v:=a.eval y) hsz hfit (OJ hvs);refine Ij ho hd (w' :=w.setRow blk (aC off (a.eval y).cells.toList arr.toList).toArray) (by simp[Instr.storeAt,Instr.sureAddr,hx,run]) ?_ (λ_ _ h=>h) (λ_ _ h=>h);refine R.mod (by rw[hown];simp[P9,hm]) A8 rfl rfl rfl A8 (λb hb=>setRow_other w blk b _ (by rw[hown]at hb;simpa using hb)) ?_;refine⟨blk,_,T,hm,setRow_heap w blk arr _ T (0,0) hh,?_⟩;refine b2r (λb t hb=>setRow_other w blk b _ (λe=>(R.sep bx blk (by rw[hown];simp)).1 t (e▸hb))) ?_;simpa using Ak hvs hl
 case ep bx ix off=>
  obtain⟨blk,o',len,cap,sz,hm,hlt,hx⟩:=hp;simp only at hm;refine aI ?_;split<;>try trivial
  .rename_i u xs hS;obtain⟨l,hm',ha⟩:=R.own_arr hS;rw[hm]at hm';cases hm';obtain⟨hE0,rfl,rfl,h3,c,T,f,hh,hz,hs,hxs⟩:=ha;refine dI λe0 he0=>?_;obtain⟨es,he,hr⟩:=hxs ix e0 he0;refine rf hv λvs hvs=>bC λhlen=>zJ _ _ _ λhle=>?_;rw[lw]at hle;have hlen' :=fC hlen;have hL2:=je hvs;have hsz:(a.eval y).cells.size=i.size:=by simp at hL2;omega
   have hes:=ou he;have hnew:=Ak (off:=off) hvs (nZ (C:=⟨w.heap,ok,m⟩) hr);refine BU (T:=[]) u R Tk.nil hnew λS1 ok1 y1 q1 us us' R1 T1 k1 s1 e1 h1 l1=>?_;cases q1 with
   |cons _ _=>trivial|nil=>
   simp only[eX]at l1;subst l1;simp only[H6]at e1;subst e1;refine aI ?_;split<;>try trivial
   rename_i u' xs' hS1;refine dY λe=>?_;subst e;refine fQ ?_;obtain⟨l,hm',ha⟩:=R1.own_arr hS1;rw[hm]at hm';cases hm';obtain⟨_,hszu,hlen2,h3',c',T',f',hh',hz',hs',hxs'⟩:=ha;rw[hh]at hh';cases hh';have hown:P9 m bx (S1 (Y4+bx))=[blk]:=by simp[P9,hS1,hm]
   have hvl:(a.eval y).cells.toList.length=i.size:=by simpa using hsz
   obtain⟨hfit,hsp,hnew2,hold⟩:=Vq (us:=(a.eval y).cells.toList) (off:=off) hh hs h3 hlt he (by rw[hvl];omega);have run:=BG hi w (off:=o' +ix*u'.size+off) hh hz.of (v:=a.eval y) hsz (by rw[hvl]at hfit;exact hfit) (OJ hvs);refine Ij ho hd (w' :=w.setRow blk (aC (o' +ix*u'.size+off) (a.eval y).cells.toList c.toList).toArray) (by simp[Instr.storeAt,Instr.sureAddr,hx,run]) ?_ (λ_ _ h=>h) k1;refine R1.mod (by rw[hown];simp[P9,hm]) A8 rfl rfl rfl A8 (λb hb=>setRow_other w blk b _ (by rw[hown]at hb;simpa using hb)) ?_;have hkeep:∀b t,ok1 b t->(w.setRow blk (aC (o' +ix*u'.size+off) (a.eval y).cells.toList c.toList).toArray).heap[b]? =w.heap[b]?:=
    λb t hb=>setRow_other w blk b _ (λe=>(R1.sep bx blk (by rw[hown];simp)).1 t (e▸hb))
   refine⟨_,hm,hE0,rfl,by simp[dW,hlen2],h3,_,T,f,setRow_heap w blk c _ T f hh,by rw[Y2,hsp];exact hz,by simp[hsp];exact hs,λj z hz=>?_⟩;unfold dW at hz;rw[P8]at hz;split at hz
   .rename_i hj;subst hj;split at hz
    .cases hz;exact⟨_,hnew2,dK (λ_ _ h=>h) hkeep h1⟩
    .cases hz
   .rename_i hj;obtain⟨es2,he2,hr2⟩:=hxs' j z hz;have hj2:=(aK.1 hz).1;exact⟨_,(hold j (by rw[hlen2];exact hj2) (λe=>hj e.symm)).trans he2,dK (λ_ _ h=>h) hkeep hr2⟩
  .rename_i md xs hole hS;cases hcd:(md.ownAt off&&Nat.beq i.size 1&&!bf i.td)
   .simp only[cond_false];cases hole with
    |some _=>trivial|none=>
    refine rf hv λvs hvs=>bC λhlen=>dI λe0 he0=>?_;have he0' :xs[ix]? =some e0:=he0;obtain⟨hel,l,Os,hm',⟨ha,hho⟩,hk⟩:=R.own_barrs hS;rw[hm]at hm';cases hm';obtain⟨rfl,rfl,h3,h7,c,T,hh,hs,hxs⟩:=ha;obtain⟨es,O,hO,he,hr⟩:=hxs ix e0 he0';refine PI md off hr hvs λy1 hle hr' =>fQ ?_;have hes:es.length=md.size:=aW hr;have hlen' :=fC hlen;have hL2:=je hvs;have hsz:(a.eval y).cells.size=i.size:=by simp at hL2;omega
    have hvl:(a.eval y).cells.toList.length=i.size:=by simpa using hsz
    obtain⟨hfit,hsp,hnew2,hold⟩:=Vq (us:=(a.eval y).cells.toList) (off:=off) hh hs h3 hlt he o5;have run:=BG hi w (off:=o' +ix*md.size+off) hh (.inl rfl) (v:=a.eval y) hsz (by rw[hvl]at hfit;exact hfit) (OJ hvs);have hown:P9 m bx (S (Y4+bx))=blk::Os.flatten:=by simp[P9,hS,hm,hk]
    have hnd:=R.nd bx;rw[hown]at hnd;have hnd0:=aj.1 hnd;have hneO:∀b∈Os.flatten,b≠blk:=λb hb e=>hnd0.1 (e▸hb);refine Ij ho hd (w' :=w.setRow blk (aC (o' +ix*md.size+off) (a.eval y).cells.toList c.toList).toArray) (by simp[Instr.storeAt,Instr.sureAddr,hx,run]) ?_ (λ_ _ h=>h) (λ_ _ h=>h);have hkeep:∀b t,ok b t->(w.setRow blk (aC (o' +ix*md.size+off) (a.eval y).cells.toList c.toList).toArray).heap[b]? =w.heap[b]?:=
     λb t hb=>setRow_other w blk b _ (λe=>(R.sep bx blk (by rw[hown];simp)).1 t (e▸hb))
    refine R.mod (by rw[hown];simp[P9,hm,hk]) A8 rfl rfl rfl A8 (λb hb=>setRow_other w blk b _ (λe=>hb (by rw[hown,e];simp))) ?_;refine OI (Os:=Os) hel hm ⟨rfl,by simp[dW],h3,by simp[h7,dW],_,T,setRow_heap w blk c _ T (0,0) hh,by simp[hsp];exact hs,λj z hz=>?_⟩ hk trivial;unfold dW at hz;rw[P8]at hz;split at hz
    .rename_i hj;subst hj;cases hz;exact⟨_,O,hO,hnew2,ji (λ_ _ h=>h) hkeep (λb hb=>setRow_other w blk b _ (hneO b (bW.2 ⟨O,rH hO,hb⟩))) hr'⟩
    .rename_i hj;obtain⟨es2,O2,hO2,he2,hr2⟩:=hxs j z hz;have hj2:=(aK.1 hz).1;exact⟨_,O2,hO2,(hold j o5 (λe=>hj e.symm)).trans he2,ji (λ_ _ h=>h) hkeep (λb hb=>setRow_other w blk b _ (hneO b (bW.2 ⟨O2,rH hO2,hb⟩))) hr2⟩
   .simp only[cond_true];simp only[A7,bH]at hcd;obtain⟨⟨_,hsz1⟩,_⟩:=hcd;have hsz1:=fC hsz1;have fin:∀{S' :Sm} {m' :Mp} {w' :World},Rel X cl ch S' m' ok a w' ->(∀k l,m k=some l->m' k=some l)->(storeVar t ⟨blk,o' +ix*sz+off,none⟩ (a.eval y)).run X.P w= .ok () w' ->gI X cl ch o a w m ok S' :=
     λR' hm' run=>Ij ho hd (by simp[Instr.storeAt,Instr.sureAddr,hx,run]) R' hm' (λ_ _ h=>h)
    split
    .have hv' :a.eval y= .slice none 0 0:=hv;exact RY (Op:=[]) R Tk.nil hi hsz1 hS hm (.inl ⟨rfl,hv',rfl⟩) (λS' m' w' R' h' run=>fin R' h' run)
    .rename_i b2;obtain⟨l2,hm2,hv2⟩:=hv;simp only at hm2;refine aI ?_;refine bC λharr=>fQ (aI ?_);split<;>try trivial
     rename_i md2 xs2 hole2 hS2;have T1:=Tk.kill R (T:=[]) Tk.nil b2 (bs:=P9 m b2 (S (Y4+b2))) (λ_ h=>h) (R.nd b2);rw[J3]at T1;refine RY (R.kill b2) T1 hi hsz1 hS2 hm ?_ (λS' m' w' R' h' run=>fin R' h' run);cases hb2:S (Y4+b2)<;>rw[hb2]at harr<;>try cases harr
     .rename_i t2 ys;obtain⟨l',hm',ha'⟩:=R.own_arr hb2;rw[hm2]at hm';cases hm';refine .inr (.inl ⟨t2,ys,l2,rfl,hv2,FD ha',?_⟩);cases l2<;>first|(simp[P9,hm2,Loc.blks];done)|cases ha'
     .rename_i md3 ys hole3;obtain⟨hel3,l',Os,hm',⟨ha',hho⟩,hk'⟩:=R.own_barrs hb2;rw[hm2]at hm';cases hm';rcases hole3 with _|⟨p1,p2,p3⟩
      .refine .inr (.inr ⟨md3,ys,l2,Os,rfl,hel3,hv2,ha',?_⟩);cases l2<;>first|(simp[P9,hm2,Loc.blks,hk'];done)|cases ha'
      .cases harr
    .trivial
end
end Go.GP
