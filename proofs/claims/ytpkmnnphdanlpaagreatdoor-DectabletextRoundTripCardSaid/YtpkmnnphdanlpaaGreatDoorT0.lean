import Derived.ProofKit
import Derived.Below
import Derived.Laws.CopyRow
import Derived.Laws.BytesArg
import Derived.Laws.Cells
import Derived.Laws.Append
import Derived.Laws.Strings
import Derived.Lib.SmallJoins
set_option linter.all false
namespace Go.GP
variable {p:Prop}
theorem l7(h:p:=by omega):p:=h
theorem A7(h:p:=by simp):p:=h
theorem F6(h:p:=by decide):p:=h
theorem F9(h:p:=by simp;omega):p:=h
theorem L9:True:=trivial
def bT:=@List.take_succ_eq_append_getElem
def kC:=@List.drop_append_of_le_length
def Y3:=@List.take_append_of_le_length
def kS:=@Array.getElem?_setIfInBounds
def X7:=@Array.getD_eq_getD_getElem?
def J6:=@Array.getElem?_eq_some_iff
def lH:=@Array.toList_setIfInBounds
def F7:=@List.getElem?_append_right
def iT:=@Array.getElem?_append_left
def iU:=@List.takeWhile_cons_of_pos
def fZ:=@List.isPrefixOf_iff_prefix
def P9:=@List.getElem?_append_left
def Y8:=@List.drop_eq_getElem_cons
def lY:=@List.extract_eq_take_drop
def O8:=@Array.getElem?_eq_getElem
def lX:=@Classical.byContradiction
def mZ:=@List.getElem?_take_of_lt
def iw:=@List.getElem?_cons_zero
def Y4:=@List.length_eq_zero_iff
def nU:=@List.getElem?_cons_succ
def fQ:=@Option.map_eq_some_iff
def U9:=@List.drop_eq_nil_of_le
def P6:=@List.take_of_length_le
def fP:=@List.takeWhile_sublist
def kZ:=@List.mem_append_right
def pF:=@List.Perm.append_left
def jc:=@List.perm_append_comm
def U6:=@Nat.le_of_ble_eq_true
def aj:=@Array.getElem?_toList
def dL:=@List.take_append_drop
def pG:=@List.set_append_right
def kY:=@Array.getElem?_modify
def Y2:=@List.getElem?_eq_none
def gB:=@List.length_filter_le
def uC:=@List.findSome?_append
def ja:=@List.length_singleton
def uF:=@List.length_replicate
def ig:=@List.mem_append_left
def U2:=@List.mem_cons_of_mem
def G7:=@Nat.mul_le_mul_right
def pW:=@List.replicate_succ'
def lI:=@List.mem_of_mem_take
def pX:=@MapKept.run_checkKey
def bC:=@Bool.or_eq_false_iff
def jU:=@List.replicate_succ
def jS:=@List.flatten_append
def jT:=@List.getElem_of_mem
def ak:=@Array.length_toList
def iD:=@List.map_congr_left
def N7:=@Int.toNat_of_nonneg
def E8:=@List.length_append
def U4:=@List.getElem?_drop
def V9:=@List.getElem?_take
def kL:=@List.mem_cons_self
def iO:=@List.mem_singleton
def dV:=@Bool.false_eq_true
def iP:=@Nat.eq_zero_or_pos
def gG:=@List.zip_cons_cons
def gI:=@Nat.lt_of_lt_of_le
def U5:=@List.pairwise_cons
def kJ:=@BitVec.toNat_ofInt
def X8:=@List.nodup_append
def aU:=@Bool.not_eq_true'
def E9:=@List.append_assoc
def G9:=@Result.andThen_ok
def G5:=@Option.some.injEq
def fC:=@List.ext_getElem?
def Y9:=@List.getElem?_set
def ax:=@List.size_toArray
def dC:=@List.getElem?_map
def oG:=@List.zip_nil_left
def oD:=@Function.comp_def
def ik:=@List.length_range
def D8:=@Int.toNat_natCast
def fB:=@List.any_eq_false
def DI:=@Bool.not_eq_false
def lg:=@List.take_add_one
def bW:=@List.mem_flatten
def A8:=@Bool.and_eq_true
def N8:=@List.cons_append
def D9:=@List.length_cons
def lM:=@Array.toList_map
def lN:=@List.ext_getElem
def lS:=@List.range'_succ
def gp:=@List.length_take
def bY:=@List.take_length
def Y5:=@List.length_drop
def jO:=@Nat.le_add_right
def bV:=@List.all_eq_true
def X6:=@List.getElem_mem
def jP:=@Option.bind_some
def bF:=@Option.getD_some
def Ey:=@List.not_mem_nil
def lQ:=@List.filter_cons
def xY:=@List.drop_length
def Ew:=@Bool.not_eq_true
def uf:=@List.any_eq_true
def I4:=@List.mem_append
def E5:=@List.append_nil
def fD:=@Nat.le_max_left
def H7:=@List.nil_append
def G6:=@List.cons.injEq
def ng:=@Oper.upon_value
def kK:=@Bool.eq_iff_iff
def H6:=@List.length_nil
def dF:=@List.nodup_cons
def bg:=@Nat.min_eq_left
def gY:=@List.map_append
def dE:=@List.foldl_cons
def O7:=@List.length_map
def aQ:=@Option.map_some
def jd:=@List.range_succ
def iZ:=@Bool.or_eq_true
def qx:=@List.mem_filter
def qy:=@Option.some.inj
def yV:=@List.any_append
def uG:=@List.length_zip
def gq:=@List.drop_take
def eG:=@List.take_take
def U3:=@List.drop_drop
def dw:=@List.nodup_nil
def aX:=@List.drop_zero
def X4:=@List.drop_left
def ed:=@List.mem_range
def eF:=@List.take_left
def D6:=@List.mem_cons
def lZ:=@Nat.add_assoc
def jb:=@List.map_cons
def P5:=@List.cons.inj
def kz:=@Addr.mk.injEq
def pI:=@Nat.lt_irrefl
def je:=@Prod.mk.injEq
def rZ:=@Bool.true_and
def pz:=@Bool.not_true
def IW:=@Bool.false_or
def aI:=@Nat.sub_self
def nI:=@List.map_nil
def U8:=@Sem.run_pure
def G8:=@Sem.run_bind
def ah:=@Nat.add_zero
def gQ:=@Addr.add_lit
def fE:=@Nat.zero_add
def aH:=@List.mem_map
def gU:=@Nat.lt_or_ge
def jJ:=@Nat.le_trans
def C9:=@Nat.le_refl
def I7:=@Nat.add_mul
def bI:=@Nat.zero_le
def bU:=@Nat.mul_one
def aP:=@Nat.one_mul
def oQ:=@Int.le_refl
def bf:=@Nat.blt_eq
def ku:=@Array.ext'
def sW:=@Int.not_lt
def sV:=@Int.not_le
def oM:=@Prod.ext
variable {i:Nat}
theorem aO{α:Type _}{l:List α}{a:α} :l[i]? =some a↔∃h:i<l.length,l[i]=a:=List.getElem?_eq_some_iff
theorem lG{α:Type _}{l:List α}(h:i<l.length):l[i]? =some l[i]:=List.getElem?_eq_getElem h
theorem iI{n m:Nat}(h:Nat.beq n m=true):n=m:=Nat.eq_of_beq_eq_true h
theorem yw{α:Type _}{l:List α}{a:α}(h:l[i]? =some a):a∈l:=List.mem_of_getElem? h
theorem Oi{α:Type _}{l:List α}{a:α} :l.getD i a=l[i]?.getD a:=List.getD_eq_getElem?_getD
universe u
set_option linter.unusedVariables false
inductive Ty where
 |bool|int (k:IntKind)|str|sl (t:Ty)|prod (a b:Ty)|unit|ent (ka va:Bool) (k v:Ty)
def tbb(a b:Bool):Bool:=bif a then b else !b
theorem l_:∀{a b:Bool},tbb a b=true->a=b:=by decide
theorem Ym:∀(a:Bool),tbb a a=true:=by decide
def Ty.beq:Ty->Ty->Bool
 | .bool,b=>match b with| .bool=>true|_=>false
 | .int k,b=>match b with| .int k' =>decide (k=k')|_=>false
 | .str,b=>match b with| .str=>true|_=>false
 | .sl t,b=>match b with| .sl u=>Ty.beq t u|_=>false
 | .prod p q,b=>match b with| .prod p' q' =>bif Ty.beq p p' then Ty.beq q q' else false|_=>false
 | .unit,b=>match b with| .unit=>true|_=>false
 | .ent x y p q,b=>match b with| .ent x' y' p' q' =>bif tbb x x' &&tbb y y' then(bif Ty.beq p p' then Ty.beq q q' else false)else false|_=>false
theorem Ty.beq_eq:∀{a b:Ty},Ty.beq a b=true->a=b
 | .bool,b,h=>by cases b<;>first|rfl|cases h
 | .int k,b,h=>by cases b<;>first|(cases h;done)|(rename_i k';have:=of_decide_eq_true (show decide (k=k')=true from h);subst this;rfl)
 | .str,b,h=>by cases b<;>first|rfl|cases h
 | .sl t,b,h=>by cases b<;>first|(cases h;done)|(rename_i u;have:=Ty.beq_eq (show Ty.beq t u=true from h);subst this;rfl)
 | .prod p q,b,h=>by
  cases b<;>try (cases h;done)
  rename_i p' q';cases hp:Ty.beq p p'
  .have h' :(bif Ty.beq p p' then Ty.beq q q' else false)=true:=h;rw[hp]at h';cases h'
  .have h' :(bif Ty.beq p p' then Ty.beq q q' else false)=true:=h;rw[hp]at h';rw[Ty.beq_eq hp,Ty.beq_eq (show Ty.beq q q' =true from h')]
 | .unit,b,h=>by cases b<;>first|rfl|cases h
 | .ent x y p q,b,h=>by
  cases b<;>try (cases h;done)
  rename_i x' y' p' q';have h0:(bif tbb x x' &&tbb y y' then(bif Ty.beq p p' then Ty.beq q q' else false)else false)=true:=h;cases hx:tbb x x'<;>cases hy:tbb y y'<;>rw[hx,hy]at h0<;>try (cases h0;done)
  cases hp:Ty.beq p p'<;>rw[hp]at h0
  .cases h0
  .rw[l_ hx,l_ hy,Ty.beq_eq hp,Ty.beq_eq (show Ty.beq q q' =true from h0)]
theorem Ty.beq_refl:∀(a:Ty),Ty.beq a a=true
 | .bool=>rfl| .int k=>by show decide (k=k)=true;simp| .str=>rfl| .sl t=>Ty.beq_refl t| .prod p q=>by show(bif Ty.beq p p then Ty.beq q q else false)=true;rw[Ty.beq_refl p,Ty.beq_refl q];rfl| .unit=>rfl| .ent x y p q=>by show(bif tbb x x&&tbb y y then(bif Ty.beq p p then Ty.beq q q else false)else false)=true;rw[Ym,Ym,Ty.beq_refl p,Ty.beq_refl q];rfl
instance:DecidableEq Ty:=λa b=>match h:Ty.beq a b with
 |true=> .isTrue (Ty.beq_eq h)|false=> .isFalse (λe=>by subst e;rw[Ty.beq_refl]at h;cases h)
@[reducible] def Ty.den:Ty->Type
 | .bool=>Bool| .int _=>Int| .str=>List UInt8| .sl t=>List t.den| .prod a b=>a.den×b.den| .unit=>Unit| .ent _ _ a b=>a.den×b.den
def Ty.isEnt:Ty->Bool| .ent ..=>true|_=>false
def Ty.size:Ty->Nat
 | .bool| .int _| .str| .sl _=>1| .prod a b=>a.size+b.size| .unit=>0| .ent _ _ a b=>a.size+b.size
def Ty.flat:Ty->Bool
 | .bool| .int _| .str| .unit=>true| .sl _=>false| .prod a b=>a.flat&&b.flat
 | .ent ..=>false
def Ty.zero:(t:Ty)->t.den
 | .bool=>false| .int _=>(0:Int)| .str=>[]| .sl _=>[]| .prod a b=>(a.zero,b.zero)| .unit=>()| .ent _ _ a b=>(a.zero,b.zero)
inductive M where
 |dat (t:Ty)|own (t:Ty)|pair (a b:M)|unit|box (m:M)
 |owns (el:M)|ownb (t:Ty)|rp (t:Ty)|fn (f:Nat) (ts:List Ty)|ifc (t:Nat) (m:M)|cell (n:Option (Option Bool))|fr (t:Ty)|sbx (tb te:Nat)|sit
def M.beq:M->M->Bool
 | .dat t,b=>match b with| .dat u=>Ty.beq t u|_=>false
 | .own t,b=>match b with| .own u=>Ty.beq t u|_=>false
 | .pair p q,b=>match b with| .pair p' q' =>bif M.beq p p' then M.beq q q' else false|_=>false
 | .unit,b=>match b with| .unit=>true|_=>false
 | .owns m,b=>match b with| .owns m' =>M.beq m m'|_=>false
 |_,_=>false
theorem M.beq_eq:∀{a b:M},M.beq a b=true->a=b
 | .dat t,b,h=>by cases b<;>first|(cases h;done)|(rename_i u;have:=Ty.beq_eq (show Ty.beq t u=true from h);subst this;rfl)
 | .own t,b,h=>by cases b<;>first|(cases h;done)|(rename_i u;have:=Ty.beq_eq (show Ty.beq t u=true from h);subst this;rfl)
 | .pair p q,b,h=>by
  cases b<;>try (cases h;done)
  rename_i p' q';cases hp:M.beq p p'
  .have h' :(bif M.beq p p' then M.beq q q' else false)=true:=h;rw[hp]at h';cases h'
  .have h' :(bif M.beq p p' then M.beq q q' else false)=true:=h;rw[hp]at h';rw[M.beq_eq hp,M.beq_eq (show M.beq q q' =true from h')]
 | .unit,b,h=>by cases b<;>first|rfl|cases h
 | .owns m,b,h=>by cases b<;>first|(cases h;done)|(rename_i u;have:=M.beq_eq (show M.beq m u=true from h);subst this;rfl)
 | .box _,b,h=>by cases h| .ownb _,b,h=>by cases h| .rp _,b,h=>by cases h| .fn _ _,b,h=>by cases h| .ifc _ _,b,h=>by cases h| .cell _,b,h=>by cases h| .fr _,b,h=>by cases h| .sbx _ _,b,h=>by cases h| .sit,b,h=>by cases h
@[reducible] def Nb:List Ty->Type
 |[]=>Unit|[t]=>t.den|t::t' ::r=>t.den×Nb (t' ::r)
@[reducible] def M.den:M->Type
 | .dat t=>t.den| .own t=>List t.den| .pair a b=>a.den×b.den| .unit=>Unit| .box m=>m.den| .owns el=>List el.den| .ownb t=>List t.den| .rp t=>t.den| .fn _ ts=>Nb ts| .ifc _ m=>m.den| .cell _=>Unit| .fr t=>List t.den| .sbx _ _=>List UInt8| .sit=>List UInt8×Int
def M.size:M->Nat
 | .dat t=>t.size| .own _=>1| .pair a b=>a.size+b.size| .unit=>0| .box _=>1| .owns _| .ownb _| .rp _| .fn _ _| .ifc _ _| .cell _| .fr _| .sbx _ _| .sit=>1
def M.el:M->Bool
 | .unit=>true| .dat t| .own t=> !t.isEnt| .owns m=>m.el| .pair a b=>a.el&&b.el|_=>false
def M.ty:M->Ty
 | .dat t=>t| .own t=> .sl t| .owns m=> .sl m.ty| .pair a b=> .prod a.ty b.ty|_=> .unit
theorem M.denEq:∀(m:M),m.el=true->m.den=m.ty.den
 | .dat _,_=>rfl| .own _,_=>rfl| .unit,_=>rfl| .owns m,h=>congrArg List (M.denEq m h)| .pair a b,h=>by
  have h' :a.el=true/\b.el=true:=by simpa[M.el]using h
  show(a.den×b.den)=(a.ty.den×b.ty.den);rw[M.denEq a h'.1,M.denEq b h'.2]
 | .box _,h=>by simp[M.el]at h| .ownb _,h=>by simp[M.el]at h| .rp _,h=>by simp[M.el]at h| .fn _ _,h=>by simp[M.el]at h| .ifc _ _,h=>by simp[M.el]at h| .cell _,h=>by simp[M.el]at h| .fr _,h=>by simp[M.el]at h| .sbx _ _,h=>by simp[M.el]at h| .sit,h=>by simp[M.el]at h
def M.zero:(m:M)->m.el=true->m.den
 |m,h=>cast (M.denEq m h).symm m.ty.zero
abbrev MG:=Bool×M
@[reducible] def aW:List MG->Type
 |[]=>Unit|[m]=>m.2.den|m::m' ::r=>m.2.den×aW (m' ::r)
inductive V where
 |undef
 |un
 |b (x:Bool)|i (k:IntKind) (n:Int)|s (l:List UInt8)
 |nl
 |sl (t:Ty) (xs:List t.den)
 |own (bx:Nat) (vw:Option (Nat×Nat))
 |ptr (bx off:Nat)
 |ep (bx idx off:Nat)
 |dp (t:Ty) (x:t.den) (off:Nat)
 |agg (cs:List V)|tup (cs:List V)
 |glob (g:Nat)|fnv (f:Nat)|clos (f:Nat) (caps:List ((t:Ty)×t.den))|ifc (t:Nat) (v:V)
 |bcells (cs:List V)|barr (t:Ty) (xs:List t.den)|bfrz (t:Ty) (xs:List t.den)|biter (l:List UInt8) (pos:Int)
 |barrs (el:M) (xs:List el.den) (hole:Option (Nat×Nat×Option Nat))|bfc (t:Ty) (x:t.den)
 |dead|gone (t:Ty)|blen (n:Int) (sz:Nat)
 |ne (b:Bool)
 |npt|bsb (tb:Nat) (c:V)|brow (te:Nat) (xs:List UInt8)
variable {α:Type}{β:Type}
def o6(o:Option α)(f:α->Option β):Option β:=match o with|some x=>f x|none=>none
def l9(b:Bool)(x y:α):α:=match b with|true=>x|false=>y
def I8(a b:Int):Bool:=decide (a<b)
def V6(a b:Int):Bool:=decide (a<=b)
def D5(a b:Int):Bool:=decide (a=b)
def Pq(a b:Bool):Bool:=a==b
def H9(a:Bool):Bool:=!a
def oP(a b:Bool):Bool:=a&&b
def seq(a b:List UInt8):Bool:=decide (a=b)
def slt(a b:List UInt8):Bool:=Op.bytesLess a b
def wrap(k:IntKind)(n:Int):Int:=k.wrap n
def I5(k:IntKind)(a b:Int):Int:=k.wrap (a+b)
def ae(k:IntKind)(a b:Int):Int:=k.wrap (a -b)
def JK(k:IntKind)(a b:Int):Int:=k.wrap (a*b)
def dX(k:IntKind)(a b:Int):Int:=k.wrap (a.tdiv b)
def iY(a b:Int):Int:=a.tmod b
def a8k(k:IntKind)(a b:Int):Option Int:=if b=0 then none else some (k.wrap (a.tdiv b))
def a8l(a b:Int):Option Int:=if b=0 then none else some (a.tmod b)
def tZ(k:IntKind)(a b:Int):Int:=k.wrap (BitVec.ofInt k.bits a&&& BitVec.ofInt k.bits b).toNat
def ior(k:IntKind)(a b:Int):Int:=k.wrap (BitVec.ofInt k.bits a ||| BitVec.ofInt k.bits b).toNat
def a3w(k:IntKind)(a b:Int):Int:=k.wrap (BitVec.ofInt k.bits a^^^BitVec.ofInt k.bits b).toNat
def a0f(k:IntKind)(a b:Int):Int:=k.wrap (BitVec.ofInt k.bits a&&& ~~~(BitVec.ofInt k.bits b)).toNat
def CV(k:IntKind)(a b:Int):Int:=k.wrap (a*2^(min b.toNat k.bits))
def WX(k:IntKind)(a b:Int):Int:=a.fdiv (2^(min b.toNat k.bits))
def a0l(k:IntKind)(a b:Int):Option Int:=if b<0 then none else some (CV k a b)
def Ii(k:IntKind)(a b:Int):Option Int:=if b<0 then none else some (WX k a b)
def zk(a b:Int):Int:=if b<a then b else a
def zi(a b:Int):Int:=if a<b then b else a
def x9(l:List α):Int:=l.length
def Z7(a b:List UInt8):Option (List UInt8):=if a.length+b.length<=4611686018427387904 then some (a++b)else none
def Zm(a b:Nat):Bool:=Nat.beq a b
def inb(i n:Int):Bool:=decide (0<=i/\i<n)
def X0(l:List α)(i:Int):Option α:=if 0<=i then l[i.toNat]? else none
def ou(l:List UInt8)(p:Int):Int:=((Utf8.decode ⟨l.toArray⟩ p.toNat).1:Int)
def uU(l:List UInt8)(p:Int):Int:=p+((Utf8.decode ⟨l.toArray⟩ p.toNat).2:Int)
def sat(l:List UInt8)(i:Int):Option Int:=if 0<=i then(l[i.toNat]?).map (λc=>(c.toNat:Int))else none
def qN(l:List α)(i:Nat):Option α:=l[i]?
def wI(l:List α)(i:Nat)(x:α):List α:=l.set i x
def bQ(l:List α)(lo hi:Int):Option (List α):=if 0<=lo/\lo<=hi/\hi<=l.length then some ((l.take hi.toNat).drop lo.toNat)else none
def kN(l:List α)(lo hi:Nat):List α:=(l.take hi).drop lo
def mJ(lo hi n:Int):Bool:=decide (0<=lo/\lo<=hi/\hi<=n)
def JP(xs ys:List α):List α:=ys.take xs.length++xs.drop ys.length
def jV(xs ys:List α):Option (List α):=if xs.length+ys.length<=1073741824 then some (xs++ys)else none
def Ja(n:Int)(x:α):Option (List α):=if 0<=n/\n<=1073741824 then some (List.replicate n.toNat x)else none
def jC(i:Int):Nat:=i.toNat
def Hy(n:Int):UInt8:=UInt8.ofNat n.toNat
def BR(l:List Int):List UInt8:=l.map Hy
def SL(l:List UInt8):List Int:=l.map λc=>(c.toNat:Int)
def a0r{α β:Type}(eq:α->α->Bool):List (α×β)->α->β->β
 |[],_,z=>z|p::r,k,z=>bif eq k p.1 then p.2 else a0r eq r k z
def a0s{α β:Type}(eq:α->α->Bool):List (α×β)->α->Bool
 |[],_=>false|p::r,k=>bif eq k p.1 then true else a0s eq r k
def a0w{α β:Type}(eq:α->α->Bool):List (α×β)->α->β->List (α×β)
 |[],k,x=>[(k,x)]|p::r,k,x=>bif eq k p.1 then(k,x)::r else p::a0w eq r k x
def a6F(eq:α->α->Bool)(l:List (α×β))(k:α)(z:β):β:=a0r eq l k z
def a6G(eq:α->α->Bool)(l:List (α×β))(k:α):Bool:=a0s eq l k
def a1M(eq:α->α->Bool)(l:List (α×β))(k:α)(x:β):List (α×β):=a0w eq l k x
def keq:(t:Ty)->t.den->t.den->Bool
 | .bool=>λa b=>Pq a b
 | .int _=>λa b=>D5 a b
 | .str=>λa b=>seq a b
 | .prod p q=>λa b=>oP (keq p a.1 b.1) (keq q a.2 b.2)
 |_=>λ_ _=>true
def a6o{α:Type}(eq:α->α->Bool):List α->List α->Bool
 |[],[]=>true|a::r,b::q=>eq a b&&a6o eq r q|_,_=>false
def PQ:(t:Ty)->t.den->t.den->Bool
 | .bool=>λa b=>tbb a b
 | .int _=>λa b=>decide (a=b)
 | .str=>λa b=>decide (a=b)
 | .sl t=>λa b=>a6o (PQ t) a b
 | .prod p q=>λa b=>PQ p a.1 b.1&&PQ q a.2 b.2
 | .unit=>λ_ _=>true
 | .ent _ _ p q=>λa b=>PQ p a.1 b.1&&PQ q a.2 b.2
def deq(t:Ty)(a b:t.den):Bool:=PQ t a b
inductive Out (σ ε ρ:Type) where
 |nx (s:σ)|ex (e:ε)|rt (r:ρ)
variable {σ:Type}{ε:Type}
def bP(o:σ⊕ε)(f:σ->α)(g:ε->α):α:=match o with| .inl s=>f s| .inr e=>g e
def dW{σ ε ρ:Type}(f:σ->Option (Out σ ε ρ)):Nat->σ->Option (ε⊕ρ)
 |0,_=>none
 |n+1,s=>match f s with
  |some (.nx s')=>dW f n s'|some (.ex e)=>some (.inl e)|some (.rt r)=>some (.inr r)|none=>none
def vS{σ ε:Type}(f:σ->Option (σ⊕ε)):Nat->σ->Option ε
 |0,_=>none
 |n+1,s=>match f s with
  |some (.inl s')=>vS f n s'|some (.inr e)=>some e|none=>none
def au:Nat:=18446744073709551616
variable {ρ:Type}
def P8(f:σ->Option (Out σ ε ρ))(s:σ):Option (ε⊕ρ):=dW f au s
def lT(f:σ->Option (σ⊕ε))(s:σ):Option ε:=vS f au s
inductive Cmd (α:Type):Type 1 where
 |ret (x:α)
 |fail
 |get (k:Nat) (c:V->Cmd α)
 |set (k:Nat) (v:V) (c:Cmd α)
 |opt {β:Type} (o:Option β) (c:β->Cmd α)
 |br (b:Bool) (c d:Cmd α)
inductive Ent where
 |kv (k:Nat) (v:V)|mask (lo hi:Nat)
abbrev St:=List Ent
def dP:St->Nat->V
 |[],_=> .undef| .kv k v::r,n=>bif Nat.beq k n then v else dP r n| .mask lo hi::r,n=>bif Nat.ble lo n&&Nat.blt n hi then .undef else dP r n
abbrev Tr:=List Nat×List Nat
variable {R:Type}
def V.force(v:V)(K:V->R):R:=
 match v with
 | .undef=>K .undef| .un=>K .un| .b x=>K (.b x)
 | .i k n=>match k with
  | .i8=>K (.i .i8 n)| .i16=>K (.i .i16 n)| .i32=>K (.i .i32 n)| .i64=>K (.i .i64 n)| .u8=>K (.i .u8 n)| .u16=>K (.i .u16 n)| .u32=>K (.i .u32 n)| .u64=>K (.i .u64 n)
 | .s l=>K (.s l)| .nl=>K .nl| .ne z=>K (.ne z)| .sl t xs=>K (.sl t xs)
 | .own bx vw=>match vw with|none=>K (.own bx none)|some p=>K (.own bx (some p))
 | .ptr bx off=>K (.ptr bx off)| .ep bx idx off=>K (.ep bx idx off)| .dp t x off=>K (.dp t x off)| .agg cs=>K (.agg cs)| .tup cs=>K (.tup cs)| .glob g=>K (.glob g)| .fnv f=>K (.fnv f)| .clos f bs=>K (.clos f bs)
 | .ifc t v=>v.force λv=>K (.ifc t v)
 | .barrs t xs h=>match h with|none=>K (.barrs t xs none)|some (p1,p2,p3)=>match p3 with|none=>K (.barrs t xs (some (p1,p2,none)))|some p3=>K (.barrs t xs (some (p1,p2,some p3)))
 | .bfc t x=>K (.bfc t x)| .bcells cs=>K (.bcells cs)| .barr t xs=>K (.barr t xs)| .bfrz t xs=>K (.bfrz t xs)| .biter l p=>K (.biter l p)| .dead=>K .dead| .gone t=>K (.gone t)| .blen n sz=>K (.blen n sz)| .npt=>K .npt
 | .bsb tb c=>c.force λc=>K (.bsb tb c)| .brow te xs=>K (.brow te xs)
def LW{R:Type} :List V->(List V->R)->R
 |[],K=>K []
 |v::r,K=>v.force λv' =>LW r λr' =>K (v' ::r')
def V.force2(v:V)(K:V->R):R:=
 v.force λv=>match v with
  | .agg cs=>LW cs λcs=>K (.agg cs)
  | .bcells cs=>LW cs λcs=>K (.bcells cs)
  | .tup cs=>LW cs λcs=>K (.tup cs)|v=>K v
def Cmd.runK :Cmd α->St->Tr->(α->St->Tr->Option R)->Option R
 | .ret x,s,t,K=>K x s t| .fail,_,_,_=>none
 | .get k c,s,t,K=>(dP s k).force λv=>(c v).runK s (k::t.1,t.2) K
 | .set k v c,s,t,K=>v.force2 λv=>c.runK (.kv k v::s) (t.1,k::t.2) K
 | .opt o c,s,t,K=>o6 o λx=>(c x).runK s t K| .br b c d,s,t,K=>l9 b (c.runK s t K) (d.runK s t K)
def Cmd.bind :Cmd α->(α->Cmd β)->Cmd β
 | .ret x,f=>f x| .fail,_=> .fail
 | .get k c,f=> .get k λv=>(c v).bind f| .set k v c,f=> .set k v (c.bind f)
 | .opt o c,f=> .opt o λx=>(c x).bind f| .br b c d,f=> .br b (c.bind f) (d.bind f)
inductive TD where
 |bool|int (k:IntKind)|str
 |sl (elem:Nat)|ptr (elem:Nat)
 |struct (fs:List (Nat×Nat))
 |arr (n elem:Nat)
 |map (key elem:Nat)
 |other
structure TI where
 size:Nat
 bytes:Nat
 td:TD
 ty:Option Ty
 zero:List V
def dI{α:Type} :List (Nat×α)->Nat->Option α
 |[],_=>none|(k,v)::r,n=>bif Nat.beq k n then some v else dI r n
structure FSpec where
 ps:List MG
 rs:List MG
 outs:List MG
 fn:aW ps->Option (aW (rs++outs))
structure Env where
 nt:Nat
 eqs:List (Nat×List Ty)
 tt:List (Nat×TI)
 gl:List (Nat×(t:Ty)×List t.den)
 fs:List (Nat×FSpec)
 om:List (Nat×M):=[]
 tk:List Nat:=[]
 ms:List ((Nat×String)×Nat×Option Nat):=[]
 kp:List Nat:=[]
 rc:List Nat:=[]
abbrev Z4:Nat:=1000000
abbrev CB:Nat:=1000000
abbrev Lc:Nat:=1000000000000
def Ty.castL{R:Type u}(a b:Ty)(xs:List a.den)(k:List b.den->R)(f:R):R:=if h:a=b then k (h▸xs)else f
def TB{R:Type u}(a b:Ty)(x:a.den)(k:b.den->R)(f:R):R:=if h:a=b then k (h▸x)else f
def flat:(t:Ty)->t.den->List V->List V
 | .bool,x,r=> .b x::r| .int k,n,r=> .i k n::r| .str,l,r=> .s l::r| .sl t,xs,r=> .sl t xs::r| .prod a b,x,r=>flat a x.1 (flat b x.2 r)| .unit,_,r=>r| .ent _ _ a b,x,r=>flat a x.1 (flat b x.2 r)
def jk(vw:Option (Nat×Nat))(xs:List α):List α:=match vw with|none=>xs|some (lo,hi)=>kN xs lo hi
def Ei:(m:M)->m.den->List V->List V
 | .dat t,x,r=>flat t x r| .pair a b,x,r=>Ei a x.1 (Ei b x.2 r)| .unit,_,r=>r|_,_,r=> .undef::r
def N_{R:Type u}(a b:M)(xs:List a.den)(k:List b.den->R)(f:R):R:=match h:M.beq a b with
 |true=>k (M.beq_eq h▸xs)|false=>f
def YX{R:Type u}(m:M)(t:Ty)(xs:List m.den)(k:List t.den->R)(f:R):R:=
 if h:m.el=true/\m.ty=t then k (cast (congrArg List ((M.denEq m h.1).trans (congrArg Ty.den h.2))) xs)else f
def M.owned:M->List Ty
 | .own t=>[t]| .owns m=>m.ty::m.owned| .pair a b=>a.owned++b.owned|_=>[]
def Wp(ln:Ty->Bool):List Ty->Bool|[]=>true|t::r=>bif ln t then Wp ln r else false
def og{α:Type}(ln:Ty->Bool):(t:Ty)->List V->(t.den->List V->Cmd α)->Cmd α
 | .bool,cs,K=>match cs with| .b x::r=>K x r|_=> .fail
 | .int k,cs,K=>match cs with| .i k' n::r=>(bif decide (k=k')then K n r else Cmd.fail)|_=> .fail
 | .str,cs,K=>match cs with| .s l::r=>K l r|_=> .fail
 | .prod a b,cs,K=>og ln a cs λx r=>og ln b r λy r' =>K (x,y) r'| .unit,cs,K=>K () cs| .ent ..,_,_=> .fail
 | .sl t,cs,K=>match cs with
  | .nl::r=>bif t.isEnt then .fail else K [] r| .sl t' xs::r=>Ty.castL t' t xs (λys=>K ys r) Cmd.fail
  | .own bx vw::r=> .get (Z4+bx) λ
   | .barr t' xs=>Ty.castL t' t xs (λys=>bif ln t then K (jk vw ys) r else Cmd.set (Z4+bx) (.bfrz t ys) (K (jk vw ys) r)) Cmd.fail| .bfrz t' xs=>Ty.castL t' t xs (λys=>K (jk vw ys) r) Cmd.fail| .barrs el xs none=>YX el t xs (λys=>bif ln t&&Wp ln el.owned then K (jk vw ys) r else Cmd.set (Z4+bx) (.bfrz t ys) (K (jk vw ys) r)) Cmd.fail|_=> .fail
  |_=> .fail
def xX:Ty->Bool:=λ_=>false
def XA(t:Ty)(v:V)(K:List t.den->Cmd α):Cmd α:=match v with
 | .nl=>bif t.isEnt then .fail else K []| .ne _=>bif t.isEnt then .fail else K []| .sl t' xs=>Ty.castL t' t xs K Cmd.fail
 | .own bx vw=> .get (Z4+bx) λ
  | .barr t' xs=>Ty.castL t' t xs (λys=>K (jk vw ys)) Cmd.fail| .bfrz t' xs=>Ty.castL t' t xs (λys=>K (jk vw ys)) Cmd.fail|_=> .fail
 |_=> .fail
def rpC(t:Ty)(v:V)(K:t.den->Cmd α):Cmd α:=match v with
 | .dp t' x 0=>TB t' t x K .fail
 | .ptr bx 0=> .get (Z4+bx) λ
  | .bfc t' x=>TB t' t x K .fail
  | .bcells bs=>og xX t bs λx q=>(match q with
   |[]=> .get (Z4+bx) λ
    | .bcells _=>Cmd.set (Z4+bx) (.bfc t x) (K x)|_=> .fail
   |_=> .fail)
  |_=> .fail
 |_=> .fail
def IK{α:Type} :(ts:List Ty)->List ((t:Ty)×t.den)->(Nb ts->Cmd α)->Cmd α
 |[],cs,K=>match cs with|[]=>K ()|_=> .fail
 |[t],cs,K=>match cs with|[⟨t',x⟩]=>TB t' t x K .fail|_=> .fail
 |t::t' ::r,cs,K=>match cs with
  |⟨u,x⟩::cs=>TB u t x (λx=>IK (t' ::r) cs λy=>K (x,y)) .fail|[]=> .fail
def Na:(ts:List Ty)->Nb ts->List ((t:Ty)×t.den)
 |[],_=>[]|[t],x=>[⟨t,x⟩]|t::t' ::r,x=>⟨t,x.1⟩::Na (t' ::r) x.2
def sbC(te:Nat)(c:V)(K:List UInt8->Cmd α):Cmd α:=match c with
 | .nl=>K []
 | .own b none=> .get (Z4+b) λ
  | .brow te' xs=>bif Nat.beq te' te then Cmd.set (Z4+b) .dead (K xs)else .fail|_=> .fail
 |_=> .fail
def exM{α:Type}(ln:Ty->Bool):(m:M)->List V->(m.den->List V->Cmd α)->Cmd α
 | .dat t,cs,K=>og ln t cs K
 | .own t,cs,K=>match cs with
  | .nl::r=>bif t.isEnt then .fail else K [] r
  | .own bx vw::r=> .get (Z4+bx) λ
   | .barr t' xs=>Ty.castL t' t xs (λys=>Cmd.set (Z4+bx) .dead (K (jk vw ys) r)) Cmd.fail|_=> .fail
  |_=> .fail
 | .pair a b,cs,K=>exM xX a cs λx r=>exM xX b r λy r' =>K (x,y) r'| .unit,cs,K=>K () cs
 | .box m,cs,K=>match cs with
  | .ptr bx 0::r=> .get (Z4+bx) λ
   | .bcells bs=>Cmd.set (Z4+bx) .dead (exM xX m bs λx q=>match q with|[]=>K x r|_=> .fail)|_=> .fail
  |_=> .fail
 | .owns m,cs,K=>match cs with
  | .nl::r=>bif m.el then K [] r else .fail
  | .own bx none::r=> .get (Z4+bx) λ
   | .barrs m' xs none=>N_ m' m xs (λys=>Cmd.set (Z4+bx) .dead (K ys r)) Cmd.fail|_=> .fail
  |_=> .fail
 | .ownb t,cs,K=>match cs with
  | .nl::r=>bif t.isEnt then .fail else K [] r
  | .own bx none::r=> .get (Z4+bx) λ
   | .barr t' xs=>Ty.castL t' t xs (λys=>Cmd.set (Z4+bx) (.gone t) (K ys r)) Cmd.fail|_=> .fail
  |_=> .fail
 | .rp t,cs,K=>match cs with
  |v::r=>rpC t v λx=>K x r|_=> .fail
 | .fn f ts,cs,K=>match cs with
  | .clos g caps::r=>bif Nat.beq g f then IK ts caps λx=>K x r else .fail
  | .fnv g::r=>bif Nat.beq g f then IK ts [] λx=>K x r else .fail|_=> .fail
 | .ifc t m,cs,K=>match cs with
  | .ifc t' v::r=>bif Nat.beq t' t then exM xX m [v] λx q=>(match q with|[]=>K x r|_=> .fail)else .fail|_=> .fail
 | .cell (some none),cs,K=>match cs with
  | .nl::r=>K () r|_=> .fail
 | .cell (some (some b)),cs,K=>match cs with
  | .ne true::r=>bif b then K () r else .fail| .ne false::r=>bif b then .fail else K () r|_=> .fail
 | .cell none,cs,K=>match cs with
  |_::r=>K () r|_=> .fail
 | .fr t,cs,K=>match cs with
  | .nl::r=>bif t.isEnt then .fail else K [] r
  | .own bx none::r=> .get (Z4+bx) λ
   | .barr t' xs=>Ty.castL t' t xs (λys=>Cmd.set (Z4+bx) (.bfrz t ys) (K ys r)) Cmd.fail| .bfrz t' xs=>Ty.castL t' t xs (λys=>K ys r) Cmd.fail|_=> .fail
  |_=> .fail
 | .sit,cs,K=>match cs with
  | .ptr bx 0::r=> .get (Z4+bx) λ
   | .biter l p=>Cmd.set (Z4+bx) .dead (K (l,p) r)|_=> .fail
  |_=> .fail
 | .sbx tb te,cs,K=>match cs with
  | .ptr bx 0::r=> .get (Z4+bx) λ
   | .bsb tb' c=>bif Nat.beq tb' tb then(sbC te c λys=>Cmd.set (Z4+bx) .dead (K ys r))else .fail|_=> .fail
  |_=> .fail
def cellsOf(v:V):List V:=match v with| .agg cs=>cs|v=>[v]
def uh(n:Nat)(v:V)(K:Cmd α):Cmd α:=.get (Z4+n) λ
 | .undef=> .set (Z4+n) v K|_=> .fail
def emM{α:Type} :(m:M)->m.den->Nat->List V->(List V->Nat->Cmd α)->Cmd α
 | .dat t,x,n,r,K=>K (flat t x r) n| .own t,xs,n,r,K=>uh n (.barr t xs) (K (.own n none::r) (n+1))
 | .pair a b,x,n,r,K=>emM b x.2 n r λr' n' =>emM a x.1 n' r' K| .unit,_,n,r,K=>K r n
 | .box m,x,n,r,K=>emM m x (n+1) [] λcs n' =>uh n (.bcells cs) (K (.ptr n 0::r) n')| .owns m,xs,n,r,K=>uh n (.barrs m xs none) (.set (Z4+(Lc+n)) (.blen (x9 xs) m.size) (K (.own n none::r) (n+1)))| .ownb t,xs,n,r,K=>uh n (.barr t xs) (K (.own n none::r) (n+1))| .rp t,x,n,r,K=>K (.dp t x 0::r) n| .fn f ts,x,n,r,K=>K (.clos f (Na ts x)::r) n
 | .ifc t m,x,n,r,K=>emM m x n [] λcs n' =>match cs with|[c]=>K (.ifc t c::r) n'|_=> .fail
 | .cell (some none),_,n,r,K=>K (.nl::r) n| .cell (some (some b)),_,n,r,K=>K (.ne b::r) n| .cell none,_,n,r,K=>K (.undef::r) n| .fr t,xs,n,r,K=>uh n (.bfrz t xs) (K (.own n none::r) (n+1))| .sit,x,n,r,K=>uh n (.biter x.1 x.2) (K (.ptr n 0::r) (n+1))| .sbx tb te,xs,n,r,K=>uh (n+1) (.brow te xs) (uh n (.bsb tb (.own (n+1) none)) (K (.ptr n 0::r) (n+2)))
structure Sig where
 ms:List (Nat×MG)
 als:List (Nat×Nat)
@[reducible] def pV (s:Sig):Type:=aW (s.ms.map (·.2))
def PG(ag:Bool)(v:V)(K:List V->Cmd α):Cmd α:=match ag,v with
 |true,.agg cs=>K cs|true,_=> .fail|false,.agg _=> .fail|false,.tup _=> .fail|false,.undef=> .fail|false,.un=> .fail|false,v=>K [v]
def BU(v:V)(K:List V->Cmd α):Cmd α:=match v with
 | .agg cs=>K cs| .tup _=> .fail| .undef=> .fail| .un=> .fail|v=>K [v]
def M.isDat:M->Bool| .dat _=>true|_=>false
def Qa(ln:Ty->Bool)(m:MG)(v:V)(K:m.2.den->Cmd α):Cmd α:=
 PG m.1 v λcs=>exM ln m.2 cs λx q=>match q with|[]=>K x|_=> .fail
def Ih{α:Type}(ln:Ty->Bool):(ms:List MG)->List V->(aW ms->Cmd α)->Cmd α
 |[],vs,K=>match vs with|[]=>K ()|_=> .fail
 |[m],vs,K=>match vs with
  |[v]=>Qa ln m v K|_=> .fail
 |m::m' ::r,vs,K=>match vs with
  |v::vs=>bif m.2.isDat then Ih ln (m' ::r) vs λy=>Qa ln m v λx=>K (x,y)
   else Qa ln m v λx=>Ih ln (m' ::r) vs λy=>K (x,y)
  |[]=> .fail
def UZ{α:Type} :List Nat->(List V->Cmd α)->Cmd α
 |[],K=>K []
 |s::r,K=>bif Nat.blt s Z4 then .get s λv=>UZ r λvs=>K (v::vs)else .fail
def a8P:V->V->Bool
 | .own a none,.own b none=>Nat.beq a b|_,_=>false
def a6e{α:Type} :List (Nat×Nat)->Cmd α->Cmd α
 |[],K=>K
 |(n,k)::r,K=>bif Nat.blt n Z4&&Nat.blt k Z4 then .get n λv=> .get k λu=>bif a8P v u then a6e r K else .fail else .fail
def a3h(s:Sig):Cmd (pV s):=a6e s.als (UZ (s.ms.map (·.1)) λvs=>Ih xX (s.ms.map (·.2)) vs .ret)
def mkV(ag:Bool)(cs:List V):V:=match ag,cs with|true,cs=> .agg cs|false,[v]=>v|false,_=> .undef
def Ig{α:Type} :(ms:List MG)->aW ms->Nat->(List V->Nat->Cmd α)->Cmd α
 |[],_,n,K=>K [] n
 |[m],x,n,K=>emM m.2 x n [] λcs n' =>K [mkV m.1 cs] n'
 |m::m' ::r,x,n,K=>emM m.2 x.1 n [] λcs n' =>Ig (m' ::r) x.2 n' λvs n'' =>K (mkV m.1 cs::vs) n''
def RD:List Nat->List V->Cmd Unit
 |[],[]=> .ret ()|n::ns,v::vs=>bif Nat.blt n Z4 then .set n v (RD ns vs)else .fail|_,_=> .fail
def OT:List Nat->List V->Cmd Unit->Cmd Unit
 |[],[],K=>K|n::ns,v::vs,K=>bif Nat.blt n Z4 then .set n v (OT ns vs K)else .fail|_,_,_=> .fail
def VL:List (Nat×Nat)->Cmd Unit
 |[]=> .ret ()
 |(n,k)::r=>bif Nat.blt n Z4&&Nat.blt k Z4 then .get k λv=> .set n v (VL r)else .fail
def a3c(s:Sig)(x:pV s)(nb lim:Nat):Cmd Unit:=
 Ig (s.ms.map (·.2)) x nb λvs n=>bif Nat.ble n lim then OT (s.ms.map (·.1)) vs (VL s.als)else .fail
def YL:Value->V
 | .bool b=> .b b| .int k n=> .i k n| .string s=> .s s.data.toList| .slice none 0 0=> .nl|_=> .undef
def pK(x:Operand)(K:V->Cmd α):Cmd α:=
 match x with
 | .tmp t=>bif Nat.blt t Z4 then .get t K else .fail| .const v=>K (YL v)| .global g=>K (.glob g)| .func f=>K (.fnv f)
def Kq{α:Type} :List Operand->(List V->Cmd α)->Cmd α
 |[],K=>K []
 |x::r,K=>pK x λv=>Kq r λvs=>K (v::vs)
def PV(n:Nat)(cs:List V):Option (List V):=match n,cs with
 |0,cs=>some cs|n+1,_::cs=>PV n cs|_+1,[]=>none
def Yk{R:Type u}(n:Nat)(cs:List V)(K:List V->R)(f:R):R:=match n,cs with
 |0,_=>K []|n+1,c::cs=>Yk n cs (λr=>K (c::r)) f|_+1,[]=>f
def Tf{R:Type u}(off n:Nat)(cs:List V)(K:List V->R)(f:R):R:=match PV off cs with|some r=>Yk n r K f|none=>f
def Kw{R:Type u}(off:Nat)(vs cs:List V)(K:List V->R)(f:R):R:=match off,vs,cs with
 |0,[],cs=>K cs|0,v::vs,_::cs=>Kw 0 vs cs (λr=>K (v::r)) f|n+1,vs,c::cs=>Kw n vs cs (λr=>K (c::r)) f|_,_,[]=>f
def zM:Operand->Bool
 | .const (.int _ n)=>decide (n=0)|_=>true
def CU:Operand->Bool
 | .const (.int _ n)=>decide (n<0)|_=>true
def eq1:V->V->Option Bool
 | .b x,.b y=>some (Pq x y)| .i j x,.i k y=>bif decide (j=k)then some (D5 x y)else none| .s x,.s y=>some (seq x y)|_,_=>none
def xk:List V->List V->Option Bool
 |[],[]=>some true
 |a::r,b::q=>match eq1 a b with
  |none=>none
  |some e=>match r,q with
   |[],[]=>some e|_,_=>(match xk r q with|some e' =>some (oP e e')|none=>none)
 |_,_=>none
def xO:List Ty->List V->Bool
 |[],[]=>true| .bool::ts,.b _::cs=>xO ts cs| .int k::ts,.i k' _::cs=>decide (k=k')&&xO ts cs| .str::ts,.s _::cs=>xO ts cs|_,_=>false
def Aq(n:Nat):List Nat->Bool|[]=>false|k::r=>bif Nat.beq k n then true else Aq n r
def a3N(E:Env)(t:Nat)(op:BinOp)(b:Bool)(K:V->Cmd α):Cmd α:=
 match dI E.tt t with
 |some i=>match i.td,op with
  | .sl _,.eql=>K (.b b)| .sl _,.neq=>K (.b (H9 b))|_,_=> .fail
 |none=> .fail
def EH(E:Env)(t:Nat)(op:BinOp)(yc:Operand)(x y:V)(K:V->Cmd α):Cmd α:=
 match x,y with
 | .i k a,.i k' b=>
  match op with
  | .shl=>bif CU yc then Cmd.opt (a0l k a b) λr=>K (.i k r)else K (.i k (CV k a b))
  | .shr=>bif CU yc then Cmd.opt (Ii k a b) λr=>K (.i k r)else K (.i k (WX k a b))|_=>
  bif decide (k=k')then
   match op with
   | .add=>K (.i k (I5 k a b))| .sub=>K (.i k (ae k a b))| .mul=>K (.i k (JK k a b))
   | .quo=>bif zM yc then Cmd.opt (a8k k a b) λr=>K (.i k r)else K (.i k (dX k a b))
   | .rem=>bif zM yc then Cmd.opt (a8l a b) λr=>K (.i k r)else K (.i k (iY a b))| .and=>K (.i k (tZ k a b))| .or=>K (.i k (ior k a b))| .xor=>K (.i k (a3w k a b))| .andNot=>K (.i k (a0f k a b))| .eql=>K (.b (D5 a b))| .neq=>K (.b (H9 (D5 a b)))| .lss=>K (.b (I8 a b))| .leq=>K (.b (V6 a b))| .gtr=>K (.b (I8 b a))| .geq=>K (.b (V6 b a))|_=> .fail
  else .fail
 | .s a,.s b=>
  match op with
  | .add=>Cmd.opt (Z7 a b) λr=>K (.s r)| .eql=>K (.b (seq a b))| .neq=>K (.b (H9 (seq a b)))| .lss=>K (.b (slt a b))|_=> .fail
 | .b a,.b b=>
  match dI E.tt t with
  |some i=>match i.td,op with
   | .bool,.eql=>K (.b (Pq a b))| .bool,.neq=>K (.b (H9 (Pq a b)))|_,_=> .fail
  |none=> .fail
 | .agg xs,.agg ys=>
  match dI E.eqs t with
  |some sh=>bif xO sh xs&&xO sh ys then(match op,xk xs ys with
   | .eql,some e=>K (.b e)| .neq,some e=>K (.b (H9 e))
   |_,_=> .fail)else .fail
  |none=> .fail
 | .nl,.nl=>a3N E t op true K| .ne b,.nl=>a3N E t op b K| .sl u xs,.nl=>bif u.isEnt then .fail else .br (D5 (x9 xs) 0) .fail (a3N E t op false K)|_,_=> .fail
def unC(op:UnOp)(x:V)(K:V->Cmd α):Cmd α:=
 match op,x with
 | .neg,.i k a=>K (.i k (ae k 0 a))| .xor,.i k a=>K (.i k (a3w k (bif k.signed then -1 else k.max) a))| .not,.b a=>K (.b (H9 a))|_,_=> .fail
def Ub(E:Env)(t:Nat):Bool:=bif Nat.blt t E.nt then !(Aq t E.kp)else false
def dH(E:Env)(d:Option Tmp)(v:V):Cmd Unit:=match d with|some t=>bif Ub E t then .set t v (.ret ())else .fail|none=> .ret ()
def J9(q:Nat)(d:Option Tmp):Nat:=match d with|some t=>CB*q+64*t|none=>CB*q+999936
def tiC(E:Env)(t:Nat)(K:TI->Cmd α):Cmd α:=match dI E.tt t with|some i=>K i|none=> .fail
def bz:TD->Bool| .struct _| .arr _ _=>true|_=>false
def Ik(E:Env)(t:Nat)(p:V)(K:V->Cmd α):Cmd α:=
 tiC E t λi=>match p with
 | .ptr bx off=> .get (Z4+bx) λ
  | .bcells cs=>Tf off i.size cs (λr=>K (mkV (bz i.td) r)) Cmd.fail| .bfc u x=>Tf off i.size (flat u x []) (λr=>K (mkV (bz i.td) r)) Cmd.fail|_=> .fail
 | .ep bx idx off=> .get (Z4+bx) λ
  | .barr u xs=>Cmd.opt (qN xs idx) λx=>Tf off i.size (flat u x []) (λr=>K (mkV (bz i.td) r)) Cmd.fail
  | .bfrz u xs=>Cmd.opt (qN xs idx) λx=>Tf off i.size (flat u x []) (λr=>K (mkV (bz i.td) r)) Cmd.fail
  | .barrs m xs _=>Cmd.opt (qN xs idx) λx=>Tf off i.size (Ei m x []) (λr=>K (mkV (bz i.td) r)) Cmd.fail|_=> .fail
 | .dp u x off=>Tf off i.size (flat u x []) (λr=>K (mkV (bz i.td) r)) Cmd.fail|_=> .fail
def QO{R:Type u} :(m:M)->Nat->m.den->(V->R)->R->R
 | .own t,off,xs,K,f=>bif Nat.beq off 0 then K (.barr t xs)else f| .owns m,off,xs,K,f=>bif Nat.beq off 0 then K (.barrs m xs none)else f| .pair a b,off,x,K,f=>bif Nat.blt off a.size then QO a off x.1 K f else QO b (off -a.size) x.2 K f|_,_,_,_,f=>f
def Zj{R:Type u} :(m:M)->Nat->V->m.den->(m.den->R)->R->R
 | .own t,off,v,_,K,f=>bif Nat.beq off 0 then(match v with| .barr t' ys=>Ty.castL t' t ys K f| .nl=>bif t.isEnt then f else K []|_=>f)else f| .owns m,off,v,_,K,f=>bif Nat.beq off 0 then(match v with| .barrs m' ys none=>N_ m' m ys K f| .nl=>K []|_=>f)else f| .pair a b,off,v,x,K,f=>bif Nat.blt off a.size then Zj a off v x.1 (λy=>K (y,x.2)) f else Zj b (off -a.size) v x.2 (λy=>K (x.1,y)) f|_,_,_,_,_,f=>f
def a1v{α:Type} :(m:M)->Nat->List V->m.den->(m.den->Cmd α)->Cmd α
 | .dat t,off,vs,x,K=>bif t.flat then Kw off vs (flat t x []) (λr=>og xX t r λy q=>match q with|[]=>K y|_=> .fail) .fail else .fail| .pair a b,off,vs,x,K=>bif Nat.blt off a.size then a1v a off vs x.1 (λy=>K (y,x.2))else a1v b (off -a.size) vs x.2 (λy=>K (x.1,y))|_,_,_,_,_=> .fail
def M.ownAt:M->Nat->Bool
 | .own _,off=>Nat.beq off 0| .owns _,off=>Nat.beq off 0| .pair a b,off=>bif Nat.blt off a.size then a.ownAt off else b.ownAt (off -a.size)|_,_=>false
def Va(h:Option (Nat×Nat×Option Nat))(idx off:Nat):Bool:=match h with|none=>true|some (i,o,_)=>bif Nat.beq o off then Zm i idx else false
def a8n(E:Env)(d:Option Tmp)(nm t:Nat)(p:V)(K:V->Cmd α):Cmd α:=
 match p with
 | .ep bx idx off=> .get (Z4+bx) λ
  | .barrs m xs none=>bif m.ownAt off then tiC E t λi=>(bif Nat.beq i.size 1&&!bz i.td then
     (bif Aq (match d with|some d=>d|none=>Z4) E.tk then
      Cmd.opt (qN xs idx) λx=>QO m off x (λv=>Cmd.set (Z4+bx) (.barrs m xs (some (idx,off,none))) (uh nm v (Cmd.set (Z4+bx) (.barrs m xs (some (idx,off,some nm))) (K (.own nm none))))) .fail
     else og xX (.sl m.ty) [.own bx none] λ_ _=>Ik E t p K)else .fail)
    else Ik E t p K
  | .barrs m xs (some (i,o,some n))=>bif m.ownAt off then tiC E t λj=>(bif Nat.beq j.size 1&&!bz j.td then
     .br (Va (some (i,o,some n)) idx off) (K (.own n none)) .fail else .fail)
    else Ik E t p K
  |_=>Ik E t p K
 |_=>Ik E t p K
def VR(bx idx off:Nat)(m:M)(xs:List m.den)(hole:Option (Nat×Nat×Option Nat))(v:V)(K:Cmd Unit):Cmd Unit:=
 .br (Va hole idx off) (Cmd.opt (qN xs idx) λx=>Zj m off v x (λy=>Cmd.set (Z4+bx) (.barrs m (wI xs idx y) none) K) .fail) .fail
def b1Y:V->Bool| .barr ..=>true| .barrs _ _ none=>true|_=>false
def a5I(E:Env)(t:Nat)(p v:V):Cmd Unit:=
 tiC E t λi=>match p with
 | .ptr bx off=> .get (Z4+bx) λ
  | .bcells cs=>BU v λvs=>bif Nat.beq vs.length i.size then Kw off vs cs (λr=>Cmd.set (Z4+bx) (.bcells r) (.ret ())) Cmd.fail else .fail|_=> .fail
 | .ep bx idx off=> .get (Z4+bx) λ
  | .barr u xs=>Cmd.opt (qN xs idx) λx=>BU v λvs=>bif Nat.beq vs.length i.size then Kw off vs (flat u x []) (λr=>
    og xX u r λy q=>match q with
     |[]=> .get (Z4+bx) λ
      | .barr u' xs' =>Ty.castL u' u xs' (λxs' =>Cmd.set (Z4+bx) (.barr u (wI xs' idx y)) (.ret ())) Cmd.fail|_=> .fail
     |_=> .fail) Cmd.fail else .fail
  | .barrs m xs hole=>bif m.ownAt off&&Nat.beq i.size 1&&!bz i.td then(match v with
    | .nl=>VR bx idx off m xs hole .nl (.ret ())
    | .own b2 none=> .get (Z4+b2) λw=>bif b1Y w then Cmd.set (Z4+b2) .dead (.get (Z4+bx) λ
     | .barrs m xs hole=>VR bx idx off m xs hole w (.ret ())
     |_=> .fail)else .fail
    |_=> .fail)
   else match hole with
    |none=>BU v λvs=>bif Nat.beq vs.length i.size then Cmd.opt (qN xs idx) λx=>a1v m off vs x λy=>Cmd.set (Z4+bx) (.barrs m (wI xs idx y) none) (.ret ())else .fail|some _=> .fail
  |_=> .fail
 |_=> .fail
def szB(sz:Nat)(u:Ty):Bool:=bif u.isEnt then false else Nat.beq sz u.size
def ER(E:Env)(t f:Nat):Option (Nat×Nat×Bool):=
 match dI E.tt t with
 |some i=>match i.td with
  | .struct fs=>match fs[f]? with
   |some (ft,off)=>match dI E.tt ft with|some j=>bif Nat.beq j.size 0 then none else some (off,j.size,bz j.td)|none=>none
   |none=>none
  |_=>none
 |none=>none
def Xg(vw:Option (Nat×Nat)):Nat:=match vw with|none=>0|some (lo,_)=>lo
def a9F(vw:Option (Nat×Nat))(n:Nat):Nat:=match vw with|none=>n|some (lo,_)=>lo+n
theorem a6y(vw:Option (Nat×Nat))(n:Nat):a9F vw n=Xg vw+n:=by cases vw<;>simp[a9F,Xg]
def Dp(E:Env)(t:Nat):Option (Bool×Nat×Nat):=
 match dI E.tt t with
 |some i=>match i.td with
  | .sl e=>match dI E.tt e with|some j=>some (false,0,j.size)|none=>none
  | .arr n e=>match dI E.tt e with|some j=>some (true,n,j.size)|none=>none
  |_=>none
 |none=>none
def Qm(E:Env)(t:Nat)(x ix:V)(K:V->Cmd α):Cmd α:=
 match ix,Dp E t with
 | .i _ n,some (false,_,sz)=>match x with
  | .sl u xs=>bif szB sz u then Cmd.opt (X0 xs n) λy=>K (.dp u y 0)else .fail
  | .own bx vw=> .get (Z4+(Lc+bx)) λ
   | .blen ln sz' =>(match vw with|none=>bif Nat.beq sz sz' then .br (inb n ln) (K (.ep bx (jC n) 0)) .fail else .fail|_=> .fail)
   |_=> .get (Z4+bx) λ
   | .barr u xs=>bif szB sz u then Cmd.opt (X0 (jk vw xs) n) λ_=>K (.ep bx (a9F vw (jC n)) 0)else .fail
   | .bfrz u xs=>bif szB sz u then Cmd.opt (X0 (jk vw xs) n) λy=>K (.dp u y 0)else .fail| .barrs m xs _=>(match vw with|none=>bif Nat.beq sz m.size then Cmd.opt (X0 xs n) λ_=>K (.ep bx (jC n) 0)else .fail|_=> .fail)|_=> .fail
  |_=> .fail
 | .i _ n,some (true,l,sz)=>match x with
  | .glob g=>match dI E.gl g with
   |some ⟨u,xs⟩=>bif Nat.beq sz u.size&&Nat.beq l xs.length then Cmd.opt (X0 xs n) λy=>K (.dp u y 0)else .fail|none=> .fail
  | .ptr bx off=> .br (inb n l) (K (.ptr bx (off+jC n*sz))) .fail|_=> .fail
 |_,_=> .fail
def b2a(td:TD)(x:V)(K:V->Cmd α):Cmd α:=
 match td,x with
 | .str,.s l=>K (.i .i64 (x9 l))| .sl _,.sl t xs=>bif t.isEnt then .fail else K (.i .i64 (x9 xs))| .map ..,.sl t xs=>bif t.isEnt then K (.i .i64 (x9 xs))else .fail
 | .map ..,.own bx none=> .get (Z4+bx) λ
  | .barr t xs=>bif t.isEnt then K (.i .i64 (x9 xs))else .fail| .bfrz t xs=>bif t.isEnt then K (.i .i64 (x9 xs))else .fail|_=> .fail
 | .sl _,.nl=>K (.i .i64 0)
 | .sl _,.own bx vw=> .get (Z4+(Lc+bx)) λ
  | .blen ln _=>(match vw with|none=>K (.i .i64 ln)|_=> .fail)
  |_=> .get (Z4+bx) λ
  | .barr t xs=>bif t.isEnt then .fail else K (.i .i64 (x9 (jk vw xs)))| .bfrz t xs=>bif t.isEnt then .fail else K (.i .i64 (x9 (jk vw xs)))| .barrs _ xs _=>(match vw with|none=>K (.i .i64 (x9 xs))|_=> .fail)|_=> .fail
 |_,_=> .fail
def yg(d:Int):Option V->Option Int
 |none=>some d|some (.i _ n)=>some n|some _=>none
def MX(E:Env)(t:Nat)(x:V)(lo hi:Option V)(K:V->Cmd α):Cmd α:=
 match x with
 | .s l=>tiC E t λi=>match i.td,yg 0 lo,yg (x9 l) hi with
  | .str,some a,some b=>Cmd.opt (bQ l a b) λr=>K (.s r)|_,_,_=> .fail
 | .sl u l=>match Dp E t,yg 0 lo,yg (x9 l) hi with
  |some (false,_,sz),some a,some b=>bif szB sz u then Cmd.opt (bQ l a b) λr=>K (.sl u r)else .fail|_,_,_=> .fail
 | .own bx none=> .get (Z4+bx) λ
  | .barr u xs=>match Dp E t,yg 0 lo,yg (x9 xs) hi with
   |some (false,_,sz),some a,some b=>bif szB sz u then .br (mJ a b (x9 xs)) (K (.own bx (some (jC a,jC b)))) .fail else .fail|_,_,_=> .fail
  | .bfrz u xs=>match Dp E t,yg 0 lo,yg (x9 xs) hi with
   |some (false,_,sz),some a,some b=>bif szB sz u then .br (mJ a b (x9 xs)) (K (.own bx (some (jC a,jC b)))) .fail else .fail|_,_,_=> .fail
  |_=> .fail
 |_=> .fail
def Yn{α:Type}(u:Ty):Nat->List V->(List u.den->Cmd α)->Cmd α
 |0,cs,K=>match cs with|[]=>K []|_=> .fail
 |n+1,cs,K=>og xX u cs λx r=>Yn u n r λxs=>K (x::xs)
def RG(E:Env)(nm t bx:Nat)(K:V->Cmd Unit):Cmd Unit:=tiC E t λi=>match i.td with
 | .arr n e=>tiC E e λj=>(match j.ty with
  |some u=>bif u.flat then .get (Z4+bx) λ
   | .bcells cs=>Yn u n cs λxs=>Cmd.set (Z4+bx) .dead (uh nm (.barr u xs) (K (.own nm none)))|_=> .fail
   else .fail
  |none=> .fail)
 |_=> .fail
def zh(E:Env)(t:Nat):Option (Nat×Ty):=
 match dI E.tt t with
 |some i=>match i.td with
  | .sl e=>match dI E.tt e with
   |some j=>match j.ty with|some u=>bif (Nat.beq u.size j.size&&Nat.ble j.bytes 65536&&!u.isEnt)then some (e,u)else none|none=>none
   |none=>none
  |_=>none
 |none=>none
def Ot(nm:Nat)(u:Ty)(x:V)(ys:List u.den)(K:V->Cmd Unit):Cmd Unit:=
 match x with
 | .nl=>Cmd.opt (jV [] ys) λzs=>uh nm (.barr u zs) (K (.own nm none))
 | .own bx vw=> .get (Z4+bx) λ
  | .barr u' xs=>Ty.castL u' u xs (λxs=>Cmd.opt (jV (jk vw xs) ys) λzs=>Cmd.set (Z4+bx) .dead (uh nm (.barr u zs) (K (.own nm none)))) Cmd.fail|_=> .fail
 |_=> .fail
def a8c(E:Env)(t:Nat)(x y:V)(K:V->Cmd Unit):Cmd Unit:=
 match zh E t with
 |none=> .fail
 |some (_,u)=>match dI E.om t with
  |none=>XA u y λys=>(match x with
   | .own bx none=> .get (Z4+bx) λ
    | .barr u' xs=>Ty.castL u' u xs (λxs=>Cmd.set (Z4+bx) (.barr u (JP xs ys)) (K (.i .i64 (zk (x9 xs) (x9 ys))))) Cmd.fail|_=> .fail
   |_=> .fail)
  |some _=> .fail
def I_(E:Env)(nm:Nat)(t:Nat)(x:V)(l:List UInt8)(K:V->Cmd Unit):Cmd Unit:=
 match zh E t with
 |some (_,.int .u8)=>(match dI E.om t with|none=>Ot nm (.int .u8) x (SL l) K|some _=> .fail)|_=> .fail
def a2V(E:Env)(nm:Nat)(t:Nat)(l:List UInt8)(K:V->Cmd Unit):Cmd Unit:=
 match zh E t with
 |some (e,.int .u8)=>tiC E e λk=>(match k.td with
  | .int .u8=>uh nm (.barr (.int .u8) (SL l)) (K (.own nm none))
  |_=> .fail)
 |_=> .fail
def H_(E:Env)(nm:Nat)(t:Nat)(x y:V)(K:V->Cmd Unit):Cmd Unit:=
 match zh E t with
 |none=> .fail
 |some (_,u)=>match dI E.om t with
  |none=>XA u y λys=>Ot nm u x ys K
  |some m=>bif Nat.beq m.size u.size then exM xX (.owns m) [y] λys _=>exM xX (.owns m) [x] λxs _=>Cmd.opt (jV xs ys) λzs=>uh nm (.barrs m zs none) (K (.own nm none))else .fail
def wG{α:Type}(u:Ty):List (Nat×V)->Nat->Nat->(List u.den->Cmd α)->Cmd α
 |[],_,0,K=>K []
 |(i,v)::r,n,m+1,K=>bif Nat.beq i n then BU v λcs=>og xX u cs λx q=>match q with|[]=>wG u r (n+1) m λxs=>K (x::xs)|_=> .fail else .fail
 |_,_,_,_=> .fail
def uu{α:Type}(m:M):List (Nat×V)->Nat->Nat->(List m.den->Cmd α)->Cmd α
 |[],_,0,K=>K []
 |(i,v)::r,n,k+1,K=>bif Nat.beq i n then BU v λcs=>exM xX m cs λx q=>match q with|[]=>uu m r (n+1) k λxs=>K (x::xs)|_=> .fail else .fail
 |_,_,_,_=> .fail
def D_(E:Env):List (Nat×Nat)->Bool
 |[]=>true
 |(t,_)::r=>match dI E.tt t with|some _=>D_ E r|none=>false
def yZ{α:Type}(E:Env)(t:Nat):List (Nat×V)->List V->(List V->Cmd α)->Cmd α
 |[],cs,K=>K cs
 |(f,v)::r,cs,K=>match ER E t f with
  |some (off,n,_)=>BU v λvs=>bif Nat.beq vs.length n then Kw off vs cs (λcs' =>yZ E t r cs' K) .fail else .fail|none=> .fail
def EF{α:Type}(sz:Nat):List (Nat×V)->List V->(List V->Cmd α)->Cmd α
 |[],cs,K=>K cs
 |(i,v)::r,cs,K=>BU v λvs=>bif Nat.beq vs.length sz then Kw (i*sz) vs cs (λcs' =>EF sz r cs' K) .fail else .fail
def az{α:Type} :List MG->List V->List V->Cmd α->Cmd α
 |(_,.box _)::ms,.ptr bx _::vs,.agg cs::os,K=> .get (Z4+bx) λ
  | .dead=>Cmd.set (Z4+bx) (.bcells cs) (az ms vs os K)|_=> .fail
 |(_,.box _)::_,_,_,_=> .fail
 |(_,.ifc _ (.box _))::ms,.ifc _ (.ptr bx _)::vs,.agg cs::os,K=> .get (Z4+bx) λ
  | .dead=>Cmd.set (Z4+bx) (.bcells cs) (az ms vs os K)|_=> .fail
 |(_,.ifc _ (.box _))::_,_,_,_=> .fail
 |(_,.ownb _)::ms,.own bx none::vs,.own nm none::os,K=> .get (Z4+nm) λ
  | .barr u xs=>Cmd.set (Z4+nm) .dead (.get (Z4+bx) λ
   | .gone t=>Ty.castL u t xs (λxs=>Cmd.set (Z4+bx) (.barr t xs) (az ms vs os K)) .fail
   |_=> .fail)
  |_=> .fail
 |(_,.ownb _)::ms,.nl::vs,.own nm none::os,K=>Cmd.set (Z4+nm) .dead (az ms vs os K)|(_,.ownb _)::_,_,_,_=> .fail
 |(_,.sbx _ _)::ms,.ptr bx _::vs,.ptr nm _::os,K=> .get (Z4+nm) λ
  | .bsb tb c=>Cmd.set (Z4+nm) .dead (.get (Z4+bx) λ
   | .dead=>Cmd.set (Z4+bx) (.bsb tb c) (az ms vs os K)
   |_=> .fail)
  |_=> .fail
 |(_,.sbx _ _)::_,_,_,_=> .fail|(_,.sit)::_,_,_,_=> .fail|_::ms,_::vs,os,K=>az ms vs os K|[],[],[],K=>K|_,_,_,_=> .fail
def Ty.occ(t:Ty):Ty->Bool
 | .sl u=>decide (t=u) || Ty.occ t u| .prod a b=>Ty.occ t a || Ty.occ t b| .ent _ _ a b=>Ty.occ t a || Ty.occ t b|_=>false
def NF(t:Ty):List Ty->Bool|[]=>false|u::r=>decide (t=u) || Ty.occ t u || NF t r
def M.occ(t:Ty):M->Bool
 | .dat u=>Ty.occ t u| .own u=>Ty.occ t u| .pair a b=>a.occ t || b.occ t| .unit=>false| .box m=>m.occ t| .owns m=>m.occ t| .ownb u=>Ty.occ t u| .rp u=>decide (t=u) || Ty.occ t u| .fn _ ts=>NF t ts| .ifc _ m=>m.occ t| .cell _=>false| .fr u=>decide (t=u) || Ty.occ t u| .sbx _ _=>false| .sit=>false
def Fq(t:Ty):List MG->Bool|[]=>false|m::r=>m.2.occ t || Fq t r
def Vk(s:FSpec):Ty->Bool:=λt=> !(Fq t s.rs || Fq t s.outs)
def Eb:Nat->List V->Option (List V×List V)
 |0,vs=>some ([],vs)
 |n+1,v::vs=>match Eb n vs with|some (a,b)=>some (v::a,b)|none=>none
 |_+1,[]=>none
def BQ:List V->Bool|[]=>false| .tup _::_=>true|_::r=>BQ r
def a7n:List V->V|[v]=>v|vs=> .tup vs
def LU:List MG->List V->Bool
 |(_,.fn g _)::ms,.clos f _::vs=>Nat.beq f g&&LU ms vs|(_,.fn g _)::ms,.fnv f::vs=>Nat.beq f g&&LU ms vs|(_,.ifc t _)::ms,.ifc t' _::vs=>Nat.beq t t' &&LU ms vs|_::ms,_::vs=>LU ms vs|_,_=>true
def XC:List (Nat×FSpec)->Nat->List V->Option FSpec
 |[],_,_=>none|(g,s)::r,f,vs=>bif Nat.beq g f&&LU s.ps vs then some s else XC r f vs
def TA(E:Env)(q:Nat)(d:Option Tmp)(f:Nat)(vs:List V):Cmd Unit:=
 match XC E.fs f vs with
 |none=> .fail|some s=>
  Ih (Vk s) s.ps vs λx=>Cmd.opt (s.fn x) λr=>
   Ig (s.rs++s.outs) r (J9 q d) λws n' =>bif Nat.ble n' (J9 q d+64)then(match Eb s.rs.length ws with
    |some (a,o)=>bif BQ a then .fail else az s.ps vs o (dH E d (a7n a))
    |none=> .fail)else .fail
def vV{α:Type} :List MG->List V->(List ((t:Ty)×t.den)->Cmd α)->Cmd α
 |(_,.rp t)::ms,v::vs,K=>rpC t v λx=>vV ms vs λcs=>K (⟨t,x⟩::cs)|[],[],K=>K []|_,_,_=> .fail
def b1T(c:(t:Ty)×t.den):V:=.dp c.1 c.2 0
def QA:List ((Nat×String)×Nat×Option Nat)->Nat->String->Option (Nat×Option Nat)
 |[],_,_=>none|((t,n),r)::l,u,m=>bif Nat.beq t u&&(n==m)then some r else QA l u m
def Ty.leaves:Ty->List Ty
 | .prod a b=>a.leaves++b.leaves| .unit=>[]|t=>[t]
def MS:List Ty->List Ty->Bool
 |[],[]=>true|a::r,b::q=>bif Ty.beq a b then MS r q else false|_,_=>false
def Xa(E:Env)(ke:Nat)(td:TD)(k:Ty):Bool:=
 match td,k with
 | .bool,.bool=>true| .int i,.int j=>decide (i=j)| .str,.str=>true| .struct _,k=>bif k.flat then(match dI E.eqs ke with|some sh=>MS sh k.leaves|none=>false)else false|_,_=>false
structure MT where
 ke:Nat
 el:Nat
 ka:Bool
 va:Bool
 k:Ty
 v:Ty
abbrev MT.ent(m:MT):Ty:=.ent m.ka m.va m.k m.v
def JR(E:Env)(t:Nat):Option MT:=
 match dI E.tt t with
 |some i=>match i.td with
  | .map ke el=>match dI E.tt ke,dI E.tt el with
   |some a,some b=>(match a.ty,b.ty with
    |some k,some v=>bif Xa E ke a.td k&&k.flat then some ⟨ke,el,bz a.td,bz b.td,k,v⟩else none
    |_,_=>none)
   |_,_=>none
  |_=>none
 |none=>none
def a2X(ag:Bool)(t:Ty)(v:V)(K:t.den->Cmd α):Cmd α:=
 PG ag v λcs=>og xX t cs λx q=>match q with|[]=>K x|_=> .fail
def a4l(u:Ty)(v:V)(K:List u.den->Cmd α):Cmd α:=
 match v with
 | .sl t xs=>Ty.castL t u xs K .fail
 | .own bx none=> .get (Z4+bx) λ
  | .barr t xs=>Ty.castL t u xs K .fail| .bfrz t xs=>Ty.castL t u xs K .fail|_=> .fail
 |_=> .fail
def Fg(E:Env)(nm t:Nat)(K:V->Cmd Unit):Cmd Unit:=
 match JR E t with
 |some m=>uh nm (.barr m.ent []) (K (.own nm none))|none=> .fail
def a0p(E:Env)(t:Nat)(ok:Bool)(x ix:V)(K:V->Cmd Unit):Cmd Unit:=
 match JR E t with
 |some m=>a2X m.ka m.k ix λkey=>a4l m.ent x λes=>
   bif ok then K (.tup [mkV m.va (flat m.v (a6F (keq m.k) es key m.v.zero) []),.b (a6G (keq m.k) es key)])
   else K (mkV m.va (flat m.v (a6F (keq m.k) es key m.v.zero) []))
 |none=> .fail
def VX(E:Env)(t:Nat)(x ix y:V):Cmd Unit:=
 match JR E t with
 |some m=>a2X m.ka m.k ix λkey=>a2X m.va m.v y λz=>match x with
  | .own bx none=> .get (Z4+bx) λ
   | .barr u xs=>Ty.castL u m.ent xs (λes=>Cmd.set (Z4+bx) (.barr m.ent (a1M (keq m.k) es key z)) (.ret ())) .fail|_=> .fail
  |_=> .fail
 |none=> .fail
def NE:M->List V->Bool
 | .dat _,_=>true| .unit,_=>true
 | .own t,cs=>match cs with| .nl::_=> !t.isEnt|_=>false
 | .owns _,cs=>match cs with| .nl::_=>true|_=>false
 | .pair a b,cs=>match PV a.size cs with|some r=>bif NE a cs then NE b r else false|none=>false
 |_,_=>false
def a1l(E:Env)(t:Nat)(m:M):Bool:=
 match zh E t with
 |some (e,_)=>match dI E.tt e with|some j=>bif Nat.beq j.zero.length j.size then NE m j.zero else false|none=>false
 |none=>false
def Rx:Operand->Operand->Bool
 | .tmp a,.tmp b=>Nat.beq a b|_,_=>false
def b1N(t:Nat)(zs:List V):V:=match zs with
 |[.npt,.nl]=> .bsb t .nl|zs=> .bcells zs
def aY(E:Env)(q:Nat)(o:Oper):Cmd Unit:=
 match o.op with
 | .move x| .assign x=>pK x λv=>dH E o.dst v
 | .pick c a b=>pK c λ
  | .b t=>bif t then pK a λva=>dH E o.dst va else pK b λvb=>dH E o.dst vb|_=> .fail
 | .alloc t=>tiC E t λi=>bif Nat.beq i.zero.length i.size then uh (J9 q o.dst) (b1N t i.zero) (dH E o.dst (.ptr (J9 q o.dst) 0))else .fail
 | .box _ x=>pK x λv=>BU v λcs=>uh (J9 q o.dst) (.bcells cs) (dH E o.dst (.ptr (J9 q o.dst) 0))
 | .build t ps=>tiC E t λi=>match i.td with
  | .struct fs=>bif D_ E fs&&Nat.beq i.zero.length i.size then(Kq (ps.toList.map (·.2)) λvs=>
    yZ E t ((ps.toList.map (·.1)).zip vs) i.zero (λcs=>dH E o.dst (.agg cs)))else .fail
  | .arr _ e=>tiC E e λj=>bif Nat.beq i.zero.length i.size then(Kq (ps.toList.map (·.2)) λvs=>
    EF j.size ((ps.toList.map (·.1)).zip vs) i.zero (λcs=>dH E o.dst (.agg cs)))else .fail
  |_=> .fail
 | .buildSlice t n ps=>match zh E t with
  |some (_,u)=>bif Nat.ble (n*u.size) 16777216 then(Kq (ps.toList.map (·.2)) λvs=>match dI E.om t with
    |none=>wG u ((ps.toList.map (·.1)).zip vs) 0 n λxs=>uh (J9 q o.dst) (.barr u xs) (dH E o.dst (.own (J9 q o.dst) none))
    |some m=>bif Nat.beq m.size u.size&&m.el then uu m ((ps.toList.map (·.1)).zip vs) 0 n λxs=>uh (J9 q o.dst) (.barrs m xs none) (dH E o.dst (.own (J9 q o.dst) none))else .fail)else .fail
  |none=> .fail
 | .load t x=>pK x λp=>a8n E o.dst (J9 q o.dst) t p λv=>dH E o.dst v
 | .store t x y=>match o.dst with|none=>pK x λp=>pK y λv=>a5I E t p v|some _=> .fail
 | .binOp op t x y _=>pK x λa=>pK y λb=>EH E t op y a b λv=>dH E o.dst v
 | .unOp op _ x=>pK x λa=>unC op a λv=>dH E o.dst v
 | .convert src t x=>pK x λa=>tiC E src λj=>tiC E t λi=>match a,i.td with
  | .i _ n,.int k=>dH E o.dst (.i k (wrap k n))| .s l,.str=>dH E o.dst (.s l)| .s l,.sl _=>(match j.td with| .str=>a2V E (J9 q o.dst) t l λv=>dH E o.dst v|_=> .fail)
  |_,.str=>(match j.td with
   | .sl e=>tiC E e λk=>(match k.td with
    | .int .u8=>XA (.int .u8) a λxs=>dH E o.dst (.s (BR xs))
    |_=> .fail)
   |_=> .fail)
  |_,_=> .fail
 | .makeSlice t l c=>match dI E.om t with
  |some m=>(match zh E t with
   |some (_,u)=>pK l λ
    | .i _ n=>bif Rx l c&&Nat.beq m.size u.size&&a1l E t m then(if h:m.el=true/\m.ty=u then Cmd.opt (Ja n (m.zero h.1)) λxs=>uh (J9 q o.dst) (.barrs m xs none) (.set (Z4+(Lc+J9 q o.dst)) (.blen (x9 xs) m.size) (dH E o.dst (.own (J9 q o.dst) none)))else .fail)else .fail|_=> .fail
   |none=> .fail)
  |none=>match zh E t with
  |some (_,u)=>pK l λ
   | .i _ n=>bif Rx l c then
     Cmd.opt (Ja n u.zero) λxs=>uh (J9 q o.dst) (.barr u xs) (dH E o.dst (.own (J9 q o.dst) none))
    else pK c λ
     | .i _ k=>Cmd.br (mJ n k 1073741824) (Cmd.opt (Ja n u.zero) λxs=>uh (J9 q o.dst) (.barr u xs) (dH E o.dst (.own (J9 q o.dst) none))) .fail|_=> .fail
   |_=> .fail
  |none=> .fail
 | .slice t x lo hi none=>pK x λv=>Kq (lo.toList++hi.toList) λbs=>
   match lo,hi,bs with
   |none,none,[]=>(match v with
    | .ptr bx 0=>RG E (J9 q o.dst) t bx λr=>dH E o.dst r
    |_=>MX E t v none none λr=>dH E o.dst r)
   |some _,none,[a]=>MX E t v (some a) none λr=>dH E o.dst r
   |none,some _,[b]=>MX E t v none (some b) λr=>dH E o.dst r
   |some _,some _,[a,b]=>MX E t v (some a) (some b) λr=>dH E o.dst r|_,_,_=> .fail
 | .fieldAddr t x f=>pK x λp=>match ER E t f with
  |some (off,_,_)=>match p with
   | .ptr bx o' =>dH E o.dst (.ptr bx (o' +off))| .ep bx ix o' =>dH E o.dst (.ep bx ix (o' +off))| .dp u y o' =>dH E o.dst (.dp u y (o' +off))|_=> .fail
  |none=> .fail
 | .field t x f=>pK x λp=>match ER E t f with
  |some (off,n,ag)=>PG true p λps=>Tf off n ps (λcs=>dH E o.dst (mkV ag cs)) Cmd.fail|none=> .fail
 | .indexAddr t x ix=>pK x λv=>pK ix λn=>Qm E t v n λr=>dH E o.dst r
 | .index t x ix=>pK x λv=>pK ix λn=>tiC E t λi=>match i.td,v,n with
  | .str,.s l,.i _ k=>Cmd.opt (sat l k) λc=>dH E o.dst (.i .u8 c)|_,_,_=> .fail
 | .extract x n=>pK x λ
  | .tup vs=>match vs[n]? with|some v=>dH E o.dst v|none=> .fail
  |_=> .fail
 | .nilCheck x=>pK x λv=>match v with
  | .ptr ..| .ep ..| .dp ..| .glob _=>dH E o.dst v|_=> .fail
 | .call c=>Kq c.args.toList λvs=>match c.callee with
  | .builtin .len=>(match c.argTypes.toList,vs with
   |t::_,[x]=>tiC E t λi=>b2a i.td x λv=>dH E o.dst v
   |_,_=> .fail)
  | .builtin .append=>(match c.argTypes.toList,vs with
   |[t,t'],[x,y]=>bif Nat.beq t t' then H_ E (J9 q o.dst) t x y λv=>dH E o.dst v else(match y with
    | .s l=>tiC E t' λi=>(match i.td with| .str=>I_ E (J9 q o.dst) t x l λv=>dH E o.dst v|_=> .fail)
    |_=> .fail)
   |_,_=> .fail)
  | .builtin .copy=>(match c.argTypes.toList,vs with
   |[t,t'],[x,y]=>bif Nat.beq t t' then a8c E t x y λv=>dH E o.dst v else .fail
   |_,_=> .fail)
  | .builtin .min=>(match vs with|[.i k a,.i k' b]=>bif decide (k=k')then dH E o.dst (.i k (zk a b))else .fail|_=> .fail)| .builtin .max=>(match vs with|[.i k a,.i k' b]=>bif decide (k=k')then dH E o.dst (.i k (zi a b))else .fail|_=> .fail)| .value (.func f)=>TA E q o.dst f vs
  | .value x=>pK x λ
   | .clos f caps=>TA E q o.dst f (vs++caps.map b1T)|_=> .fail
  | .invoke x n=>pK x λ
   | .ifc t v=>(match QA E.ms t n with
    |some (f,none)=>TA E q o.dst f (v::vs)
    |some (f,some e)=>Ik E e v λr=>TA E q o.dst f (r::vs)
    |none=> .fail)
   |_=> .fail
  |_=> .fail
 | .makeFunc (.func f) first caps=>bif Nat.beq first.size 0 then(match dI E.fs f with
   |some s=>Kq caps.toList λvs=>vV (s.ps.drop (s.ps.length -vs.length)) vs λcs=>dH E o.dst (.clos f cs)
   |none=> .fail)else .fail
 | .makeInterface t x=>tiC E t λi=>(match i.td with
  | .bool| .int _| .str| .ptr _=>pK x λv=>(match v with
   | .b ..| .i ..| .s ..| .ptr ..=>dH E o.dst (.ifc t v)
   |_=> .fail)
  |_=> .fail)
 | .typeAssert x _ t ok=>tiC E t λi=>(match i.td with
  | .other=> .fail
  |_=>pK x λ
   | .ifc t' v=>bif Nat.beq t' t then dH E o.dst (bif ok then .tup [v,.b true]else v)else .fail
   |_=> .fail)
 | .makeMap t r=>(match r with
  |none=>Fg E (J9 q o.dst) t λv=>dH E o.dst v
  |some h=>pK h λ
   | .i _ _=>Fg E (J9 q o.dst) t λv=>dH E o.dst v
   |_=> .fail)
 | .range t x=>pK x λv=>tiC E t λi=>match i.td,v with
  | .str,.s l=>uh (J9 q o.dst) (.biter l 0) (dH E o.dst (.ptr (J9 q o.dst) 0))|_,_=> .fail
 | .next x isS=>bif isS then(pK x λ
   | .ptr bx 0=> .get (Z4+bx) λ
    | .biter l p=> .br (I8 p (x9 l)) (Cmd.set (Z4+bx) (.biter l (uU l p)) (dH E o.dst (.tup [.b true,.i .i64 p,.i .i32 (ou l p)]))) (dH E o.dst (.tup [.b false]))|_=> .fail
   |_=> .fail)else .fail
 | .lookup t x ix ok=>pK x λm=>pK ix λk=>a0p E t ok m k λv=>dH E o.dst v
 | .mapUpdate t x ix y| .insert t x ix y=>match o.dst with|none=>pK x λm=>pK ix λk=>pK y λv=>VX E t m k v|some _=> .fail
 |_=> .fail
def nO(E:Env)(q:Nat)(ops:List Oper)(o:Oper):Cmd Unit:=
 match o.guard with
 |none=>aY E q o
 |some (j,want)=>match ops[j]? with
  |some p=>match p.dst with
   |some t=>bif Nat.blt t Z4 then(.get t λ
    | .b y=>bif (bif want then y else !y)then aY E q o else dH E o.dst .un| .un=>dH E o.dst .un
    |_=> .fail)else .fail
   |none=> .fail
  |none=> .fail
def OJ(t:Nat)(s:St)(K:St->Option R):Option R:=
 (dP s t).force λ
  | .b y=>l9 y (K (.kv t (.b true)::s)) (K (.kv t (.b false)::s))| .un=>K s|_=>none
def a7Z(ops:List Oper)(o:Oper):Option Nat:=
 match o.guard with
 |some (j,_)=>match ops[j]? with|some p=>p.dst|none=>none
 |none=>match o.op with| .pick (.tmp t) _ _=>some t|_=>none
abbrev Trs:=List Tr
def Jl{R:Type}(E:Env)(q:Nat)(all:List Oper):List Oper->St->Trs->(St->Trs->Option R)->Option R
 |[],s,t,K=>K s t
 |o::r,s,t,K=>match a7Z all o with
  |none=>(nO E q all o).runK s ([],[]) λ_ s' tr=>Jl E q all r s' (tr::t) K
  |some p=>OJ p s λs=>(nO E q all o).runK s ([],[]) λ_ s' tr=>Jl E q all r s' (tr::t) K
def FU:List Nat->List Nat->Bool
 |[],[]=>true|a::r,b::q=>bif Nat.beq a b then FU r q else false|_,_=>false
def oq(o:Oper):Bool:=match o.op with| .call ..=>true|_=>false
def UV(E:Env)(o:Oper):Bool:=!oq o&&(match o.dst with|some d=>Aq d E.rc|none=>false)
def a3f(E:Env)(all:List Oper)(i:Nat):Bool:=match all[i]? with|some o=>UV E o|none=>false
def UG(all:List Oper)(i:Nat):Bool:=match all[i]? with|some o=>oq o|none=>false
def a5W(a b:V)(K:Option R):Option R:=
 a.force λa=>b.force λb=>match a with
  | .i k n=>(match b with| .i k' n' =>bif decide (k=k')then l9 (D5 n n') K none else none|_=>none)| .sl t xs=>(match b with| .sl u ys=>Ty.castL u t ys (λys=>l9 (deq (.sl t) xs ys) K none) none|_=>none)| .b x=>(match b with| .b y=>l9 (Pq x y) K none|_=>none)| .s x=>(match b with| .s y=>l9 (seq x y) K none|_=>none)|_=>none
abbrev a1m:=List (Oper×Tr×V)
def Uh{R:Type}(E:Env)(q:Nat)(all:List Oper)(s:St):a1m->Option R->Option R
 |[],K=>K
 |(o,tr,v)::p,K=>(nO E q all o).runK s ([],[]) λ_ s2 tr2=>match o.dst with
  |some d=>bif FU tr.1 tr2.1&&FU tr.2 tr2.2&&FU tr2.2 [d]then a5W v (dP s2 d) (Uh E q all s p K)else none|none=>none
def QR(E:Env)(o:Oper)(s:St)(tr:Tr)(p:a1m):a1m:=
 bif UV E o then(match o.dst with|some d=>(o,tr,dP s d)::p|none=>p)else p
def xN{R:Type}(E:Env)(q:Nat)(all:List Oper):List Oper->St->Trs->a1m->(St->Trs->Option R)->Option R
 |[],s,t,_,K=>K s t
 |o::r,s,t,p,K=>match a7Z all o with
  |none=>(nO E q all o).runK s ([],[]) λ_ s' tr=>bif oq o then Uh E q all s' p (xN E q all r s' (tr::t) p K)else xN E q all r s' (tr::t) (QR E o s' tr p) K
  |some g=>OJ g s λs=>(nO E q all o).runK s ([],[]) λ_ s' tr=>bif oq o then Uh E q all s' p (xN E q all r s' (tr::t) p K)else xN E q all r s' (tr::t) (QR E o s' tr p) K
def Oe(a b:List Nat):Bool:=match a with|[]=>true|k::r=>bif Aq k b then false else Oe r b
def Zr(ordered:Bool)(x y:Tr):Bool:=bif ordered then true else(Oe x.2 y.1&&Oe x.2 y.2&&Oe x.1 y.2)
def OG(mask:Nat)(y:Tr):Trs->Nat->Bool
 |[],_=>true|x::r,i=>Zr (Nat.testBit mask (i -1)) x y&&OG mask y r (i -1)
def QM:List Nat->Trs->Bool
 |m::ms,y::r=>OG m y r r.length&&QM ms r|[],[]=>true|_,_=>false
def a0t(mask:Nat)(x:Tr):List (Nat×Tr)->Bool
 |[]=>true|(m,z)::r=>(Nat.testBit mask m || Oe x.1 z.2)&&a0t mask x r
def a0z(ordered ex:Bool)(mask:Nat)(x y:Tr)(mids:List (Nat×Tr)):Bool:=
 bif ordered then true else(Oe x.2 y.1&&Oe x.2 y.2&&(bif Oe x.1 y.2 then true else(ex&&Oe x.2 x.1&&a0t mask x mids)))
def JW(E:Env)(all:List Oper)(mask:Nat)(y:Tr)(cy:Bool):Trs->Nat->List (Nat×Tr)->Bool
 |[],_,_=>true|x::r,i,mids=>a0z (Nat.testBit mask (i -1)) (cy&&a3f E all (i -1)) mask x y mids&&JW E all mask y cy r (i -1) ((i -1,x)::mids)
def JY(E:Env)(all:List Oper):List Nat->Trs->Bool
 |m::ms,y::r=>JW E all m y (UG all r.length) r r.length []&&JY E all ms r|[],[]=>true|_,_=>false
inductive Flow (ρ:Type) where
 |nm|ex (id:Nat)|rt (r:ρ)
def Ie(acc:List Nat)(n:Nat):List Edge->Nat->Option Nat
 |[],m=>some m
 |e::r,m=>match e.ground with
  | .textOnly _=>Ie acc n r m| .gcOnly _=>Ie acc n r m|_=>bif Nat.blt e.on n then Ie acc n r (m ||| 2^e.on ||| acc.getD (n -1 -e.on) 0)else none
def Vu:List Oper->Nat->List Nat->Option (List Nat)
 |[],_,acc=>some acc
 |o::r,n,acc=>match Ie acc n o.after.toList 0 with
  |some m=>Vu r (n+1) (m::acc)|none=>none
def Jh(md:Region.Mode)(done:List Nat):List Edge->Bool
 |[]=>true|e::r=>bif (!Region.binds md e || Aq e.on done)then Jh md done r else false
def uB(md:Region.Mode)(done:List Nat):List Oper->Nat->Option Nat
 |[],_=>none|o::r,n=>bif Aq n done then uB md done r (n+1)else bif Jh md done o.after.toList then some n else uB md done r (n+1)
def C_:Nat->List Nat->Bool
 |0,_=>true|n+1,d=>Aq n d&&C_ n d
def VV(md:Region.Mode)(ops:List Oper):Nat->List Nat->Bool
 |0,d=>C_ ops.length d
 |k+1,done=>match uB md done ops 0 with|some n=>VV md ops k (n::done)|none=>false
def MK:List Edge->Bool
 |[]=>true
 |e::r=>match e.ground with| .textOnly _=>false| .gcOnly _=>false|_=>MK r
def Az:List Oper->Bool|[]=>true|o::r=>bif MK o.after.toList then Az r else false
def a3b(ops:List Oper)(t:Trs):Bool:=
 match Vu ops 0 []with
 |some ms=>bif QM ms t then(bif Az ops then true else VV .text ops ops.length []&&VV .gc ops ops.length [])else false|none=>false
def V_(E:Env)(ops:List Oper)(t:Trs):Bool:=
 match Vu ops 0 []with
 |some ms=>bif JY E ops ms t then(bif Az ops then true else VV .text ops ops.length []&&VV .gc ops ops.length [])else false|none=>false
abbrev Rgs:=List (Nat×Nat)
inductive Ann where
 |leaf
 |seq (a b:Ann)|cond (a b:Ann)|blk (a:Ann)
 |loop (rs:Rgs) (hd:Sig) (xid:Nat) (xs:Sig) (body:Ann)
 |loopR (rs:Rgs) (hd:Sig) (xid:Nat) (xs:Sig) (body:Ann)
 |join (rs:Rgs) (nm:Sig) (inner:Ann)
 |joinR (rs:Rgs) (nm:Sig) (inner:Ann)
structure Ret where
 rs:List (ResultVar×MG)
 outs:List (Nat×MG)
@[reducible] def Ret.den (r:Ret):Type:=aW (r.rs.map (·.2)++r.outs.map (·.2))
def MQ{α:Type}(E:Env):List ResultVar->(List V->Cmd α)->Cmd α
 |[],K=>K []| .tmp t::r,K=>bif Nat.blt t Z4 then(.get t λv=>MQ E r λvs=>K (v::vs))else .fail| .cell a t::r,K=>bif Nat.blt a Z4 then(.get a λp=>Ik E t p λv=>MQ E r λvs=>K (v::vs))else .fail
def MH{α:Type} :List Nat->(List V->Cmd α)->Cmd α
 |[],K=>K []
 |n::r,K=>bif Nat.blt n Z4 then .get n λv=>(match v with
  | .ptr bx 0=> .get (Z4+bx) λ
   | .bcells cs=>Cmd.set (Z4+bx) .dead (MH r λvs=>K (.agg cs::vs))|_=> .fail
  | .ifc _ u=>(match u with
   | .ptr bx 0=> .get (Z4+bx) λ
    | .bcells cs=>Cmd.set (Z4+bx) .dead (MH r λvs=>K (.agg cs::vs))|_=> .fail
   |_=> .fail)
  | .own bx none=>MH r λvs=>K (.own bx none::vs)
  |_=> .fail)else .fail
def a7o(E:Env)(r:Ret):Cmd r.den:=
 MQ E (r.rs.map (·.1)) λvs=>MH (r.outs.map (·.1)) λws=>Ih xX (r.rs.map (·.2)++r.outs.map (·.2)) (vs++ws) .ret
def Ann.l:Ann->Ann| .seq a _=>a| .cond a _=>a| .blk a=>a|_=> .leaf
def Ann.r:Ann->Ann| .seq _ b=>b| .cond _ b=>b|_=> .leaf
def wJ:Code->Nat
 | .region ..=>2| .seq x y=>1+wJ x+wJ y| .cond _ x y=>1+wJ x+wJ y| .block _ x=>1+wJ x| .loop x=>3+wJ x|_=>1
abbrev Den(ρ:Type):=Nat->Ann->St->Rgs->(R:Type)->(Flow ρ->St->Rgs->Option R)->Option R
def a1D(lo hi:Nat):Rgs->Bool|[]=>false|(a,b)::r=>bif Nat.ble a lo&&Nat.ble hi b then true else a1D lo hi r
def PN(lim:Nat)(rs:Rgs):Rgs->Bool|[]=>true|(a,b)::w=>bif Nat.ble lim a || a1D a b rs then PN lim rs w else false
def JO(ks:List Nat)(w:Rgs):Rgs:=match ks with|[]=>w|k::r=>(k,k+1)::JO r w
def Ap(rs:Rgs)(s:St):St:=match rs with|[]=>s|(a,b)::r=> .mask a b::Ap r s
def Ij(q:Nat)(sg:Sig)(rs:Rgs)(s:St)(w:Rgs)(K:pV sg->Option R):Option R:=
 (a3h sg).runK s ([],[]) λx _ tr=>bif PN (Z4+CB*q) rs (JO tr.2 w)then K x else none
def enter(q:Nat)(sg:Sig)(rs:Rgs)(s:St)(x:pV sg)(K:St->Rgs->Option R):Option R:=
 (a3c sg x (CB*q) (CB*q+CB)).runK (Ap rs s) ([],[]) λ_ s' tr=>K s' (JO tr.2 rs)
def Pj(a b:Rgs):Rgs:=match a with|[]=>b|x::r=>x::Pj r b
def Eu(core:Den ρ):Den ρ:=λq a s w R K=>
 match a with
 | .join rs nm a=>o6 (core (q+1) a s [] (pV nm) λfl s' w' =>match fl with
   | .nm=>Ij q nm rs s' w' some
   |_=>none) λx=>enter q nm rs s x λs' w' =>K .nm s' (Pj w' w)
 | .joinR rs nm a=>o6 (core (q+1) a s [] (pV nm⊕ρ) λfl s' w' =>match fl with
   | .nm=>Ij q nm rs s' w' λx=>some (Sum.inl x)| .rt r=>some (Sum.inr r)
   |_=>none) λo=>bP o (λx=>enter q nm rs s x λs' w' =>K .nm s' (Pj w' w)) (λr=>K (.rt r) [] [])
 |a=>core (q+1) a s w R K
def a4F(core:Den ρ)(q:Nat)(rs:Rgs)(hd:Sig)(xid:Nat)(xs:Sig)(a:Ann)(s:St)(x:pV hd):Option (pV hd⊕pV xs):=
 enter q hd rs s x λs w=>core (q+2) a s w (pV hd⊕pV xs) λfl s' w' =>match fl with
  | .nm=>Ij q hd rs s' w' λx=>some (Sum.inl x)
  | .ex id=>bif Nat.beq id xid then Ij q xs rs s' w' λy=>some (Sum.inr y)else none| .rt _=>none
def a4G(core:Den ρ)(q:Nat)(rs:Rgs)(hd:Sig)(xid:Nat)(xs:Sig)(a:Ann)(s:St)(x:pV hd):Option (Out (pV hd) (pV xs) ρ):=
 enter q hd rs s x λs w=>core (q+2) a s w (Out (pV hd) (pV xs) ρ) λfl s' w' =>match fl with
  | .nm=>Ij q hd rs s' w' λx=>some (.nx x)
  | .ex id=>bif Nat.beq id xid then Ij q xs rs s' w' λy=>some (.ex y)else none| .rt r=>some (.rt r)
def Xh(core:Den ρ):Den ρ:=λq a s w R K=>
 match a with
 | .loop rs hd xid xs a=>Ij q hd rs s [] λx0=>
  o6 (lT (λx=>a4F core q rs hd xid xs a s x) x0) λy=>enter (q+1) xs rs s y λs' w' =>K (.ex xid) s' (Pj w' w)
 | .loopR rs hd xid xs a=>Ij q hd rs s [] λx0=>
  o6 (P8 (λx=>a4G core q rs hd xid xs a s x) x0) λo=>bP o (λy=>enter (q+1) xs rs s y λs' w' =>K (.ex xid) s' (Pj w' w)) (λr=>K (.rt r) [] [])
 |_=>none
def zo(t:Trs)(w:Rgs):Rgs:=match t with|[]=>w|x::r=>JO x.2 (zo r w)
def Vz(E:Env)(q:Nat)(ops:Array Oper)(draw:Bool)(s:St)(w:Rgs)(K:St->Rgs->Option R):Option R:=
 match E.rc with
 |[]=>Jl E q ops.toList ops.toList s [] λs' t=>
  bif draw then(bif a3b ops.toList t then K s' (zo t w)else none)else K s' (zo t w)
 |_::_=>xN E q ops.toList ops.toList s [] [] λs' t=>
  bif draw then(bif V_ E ops.toList t then K s' (zo t w)else none)else K s' (zo t w)
def den(E:Env)(rt:Ret):Code->Den rt.den
 | .skip=>Eu λ_ _ s w _ K=>K .nm s w
 | .label _=>Eu λ_ _ s w _ K=>K .nm s w
 | .region _ ops draw=>Eu λq _ s w _ K=>Vz E q ops draw s w λs' w' =>K .nm s' w'
 | .seq x y=>Eu λq a s w R K=>den E rt x q a.l s w R λfl s' w' =>match fl with
   | .nm=>den E rt y (q+wJ x) a.r s' w' R K| .ex id=>K (.ex id) s' w'| .rt r=>K (.rt r) s' w'
 | .cond c x y=>Eu λq a s w R K=>(pK c λv=>Cmd.ret v:Cmd V).runK s ([],[]) λv s' _=>match v with
   | .b t=>l9 t (den E rt x q a.l s' w R K) (den E rt y (q+wJ x) a.r s' w R K)|_=>none
 | .block id x=>Eu λq a s w R K=>den E rt x q a.l s w R λfl s' w' =>match fl with
   | .nm=>K .nm s' w'| .ex j=>bif Nat.beq j id then K .nm s' w' else K (.ex j) s' w'| .rt r=>K (.rt r) s' w'
 | .loop x=>Eu (Xh λq a s w R K=>den E rt x q a s w R K)
 | .exit id=>Eu λ_ _ s w _ K=>K (.ex id) s w
 | .ret=>Eu λ_ _ s _ _ K=>(a7o E rt).runK s ([],[]) λr _ _=>K (.rt r) [] []
 |_=>λ_ _ _ _ _ _=>none
def lm:List MG->Nat->List Nat
 |[],_=>[]|(_,.box _)::ms,n=>n::lm ms (n+1)|(_,.ifc _ (.box _))::ms,n=>n::lm ms (n+1)|(_,.ownb _)::ms,n=>n::lm ms (n+1)|_::ms,n=>lm ms (n+1)
def a5J:List Nat->List Nat->Bool
 |[],_=>true|a::r,b=>bif Aq a b then a5J r b else false
def a6L:List MG->Bool
 |[]=>true|(_,.sbx _ _)::_=>false|(_,.sit)::_=>false|_::r=>a6L r
def a1x(E:Env)(ps:List MG)(rt:Ret)(body:Code)(a:Ann)(x:aW ps):Option rt.den:=
 bif Nat.ble ps.length E.nt&&FU (rt.outs.map (·.1)) (lm ps 0)&&a5J (rt.outs.map (·.1)) E.kp&&a6L ps then
 (Ig ps x 0 λvs n=>bif Nat.ble n CB then RD (List.range vs.length) vs else .fail).runK [] ([],[]) λ_ s _=>
  den E rt body 1 a s [] rt.den λfl s' _=>match fl with
   | .rt r=>some r
   | .nm=>(a7o E rt).runK s' ([],[]) λr _ _=>some r| .ex _=>none
 else none
end Go.GP
namespace Go.GP
open RowKit
def dN(h:Array Obj)(blk off n:Nat):Option (List Value):=
 match h[blk]? with
 |some (.cells c _ _)=>if off+n<=c.size then some ((c.toList.drop off).take n)else none|_=>none
variable {h:Array Obj}{h':Array Obj}{blk:Nat}
theorem qK(e:h'[blk]? =h[blk]?)(off n:Nat):dN h' blk off n=dN h blk off n:=by simp[dN,e]
variable {n:Nat}{off:Nat}{es:List Value}
theorem oZ(e:dN h blk off n=some es):es.length=n:=by
 unfold dN at e;split at e
 .split at e
  .cases e;simp;omega
  .cases e
 .cases e
theorem lW{c:Array Value}{T:TypeId}{f:Nat×Nat}(hb:h[blk]? =some (.cells c T f))(off n:Nat)(hn:off+n<=c.size):
  dN h blk off n=some ((c.toList.drop off).take n):=by simp[dN,hb,hn]
theorem uw(e:dN h blk off n=some es):
  ∃c T f,h[blk]? =some (.cells c T f)/\off+n<=c.size/\es=(c.toList.drop off).take n:=by
 unfold dN at e;split at e
 .rename_i c T f hb;split at e
  .cases e;exact⟨c,T,f,hb,by assumption,rfl⟩
  .cases e
 .cases e
theorem yT(e:dN h blk off n=some es)(a k:Nat)(hk:a+k<=n):
  dN h blk (off+a) k=some ((es.drop a).take k):=by
 obtain⟨c,T,f,hb,hn,rfl⟩:=uw e;rw[lW hb _ _ l7];congr 1;rw[gq,eG,U3];congr 1;omega
def rf(ag:Bool)(v:Value):List Value:=match ag with
 |true=>v.cells.toList|false=>[v]
def gok(ag:Bool)(v:Value):Prop:=match ag with
 |true=>∃arr,v= .agg arr|false=>v.oneCell' =true
def xh(t:Ty)(e:MapEntry):List Value:=match t with
 | .ent ka va _ _=>rf ka e.key++rf va e.val|_=>[]
def JE(t:Ty)(e:MapEntry):Prop:=match t with
 | .ent ka va k v=>gok ka e.key/\gok va e.val/\(rf ka e.key).length=k.size|_=>False
def kU(h:Array Obj)(ok:Nat->Ty->Prop):(t:Ty)->t.den->List Value->Prop
 | .ent _ _ a b,x,cs=>∃c d,cs=c++d/\kU h ok a x.1 c/\kU h ok b x.2 d| .bool,x,cs=>cs=[.bool x]| .int k,n,cs=>cs=[.int k n]| .str,l,cs=>cs=[.string ⟨l.toArray⟩]| .prod a b,x,cs=>∃c d,cs=c++d/\kU h ok a x.1 c/\kU h ok b x.2 d| .unit,_,cs=>cs=[]
 | .sl t,xs,cs=>(t.isEnt=false/\∃a cap,cs=[.slice a xs.length cap]/\xs.length<=cap/\
   ∀i x,xs[i]? =some x->∃blk off es,a=some ⟨blk,off,none⟩/\ok blk t/\dN h blk (off+i*t.size) t.size=some es/\kU h ok t x es)\/
   (t.isEnt=true/\∃mv,cs=[.map mv]/\(mv=none->xs=[])/\∀blk,mv=some blk->ok blk t/\∃(es:Array MapEntry) (ck:Nat),h[blk]? =some (.map es ck)/\es.size=(xs:List t.den).length/\
    ∀(i:Nat) (x:t.den),(xs:List t.den)[i]? =some x->∃e:MapEntry,es[i]? =some e/\JE t e/\kU h ok t x (xh t e))
variable {t:Ty}{xs:List t.den}{ok:Nat->Ty->Prop}
theorem yH{cs:List Value}(ht:t.isEnt=false):kU h ok (.sl t) xs cs↔∃a cap,cs=[.slice a xs.length cap]/\xs.length<=cap/\
   ∀i x,xs[i]? =some x->∃blk off es,a=some ⟨blk,off,none⟩/\ok blk t/\dN h blk (off+i*t.size) t.size=some es/\kU h ok t x es:=by
 constructor
 .rintro(h|h)
  .exact h.2
  .rw[ht]at h;cases h.1
 .exact λh=> .inl ⟨ht,h⟩
theorem ZI{cs:List Value}(ht:t.isEnt=true):kU h ok (.sl t) xs cs↔∃mv,cs=[.map mv]/\(mv=none->xs=[])/\∀blk,mv=some blk->ok blk t/\∃(es:Array MapEntry) (ck:Nat),h[blk]? =some (.map es ck)/\es.size=(xs:List t.den).length/\
    ∀(i:Nat) (x:t.den),(xs:List t.den)[i]? =some x->∃e:MapEntry,es[i]? =some e/\JE t e/\kU h ok t x (xh t e):=by
 constructor
 .rintro(h|h)
  .rw[ht]at h;cases h.1
  .exact h.2
 .exact λh=> .inr ⟨ht,h⟩
theorem fM{h:Array Obj}{ok:Nat->Ty->Prop} :∀{t:Ty} {x:t.den} {cs:List Value},kU h ok t x cs->cs.length=t.size
 | .bool,_,_,e=>by simp[kU]at e;simp[e,Ty.size]| .int _,_,_,e=>by simp[kU]at e;simp[e,Ty.size]| .str,_,_,e=>by simp[kU]at e;simp[e,Ty.size]| .unit,_,_,e=>by simp[kU]at e;simp[e,Ty.size]| .prod a b,_,_,e=>by obtain⟨c,d,rfl,h1,h2⟩:=e;simp[fM h1,fM h2,Ty.size]
 | .ent _ _ a b,_,_,e=>by obtain⟨c,d,rfl,h1,h2⟩:=e;simp[fM h1,fM h2,Ty.size]
 | .sl t,_,_,e=>by rcases e with⟨_,a,cap,rfl,_⟩|⟨_,mv,rfl,_⟩<;>simp[Ty.size]
theorem dM{h h' :Array Obj}{ok ok' :Nat->Ty->Prop}(hok:∀b t,ok b t->ok' b t)(hh:∀b t,ok b t->h'[b]? =h[b]?):
  ∀{t:Ty} {x:t.den} {cs:List Value},kU h ok t x cs->kU h' ok' t x cs
 | .bool,_,_,e=>e| .int _,_,_,e=>e| .str,_,_,e=>e| .unit,_,_,e=>e| .prod a b,_,_,e=>by obtain⟨c,d,rfl,h1,h2⟩:=e;exact⟨c,d,rfl,dM hok hh h1,dM hok hh h2⟩
 | .ent _ _ a b,_,_,e=>by obtain⟨c,d,rfl,h1,h2⟩:=e;exact⟨c,d,rfl,dM hok hh h1,dM hok hh h2⟩
 | .sl t,xs,_,e=>by
  rcases e with⟨ht,a,cap,rfl,hc,hx⟩|⟨ht,mv,rfl,hn,hx⟩
  .refine .inl ⟨ht,a,cap,rfl,hc,λi x hi=>?_⟩;obtain⟨blk,off,es,ha,hb,he,hr⟩:=hx i x hi;exact⟨blk,off,es,ha,hok _ _ hb,by rw[qK (hh _ _ hb)];exact he,dM hok hh hr⟩
  .refine .inr ⟨ht,mv,rfl,hn,λblk hb=>?_⟩;obtain⟨ho,es,ck,he,hs,hi⟩:=hx blk hb;refine⟨hok _ _ ho,es,ck,by rw[hh _ _ ho];exact he,hs,λi x hx=>?_⟩;obtain⟨e,h1,h2,h3⟩:=hi i x hx;exact⟨e,h1,h2,dM hok hh h3⟩
theorem xK{h h' :Array Obj}{ok ok' :Nat->Ty->Prop} :∀{t:Ty} {x:t.den} {cs:List Value},t.flat=true->kU h ok t x cs->kU h' ok' t x cs
 | .bool,_,_,_,e=>e| .int _,_,_,_,e=>e| .str,_,_,_,e=>e| .unit,_,_,_,e=>e| .prod a b,_,_,f,e=>by simp[Ty.flat]at f;obtain⟨c,d,rfl,h1,h2⟩:=e;exact⟨c,d,rfl,xK f.1 h1,xK f.2 h2⟩
 | .sl t,xs,_,f,e=>by simp[Ty.flat]at f| .ent ..,xs,_,f,e=>by simp[Ty.flat]at f
theorem uP{h:Array Obj}{ok:Nat->Ty->Prop} :∀{t:Ty} {x:t.den} {cs:List Value},kU h ok t x cs->∀v∈cs,v.oneCell' =true
 | .bool,_,_,e=>by simp[kU]at e;subst e;simp[Value.oneCell']| .int _,_,_,e=>by simp[kU]at e;subst e;simp[Value.oneCell']| .str,_,_,e=>by simp[kU]at e;subst e;simp[Value.oneCell']| .unit,_,_,e=>by simp[kU]at e;subst e;simp| .prod a b,_,_,e=>by
  obtain⟨c,d,rfl,h1,h2⟩:=e;intro v hv;rcases I4.1 hv with hv|hv
  .exact uP h1 v hv
  .exact uP h2 v hv
 | .ent _ _ a b,_,_,e=>by
  obtain⟨c,d,rfl,h1,h2⟩:=e;intro v hv;rcases I4.1 hv with hv|hv
  .exact uP h1 v hv
  .exact uP h2 v hv
 | .sl t,xs,_,e=>by rcases e with⟨_,a,cap,rfl,_⟩|⟨_,mv,rfl,_⟩<;>simp[Value.oneCell']
theorem wC{h:Array Obj}{ok ok' :Nat->Ty->Prop} :∀{t:Ty} {x:t.den} {cs:List Value},(∀b u,ok b u->Ty.occ u t=true->ok' b u)->kU h ok t x cs->kU h ok' t x cs
 | .bool,_,_,_,e=>e| .int _,_,_,_,e=>e| .str,_,_,_,e=>e| .unit,_,_,_,e=>e| .prod a b,_,_,f,e=>by obtain⟨c,d,rfl,h1,h2⟩:=e;exact⟨c,d,rfl,wC (λb u h k=>f b u h (by simp[Ty.occ,k])) h1,wC (λb u h k=>f b u h (by simp[Ty.occ,k])) h2⟩
 | .ent _ _ a b,_,_,f,e=>by obtain⟨c,d,rfl,h1,h2⟩:=e;exact⟨c,d,rfl,wC (λb u h k=>f b u h (by simp[Ty.occ,k])) h1,wC (λb u h k=>f b u h (by simp[Ty.occ,k])) h2⟩
 | .sl t,xs,_,f,e=>by
  rcases e with⟨ht,a,cap,rfl,hc,hx⟩|⟨ht,mv,rfl,hn,hx⟩
  .refine .inl ⟨ht,a,cap,rfl,hc,λi x hi=>?_⟩;obtain⟨blk,off,es,ha,hb,he,hr⟩:=hx i x hi;exact⟨blk,off,es,ha,f _ _ hb (by simp[Ty.occ]),he,wC (λb u h k=>f b u h (by simp[Ty.occ,k])) hr⟩
  .refine .inr ⟨ht,mv,rfl,hn,λblk hb=>?_⟩;obtain⟨ho,es,ck,he,hs,hi⟩:=hx blk hb;refine⟨f _ _ ho (by simp[Ty.occ]),es,ck,he,hs,λi x hx=>?_⟩;obtain⟨e,h1,h2,h3⟩:=hi i x hx;exact⟨e,h1,h2,wC (λb u h k=>f b u h (by simp[Ty.occ,k])) h3⟩
inductive Loc where
 |nil|arr (blk off len cap sz:Nat)|st (blk:Nat)|mp (blk:Nat)
structure Mp where
 loc:Nat->Option Loc
 kid:Nat->List Nat
instance:CoeFun Mp (λ_=>Nat->Option Loc):=⟨Mp.loc⟩
def nom:Mp:=⟨λ_=>none,λ_=>[]⟩
structure Cx where
 h:Array Obj
 ok:Nat->Ty->Prop
 m:Mp
def Loc.view:Loc->Option (Nat×Nat)->Value->Prop
 | .nil,none,v=>v= .slice none 0 0| .nil,some (lo,hi),v=>lo=0/\hi=0/\v= .slice none 0 0| .arr blk off len cap _,none,v=>v= .slice (some ⟨blk,off,none⟩) len cap| .arr blk off len cap sz,some (lo,hi),v=>lo<=hi/\hi<=len/\v= .slice (some (if cap=lo then⟨blk,off,none⟩else⟨blk,off+lo*sz,none⟩)) (hi -lo) (cap -lo)| .st _,_,_=>False| .mp b,none,v=>v= .map (some b)| .mp _,some _,_=>False
def Loc.blks:Loc->List Nat
 | .nil=>[]| .arr b _ _ _ _=>[b]| .st b=>[b]| .mp b=>[b]
def YR(h:Array Obj)(ok:Nat->Ty->Prop)(t:Ty)(x:t.den)(o:Nat)(v:Value):Prop:=
 ∃blk off es,v= .pointer (some ⟨blk,off+o,none⟩)/\ok blk t/\dN h blk off t.size=some es/\kU h ok t x es
def zY(h:Array Obj)(ok:Nat->Ty->Prop):List ((t:Ty)×t.den)->List Value->Prop
 |[],vs=>vs=[]|c::cs,vs=>∃v r,vs=v::r/\YR h ok c.1 c.2 0 v/\zY h ok cs r
def uM(C:Cx):V->Value->Prop
 | .undef,_=>True| .un,v=>v=Go.undef| .b x,v=>v= .bool x| .i k n,v=>v= .int k n| .s l,v=>v= .string ⟨l.toArray⟩| .nl,v=>v= .slice none 0 0| .npt,v=>v= .pointer none| .ne b,v=>∃a c,v= .slice a 0 c/\a.isNone=b| .sl t xs,v=>kU C.h C.ok (.sl t) xs [v]| .own bx vw,v=>∃loc,C.m bx=some loc/\loc.view vw v| .ptr bx o,v=>∃blk,C.m bx=some (.st blk)/\v= .pointer (some ⟨blk,o,none⟩)| .ep bx ix o,v=>∃blk off len cap sz,C.m bx=some (.arr blk off len cap sz)/\ix<len/\v= .pointer (some ⟨blk,off+ix*sz+o,none⟩)| .dp t x o,v=>YR C.h C.ok t x o v| .glob g,v=>v= .pointer (some ⟨g,0,none⟩)| .fnv f,v=>v= .func (.func f) #[] #[]| .clos f caps,v=>∃vs,v= .func (.func f) #[] vs/\zY C.h C.ok caps vs.toList| .ifc t c,v=>∃u,v= .iface t u/\u.oneCell' =true/\uM C c u|_,_=>False
def gy(C:Cx):List V->List Value->Prop
 |[],vs=>vs=[]|c::cs,vs=>∃v r,vs=v::r/\uM C c v/\v.oneCell' =true/\gy C cs r
def QX(C:Cx):V->Value->Prop
 | .agg cs,v=>∃arr,v= .agg arr/\gy C cs arr.toList|c,v=>uM C c v
def VD(C:Cx):List V->List Value->Prop
 |[],vs=>vs=[]|c::cs,vs=>∃v r,vs=v::r/\QX C c v/\VD C cs r
def lU(C:Cx):V->Value->Prop
 | .tup cs,v=>∃arr,v= .tuple arr/\VD C cs arr.toList|c,v=>QX C c v
def fzo(t:Ty)(n:Nat)(f:Nat×Nat):Prop:=f=(0,0)\/(t= .int .u8/\f=(n,n+1))
theorem fzo.of{f:Nat×Nat}(h:fzo t n f):f=(0,0)\/f=(n,n+1):=h.elim .inl λh=> .inr h.2
def arrOk(C:Cx)(t:Ty)(xs:List t.den):Loc->Prop
 | .nil=>xs=[]/\t.isEnt=false| .arr blk off len cap sz=>t.isEnt=false/\sz=t.size/\len=xs.length/\len<=cap/\∃c T f,C.h[blk]? =some (.cells c T f)/\fzo t c.size f/\off+cap*sz<=c.size/\
   ∀i x,xs[i]? =some x->∃es,dN C.h blk (off+i*sz) sz=some es/\kU C.h C.ok t x es
 | .st _=>False| .mp blk=>t.isEnt=true/\∃(es:Array MapEntry) (ck:Nat),C.h[blk]? =some (.map es ck)/\es.size=xs.length/\
   ∀(i:Nat) (x:t.den),(xs:List t.den)[i]? =some x->∃e:MapEntry,es[i]? =some e/\JE t e/\kU C.h C.ok t x (xh t e)
def zg{α:Type}(h:Array Obj)(sz:Nat)(R:Nat->α->List Value->List Nat->Prop)(xs:List α)(Os:List (List Nat)):Loc->Prop
 | .nil=>xs=[]/\Os=[]| .arr blk off len cap sz' =>sz' =sz/\len=xs.length/\len<=cap/\Os.length=xs.length/\∃c T,h[blk]? =some (.cells c T (0,0))/\off+cap*sz<=c.size/\
   ∀i x,xs[i]? =some x->∃es O,Os[i]? =some O/\dN h blk (off+i*sz) sz=some es/\R i x es O
 | .st _=>False| .mp _=>False
def xM(h:Array Obj)(te:Nat)(xs:List UInt8):Loc->Prop
 | .nil=>xs=[]
 | .arr g off len cap sz=>off=0/\sz=1/\len=xs.length/\len<=cap/\cap<=maxLen/\∃cur fz,h[g]? =some (.cells cur te fz)/\fz.2<=len/\cur.size=cap/\cur.toList.take len=xs.map λc=>Value.int .u8 (c.toNat:Int)| .st _=>False| .mp _=>False
variable {l:Loc}
theorem AU{te:Nat}{xs:List UInt8}(hh:∀b∈l.blks,h'[b]? =h[b]?)(hr:xM h te xs l):xM h' te xs l:=by
 cases l with
 |nil=>exact hr|st b=>exact hr|mp b=>exact hr|arr g off len cap sz=>obtain⟨h1,h2,h3,h4,h5,cur,fz,h6,h7⟩:=hr;exact⟨h1,h2,h3,h4,h5,cur,fz,by rw[hh g (by simp[Loc.blks])];exact h6,h7⟩
def oI(h:Array Obj)(ok:Nat->Ty->Prop):(m:M)->Option Nat->m.den->List Value->List Nat->Prop
 | .dat t,_,x,cs,O=>kU h ok t x cs/\O=[]| .own t,ho,xs,cs,O=>∃v,cs=[v]/\v.oneCell' =true/\(match ho with|some 0=>O=[]|_=>∃l,l.view none v/\arrOk ⟨h,ok,nom⟩ t xs l/\O=l.blks)| .pair a b,ho,x,cs,O=>∃c d O1 O2,cs=c++d/\O=O1++O2/\oI h ok a (match ho with|some o=>if o<a.size then some o else none|none=>none) x.1 c O1/\
   oI h ok b (match ho with|some o=>if o<a.size then none else some (o -a.size)|none=>none) x.2 d O2
 | .unit,_,_,cs,O=>cs=[]/\O=[]| .box m,_,x,cs,O=>∃blk arr T O',cs=[.pointer (some ⟨blk,0,none⟩)]/\h[blk]? =some (.cells arr T (0,0))/\oI h ok m none x arr.toList O' /\O=blk::O'| .owns m,ho,xs,cs,O=>∃v,cs=[v]/\v.oneCell' =true/\(match ho with|some 0=>O=[]|_=>m.el=true/\∃l Os,l.view none v/\zg h m.size (λ_ x es O=>oI h ok m none x es O) xs Os l/\O=l.blks++Os.flatten)| .ownb t,_,xs,cs,O=>∃l v,cs=[v]/\l.view none v/\arrOk ⟨h,ok,nom⟩ t xs l/\O=l.blks| .rp t,_,x,cs,O=>∃v,cs=[v]/\YR h ok t x 0 v/\O=[]| .fn f ts,_,x,cs,O=>∃vs,cs=[.func (.func f) #[] vs]/\zY h ok (Na ts x) vs.toList/\O=[]| .ifc t m,_,x,cs,O=>∃u,cs=[.iface t u]/\oI h ok m none x [u] O| .cell b,_,x,cs,O=>∃v,cs=[v]/\v.oneCell' =true/\(b=some none->v= .slice none 0 0)/\(∀b',b=some (some b')->∃a c,v= .slice a 0 c/\a.isNone=b')/\O=[]| .fr t,_,xs,cs,O=>∃l v,cs=[v]/\l.view none v/\arrOk ⟨h,ok,nom⟩ t xs l/\(∀b∈l.blks,ok b t)/\O=[]| .sit,_,x,cs,O=>∃blk s q,cs=[.pointer (some ⟨blk,0,none⟩)]/\h[blk]? =some (.stringIter s q)/\s.data.toList=x.1/\x.2=((q:Nat):Int)/\O=[blk]| .sbx tb te,_,xs,cs,O=>∃blk a v l,cs=[.pointer (some ⟨blk,0,none⟩)]/\h[blk]? =some (.cells #[a,v] tb (0,0))/\(a= .pointer none\/a= .pointer (some ⟨blk,0,none⟩))/\l.view none v/\xM h te xs l/\O=blk::l.blks
def SK(hole:Option (Nat×Nat×Option Nat))(i:Nat):Option Nat:=match hole with|some (j,o,_)=>if i=j then some o else none|none=>none
def Qk(C:Cx)(sz:Nat)(l:Loc):Option (Nat×Nat×Option Nat)->Prop
 |none=>True|some (_,_,none)=>True|some (i,o,some n)=>∃blk off len cap u l',l= .arr blk off len cap sz/\dN C.h blk (off+i*sz+o) 1=some [u]/\C.m n=some l' /\l'.view none u
def K_(C:Cx)(m:M)(xs:List m.den)(hole:Option (Nat×Nat×Option Nat))(Os:List (List Nat))(l:Loc):Prop:=
 zg C.h m.size (λi x es O=>oI C.h C.ok m (SK hole i) x es O) xs Os l/\Qk C m.size l hole
def AL(C:Cx)(n:Nat):V->Prop
 | .bcells cs=>∃blk arr T,C.m n=some (.st blk)/\C.h[blk]? =some (.cells arr T (0,0))/\gy C cs arr.toList| .biter l p=>∃blk s q,C.m n=some (.st blk)/\C.h[blk]? =some (.stringIter s q)/\s.data.toList=l/\p=((q:Nat):Int)| .bsb tb c=>∃blk a v,C.m n=some (.st blk)/\C.h[blk]? =some (.cells #[a,v] tb (0,0))/\(a= .pointer none\/a= .pointer (some ⟨blk,0,none⟩))/\uM C c v| .brow te xs=>∃loc,C.m n=some loc/\xM C.h te xs loc| .barr t xs=>∃loc,C.m n=some loc/\arrOk C t xs loc| .bfrz t xs=>∃loc,C.m n=some loc/\arrOk C t xs loc/\(∀blk,blk∈loc.blks->C.ok blk t)| .barrs m xs hole=>m.el=true/\∃loc Os,C.m n=some loc/\K_ C m xs hole Os loc/\C.m.kid n=Os.flatten| .bfc t x=>∃blk es,C.m n=some (.st blk)/\C.ok blk t/\dN C.h blk 0 t.size=some es/\kU C.h C.ok t x es| .gone t=>∃l,C.m n=some l/\∀blk off len cap sz,l= .arr blk off len cap sz->sz=t.size| .blen ln sz=>∃k l,n=Lc+k/\C.m k=some l/\(match l with| .arr _ _ len _ sz' =>ln=(len:Int)/\sz=sz'| .nil=>ln=0| .st _=>False| .mp _=>False)|_=>True
def S9(m:Mp)(n:Nat):V->List Nat
 | .bcells _=>match m n with|some (.st blk)=>[blk]|_=>[]
 | .biter _ _=>match m n with|some (.st blk)=>[blk]|_=>[]
 | .bsb _ _=>match m n with|some (.st blk)=>[blk]|_=>[]
 | .brow _ _=>match m n with|some (.arr blk _ _ _ _)=>[blk]|_=>[]
 | .barr _ _=>match m n with|some (.arr blk _ _ _ _)=>[blk]|some (.mp blk)=>[blk]|_=>[]
 | .barrs _ _ _=>(match m n with|some (.arr blk _ _ _ _)=>[blk]|_=>[])++m.kid n|_=>[]
def a4g:V->List Ty
 | .barr t _=>[t]| .barrs m _ _=>m.ty::m.owned|_=>[]
structure Cx.le (C D:Cx):Prop where
 ok:∀b t,C.ok b t->D.ok b t
 h:∀b t,C.ok b t->D.h[b]? =C.h[b]?
 m:∀n l,C.m n=some l->D.m n=some l
theorem Cx.le.refl(C:Cx):C.le C:=⟨λ_ _ h=>h,λ_ _ _=>rfl,λ_ _ h=>h⟩
theorem Cx.le.trans{A B C:Cx}(h:A.le B)(k:B.le C):A.le C:=
 ⟨λb t x=>k.ok _ _ (h.ok _ _ x),λb t x=>(k.h _ _ (h.ok _ _ x)).trans (h.h _ _ x),λn l x=>k.m _ _ (h.m _ _ x)⟩
variable {v:Value}{ok':Nat->Ty->Prop}
theorem Gy(hok:∀b t,ok b t->ok' b t)(hh:∀b t,ok b t->h'[b]? =h[b]?){x:t.den}{o:Nat}(hr:YR h ok t x o v):YR h' ok' t x o v:=by obtain⟨b,o',es,hv,hb,hc,hp⟩:=hr;exact⟨b,o',es,hv,hok _ _ hb,by rw[qK (hh _ _ hb)];exact hc,dM hok hh hp⟩
theorem EI{h h' :Array Obj}{ok ok' :Nat->Ty->Prop}(hok:∀b t,ok b t->ok' b t)(hh:∀b t,ok b t->h'[b]? =h[b]?):∀{cs:List ((t:Ty)×t.den)} {vs:List Value},zY h ok cs vs->zY h' ok' cs vs
 |[],_,hr=>hr|_::_,_,⟨v,r,e,h1,h2⟩=>⟨v,r,e,Gy hok hh h1,EI hok hh h2⟩
variable {C:Cx}{D:Cx}
theorem VC(h:C.le D):∀{c:V} {v:Value},uM C c v->uM D c v:=by
 intro c;induction c using V.rec (motive_2:=λ_=>True)<;>try trivial
 all_goals
  intro v hr;simp only[uM]at hr ⊢
  try exact hr
 case sl t xs=>exact dM h.ok h.h hr
 case own bx vw=>obtain⟨l,hm,hv⟩:=hr;exact⟨l,h.m _ _ hm,hv⟩
 case ptr bx o=>obtain⟨b,hm,hv⟩:=hr;exact⟨b,h.m _ _ hm,hv⟩
 case ep bx ix o=>obtain⟨b,o',l,c,s,hm,hv⟩:=hr;exact⟨b,o',l,c,s,h.m _ _ hm,hv⟩
 case dp t x o=>exact Gy h.ok h.h hr
 case clos f caps=>obtain⟨vs,e,hc⟩:=hr;exact⟨vs,e,EI h.ok h.h hc⟩
 case ifc t c ih=>obtain⟨u,e,h1,hc⟩:=hr;exact⟨u,e,h1,ih hc⟩
theorem BC{C D:Cx}(h:C.le D):∀{cs:List V} {vs:List Value},gy C cs vs->gy D cs vs
 |[],_,hr=>hr|_::_,_,⟨v,r,e,h1,h2,h3⟩=>⟨v,r,e,VC h h1,h2,BC h h3⟩
theorem a0G(h:C.le D){c:V}(hr:QX C c v):QX D c v:=by
 cases c<;>simp only[QX]at hr ⊢<;>try exact VC h hr
 case agg cs=>obtain⟨arr,e,hl⟩:=hr;exact⟨arr,e,BC h hl⟩
theorem a0H{C D:Cx}(h:C.le D):∀{cs:List V} {vs:List Value},VD C cs vs->VD D cs vs
 |[],_,hr=>hr|_::_,_,⟨v,r,e,h1,h3⟩=>⟨v,r,e,a0G h h1,a0H h h3⟩
theorem KE(h:C.le D){c:V}(hr:lU C c v):lU D c v:=by
 cases c<;>simp only[lU]at hr ⊢<;>try exact a0G h hr
 case tup cs=>obtain⟨arr,e,hl⟩:=hr;exact⟨arr,e,a0H h hl⟩
theorem nS{m m' :Mp}(hok:∀b t,ok b t->ok' b t)(hh:∀b t,ok b t->h'[b]? =h[b]?)
  (hb:∀b∈l.blks,h'[b]? =h[b]?) (hr:arrOk ⟨h,ok,m⟩ t xs l):arrOk ⟨h',ok',m'⟩ t xs l:=by
 cases l with
 |nil=>exact hr|st b=>exact hr|mp blk=>have e:=hb blk (by simp[Loc.blks]);obtain⟨h1,es,ck,h2,h3,h4⟩:=hr;refine⟨h1,es,ck,by show h'[blk]? =_;rw[e];exact h2,h3,λi x hi=>?_⟩;obtain⟨en,a1,a2,a3⟩:=h4 i x hi;exact⟨en,a1,a2,dM hok hh a3⟩
 |arr blk off len cap sz=>have e:=hb blk (by simp[Loc.blks]);obtain⟨h0,h1,h2,h3,c,T,f,h4,hz,h5,h6⟩:=hr;refine⟨h0,h1,h2,h3,c,T,f,by show h'[blk]? =_;rw[e];exact h4,hz,h5,λi x hi=>?_⟩;obtain⟨es,he,hp⟩:=h6 i x hi;exact⟨es,by show dN h' _ _ _=_;rw[qK e];exact he,dM hok hh hp⟩
theorem Wq(h:C.le D)(hb:∀b∈l.blks,D.h[b]? =C.h[b]?)(hr:arrOk C t xs l):arrOk D t xs l:=
 nS h.ok h.h hb hr
theorem AZ{α:Type}{sz:Nat}{R R' :Nat->α->List Value->List Nat->Prop}{xs:List α}{Os:List (List Nat)}(hb:∀b∈l.blks,h'[b]? =h[b]?)
  (hR:∀i x es O,O∈Os->R i x es O->R' i x es O) (hr:zg h sz R xs Os l):zg h' sz R' xs Os l:=by
 cases l with
 |nil=>exact hr|st b=>exact hr|mp b=>exact hr|arr blk off len cap sz=>have e:=hb blk (by simp[Loc.blks]);obtain⟨h1,h2,h3,h7,c,T,h4,h5,h6⟩:=hr;refine⟨h1,h2,h3,h7,c,T,by rw[e];exact h4,h5,λi x hi=>?_⟩;obtain⟨es,O,hO,he,hp⟩:=h6 i x hi;exact⟨es,O,hO,by rw[qK e];exact he,hR _ _ _ _ (yw hO) hp⟩
theorem jQ{h h' :Array Obj}{ok ok' :Nat->Ty->Prop}(hok:∀b t,ok b t->ok' b t)(hh:∀b t,ok b t->h'[b]? =h[b]?):
  ∀{m:M} {ho:Option Nat} {x:m.den} {cs:List Value} {O:List Nat},(∀b∈O,h'[b]? =h[b]?)->oI h ok m ho x cs O->oI h' ok' m ho x cs O
 | .dat t,_,_,_,_,_,e=>⟨dM hok hh e.1,e.2⟩| .own t,ho,_,_,O,hb,⟨v,e,h1,ha⟩=>by
  refine⟨v,e,h1,?_⟩;split at ha
  .exact ha
  .obtain⟨l,hv,ha,ho⟩:=ha;exact⟨l,hv,nS hok hh (by subst ho;exact hb) ha,ho⟩
 | .pair a b,_,_,_,_,hb,⟨c,d,O1,O2,e,eo,h1,h2⟩=>by subst eo;exact⟨c,d,O1,O2,e,rfl,jQ hok hh (λb h=>hb b (by simp[h])) h1,jQ hok hh (λb h=>hb b (by simp[h])) h2⟩| .unit,_,_,_,_,_,e=>e| .box m,_,_,_,_,hb,⟨blk,arr,T,O',e,hh',hr,eo⟩=>by subst eo;exact⟨blk,arr,T,O',e,by rw[hb blk A7];exact hh',jQ hok hh (λb h=>hb b (by simp[h])) hr,rfl⟩| .owns m,ho,_,_,O,hb,⟨v,e,h1,ha⟩=>by
  refine⟨v,e,h1,?_⟩;split at ha
  .exact ha
  .obtain⟨he,l,Os,hv,ha,ho⟩:=ha;subst ho;exact⟨he,l,Os,hv,AZ (λb h=>hb b (by simp[h])) (λi x es O hO hr=>jQ hok hh (λb h=>hb b (by simp only[I4,bW];exact .inr ⟨O,hO,h⟩)) hr) ha,rfl⟩
 | .ownb t,_,_,_,_,hb,⟨l,v,e,hv,ha,ho⟩=>⟨l,v,e,hv,nS hok hh (by subst ho;exact hb) ha,ho⟩| .rp t,_,_,_,_,_,⟨v,e,h1,h2⟩=>⟨v,e,Gy hok hh h1,h2⟩| .fn f ts,_,_,_,_,_,⟨vs,e,h1,h2⟩=>⟨vs,e,EI hok hh h1,h2⟩| .ifc t m,_,_,_,_,hb,⟨u,e,h1⟩=>⟨u,e,jQ hok hh hb h1⟩| .cell b,_,_,_,_,_,h=>h| .fr t,_,_,_,_,_,⟨l,v,e,hv,ha,hk,ho⟩=>⟨l,v,e,hv,nS hok hh (λb h=>hh _ _ (hk b h)) ha,λb h=>hok _ _ (hk b h),ho⟩| .sit,_,_,_,_,hb,⟨blk,s,q,e,hh',h2,h3,eo⟩=>by subst eo;exact⟨blk,s,q,e,by rw[hb blk A7];exact hh',h2,h3,rfl⟩| .sbx tb te,_,_,_,_,hb,⟨blk,a,v,l,e,hh',h2,h3,h4,eo⟩=>by subst eo;exact⟨blk,a,v,l,e,by rw[hb blk A7];exact hh',h2,h3,AU (λb h=>hb b (by simp[h])) h4,rfl⟩
theorem OL(h:C.le D){v:V}(hk:D.m.kid n=C.m.kid n)(hb:∀b∈S9 C.m n v,D.h[b]? =C.h[b]?)(hr:AL C n v):AL D n v:=by
 cases v<;>simp only[AL]at hr ⊢
 case bcells cs=>obtain⟨blk,arr,T,hm,hh,hl⟩:=hr;exact⟨blk,arr,T,h.m _ _ hm,by rw[hb blk (by simp[S9,hm])];exact hh,BC h hl⟩
 case biter l p=>obtain⟨blk,s,q,hm,hh,h2,h3⟩:=hr;exact⟨blk,s,q,h.m _ _ hm,by rw[hb blk (by simp[S9,hm])];exact hh,h2,h3⟩
 case bsb tb c=>obtain⟨blk,a,v,hm,hh,h2,h3⟩:=hr;exact⟨blk,a,v,h.m _ _ hm,by rw[hb blk (by simp[S9,hm])];exact hh,h2,VC h h3⟩
 case brow te xs=>
  obtain⟨l,hm,ha⟩:=hr;refine⟨l,h.m _ _ hm,AU (λb hbl=>hb b ?_) ha⟩;cases l<;>simp[Loc.blks]at hbl
  .subst hbl;simp[S9,hm]
  .cases ha
  .cases ha
 case barr t xs=>
  obtain⟨l,hm,ha⟩:=hr;refine⟨l,h.m _ _ hm,Wq h ?_ ha⟩;intro b hbl;refine hb b ?_;cases l<;>simp[Loc.blks]at hbl
  .subst hbl;simp[S9,hm]
  .cases ha
  .subst hbl;simp[S9,hm]
 case bfrz t xs=>obtain⟨l,hm,ha,hok⟩:=hr;refine⟨l,h.m _ _ hm,Wq h ?_ ha,λblk e=>h.ok _ _ (hok _ e)⟩;intro b hbl;exact h.h _ _ (hok _ hbl)
 case barrs m xs hole=>
  obtain⟨he,l,Os,hm,ha,ho⟩:=hr;obtain⟨ha,hh⟩:=ha;refine⟨he,l,Os,h.m _ _ hm,⟨AZ ?_ ?_ ha,?_⟩,hk.trans ho⟩
  .intro b hbl;refine hb b ?_;cases l<;>simp[Loc.blks]at hbl
   .subst hbl;simp[S9,hm]
   .cases ha
   .cases ha
  .intro i x es O hO hr;refine jQ h.ok h.h (λb hbO=>hb b ?_) hr;simp only[S9,I4];right;rw[ho];exact bW.2 ⟨O,hO,hbO⟩
  .rcases hole with _|⟨i,o,_|k⟩
   .trivial
   .trivial
   .obtain⟨blk,off,len,cap,u,l',rfl,h1,h2,h3⟩:=hh;exact⟨blk,off,len,cap,u,l',rfl,by rw[qK (hb blk (by simp[S9,hm]))];exact h1,h.m _ _ h2,h3⟩
 case bfc t x=>obtain⟨blk,es,hm,hok,he,hr⟩:=hr;exact⟨blk,es,h.m _ _ hm,h.ok _ _ hok,by rw[qK (h.h _ _ hok)];exact he,dM h.ok h.h hr⟩
 case gone t=>obtain⟨l,hm,hs⟩:=hr;exact⟨l,h.m _ _ hm,hs⟩
 case blen ln sz=>obtain⟨k,l,e,hm,hs⟩:=hr;exact⟨k,l,e,h.m _ _ hm,hs⟩
theorem kP{C:Cx} :∀{cs:List V} {vs:List Value},gy C cs vs->cs.length=vs.length
 |[],_,h=>by simp[gy]at h;simp[h]|_::_,_,⟨v,r,e,_,_,h3⟩=>by subst e;simp[kP h3]
theorem uN{C:Cx} :∀{a:List V} {va:List Value} {b:List V} {vb:List Value},gy C a va->gy C b vb->gy C (a++b) (va++vb)
 |[],_,_,_,h,k=>by simp[gy]at h;subst h;exact k|_::_,_,_,_,⟨v,r,e,h1,h2,h3⟩,k=>by subst e;exact⟨v,r++_,rfl,h1,h2,uN h3 k⟩
theorem KC{C:Cx} :∀{cs:List V} {vs:List Value},gy C cs vs->∀v∈vs,v.oneCell' =true
 |[],_,h=>by simp[gy]at h;simp[h]|_::_,_,⟨v,r,e,_,h2,h3⟩=>by
  subst e;intro u hu;rcases D6.1 hu with rfl|hu
  .exact h2
  .exact KC h3 u hu
theorem vJ{C:Cx} :∀(n:Nat) {cs:List V} {vs:List Value},gy C cs vs->gy C (cs.drop n) (vs.drop n)
 |0,_,_,h=>by simpa using h|n+1,[],_,h=>by simp[gy]at h;subst h;simp[gy]|n+1,_::_,_,⟨v,r,e,_,_,h3⟩=>by subst e;simpa using vJ n h3
theorem wU{C:Cx} :∀(n:Nat) {cs:List V} {vs:List Value},gy C cs vs->gy C (cs.take n) (vs.take n)
 |0,_,_,h=>by simp[gy]|n+1,[],_,h=>by simp[gy]at h;subst h;simp[gy]|n+1,_::_,_,⟨v,r,e,h1,h2,h3⟩=>by subst e;exact⟨v,r.take n,A7,h1,h2,wU n h3⟩
theorem lF:∀(t:Ty) (x:t.den) (r:List V),flat t x r=flat t x []++r
 | .bool,_,_=>rfl| .int _,_,_=>rfl| .str,_,_=>rfl| .sl _,_,_=>rfl| .unit,_,_=>rfl| .prod a b,x,r=>by simp only[flat];rw[lF a x.1 (flat b x.2 r),lF b x.2 r,lF a x.1 (flat b x.2 [])];simp| .ent _ _ a b,x,r=>by simp only[flat];rw[lF a x.1 (flat b x.2 r),lF b x.2 r,lF a x.1 (flat b x.2 [])];simp
theorem qj{C:Cx} :∀{t:Ty} {x:t.den} {cs:List Value},kU C.h C.ok t x cs->gy C (flat t x []) cs
 | .bool,x,_,h=>by simp[kU]at h;subst h;exact⟨_,_,rfl,rfl,rfl,rfl⟩| .int _,x,_,h=>by simp[kU]at h;subst h;exact⟨_,_,rfl,rfl,rfl,rfl⟩| .str,x,_,h=>by simp[kU]at h;subst h;exact⟨_,_,rfl,rfl,rfl,rfl⟩| .unit,_,_,h=>by simp[kU]at h;subst h;rfl
 | .sl t,xs,_,h=>by have h' :=h;rcases h with⟨_,a,cap,rfl,_⟩|⟨_,mv,rfl,_⟩<;>exact⟨_,_,rfl,h',rfl,rfl⟩
 | .ent _ _ a b,x,_,h=>by obtain⟨c,d,rfl,h1,h2⟩:=h;simp only[flat];rw[lF a];exact uN (qj h1) (qj h2)
 | .prod a b,x,_,h=>by obtain⟨c,d,rfl,h1,h2⟩:=h;simp only[flat];rw[lF a];exact uN (qj h1) (qj h2)
theorem oL:∀(t:Ty) (x:t.den),(flat t x []).length=t.size
 | .bool,_=>rfl| .int _,_=>rfl| .str,_=>rfl| .sl _,_=>rfl| .unit,_=>rfl| .prod a b,x=>by simp only[flat,Ty.size];rw[lF a,E8,oL a x.1,oL b x.2]| .ent _ _ a b,x=>by simp only[flat,Ty.size];rw[lF a,E8,oL a x.1,oL b x.2]
theorem pO{vw:Option (Nat×Nat)}(ha:arrOk C t xs l)(hv:l.view vw v)
  (hok:∀b t,C.ok b t->ok' b t) (hb:∀blk,blk∈l.blks->ok' blk t):kU C.h ok' (.sl t) (jk vw xs) [v]:=by
 cases l with
 |st b=>cases ha|mp b=>
  obtain⟨h0,es,ck,h1,h2,h3⟩:=ha;cases vw with
  |some p=>cases hv|none=>simp only[Loc.view]at hv;subst hv;refine .inr ⟨h0,some b,rfl,(λh=>nomatch h),λblk e=>?_⟩;cases e;refine⟨hb b (by simp[Loc.blks]),es,ck,h1,h2,λi x hi=>?_⟩;obtain⟨en,a1,a2,a3⟩:=h3 i x hi;exact⟨en,a1,a2,dM hok (λ_ _ _=>rfl) a3⟩
 |nil=>
  obtain⟨ha,h0⟩:=ha;subst ha;cases vw with
  |none=>simp only[Loc.view]at hv;subst hv;exact .inl ⟨h0,none,0,rfl,C9 _,λi x hi=>by simp[jk]at hi⟩|some p=>obtain⟨lo,hi⟩:=p;obtain⟨rfl,rfl,rfl⟩:=hv;exact .inl ⟨h0,none,0,by simp[jk,kN],by simp[jk,kN],λi x hi=>by simp[jk,kN]at hi⟩
 |arr blk off len cap sz=>
  obtain⟨h0,rfl,rfl,hc,c,T,f,hh,hz,hs,hx⟩:=ha;have hbk:=hb blk (by simp[Loc.blks]);cases vw with
  |none=>simp only[Loc.view]at hv;subst hv;refine .inl ⟨h0,_,cap,rfl,hc,λi x hi=>?_⟩;obtain⟨es,he,hr⟩:=hx i x hi;exact⟨blk,off,es,rfl,hbk,he,dM hok (λ_ _ _=>rfl) hr⟩
  |some p=>
   obtain⟨lo,hi⟩:=p;obtain⟨h1,h2,rfl⟩:=hv;have hl:(jk (some (lo,hi)) xs).length=hi -lo:=by simp[jk,kN];omega
   refine .inl ⟨h0,_,cap -lo,by rw[hl],by rw[hl];omega,λi x hix=>?_⟩;have hi' :i<hi -lo:=by rw[←hl];exact(aO.1 hix).1
   have hx' :xs[lo+i]? =some x:=by
    simp only[jk,kN,U4,V9]at hix;split at hix
    .exact hix
    .cases hix
   obtain⟨es,he,hr⟩:=hx _ x hx';have hne:cap≠lo:=l7;refine⟨blk,off+lo*t.size,es,by simp[hne],hbk,?_,dM hok (λ_ _ _=>rfl) hr⟩;rw[←he];congr 1;rw[I7];omega
end Go.GP
namespace Go.GP
abbrev Sm:=Nat->V
def upd(S:Sm)(k:Nat)(v:V):Sm:=λn=>if n=k then v else S n
@[simp] theorem lw (S:Sm) (k:Nat) (v:V):upd S k v k=v:=by simp[upd]
theorem bu(S:Sm){k n:Nat}(v:V)(h:n≠k):upd S k v n=S n:=by simp[upd,h]
variable {α:Type}
def Cmd.eval :Cmd α->Sm->Tr->Option (α×Sm×Tr)
 | .ret x,S,t=>some (x,S,t)| .fail,_,_=>none| .get k c,S,t=>(c (S k)).eval S (k::t.1,t.2)| .set k v c,S,t=>c.eval (upd S k v) (t.1,k::t.2)
 | .opt o c,S,t=>match o with|some x=>(c x).eval S t|none=>none
 | .br b c d,S,t=>if b=true then c.eval S t else d.eval S t
def Cmd.post :Cmd α->Sm->(α->Sm->Prop)->Prop
 | .ret x,S,Q=>Q x S| .fail,_,_=>True| .get k c,S,Q=>(c (S k)).post S Q| .set k v c,S,Q=>c.post (upd S k v) Q| .opt o c,S,Q=>∀x,o=some x->(c x).post S Q| .br b c d,S,Q=>(b=true->c.post S Q)/\(b=false->d.post S Q)
theorem rE{α:Type}{Q:α->Sm->Prop} :∀{c:Cmd α} {S S' :Sm} {t t' :Tr} {x:α},c.post S Q->c.eval S t=some (x,S',t')->Q x S'
 | .ret x,_,_,_,_,_,h,e=>by simp[Cmd.eval]at e;obtain⟨rfl,rfl,rfl⟩:=e;exact h
 | .fail,_,_,_,_,_,h,e=>by simp[Cmd.eval]at e| .get k c,_,_,_,_,_,h,e=>rE (c:=c _) h e| .set k v c,_,_,_,_,_,h,e=>rE (c:=c) h e| .opt o c,_,_,_,_,_,h,e=>by
  cases o with
  |none=>simp[Cmd.eval]at e|some x=>exact rE (c:=c x) (h x rfl) e
 | .br b c d,_,_,_,_,_,h,e=>by
  cases b
  .exact rE (c:=d) (h.2 rfl) (by simpa[Cmd.eval]using e)
  .exact rE (c:=c) (h.1 rfl) (by simpa[Cmd.eval]using e)
theorem yE{α:Type}{Q Q' :α->Sm->Prop}(hq:∀x S,Q x S->Q' x S):∀{c:Cmd α} {S:Sm},c.post S Q->c.post S Q'
 | .ret x,_,h=>hq _ _ h| .fail,_,_=>trivial| .get k c,_,h=>yE hq (c:=c _) h| .set k v c,_,h=>yE hq (c:=c) h
 | .opt o c,_,h=>λx e=>yE hq (c:=c x) (h x e)| .br b c d,_,h=>⟨λe=>yE hq (c:=c) (h.1 e),λe=>yE hq (c:=d) (h.2 e)⟩
theorem CQ{R:Type} :∀(v:V) (K:V->R),v.force K=K v:=by
 intro v;induction v using V.rec (motive_2:=λ_=>True)<;>try trivial
 all_goals intro K
 all_goals try rfl
 case i k n=>cases k<;>rfl
 case own bx vw=>cases vw<;>rfl
 case barrs m xs h=>rcases h with _|⟨p,q,_|r⟩<;>rfl
 case ifc t v ih=>simp only[V.force];rw[ih]
 case bsb tb c ih=>simp only[V.force];rw[ih]
theorem TM{R:Type} :∀(l:List V) (K:List V->R),LW l K=K l
 |[],_=>rfl|v::r,K=>by simp[LW,CQ,TM r]
theorem a1z{R:Type}(v:V)(K:V->R):v.force2 K=K v:=by unfold V.force2;rw[CQ];cases v<;>simp[TM]
theorem a0o(k:Nat)(v:V)(s:St):dP (.kv k v::s)=upd (dP s) k v:=by
 funext n;simp only[dP,upd];by_cases h:n=k
 .subst h;simp
 .have:Nat.beq k n=false:=by
   cases hb:Nat.beq k n with
   |false=>rfl|true=>exact absurd (iI hb).symm h
  simp[h,this]
theorem yC{α β:Type}{o:Option α}{f:α->Option β}{r:β}(h:o6 o f=some r):∃x,o=some x/\f x=some r:=by
 cases o with
 |none=>simp[o6]at h|some x=>exact⟨x,rfl,h⟩
theorem oV{α R:Type} :∀{c:Cmd α} {s:St} {t:Tr} {K:α->St->Tr->Option R} {r:R},c.runK s t K=some r->
  ∃x s' t',c.eval (dP s) t=some (x,dP s',t')/\K x s' t' =some r
 | .ret x,s,t,K,r,h=>⟨x,s,t,rfl,h⟩| .fail,_,_,_,_,h=>by simp[Cmd.runK]at h| .get k c,s,t,K,r,h=>by simp only[Cmd.runK,CQ]at h;exact oV (c:=c _) h| .set k v c,s,t,K,r,h=>by simp only[Cmd.runK,a1z]at h;obtain⟨x,s',t',e,hk⟩:=oV (c:=c) h;exact⟨x,s',t',by simpa[Cmd.eval,a0o]using e,hk⟩
 | .opt o c,s,t,K,r,h=>by simp only[Cmd.runK]at h;obtain⟨y,rfl,h⟩:=yC h;exact oV (c:=c y) h
 | .br b c d,s,t,K,r,h=>by
  simp only[Cmd.runK]at h;cases b
  .obtain⟨x,s',t',e,hk⟩:=oV (c:=d) (show d.runK s t K=some r from h);exact⟨x,s',t',by simpa[Cmd.eval]using e,hk⟩
  .obtain⟨x,s',t',e,hk⟩:=oV (c:=c) (show c.runK s t K=some r from h);exact⟨x,s',t',by simpa[Cmd.eval]using e,hk⟩
theorem yl{α:Type} :∀{c:Cmd α} {S S' :Sm} {t t' :Tr} {x:α},c.eval S t=some (x,S',t')->(∀k∈t.1,k∈t'.1)/\(∀k∈t.2,k∈t'.2)
 | .ret x,_,_,_,_,_,e=>by simp[Cmd.eval]at e;obtain⟨rfl,rfl,rfl⟩:=e;exact⟨λ_ h=>h,λ_ h=>h⟩
 | .fail,_,_,_,_,_,e=>by simp[Cmd.eval]at e| .get k c,_,_,_,_,_,e=>by have h:=yl (c:=c _) e;exact⟨λn hn=>h.1 n (by simp[hn]),h.2⟩| .set k v c,_,_,_,_,_,e=>by have h:=yl (c:=c) e;exact⟨h.1,λn hn=>h.2 n (by simp[hn])⟩| .opt o c,_,_,_,_,_,e=>by
  cases o with
  |none=>simp[Cmd.eval]at e|some x=>exact yl (c:=c x) e
 | .br b c d,_,_,_,_,_,e=>by
  cases b
  .exact yl (c:=d) (by simpa[Cmd.eval]using e)
  .exact yl (c:=c) (by simpa[Cmd.eval]using e)
theorem wH{α:Type} :∀{c:Cmd α} {S S' :Sm} {t t' :Tr} {x:α},c.eval S t=some (x,S',t')->∀T:Sm,(∀k∈t'.1,T k=S k)->
  ∃T',c.eval T t=some (x,T',t')/\(∀k,T k=S k->T' k=S' k)/\(∀k,k∉t'.2->T' k=T k)/\(∀k,k∈t'.2->k∉t.2->T' k=S' k)
 | .ret x,_,_,_,_,_,e,T,hT=>by simp[Cmd.eval]at e;obtain⟨rfl,rfl,rfl⟩:=e;exact⟨T,rfl,λk h=>h,λ_ _=>rfl,λk h1 h2=>absurd h1 h2⟩
 | .fail,_,_,_,_,_,e,_,_=>by simp[Cmd.eval]at e| .get k c,S,_,t,t',_,e,T,hT=>by have hk:T k=S k:=hT k ((yl (c:=c _) e).1 k A7);obtain⟨T',h1,h2,h3,h4⟩:=wH (c:=c _) e T hT;exact⟨T',by simpa[Cmd.eval,hk]using h1,h2,h3,h4⟩
 | .set k v c,S,_,t,t',_,e,T,hT=>by
  obtain⟨T',h1,h2,h3,h4⟩:=wH (c:=c) e (upd T k v) (λn hn=>by
   by_cases h:n=k
   .subst h;simp
   .rw[bu _ _ h,bu _ _ h];exact hT n hn)
  have hkin:k∈t'.2:=(yl (c:=c) e).2 k A7;refine⟨T',h1,λn hn=>h2 n ?_,λn hn=>?_,λn hn hn' =>?_⟩
  .by_cases h:n=k
   .subst h;simp
   .rw[bu _ _ h,bu _ _ h];exact hn
  .have:n≠k:=λh=>hn (h▸hkin);rw[h3 n hn,bu _ _ this]
  .by_cases h:n=k
   .subst h;exact h2 n A7
   .exact h4 n hn (by simp[h,hn'])
 | .opt o c,_,_,_,_,_,e,T,hT=>by
  cases o with
  |none=>simp[Cmd.eval]at e|some x=>exact wH (c:=c x) e T hT
 | .br b c d,_,_,_,_,_,e,T,hT=>by
  cases b
  .obtain⟨T',h1,h2⟩:=wH (c:=d) (by simpa[Cmd.eval]using e) T hT;exact⟨T',by simpa[Cmd.eval]using h1,h2⟩
  .obtain⟨T',h1,h2⟩:=wH (c:=c) (by simpa[Cmd.eval]using e) T hT;exact⟨T',by simpa[Cmd.eval]using h1,h2⟩
theorem Dv{c:Cmd α}{S S' :Sm}{t t' :Tr}{x:α}(e:c.eval S t=some (x,S',t'))(k:Nat)(h:k∉t'.2):S' k=S k:=by obtain⟨T',h1,_,h3,_⟩:=wH e S (λ_ _=>rfl);rw[e]at h1;simp at h1;rw[h1];exact h3 k h
section draws
variable {n:Nat} {c:Nat->Cmd Unit} {S:Nat->Sm} {T:Nat->Tr}
def SD(S:Nat->Sm)(T:Nat->Tr)(D:List Nat):Nat->Sm
 |0=>S 0
 |m+1=>λk=>if m∈D/\k∈(T m).2 then S (m+1) k else SD S T D m k
theorem Gp(hs:∀i,i<n->(c i).eval (S i) ([],[])=some ((),S (i+1),T i))(D:List Nat)(k:Nat):
  ∀m,m<=n->(∀j,j<m->k∈(T j).2->j∈D)->SD S T D m k=S m k
 |0,_,_=>rfl|m+1,hm,h=>by
  have ih:=Gp hs D k m l7 (λj hj=>h j l7);simp only[SD];by_cases hk:k∈(T m).2
  .rw[if_pos ⟨h m l7 hk,hk⟩]
  .rw[if_neg (λx=>hk x.2),ih,Dv (hs m l7) k hk]
theorem OZ(D:List Nat)(k i:Nat):∀m,i<=m->(∀j,i<=j->j<m->k∈(T j).2->j∉D)->SD S T D m k=SD S T D i k
 |m,hm,h=>by
  induction m with
  |zero=>have:i=0:=l7;subst this;rfl|succ m ih=>
   by_cases e:i=m+1
   .subst e;rfl
   .simp only[SD];rw[if_neg (λx=>h m l7 l7 x.2 x.1)];exact ih l7 (λj h1 h2=>h j h1 l7)
theorem B_(D:List Nat)(i k:Nat)(hk:k∉(T i).2):∀m,SD S T (i::D) m k=SD S T D m k
 |0=>rfl|m+1=>by
  simp only[SD,B_ D i k hk m];by_cases e:m=i
  .subst e;simp[hk]
  .simp[D6,e]
theorem a2J(hs:∀i,i<n->(c i).eval (S i) ([],[])=some ((),S (i+1),T i)){D:List Nat}(hD:∀i,i<n->i∈D):SD S T D n=S n:=by funext k;exact Gp hs D k n l7 (λj hj _=>hD j hj)
theorem a9m(n:Nat):SD S T [] n=S 0:=by
 induction n with
 |zero=>rfl|succ m ih=>funext k;simp[SD,ih]
end draws
end Go.GP
namespace Go.GP
structure Fx where
 P:Program
 E:Env
 w0:World
 O:List Nat
 ok0:Nat->Ty->Prop
 tm0:Array Value
structure Frame' (w0 w:World) (O:List Nat):Prop where
 os:w.os=w0.os
 tape:w.tape=w0.tape
 output:w.output=w0.output
 size:w0.heap.size<=w.heap.size
 block:∀b,b<w0.heap.size->b∉O->w.heap[b]? =w0.heap[b]?
theorem Frame'.refl(w:World)(O:List Nat):Frame' w w O:=⟨rfl,rfl,rfl,C9 _,λ_ _ _=>rfl⟩
def a7V(h:Array Obj)(g n:Nat):Prop:=∃c T f,h[g]? =some (.cells c T f)/\c.size=n
def Jy(C:Cx)(g:Nat)(t:Ty)(xs:List t.den):Prop:=
 C.ok g t/\a7V C.h g (xs.length*t.size)/\∀i x,xs[i]? =some x->∃es,dN C.h g (i*t.size) t.size=some es/\kU C.h C.ok t x es
theorem Jy.le{C D:Cx}(h:C.le D){g:Nat}{t:Ty}{xs:List t.den}(k:Jy C g t xs):Jy D g t xs:=by obtain⟨h1,h3,h2⟩:=k;refine⟨h.ok _ _ h1,by unfold a7V at h3 ⊢;rw[h.h _ _ h1];exact h3,λi x hi=>?_⟩;obtain⟨es,he,hr⟩:=h2 i x hi;exact⟨es,by rw[qK (h.h _ _ h1)];exact he,dM h.ok h.h hr⟩
structure Rel (X:Fx) (cl ch:Nat) (S:Sm) (m:Mp) (ok:Nat->Ty->Prop) (a:Act) (w:World):Prop where
 size:a.tmps.size=X.E.nt
 nodef:a.defers=[]
 slot:∀n,n<Z4->lU ⟨w.heap,ok,m⟩ (S n) (a.tmps.getD n Go.undef)
 box:∀n,AL ⟨w.heap,ok,m⟩ n (S (Z4+n))
 inj:∀n n' b,b∈S9 m n (S (Z4+n))->b∈S9 m n' (S (Z4+n'))->n=n'
 nd:∀n,(S9 m n (S (Z4+n))).Nodup
 sep:∀n b,b∈S9 m n (S (Z4+n))->(∀t,¬ok b t)/\b<w.heap.size/\(X.w0.heap.size<=b\/b∈X.O)
 okLt:∀b t,ok b t->b<w.heap.size
 okIn:∀b t,X.ok0 b t->ok b t
 okOut:∀b t,ok b t->X.ok0 b t\/X.w0.heap.size<=b\/b∈X.O
 frame:Frame' X.w0 w X.O
 fresh:∀n,cl<=n->S (Z4+n)= .undef->m n=none
 strict:∀n,ch<=n->m n=none
 gl:∀g u,dI X.E.gl g=some u->Jy ⟨w.heap,ok,m⟩ g u.1 u.2
 kept:∀n∈X.E.kp,a.tmps.getD n Go.undef=X.tm0.getD n Go.undef
def mF(m:Mp)(n:Nat)(l:Loc)(ks:List Nat):Mp:=⟨λk=>if k=n then some l else m k,λk=>if k=n then ks else m.kid k⟩
@[simp] theorem ai (m:Mp) (n:Nat) (l:Loc) (ks:List Nat):mF m n l ks n=some l:=by simp[mF]
variable {n:Nat}{k:Nat}
theorem ji(m:Mp)(l:Loc)(ks:List Nat)(h:k≠n):mF m n l ks k=m k:=by simp[mF,h]
@[simp] theorem b5H (m:Mp) (n:Nat) (l:Loc) (ks:List Nat):(mF m n l ks).kid n=ks:=by simp[mF]
theorem Nc(m:Mp)(l:Loc)(ks:List Nat)(h:k≠n):(mF m n l ks).kid k=m.kid k:=by simp[mF,h]
def AY(m:Mp)(n:Nat)(ks:List Nat):Mp:=⟨m.loc,λk=>if k=n then ks else m.kid k⟩
@[simp] theorem b4D (m:Mp) (n k:Nat) (ks:List Nat):AY m n ks k=m k:=rfl
@[simp] theorem b4C (m:Mp) (n:Nat) (ks:List Nat):(AY m n ks).kid n=ks:=by simp[AY]
theorem Un(m:Mp)(ks:List Nat)(h:k≠n):(AY m n ks).kid k=m.kid k:=by simp[AY,h]
theorem vM(m:Mp)(n:Nat):AY m n (m.kid n)=m:=by
 cases m with|mk l k=>
 simp only[AY,Mp.mk.injEq,true_and];funext j;split
 .rename_i e;rw[e]
 .rfl
variable {v:V}
theorem DK{m m' :Mp}(h:m' n=m n)(k:m'.kid n=m.kid n):S9 m' n v=S9 m n v:=by cases v<;>simp only[S9,h,k]
variable {d:Nat}
theorem SH{tmps:Array Value}(h:d<tmps.size)(x e:Value):(tmps.setIfInBounds d x).getD d e=x:=by simp[Array.getD,h]
theorem EW{tmps:Array Value}(h:n≠d)(x e:Value):(tmps.setIfInBounds d x).getD n e=tmps.getD n e:=by simp only[X7];rw[kS];simp[Ne.symm h]
structure Tk (X:Fx) (S:Sm) (m:Mp) (ok:Nat->Ty->Prop) (w:World) (T:List Nat):Prop where
 nodup:T.Nodup
 free:∀b∈T,(∀t,¬ok b t)/\b<w.heap.size/\(X.w0.heap.size<=b\/b∈X.O)/\∀n,b∉S9 m n (S (Z4+n))
theorem Tk.nil{X:Fx}{S:Sm}{m:Mp}{ok:Nat->Ty->Prop}{w:World} :Tk X S m ok w []:=⟨dw,λb h=>by cases h⟩
def okW(ok:Nat->Ty->Prop)(bs:List Nat)(Ts:List Ty):Nat->Ty->Prop:=λb t=>ok b t\/(b∈bs/\t∈Ts)
variable {w':World}{bs:List Nat}
section
variable {X:Fx} {cl ch:Nat} {S:Sm} {m:Mp} {ok:Nat->Ty->Prop} {a:Act} {w:World} {T:List Nat}
theorem Tk.perm{T T' :List Nat}(h:Tk X S m ok w T)(p:T.Perm T'):Tk X S m ok w T' :=
 ⟨p.nodup_iff.1 h.nodup,λb hb=>h.free b (p.mem_iff.2 hb)⟩
theorem Qx{n:Nat} :∀{l:List Nat},Aq n l=false->n∉l
 |[],_,h=>by cases h|k::r,hb,h=>by
  unfold Aq at hb;cases hk:Nat.beq k n<;>rw[hk]at hb
  .rcases D6.1 h with e|h
   .subst e;rw[show Nat.beq n n=true from Nat.beq_refl n]at hk;cases hk
   .exact Qx hb h
  .cases hb
theorem TZ{n:Nat} :∀{l:List Nat},Aq n l=true->n∈l
 |[],h=>by cases h|k::r,hb=>by
  unfold Aq at hb;cases hk:Nat.beq k n<;>rw[hk]at hb
  .exact U2 _ (TZ hb)
  .have:=iI hk;subst this;exact kL
theorem yD{E:Env}{t:Nat}(h:Ub E t=true):t<E.nt/\t∉E.kp:=by
 unfold Ub at h;cases hb:Nat.blt t E.nt<;>rw[hb]at h
 .cases h
 .simp only[cond_true,aU]at h;exact⟨by rw[bf]at hb;exact hb,Qx h⟩
theorem Rel.put(R:Rel X cl ch S m ok a w)(hnt:X.E.nt<=Z4){x:Value}(hd:Ub X.E d=true)(hv:lU ⟨w.heap,ok,m⟩ v x):
  Rel X cl ch (upd S d v) m ok (a.put (some d) x) w:=by
 obtain⟨hd,hkp⟩:=yD hd;have hb:∀n,upd S d v (Z4+n)=S (Z4+n):=λn=>bu _ _ l7;have hkept:∀n∈X.E.kp,(a.put (some d) x).tmps.getD n Go.undef=X.tm0.getD n Go.undef:=λn hn=>by have e:n≠d:=λe=>hkp (e▸hn);simp only[Act.put];rw[EW e];exact R.kept n hn
 refine { R with size:=(by simp[Act.put,R.size]),nodef:=(by simp[Act.put,R.nodef]),slot:=λn hn=>?_,box:=λn=>(by rw[hb];exact R.box n),inj:=λn n' b=>(by rw[hb,hb];exact R.inj n n' b),nd:=λn=>(by rw[hb];exact R.nd n),sep:=λn b=>(by rw[hb];exact R.sep n b),fresh:=λn h1 h2=>R.fresh n h1 (by rwa[hb]at h2),kept:=hkept };by_cases e:n=d
 .subst e;simp only[lw,Act.put];rw[SH (by rw[R.size];exact hd)];exact hv
 .rw[bu _ _ e];simp only[Act.put];rw[EW e];exact R.slot n hn
theorem Rel.slotV(R:Rel X cl ch S m ok a w)(hd:d<Z4)(hv:lU ⟨w.heap,ok,m⟩ v (a.tmps.getD d Go.undef)):
  Rel X cl ch (upd S d v) m ok a w:=by
 have hb:∀n,upd S d v (Z4+n)=S (Z4+n):=λn=>bu _ _ l7;refine { R with slot:=λn hn=>?_,box:=λn=>(by rw[hb];exact R.box n),inj:=λn n' b=>(by rw[hb,hb];exact R.inj n n' b),nd:=λn=>(by rw[hb];exact R.nd n),sep:=λn b=>(by rw[hb];exact R.sep n b),fresh:=λn h1 h2=>R.fresh n h1 (by rwa[hb]at h2) };by_cases e:n=d
 .subst e;simp only[lw];exact hv
 .rw[bu _ _ e];exact R.slot n hn
theorem Rel.world(R:Rel X cl ch S m ok a w){ok' :Nat->Ty->Prop}(hos:w'.os=w.os)(htp:w'.tape=w.tape)(hout:w'.output=w.output)(hsz:w.heap.size<=w'.heap.size)
  (hkeep:∀b,b<w.heap.size->((∃t,ok b t)\/(∃n,b∈S9 m n (S (Z4+n)))\/¬(X.w0.heap.size<=b\/b∈X.O))->w'.heap[b]? =w.heap[b]?)
  (hok:∀b t,ok b t->ok' b t) (hok' :∀b t,ok' b t->b<w'.heap.size/\(ok b t\/((X.w0.heap.size<=b\/b∈X.O)/\∀n,b∉S9 m n (S (Z4+n))))):
  Rel X cl ch S m ok' a w' :=by
 have hle:Cx.le ⟨w.heap,ok,m⟩ ⟨w'.heap,ok',m⟩:=⟨hok,λb t hb=>hkeep b (R.okLt b t hb) (.inl ⟨t,hb⟩),λ_ _ h=>h⟩;refine { kept:=R.kept,size:=R.size,nodef:=R.nodef,inj:=R.inj,nd:=R.nd,fresh:=R.fresh,strict:=R.strict,slot:=λn hn=>KE hle (R.slot n hn),box:=λn=>OL hle rfl (λb hb=>hkeep b (R.sep n b hb).2.1 (.inr (.inl ⟨n,hb⟩))) (R.box n),sep:=λn b hb=>?_,okLt:=λb t hb=>(hok' b t hb).1,okIn:=λb t hb=>hok b t (R.okIn b t hb),okOut:=λb t hb=>?_,frame:=?_,gl:=λg u hg=>Jy.le hle (R.gl g u hg) }
 .obtain⟨h1,h2,h3⟩:=R.sep n b hb;refine⟨λt h=>?_,l7,h3⟩;rcases(hok' b t h).2 with h|⟨_,h⟩
  .exact h1 t h
  .exact h n hb
 .rcases(hok' b t hb).2 with h|⟨h,_⟩
  .exact R.okOut b t h
  .exact .inr h
 .obtain⟨f1,f2,f3,f4,f5⟩:=R.frame;refine⟨hos.trans f1,htp.trans f2,hout.trans f3,l7,λb hb hO=>?_⟩;rw[hkeep b l7 (.inr (.inr (by simp[hO];omega)))];exact f5 b hb hO
theorem Rel.same(R:Rel X cl ch S m ok a w)(hos:w'.os=w.os)(htp:w'.tape=w.tape)(hout:w'.output=w.output)(hh:w'.heap=w.heap):Rel X cl ch S m ok a w' :=by refine R.world hos htp hout (by rw[hh];exact C9 _) (λb _ _=>by rw[hh]) (λ_ _ h=>h) (λb t h=>⟨by rw[hh];exact R.okLt b t h,.inl h⟩)
theorem wR{n k b:Nat}(hv:S9 m n v=[])(h:b∈S9 m k (upd S (Z4+n) v (Z4+k))):k≠n/\b∈S9 m k (S (Z4+k)):=by
 by_cases e:k=n
 .subst e;rw[lw,hv]at h;cases h
 .rw[bu _ _ l7]at h;exact⟨e,h⟩
theorem Rel.killV(R:Rel X cl ch S m ok a w)(n:Nat)(hv:v≠.undef)(hw:S9 m n v=[])(hB:AL ⟨w.heap,ok,m⟩ n v):Rel X cl ch (upd S (Z4+n) v) m ok a w:=by
 have ho:∀k b,b∈S9 m k (upd S (Z4+n) v (Z4+k))->k≠n/\b∈S9 m k (S (Z4+k)):=λk b h=>wR hw h;refine { R with slot:=λk hk=>(by rw[bu _ _ l7];exact R.slot k hk),box:=λk=>?_,inj:=λk k' b h h' =>R.inj k k' b (ho _ _ h).2 (ho _ _ h').2,nd:=λk=>?_,sep:=λk b h=>R.sep k b (ho _ _ h).2,fresh:=λk h1 h2=>?_ }
 .by_cases e:k=n
  .subst e;rw[lw];exact hB
  .rw[bu _ _ l7];exact R.box k
 .by_cases e:k=n
  .subst e;rw[lw,hw];exact dw
  .rw[bu _ _ l7];exact R.nd k
 .by_cases e:k=n
  .subst e;rw[lw]at h2;exact absurd h2 hv
  .rw[bu _ _ l7]at h2;exact R.fresh k h1 h2
theorem Rel.kill(R:Rel X cl ch S m ok a w)(n:Nat):Rel X cl ch (upd S (Z4+n) .dead) m ok a w:=R.killV n A7 rfl trivial
theorem Tk.killV(R:Rel X cl ch S m ok a w)(h:Tk X S m ok w T)(n:Nat)(hw:S9 m n v=[])(hbs:∀b,b∈bs->b∈S9 m n (S (Z4+n)))(hnd:bs.Nodup):
  Tk X (upd S (Z4+n) v) m ok w (T++bs):=by
 refine⟨X8.2 ⟨h.nodup,hnd,λx hx y hy e=>?_⟩,λb hb=>?_⟩
 .subst e;exact(h.free x hx).2.2.2 n (hbs x hy)
 .rcases I4.1 hb with hb|hb
  .obtain⟨h1,h2,h3,h4⟩:=h.free b hb;exact⟨h1,h2,h3,λk e=>h4 k (wR hw e).2⟩
  .obtain⟨h1,h2,h3⟩:=R.sep n b (hbs b hb);exact⟨h1,h2,h3,λk e=>(wR hw e).1 (R.inj k n b (wR hw e).2 (hbs b hb))⟩
theorem Rel.mark(R:Rel X cl ch S m ok a w){md:M}{xs:List md.den}(hS:S (Z4+n)= .barrs md xs none):Rel X cl ch (upd S (Z4+(Lc+n)) (.blen (x9 xs) md.size)) m ok a w:=by
 refine R.killV (Lc+n) A7 rfl ?_;have hb:=R.box n;rw[hS]at hb;obtain⟨_,l,Os,hm,⟨ha,hho⟩,_⟩:=hb;refine⟨n,l,rfl,hm,?_⟩;cases l with
 |nil=>obtain⟨rfl,_⟩:=ha;rfl
 |st b=>cases ha|mp b=>cases ha|arr blk off len cap sz=>exact⟨by rw[ha.2.1];rfl,ha.1.symm⟩
theorem Tk.kill(R:Rel X cl ch S m ok a w)(h:Tk X S m ok w T)(n:Nat)(hbs:∀b,b∈bs->b∈S9 m n (S (Z4+n)))(hnd:bs.Nodup):
  Tk X (upd S (Z4+n) .dead) m ok w (T++bs):=h.killV R n rfl hbs hnd
theorem Rel.lay(R:Rel X cl ch S m ok a w){l:Loc}{ks:List Nat}(hn:S (Z4+n)= .undef)(hcl:cl<=n)(hch:n<ch)(hv:v≠.undef)
  (hos:w'.os=w.os) (htp:w'.tape=w.tape) (hout:w'.output=w.output) (hsz:w.heap.size<=w'.heap.size)
  (hkeep:∀b,b<w.heap.size->b∉S9 (mF m n l ks) n v->w'.heap[b]? =w.heap[b]?)
  (hnd:(S9 (mF m n l ks) n v).Nodup)
  (hfree:∀b∈S9 (mF m n l ks) n v,(∀t,¬ok b t)/\b<w'.heap.size/\(X.w0.heap.size<=b\/b∈X.O)/\∀k,b∉S9 m k (S (Z4+k)))
  (hB:AL ⟨w'.heap,ok,mF m n l ks⟩ n v):Rel X cl ch (upd S (Z4+n) v) (mF m n l ks) ok a w' :=by
 have hm:m n=none:=R.fresh n hcl hn;have hR:Rel X cl ch S m ok a w' :=by
  refine R.world hos htp hout hsz (λb hb h=>?_) (λ_ _ h=>h) (λb t h=>⟨by have:=R.okLt b t h;omega,.inl h⟩);refine hkeep b hb (λe=>?_);obtain⟨h1,h2,h3,h4⟩:=hfree b e;rcases h with⟨t,h⟩|⟨k,h⟩|h
  .exact h1 t h
  .exact h4 k h
  .exact h h3
 have hle:Cx.le ⟨w'.heap,ok,m⟩ ⟨w'.heap,ok,mF m n l ks⟩:=⟨λ_ _ h=>h,λ_ _ _=>rfl,λk x h=>by
  by_cases e:k=n
  .subst e;simp[hm]at h
  .show mF m n l ks k=some x;rw[ji _ _ _ e];exact h⟩
 have hob:∀k,k≠n->S9 (mF m n l ks) k (upd S (Z4+n) v (Z4+k))=S9 m k (S (Z4+k)):=λk e=>by rw[bu _ _ l7];exact DK (ji _ _ _ e) (Nc _ _ _ e)
 have hobn:S9 (mF m n l ks) n (upd S (Z4+n) v (Z4+n))=S9 (mF m n l ks) n v:=by rw[lw]
 refine { kept:=hR.kept,size:=hR.size,nodef:=hR.nodef,okLt:=hR.okLt,okIn:=hR.okIn,okOut:=hR.okOut,frame:=hR.frame,slot:=λk hk=>(by rw[bu _ _ l7];exact KE hle (hR.slot k hk)),box:=λk=>?_,inj:=λk k' b h h' =>?_,nd:=λk=>?_,sep:=λk b h=>?_,fresh:=λk h1 h2=>?_,strict:=λk h=>?_,gl:=λg u hg=>Jy.le hle (hR.gl g u hg) }
 .by_cases e:k=n
  .subst e;rw[lw];exact hB
  .rw[bu _ _ l7];refine OL hle (Nc _ _ _ e) (λb hb=>rfl) (hR.box k)
 .by_cases e:k=n
  .by_cases e' :k' =n
   .rw[e,e']
   .subst e;rw[hobn]at h;rw[hob k' e']at h';exact absurd h' ((hfree b h).2.2.2 k')
  .by_cases e' :k' =n
   .subst e';rw[hobn]at h';rw[hob k e]at h;exact absurd h ((hfree b h').2.2.2 k)
   .rw[hob k e]at h;rw[hob k' e']at h';exact R.inj k k' b h h'
 .by_cases e:k=n
  .subst e;rw[hobn];exact hnd
  .rw[hob k e];exact R.nd k
 .by_cases e:k=n
  .subst e;rw[hobn]at h;obtain⟨h1,h2,h3,_⟩:=hfree b h;exact⟨h1,h2,h3⟩
  .rw[hob k e]at h;exact hR.sep k b h
 .by_cases e:k=n
  .subst e;rw[lw]at h2;exact absurd h2 hv
  .rw[bu _ _ l7]at h2;rw[ji _ _ _ e];exact R.fresh k h1 h2
 .have e:k≠n:=l7;rw[ji _ _ _ e];exact R.strict k h
theorem Rel.modK(R:Rel X cl ch S m ok a w)(hT:Tk X S m ok w T){ks:List Nat}(hv:v≠.undef)
  (hnd:(S9 (AY m n ks) n v).Nodup) (hsub:∀b∈S9 (AY m n ks) n v,b∈S9 m n (S (Z4+n))\/b∈T)
  (hos:w'.os=w.os) (htp:w'.tape=w.tape) (hout:w'.output=w.output) (hsz:w'.heap.size=w.heap.size)
  (hkeep:∀b,b∉S9 m n (S (Z4+n))->w'.heap[b]? =w.heap[b]?) (hB:AL ⟨w'.heap,ok,AY m n ks⟩ n v)
  {T' :List Nat} (hnd' :T'.Nodup) (hT' :∀b∈T',(b∈S9 m n (S (Z4+n))\/b∈T)/\b∉S9 (AY m n ks) n v):
  Rel X cl ch (upd S (Z4+n) v) (AY m n ks) ok a w' /\Tk X (upd S (Z4+n) v) (AY m n ks) ok w' T' :=by
 have hsep:∀b,b∈S9 m n (S (Z4+n))\/b∈T->(∀t,¬ok b t)/\b<w.heap.size/\(X.w0.heap.size<=b\/b∈X.O)/\∀k,k≠n->b∉S9 m k (S (Z4+k)):=λb h=>by
  rcases h with h|h
  .obtain⟨h1,h2,h3⟩:=R.sep n b h;exact⟨h1,h2,h3,λk e h' =>e (R.inj k n b h' h)⟩
  .obtain⟨h1,h2,h3,h4⟩:=hT.free b h;exact⟨h1,h2,h3,λk _=>h4 k⟩
 have hle:Cx.le ⟨w.heap,ok,m⟩ ⟨w'.heap,ok,AY m n ks⟩:=⟨λ_ _ h=>h,λb t hb=>hkeep b (λe=>(R.sep n b e).1 t hb),λ_ _ h=>h⟩;have hob:∀k,k≠n->S9 (AY m n ks) k (upd S (Z4+n) v (Z4+k))=S9 m k (S (Z4+k)):=λk e=>by rw[bu _ _ l7];exact DK rfl (Un _ _ e)
 have hobn:S9 (AY m n ks) n (upd S (Z4+n) v (Z4+n))=S9 (AY m n ks) n v:=by rw[lw]
 refine⟨?_,hnd',λb hb=>?_⟩
 .refine { kept:=R.kept,size:=R.size,nodef:=R.nodef,okLt:=λb t hb=>(by rw[hsz];exact R.okLt b t hb),okIn:=R.okIn,okOut:=R.okOut,strict:=R.strict,slot:=λk hk=>(by rw[bu _ _ l7];exact KE hle (R.slot k hk)),box:=λk=>?_,inj:=λk k' b h h' =>?_,nd:=λk=>?_,sep:=λk b h=>?_,fresh:=λk h1 h2=>?_,frame:=?_,gl:=λg u hg=>Jy.le hle (R.gl g u hg) }
  .by_cases e:k=n
   .subst e;rw[lw];exact hB
   .rw[bu _ _ l7];refine OL hle (Un _ _ e) (λb hb=>hkeep b (λe' =>e (R.inj k n b hb e'))) (R.box k)
  .by_cases e:k=n
   .by_cases e' :k' =n
    .rw[e,e']
    .subst e;rw[hobn]at h;rw[hob k' e']at h';exact absurd h' ((hsep b (hsub b h)).2.2.2 k' e')
   .by_cases e' :k' =n
    .subst e';rw[hobn]at h';rw[hob k e]at h;exact absurd h ((hsep b (hsub b h')).2.2.2 k e)
    .rw[hob k e]at h;rw[hob k' e']at h';exact R.inj k k' b h h'
  .by_cases e:k=n
   .subst e;rw[hobn];exact hnd
   .rw[hob k e];exact R.nd k
  .by_cases e:k=n
   .subst e;rw[hobn]at h;obtain⟨h1,h2,h3,_⟩:=hsep b (hsub b h);exact⟨h1,by rw[hsz];exact h2,h3⟩
   .rw[hob k e]at h;obtain⟨h1,h2,h3⟩:=R.sep k b h;exact⟨h1,by rw[hsz];exact h2,h3⟩
  .obtain⟨f1,f2,f3,f4,f5⟩:=R.frame;refine⟨hos.trans f1,htp.trans f2,hout.trans f3,by rw[hsz];exact f4,λb hb hO=>?_⟩;rw[hkeep b (λe=>?_)]
   .exact f5 b hb hO
   .rcases(R.sep n b e).2.2 with h|h
    .omega
    .exact hO h
  .by_cases e:k=n
   .subst e;rw[lw]at h2;exact absurd h2 hv
   .rw[bu _ _ l7]at h2;exact R.fresh k h1 h2
 .obtain⟨h0,h0'⟩:=hT' b hb;obtain⟨h1,h2,h3,h4⟩:=hsep b h0;refine⟨h1,by rw[hsz];exact h2,h3,λk h=>?_⟩;by_cases e:k=n
  .subst e;rw[hobn]at h;exact h0' h
  .rw[hob k e]at h;exact h4 k e h
theorem Rel.mod(R:Rel X cl ch S m ok a w)(ho:S9 m n v=S9 m n (S (Z4+n)))(hv:v≠.undef)
  (hos:w'.os=w.os) (htp:w'.tape=w.tape) (hout:w'.output=w.output) (hsz:w'.heap.size=w.heap.size)
  (hkeep:∀b,b∉S9 m n (S (Z4+n))->w'.heap[b]? =w.heap[b]?) (hB:AL ⟨w'.heap,ok,m⟩ n v):Rel X cl ch (upd S (Z4+n) v) m ok a w' :=by
 have h:=R.modK (T:=[]) Tk.nil (n:=n) (v:=v) (ks:=m.kid n) (w' :=w') (T' :=[]) hv (by rw[vM,ho];exact R.nd n) (by rw[vM,ho];exact λb h=> .inl h) hos htp hout hsz hkeep (by rw[vM];exact hB) dw (λb h=>by cases h);rw[vM]at h;exact h.1
theorem Rel.widen(R:Rel X cl ch S m ok a w)(hv:v≠.undef)(ho:S9 m n v=[]){Ts:List Ty}(hbs:∀b∈bs,b∈S9 m n (S (Z4+n)))
  (hB:AL ⟨w.heap,okW ok bs Ts,m⟩ n v):Rel X cl ch (upd S (Z4+n) v) m (okW ok bs Ts) a w:=by
 have hmono:∀b t,ok b t->okW ok bs Ts b t:=λb t h=> .inl h;have hob:∀k b,b∈S9 m k (upd S (Z4+n) v (Z4+k))->k≠n/\b∈S9 m k (S (Z4+k)):=λk b h=>wR ho h;have hle:Cx.le ⟨w.heap,ok,m⟩ ⟨w.heap,okW ok bs Ts,m⟩:=⟨hmono,λ_ _ _=>rfl,λ_ _ h=>h⟩;refine { kept:=R.kept,size:=R.size,nodef:=R.nodef,strict:=R.strict,frame:=R.frame,okIn:=λb t h=>hmono b t (R.okIn b t h),slot:=λk hk=>(by rw[bu _ _ l7];exact KE hle (R.slot k hk)),box:=λk=>?_,inj:=λk k' b h h' =>R.inj k k' b (hob _ _ h).2 (hob _ _ h').2,nd:=λk=>?_,sep:=λk b h=>?_,okLt:=λb t h=>?_,okOut:=λb t h=>?_,fresh:=λk h1 h2=>?_,gl:=λg u hg=>Jy.le hle (R.gl g u hg) }
 .by_cases e:k=n
  .subst e;rw[lw];exact hB
  .rw[bu _ _ l7];exact OL hle rfl (λb hb=>rfl) (R.box k)
 .by_cases e:k=n
  .subst e;rw[lw,ho];exact dw
  .rw[bu _ _ l7];exact R.nd k
 .obtain⟨e,h⟩:=hob k b h;obtain⟨h1,h2,h3⟩:=R.sep k b h;refine⟨λt h' =>?_,h2,h3⟩;rcases h' with h'|⟨h',_⟩
  .exact h1 t h'
  .exact e (R.inj k n b h (hbs b h'))
 .rcases h with h|⟨h,_⟩
  .exact R.okLt b t h
  .exact(R.sep n b (hbs b h)).2.1
 .rcases h with h|⟨h,_⟩
  .exact R.okOut b t h
  .exact .inr (R.sep n b (hbs b h)).2.2
 .by_cases e:k=n
  .subst e;rw[lw]at h2;exact absurd h2 hv
  .rw[bu _ _ l7]at h2;exact R.fresh k h1 h2
theorem Tk.widen(h:Tk X S m ok w T)(ho:S9 m n v=[]){Ts:List Ty}(hbs:∀b∈bs,b∈S9 m n (S (Z4+n))):
  Tk X (upd S (Z4+n) v) m (okW ok bs Ts) w T:=by
 refine⟨h.nodup,λb hb=>?_⟩;obtain⟨h1,h2,h3,h4⟩:=h.free b hb;refine⟨λt e=>?_,h2,h3,λk e=>h4 k (wR ho e).2⟩;rcases e with e|⟨e,_⟩
 .exact h1 t e
 .exact h4 n (hbs b e)
theorem Rel.backV(R:Rel X cl ch S m ok a w){O1 B:List Nat}(hv:v≠.undef)(hT:Tk X S m ok w (O1++B))(ho:S9 m n v=O1)(hB:AL ⟨w.heap,ok,m⟩ n v):
  Rel X cl ch (upd S (Z4+n) v) m ok a w/\Tk X (upd S (Z4+n) v) m ok w B:=by
 have hnd:=X8.1 hT.nodup;have h:=R.modK hT (n:=n) (v:=v) (ks:=m.kid n) (w' :=w) (T' :=B) hv (by rw[vM,ho];exact hnd.1) (by rw[vM,ho];exact λb h=> .inr (by simp[h])) rfl rfl rfl rfl (λ_ _=>rfl) (by rw[vM];exact hB) hnd.2.1
  (λb hb=>⟨.inr (by simp[hb]),by rw[vM,ho];exact λh=>hnd.2.2 b h b hb rfl⟩)
 rw[vM]at h;exact h
end
end Go.GP
namespace Go.GP
def Ef:Loc->Option (Nat×Nat)->Loc
 | .arr blk off len cap sz,some (lo,hi)=>if cap=lo then .arr blk off 0 0 sz else .arr blk (off+lo*sz) (hi -lo) (cap -lo) sz|l,_=>l
variable {v:Value}{t:Ty}{l:Loc}
theorem Dj{C:Cx}{xs:List t.den}{vw:Option (Nat×Nat)}(ha:arrOk C t xs l)(hv:l.view vw v):
  arrOk C t (jk vw xs) (Ef l vw)/\(Ef l vw).view none v/\(Ef l vw).blks=l.blks:=by
 cases l with
 |st b=>cases ha|mp b=>
  cases vw with
  |none=>exact⟨ha,hv,rfl⟩|some p=>cases hv
 |nil=>
  obtain⟨ha,h0⟩:=ha;subst ha;cases vw with
  |none=>exact⟨⟨rfl,h0⟩,hv,rfl⟩|some p=>obtain⟨lo,hi⟩:=p;obtain⟨rfl,rfl,rfl⟩:=hv;exact⟨⟨rfl,h0⟩,rfl,rfl⟩
 |arr blk off len cap sz=>
  cases vw with
  |none=>exact⟨ha,hv,rfl⟩|some p=>
   obtain⟨lo,hi⟩:=p;obtain⟨h0,rfl,rfl,hc,c,T,f,hh,hz,hs,hx⟩:=ha;obtain⟨h1,h2,rfl⟩:=hv;have hl:(jk (some (lo,hi)) xs).length=hi -lo:=by simp[jk,kN];omega
   by_cases e:cap=lo
   .subst e;have e2:hi=cap:=l7;subst e2;simp only[Ef,if_true,Loc.view,aI];refine⟨⟨h0,rfl,by rw[hl];omega,C9 _,c,T,f,hh,hz,?_,λi x hi=>?_⟩,trivial,rfl⟩
    .have:=bI (hi*t.size);omega
    .have:i<0:=by
      have:=(aO.1 hi).1;rw[hl]at this;omega
     omega
   .simp only[Ef,e,if_false,Loc.view];refine⟨⟨h0,rfl,by rw[hl],l7,c,T,f,hh,hz,?_,λi x hix=>?_⟩,trivial,rfl⟩
    .have:off+lo*t.size+(cap -lo)*t.size=off+cap*t.size:=by
      rw[lZ,←I7];congr 2;omega
     rw[this];exact hs
    .have hi' :i<hi -lo:=by rw[←hl];exact(aO.1 hix).1
     have hx' :xs[lo+i]? =some x:=by
      simp only[jk,kN,U4,V9]at hix;split at hix
      .exact hix
      .cases hix
     obtain⟨es,he,hr⟩:=hx _ x hx';refine⟨es,?_,hr⟩;rw[←he];congr 1;rw[I7];omega
def ML(ag:Bool)(v:Value)(cs:List Value):Prop:=match ag with
 |true=>∃arr,v= .agg arr/\arr.toList=cs|false=>cs=[v]
def rF(h:Array Obj)(ok:Nat->Ty->Prop):(ms:List MG)->aW ms->List Value->List Nat->Prop
 |[],_,vs,O=>vs=[]/\O=[]|[m],x,vs,O=>∃v cs,vs=[v]/\ML m.1 v cs/\oI h ok m.2 none x cs O|m::m' ::r,x,vs,O=>∃v cs vs' O1 O2,vs=v::vs' /\O=O1++O2/\ML m.1 v cs/\oI h ok m.2 none x.1 cs O1/\rF h ok (m' ::r) x.2 vs' O2
theorem nC{vw:Option (Nat×Nat)}(h:l.view vw v):v.oneCell' =true:=by
 cases l<;>rcases vw with _|⟨lo,hi⟩<;>simp only[Loc.view]at h
 .subst h;rfl
 .obtain⟨_,_,rfl⟩:=h;rfl
 .subst h;rfl
 .obtain⟨_,_,rfl⟩:=h;rfl
 .subst h;rfl
variable {h:Array Obj}
theorem PU{ok:Nat->Ty->Prop}{x:t.den}{o:Nat}(k:YR h ok t x o v):v.oneCell' =true:=by obtain⟨_,_,_,rfl,_⟩:=k;rfl
variable {α:Type}{ok':Nat->Ty->Prop}{cs:List Value}{O:List Nat}
section
variable {h:Array Obj} {ok:Nat->Ty->Prop}
theorem vX{xs:List t.den} :oI h ok (.own t) none xs cs O↔∃l v,cs=[v]/\l.view none v/\arrOk ⟨h,ok,nom⟩ t xs l/\O=l.blks:=by
 constructor
 .rintro⟨v,e,_,l,hv,ha,ho⟩;exact⟨l,v,e,hv,ha,ho⟩
 .rintro⟨l,v,e,hv,ha,ho⟩;exact⟨v,e,nC hv,l,hv,ha,ho⟩
theorem wV{m:M}{xs:List m.den} :oI h ok (.owns m) none xs cs O↔m.el=true/\∃l v Os,cs=[v]/\l.view none v/\
  zg h m.size (λ_ x es O=>oI h ok m none x es O) xs Os l/\O=l.blks++Os.flatten:=by
 constructor
 .rintro⟨v,e,_,he,l,Os,hv,ha,ho⟩;exact⟨he,l,v,Os,e,hv,ha,ho⟩
 .rintro⟨he,l,v,Os,e,hv,ha,ho⟩;exact⟨v,e,nC hv,he,l,Os,hv,ha,ho⟩
theorem a2k{a b:M}{x:a.den×b.den} :oI h ok (.pair a b) none x cs O↔∃c d O1 O2,cs=c++d/\O=O1++O2/\oI h ok a none x.1 c O1/\oI h ok b none x.2 d O2:=Iff.rfl
theorem qF:∀{m:M} {ho:Option Nat} {x:m.den} {cs:List Value} {O:List Nat},oI h ok m ho x cs O->∀v∈cs,v.oneCell' =true
 | .dat t,_,_,_,_,e=>uP e.1| .own t,_,_,_,_,⟨v,e,hv,_⟩=>by subst e;simp[hv]| .owns t,_,_,_,_,⟨v,e,hv,_⟩=>by subst e;simp[hv]| .ownb t,_,_,_,_,⟨l,v,e,hv,_⟩=>by subst e;simp[nC hv]| .pair a b,_,_,_,_,⟨c,d,_,_,e,_,h1,h2⟩=>by
  subst e;intro v hv;rcases I4.1 hv with hv|hv
  .exact qF h1 v hv
  .exact qF h2 v hv
 | .unit,_,_,_,_,⟨e,_⟩=>by subst e;simp| .box m,_,_,_,_,⟨_,_,_,_,e,_⟩=>by subst e;simp[Value.oneCell']| .rp t,_,_,_,_,⟨v,e,hv,_⟩=>by subst e;simp[PU hv]| .fn f ts,_,_,_,_,⟨vs,e,_⟩=>by subst e;simp[Value.oneCell']| .ifc t m,_,_,_,_,⟨u,e,_⟩=>by subst e;simp[Value.oneCell']| .cell _,_,_,_,_,⟨v,e,h,_⟩=>by subst e;simp[h]| .fr t,_,_,_,_,⟨l,v,e,hv,_⟩=>by subst e;simp[nC hv]| .sit,_,_,_,_,⟨blk,a,v,e,_⟩=>by subst e;simp[Value.oneCell']| .sbx tb te,_,_,_,_,⟨blk,a,v,l,e,_⟩=>by subst e;simp[Value.oneCell']
theorem Ll{α β α' β' :Type}(ea:α=α')(eb:β=β')(e:(α×β)=(α' ×β'))(x:α×β):cast e x=(cast ea x.1,cast eb x.2):=by subst ea;subst eb;rfl
theorem M.ty_size:∀{m:M},m.el=true->m.ty.size=m.size
 | .dat _,_=>rfl| .own _,_=>rfl| .owns _,_=>rfl| .unit,_=>rfl| .pair a b,h=>by
  have h' :a.el=true/\b.el=true:=by simpa[M.el]using h
  simp[M.ty,Ty.size,M.size,M.ty_size h'.1,M.ty_size h'.2]
 | .box _,h=>by simp[M.el]at h| .ownb _,h=>by simp[M.el]at h| .rp _,h=>by simp[M.el]at h| .fn _ _,h=>by simp[M.el]at h| .ifc _ _,h=>by simp[M.el]at h| .cell _,h=>by simp[M.el]at h| .fr _,h=>by simp[M.el]at h| .sbx _ _,h=>by simp[M.el]at h| .sit,h=>by simp[M.el]at h
theorem cZ:∀{m:M} {ho:Option Nat} {x:m.den} {cs:List Value} {O:List Nat},oI h ok m ho x cs O->cs.length=m.size
 | .dat t,_,_,_,_,e=>fM e.1| .own t,_,_,_,_,⟨v,e,hv,_⟩=>by subst e;rfl| .owns t,_,_,_,_,⟨v,e,hv,_⟩=>by subst e;rfl| .ownb t,_,_,_,_,⟨l,v,e,hv,_⟩=>by subst e;rfl| .pair a b,_,_,_,_,⟨c,d,_,_,e,_,h1,h2⟩=>by subst e;simp[cZ h1,cZ h2,M.size]| .unit,_,_,_,_,⟨e,_⟩=>by subst e;rfl| .box m,_,_,_,_,⟨_,_,_,_,e,_⟩=>by subst e;rfl| .rp t,_,_,_,_,⟨v,e,hv,_⟩=>by subst e;rfl| .fn f ts,_,_,_,_,⟨vs,e,_⟩=>by subst e;rfl| .ifc t m,_,_,_,_,⟨u,e,_⟩=>by subst e;rfl| .cell _,_,_,_,_,⟨v,e,_⟩=>by subst e;rfl| .fr t,_,_,_,_,⟨l,v,e,hv,_⟩=>by subst e;rfl| .sit,_,_,_,_,⟨blk,a,v,e,_⟩=>by subst e;rfl| .sbx tb te,_,_,_,_,⟨blk,a,v,l,e,_⟩=>by subst e;rfl
theorem Ws{sz:Nat}{mp:Mp}(h0:t.isEnt=false)(e:α=t.den)(e' :List α=List t.den)(hs:t.size=sz){R:Nat->α->List Value->List Nat->Prop}{xs:List α}{Os:List (List Nat)}
  (hR:∀i x es O,O∈Os->R i x es O->kU h ok' t (cast e x) es) (ha:zg h sz R xs Os l):arrOk ⟨h,ok',mp⟩ t (cast e' xs) l:=by
 subst e;simp only[cast_eq]at hR ⊢;cases l with
 |nil=>exact⟨ha.1,h0⟩|st b=>exact ha|mp b=>exact ha.elim|arr blk off len cap sz' =>obtain⟨h1,h2,h3,h7,c,T,h4,h5,h6⟩:=ha;refine⟨h0,by rw[hs];exact h1,h2,h3,c,T,_,h4,.inl rfl,by rw[h1];exact h5,λi x hi=>?_⟩;obtain⟨es,O,hO,hc,hr⟩:=h6 i x hi;exact⟨es,by rw[h1];exact hc,hR i x es O (yw hO) hr⟩
theorem M.ty_ent:∀{m:M},m.el=true->m.ty.isEnt=false
 | .dat t,h=>by simpa[M.el,M.ty]using h| .own _,_=>rfl| .owns _,_=>rfl| .unit,_=>rfl| .pair _ _,_=>rfl| .box _,h=>by simp[M.el]at h| .ownb _,h=>by simp[M.el]at h| .rp _,h=>by simp[M.el]at h| .fn _ _,h=>by simp[M.el]at h| .ifc _ _,h=>by simp[M.el]at h| .cell _,h=>by simp[M.el]at h| .fr _,h=>by simp[M.el]at h| .sbx _ _,h=>by simp[M.el]at h| .sit,h=>by simp[M.el]at h
theorem KD{ok' :Nat->Ty->Prop}(hok:∀b t,ok b t->ok' b t):∀{m:M} (he:m.el=true) {x:m.den} {cs:List Value} {O:List Nat},(∀b∈O,∀t∈m.owned,ok' b t)->oI h ok m none x cs O->kU h ok' m.ty (cast (M.denEq m he) x) cs
 | .dat t,_,_,_,_,_,e=>dM hok (λ_ _ _=>rfl) e.1| .unit,_,_,_,_,_,e=>e.1| .own t,he,xs,_,_,hO,e=>by obtain⟨l,v,rfl,hv,ha,rfl⟩:=vX.1 e;exact pO (C:=⟨h,ok,nom⟩) (vw:=none) ha hv hok (λblk hb=>hO blk hb t (by simp[M.owned]))
 | .pair a b,he,x,_,_,hO,e=>by
  obtain⟨c,d,O1,O2,rfl,rfl,h1,h2⟩:=e;have h' :a.el=true/\b.el=true:=by simpa[M.el]using he
  have e:cast (M.denEq (.pair a b) he) x=(cast (M.denEq a h'.1) x.1,cast (M.denEq b h'.2) x.2):=Ll _ _ _ _;refine⟨c,d,rfl,?_,?_⟩
  .rw[e];exact KD hok h'.1 (λb hb t ht=>hO b (by simp[hb]) t (by simp[M.owned,ht])) h1
  .rw[e];exact KD hok h'.2 (λb hb t ht=>hO b (by simp[hb]) t (by simp[M.owned,ht])) h2
 | .owns m,he,xs,_,_,hO,e=>by
  obtain⟨_,l,v,Os,rfl,hv,ha,rfl⟩:=wV.1 e;have he' :m.el=true:=he;have hA:arrOk ⟨h,ok',nom⟩ m.ty (cast (congrArg List (M.denEq m he')) xs) l:=Ws (M.ty_ent he') (M.denEq m he') _ (M.ty_size he') (λi x es O hOi hr=>KD hok he' (λb hb t ht=>hO b (by simp only[I4,bW];exact .inr ⟨O,hOi,hb⟩) t (by simp[M.owned,ht])) hr) ha
  exact pO (C:=⟨h,ok',nom⟩) (t:=m.ty) (vw:=none) hA hv (λ_ _ h=>h) (λblk hb=>hO blk (by simp[hb]) m.ty (by simp[M.owned]))
 | .box _,h,_,_,_,_,_=>by simp[M.el]at h| .ownb _,h,_,_,_,_,_=>by simp[M.el]at h| .rp _,h,_,_,_,_,_=>by simp[M.el]at h| .fn _ _,h,_,_,_,_,_=>by simp[M.el]at h| .ifc _ _,h,_,_,_,_,_=>by simp[M.el]at h| .cell _,h,_,_,_,_,_=>by simp[M.el]at h| .fr _,h,_,_,_,_,_=>by simp[M.el]at h| .sbx _ _,h,_,_,_,_,_=>by simp[M.el]at h| .sit,h,_,_,_,_,_=>by simp[M.el]at h
theorem Ia{m:M}{mp:Mp}(he:m.el=true)(hok:∀b t,ok b t->ok' b t){xs:List m.den}{Os:List (List Nat)}(hO:∀b∈Os.flatten,∀t∈m.owned,ok' b t)
  (ha:zg h m.size (λ_ x es O=>oI h ok m none x es O) xs Os l):arrOk ⟨h,ok',mp⟩ m.ty (cast (congrArg List (M.denEq m he)) xs) l:=
 Ws (M.ty_ent he) (M.denEq m he) _ (M.ty_size he) (λi x es O hOi hr=>KD hok he (λb hb t ht=>hO b (bW.2 ⟨O,hOi,hb⟩) t ht) hr) ha
end
theorem NQ{h h' :Array Obj}{ok ok' :Nat->Ty->Prop}(hok:∀b t,ok b t->ok' b t)(hh:∀b t,ok b t->h'[b]? =h[b]?):
  ∀{ms:List MG} {x:aW ms} {vs:List Value} {O:List Nat},(∀b∈O,h'[b]? =h[b]?)->rF h ok ms x vs O->rF h' ok' ms x vs O
 |[],_,_,_,_,e=>e|[m],_,_,_,hb,⟨v,cs,e,hg,hr⟩=>⟨v,cs,e,hg,jQ hok hh hb hr⟩|m::m' ::r,_,_,_,hb,⟨v,cs,vs',O1,O2,e,eo,hg,h1,h2⟩=>by subst eo;exact⟨v,cs,vs',O1,O2,e,rfl,hg,jQ hok hh (λb h=>hb b (by simp[h])) h1,NQ hok hh (λb h=>hb b (by simp[h])) h2⟩
variable {Q:α->Sm->Prop}{c:V}
section
variable {X:Fx} {cl ch:Nat} {S:Sm} {m:Mp} {ok:Nat->Ty->Prop} {a:Act} {w:World} {T:List Nat}
theorem eQ{p q:Ty}{xs:List p.den}{k:List q.den->Cmd α}{S:Sm}
  (h:∀e:p=q,(k (e▸xs)).post S Q):(Ty.castL p q xs k .fail).post S Q:=by
 unfold Ty.castL;split
 .rename_i e;exact h e
 .trivial
theorem fO{b:Bool}{c:Cmd α}{S:Sm}(h:b=true->c.post S Q):(bif b then c else Cmd.fail).post S Q:=by
 cases b
 .trivial
 .exact h rfl
theorem Dl{p q:Ty}{x:p.den}{k:q.den->Cmd α}{S:Sm}
  (h:∀e:p=q,(k (e▸x)).post S Q):(TB p q x k .fail).post S Q:=by
 unfold TB;split
 .rename_i e;exact h e
 .trivial
theorem PE{p q:M}{xs:List p.den}{k:List q.den->Cmd α}{S:Sm}
  (h:∀e:p=q,(k (e▸xs)).post S Q):(N_ p q xs k .fail).post S Q:=by
 unfold N_;split
 .rename_i e;exact h (M.beq_eq e)
 .trivial
theorem WL{p:M}{xs:List p.den}{k:List t.den->Cmd α}{S:Sm}
  (h:∀(e:p.el=true) (e' :p.ty=t),(k (e' ▸cast (congrArg List (M.denEq p e)) xs)).post S Q):(YX p t xs k .fail).post S Q:=by
 unfold YX;split
 .rename_i e;obtain⟨e,rfl⟩:=e;exact h e rfl
 .trivial
theorem Hf{ok ok' :Nat->Ty->Prop}{m:Mp}(k:∀b t,ok b t->ok' b t){cs:List V}{vs:List Value}(hr:gy ⟨h,ok,m⟩ cs vs):gy ⟨h,ok',m⟩ cs vs:=
 BC (C:=⟨h,ok,m⟩) (D:=⟨h,ok',m⟩) ⟨k,λ_ _ _=>rfl,λ_ _ h=>h⟩ hr
theorem Hg{ok ok' :Nat->Ty->Prop}{m:Mp}(k:∀b t,ok b t->ok' b t)(hr:lU ⟨h,ok,m⟩ c v):lU ⟨h,ok',m⟩ c v:=
 KE (C:=⟨h,ok,m⟩) (D:=⟨h,ok',m⟩) ⟨k,λ_ _ _=>rfl,λ_ _ h=>h⟩ hr
theorem Au{bs:List Nat}{Ts:List Ty} :∀b t,ok b t->okW ok bs Ts b t:=λ_ _ h=> .inl h
def okL(ln:Ty->Bool)(S:Sm)(m:Mp)(ok:Nat->Ty->Prop):Nat->Ty->Prop:=λb t=>ok b t\/(ln t=true/\∃n,b∈S9 m n (S (Z4+n))/\t∈a4g (S (Z4+n)))
theorem a3U:okL xX S m ok=ok:=by funext b t;simp[okL,xX]
theorem Uc{ln:Ty->Bool}{n:Nat}{v:V}(hv:S9 m n v=[]){Ts:List Ty}{bs:List Nat}(hbs:S9 m n (S (Z4+n)) ⊆ bs)(hTs:a4g (S (Z4+n)) ⊆ Ts):
  ∀b t,okL ln S m ok b t->okL ln (upd S (Z4+n) v) m (okW ok bs Ts) b t:=by
 intro b t h;rcases h with h|⟨hl,k,hk,ht⟩
 .exact .inl (.inl h)
 .by_cases e:k=n
  .subst e;exact .inl (.inr ⟨hbs hk,hTs ht⟩)
  .exact .inr ⟨hl,k,by rw[bu _ _ l7];exact⟨hk,ht⟩⟩
def bD(S S' :Sm):Prop:=∀n,n<Z4->S' n=S n
theorem bD.refl(S:Sm):bD S S:=λ_ _=>rfl
theorem bD.trans{A B C:Sm}(h:bD A B)(k:bD B C):bD A C:=λn hn=>(k n hn).trans (h n hn)
theorem bD.box(S:Sm)(n:Nat)(v:V):bD S (upd S (Z4+n) v):=λk hk=>bu _ _ l7
theorem Tu{ln:Ty->Bool} :∀{ts:List Ty},Wp ln ts=true->∀t∈ts,ln t=true
 |[],_,_,h=>by cases h|u::r,e,t,h=>by
  unfold Wp at e;cases hl:ln u with
  |false=>rw[hl]at e;cases e|true=>
   rw[hl]at e;rcases D6.1 h with rfl|h
   .exact hl
   .exact Tu e t h
theorem BJ{α:Type}{Q:α->Sm->Prop}(ln:Ty->Bool):∀(t:Ty) {cs:List V} {K:t.den->List V->Cmd α} {S:Sm} {ok:Nat->Ty->Prop} {vs:List Value} (R:Rel X cl ch S m ok a w) (hT:Tk X S m ok w T)
  (hL:gy ⟨w.heap,ok,m⟩ cs vs)
  (hK:∀S' ok' x r us us',Rel X cl ch S' m ok' a w->Tk X S' m ok' w T->(∀b t,ok b t->ok' b t)->(∀b t,okL ln S m ok b t->okL ln S' m ok' b t)->bD S S' ->vs=us++us' ->kU w.heap (okL ln S' m ok') t x us->gy ⟨w.heap,ok',m⟩ r us' ->(K x r).post S' Q),
  (og ln t cs K).post S Q
 | .bool,cs,K,S,ok,vs,R,hT,hL,hK=>by
  unfold og;split
  .obtain⟨v,r,rfl,h1,_,h3⟩:=hL;exact hK _ _ _ _ [v] r R hT (λ_ _ h=>h) (λ_ _ h=>h) (bD.refl _) rfl (by simp only[uM]at h1;simp[kU,h1]) h3
  .trivial
 | .int k,cs,K,S,ok,vs,R,hT,hL,hK=>by
  unfold og;split
  .rename_i k' n r0;obtain⟨v,r,rfl,h1,_,h3⟩:=hL;by_cases e:k=k'
   .subst e;simp only[decide_true,cond_true];exact hK _ _ _ _ [v] r R hT (λ_ _ h=>h) (λ_ _ h=>h) (bD.refl _) rfl (by simp only[uM]at h1;simp[kU,h1]) h3
   .simp only[e,decide_false,cond_false];trivial
  .trivial
 | .str,cs,K,S,ok,vs,R,hT,hL,hK=>by
  unfold og;split
  .obtain⟨v,r,rfl,h1,_,h3⟩:=hL;exact hK _ _ _ _ [v] r R hT (λ_ _ h=>h) (λ_ _ h=>h) (bD.refl _) rfl (by simp only[uM]at h1;simp[kU,h1]) h3
  .trivial
 | .unit,cs,K,S,ok,vs,R,hT,hL,hK=>by unfold og;exact hK _ _ _ _ [] vs R hT (λ_ _ h=>h) (λ_ _ h=>h) (bD.refl _) rfl rfl hL
 | .prod p q,cs,K,S,ok,vs,R,hT,hL,hK=>by unfold og;refine BJ ln p R hT hL λS1 ok1 x r us us' R1 T1 k1 g1 s1 e1 h1 l1=>?_;refine BJ ln q R1 T1 l1 λS2 ok2 y r' vs2 vs2' R2 T2 k2 g2 s2 e2 h2 l2=>?_;subst e1;subst e2;exact hK _ _ _ _ (us++vs2) vs2' R2 T2 (λb t h=>k2 b t (k1 b t h)) (λb t h=>g2 b t (g1 b t h)) (s1.trans s2) A7 ⟨us,vs2,rfl,dM g2 (λ_ _ _=>rfl) h1,h2⟩ l2| .ent ..,cs,K,S,ok,vs,R,hT,hL,hK=>by unfold og;trivial| .sl t,cs,K,S,ok,vs,R,hT,hL,hK=>by
  unfold og;split
  .obtain⟨v,r,rfl,h1,_,h3⟩:=hL;simp only[uM]at h1;subst h1;cases ht:t.isEnt
   .exact hK _ _ _ _ [_] r R hT (λ_ _ h=>h) (λ_ _ h=>h) (bD.refl _) rfl (.inl ⟨ht,none,0,rfl,C9 _,λi x hi=>by simp at hi⟩) h3
   .trivial
  .rename_i t' xs r0;obtain⟨v,r,rfl,h1,_,h3⟩:=hL;refine eQ λe=>?_;subst e;exact hK _ _ _ _ [v] r R hT (λ_ _ h=>h) (λ_ _ h=>h) (bD.refl _) rfl (dM (λ_ _ h=> .inl h) (λ_ _ _=>rfl) h1) h3
  .rename_i bx vw r0;obtain⟨v,r,rfl,h1,_,h3⟩:=hL;obtain⟨l,hm,hv⟩:=h1;show Cmd.post (match S (Z4+bx)with| .barr t' xs=>_| .bfrz t' xs=>_| .barrs el xs none=>_|_=>_) S Q;have hb:=R.box bx;split
   .rename_i t' xs hS;rw[hS]at hb;obtain⟨l',hm',ha⟩:=hb;simp only at hm hm';rw[hm]at hm';cases hm';refine eQ λe=>?_;subst e;have hob:S9 m bx (S (Z4+bx))=l.blks:=by
     rw[hS];cases l<;>first|(simp[S9,hm,Loc.blks];done)|cases ha
    cases hl:ln t'
    .simp only[cond_false];show Cmd.post _ (upd S (Z4+bx) (.bfrz t' xs)) Q;have hbs:∀b∈l.blks,b∈S9 m bx (S (Z4+bx)):=λb h=>by rw[hob];exact h
     refine hK _ (okW ok l.blks [t']) _ _ [v] r (R.widen A7 rfl hbs ?_) (hT.widen rfl hbs) Au (Uc rfl (by rw[hob];exact λ_ h=>h) (by rw[hS];exact λ_ h=>h)) (bD.box _ _ _) rfl ?_ (Hf Au h3)
     .exact⟨l,hm,nS Au (λ_ _ _=>rfl) (λ_ _=>rfl) ha,λblk hb=> .inr ⟨hb,A7⟩⟩
     .exact pO (C:=⟨w.heap,ok,m⟩) ha hv (λb t h=> .inl (.inl h)) (λblk hb=> .inl (.inr ⟨hb,A7⟩))
    .simp only[cond_true];refine hK _ _ _ _ [v] r R hT (λ_ _ h=>h) (λ_ _ h=>h) (bD.refl _) rfl ?_ h3;refine pO (C:=⟨w.heap,ok,m⟩) ha hv (λb t h=> .inl h) (λblk hb=> .inr ⟨hl,bx,?_,by rw[hS];simp[a4g]⟩);rw[hob];exact hb
   .rename_i t' xs hS;rw[hS]at hb;obtain⟨l',hm',ha,hok⟩:=hb;simp only at hm hm';rw[hm]at hm';cases hm';refine eQ λe=>?_;subst e;exact hK _ _ _ _ [v] r R hT (λ_ _ h=>h) (λ_ _ h=>h) (bD.refl _) rfl (pO (C:=⟨w.heap,ok,m⟩) ha hv (λ_ _ h=> .inl h) (λblk e=> .inl (hok _ e))) h3
   .rename_i md xs hS;rw[hS]at hb;obtain⟨hel,l',Os,hm',⟨ha,hho⟩,hk⟩:=hb;simp only at hm hm' hk;rw[hm]at hm';cases hm';refine WL λe e' =>?_;subst e';have hob:S9 m bx (S (Z4+bx))=l.blks++Os.flatten:=by
     rw[hS];simp only[S9];rw[hk];cases l<;>first|(simp[hm,Loc.blks];done)|cases ha
    simp only;cases hl:(ln md.ty&&Wp ln md.owned)
    .simp only[cond_false];show Cmd.post _ (upd S (Z4+bx) (.bfrz md.ty _)) Q;have hbs:∀b∈l.blks++Os.flatten,b∈S9 m bx (S (Z4+bx)):=λb h=>by rw[hob];exact h
     have ha' :arrOk ⟨w.heap,okW ok (l.blks++Os.flatten) (md.ty::md.owned),m⟩ md.ty (cast (congrArg List (M.denEq md e)) xs) l:=
      Ia e Au (λb hb t ht=> .inr ⟨by simp[hb],by simp[ht]⟩) ha
     refine hK _ (okW ok (l.blks++Os.flatten) (md.ty::md.owned)) _ _ [v] r (R.widen A7 rfl hbs ?_) (hT.widen rfl hbs) Au (Uc rfl (by rw[hob];exact λ_ h=>h) (by rw[hS];exact λ_ h=>h)) (bD.box _ _ _) rfl ?_ (Hf Au h3)
     .exact⟨l,hm,ha',λblk hb=> .inr ⟨by simp[hb],A7⟩⟩
     .exact pO (C:=⟨w.heap,okW ok (l.blks++Os.flatten) (md.ty::md.owned),m⟩) ha' hv (λb t h=> .inl h) (λblk hb=> .inl (.inr ⟨by simp[hb],A7⟩))
    .simp only[cond_true];simp only[A8]at hl;have ha' :arrOk ⟨w.heap,okL ln S m ok,m⟩ md.ty (cast (congrArg List (M.denEq md e)) xs) l:=
      Ia e (λb t h=> .inl h) (λb hb t ht=> .inr ⟨Tu hl.2 t ht,bx,by rw[hob];simp[hb],by rw[hS];simp[a4g,ht]⟩) ha
     refine hK _ _ _ _ [v] r R hT (λ_ _ h=>h) (λ_ _ h=>h) (bD.refl _) rfl ?_ h3;refine pO (C:=⟨w.heap,okL ln S m ok,m⟩) ha' hv (λb t h=>h) (λblk hb=> .inr ⟨hl.1,bx,?_,by rw[hS];simp[a4g]⟩);rw[hob];simp[hb]
   .trivial
  .trivial
theorem zT(t:Ty){cs:List V}{K:t.den->List V->Cmd α}{S:Sm}{ok:Nat->Ty->Prop}{vs:List Value}(R:Rel X cl ch S m ok a w)(hT:Tk X S m ok w T)
  (hL:gy ⟨w.heap,ok,m⟩ cs vs)
  (hK:∀S' ok' x r us us',Rel X cl ch S' m ok' a w->Tk X S' m ok' w T->(∀b t,ok b t->ok' b t)->bD S S' ->vs=us++us' ->kU w.heap ok' t x us->gy ⟨w.heap,ok',m⟩ r us' ->(K x r).post S' Q):
  (og xX t cs K).post S Q:=
 BJ xX t R hT hL λS' ok' x r us us' R' T' k g s e h l=>hK S' ok' x r us us' R' T' k s e (by rw[a3U]at h;exact h) l
theorem Loc.blks_nodup(l:Loc):l.blks.Nodup:=by cases l<;>simp[Loc.blks]
theorem XU(t:Ty){K:t.den->Cmd α}{S:Sm}{ok:Nat->Ty->Prop}(R:Rel X cl ch S m ok a w)(hT:Tk X S m ok w T)
  (hv:uM ⟨w.heap,ok,m⟩ c v)
  (hK:∀S' ok' x,Rel X cl ch S' m ok' a w->Tk X S' m ok' w T->(∀b t,ok b t->ok' b t)->bD S S' ->YR w.heap ok' t x 0 v->(K x).post S' Q):(rpC t c K).post S Q:=by
 unfold rpC;split
 .refine Dl λe=>?_;subst e;exact hK _ _ _ R hT (λ_ _ h=>h) (bD.refl _) hv
 .rename_i bx;obtain⟨blk,hm,rfl⟩:=hv;show Cmd.post (match S (Z4+bx)with| .bfc t' x=>_| .bcells bs=>_|_=>_) S Q;have hb:=R.box bx;split
  .rename_i t' x hS;rw[hS]at hb;obtain⟨blk',es,hm',hok,hc,hr⟩:=hb;simp only at hm hm';rw[hm]at hm';cases hm';refine Dl λe=>?_;subst e;exact hK _ _ _ R hT (λ_ _ h=>h) (bD.refl _) ⟨blk,0,es,rfl,hok,hc,hr⟩
  .rename_i bs hS;rw[hS]at hb;obtain⟨blk',arr,Ty',hm',hh,hl⟩:=hb;simp only at hm hm';rw[hm]at hm';cases hm';refine zT t R hT hl λS1 ok1 x q us us' R1 T1 k1 s1 e1 h1 l1=>?_;cases q with
   |cons c q=>trivial|nil=>
    simp only[gy]at l1;subst l1;simp only[E5]at e1;show Cmd.post (match S1 (Z4+bx)with| .bcells _=>_|_=>_) S1 Q;split
    .rename_i bs' hS';show Cmd.post _ (upd S1 (Z4+bx) (.bfc t x)) Q;have hbs:∀b∈[blk],b∈S9 m bx (S1 (Z4+bx)):=λb h=>by rw[hS'];simp at h;subst h;simp[S9,hm]
     have hce:dN w.heap blk 0 t.size=some us:=by rw[lW hh 0 t.size (by have:=fM h1;rw[←e1]at this;simp at this;omega)];rw[e1,←fM h1];simp
     have hr:=dM (Au (bs:=[blk]) (Ts:=[t])) (λ_ _ _=>rfl) h1;refine hK _ (okW ok1 [blk] [t]) _ (R1.widen A7 rfl hbs ?_) (T1.widen rfl hbs) (λb t h=> .inl (k1 b t h)) (s1.trans (bD.box _ _ _)) ?_
     .exact⟨blk,us,hm,.inr ⟨A7,A7⟩,hce,hr⟩
     .exact⟨blk,0,us,rfl,.inr ⟨A7,A7⟩,hce,hr⟩
    .trivial
  .trivial
 .trivial
theorem EJ{α:Type}{Q:α->Sm->Prop}{h:Array Obj}{ok:Nat->Ty->Prop} :∀(ts:List Ty) {cs:List ((t:Ty)×t.den)} {vs:List Value} {K:Nb ts->Cmd α} {S:Sm}
  (hc:zY h ok cs vs) (hK:∀x,zY h ok (Na ts x) vs->(K x).post S Q),(IK ts cs K).post S Q
 |[],cs,vs,K,S,hc,hK=>by
  unfold IK;split
  .exact hK _ hc
  .trivial
 |[t],cs,vs,K,S,hc,hK=>by
  unfold IK;split
  .refine Dl λe=>?_;subst e;exact hK _ hc
  .trivial
 |t::t' ::r,cs,vs,K,S,hc,hK=>by
  unfold IK;split
  .obtain⟨v,vs',rfl,h1,h2⟩:=hc;refine Dl λe=>?_;subst e;exact EJ (t' ::r) h2 λy hy=>hK _ ⟨v,vs',rfl,h1,hy⟩
  .trivial
theorem a4V{te:Nat}{K:List UInt8->Cmd α}{S:Sm}{ok:Nat->Ty->Prop}{T:List Nat}(R:Rel X cl ch S m ok a w)(hT:Tk X S m ok w T)(hv:uM ⟨w.heap,ok,m⟩ c v)
  (hK:∀S' ys l,Rel X cl ch S' m ok a w->Tk X S' m ok w (T++l.blks)->bD S S' ->(∀n,(∀t xs,S (Z4+n)≠.brow t xs)->S' (Z4+n)=S (Z4+n))->l.view none v->xM w.heap te ys l->(K ys).post S' Q):(sbC te c K).post S Q:=by
 unfold sbC;split
 .exact hK S [] .nil R (by simpa[Loc.blks]using hT) (bD.refl _) (λ_ _=>rfl) hv rfl
 .rename_i b;obtain⟨l,hm,hvw⟩:=hv;show Cmd.post (match S (Z4+b)with| .brow te' xs=>_|_=>_) S Q;have hb:=R.box b;split
  .rename_i t' xs hS;rw[hS]at hb;obtain⟨l',hm',ha⟩:=hb;simp only at hm hm';rw[hm]at hm';cases hm';cases he:Nat.beq t' te
   .trivial
   have e:=iI he;subst e;show Cmd.post _ (upd S (Z4+b) .dead) Q;refine hK _ xs l (R.kill b) (hT.kill R b (λb' hb' =>?_) (Loc.blks_nodup l)) (bD.box _ _ _) (λn hn=>?_) hvw ha
   .cases l with
    |nil=>simp[Loc.blks]at hb'|st _=>cases ha|arr blk off len cap sz=>simp[Loc.blks]at hb';subst hb';simp[S9,hS,hm]|mp blk=>cases ha
   .by_cases en:n=b
    .subst en;exact absurd hS (hn _ _)
    .rw[bu _ _ l7]
  .trivial
 .trivial
theorem Ag{α:Type}{Q:α->Sm->Prop} :∀(md:M) {cs:List V} {K:md.den->List V->Cmd α} {S:Sm} {ok:Nat->Ty->Prop} {vs:List Value} {T:List Nat} (R:Rel X cl ch S m ok a w) (hT:Tk X S m ok w T)
  (hL:gy ⟨w.heap,ok,m⟩ cs vs)
  (hK:∀S' ok' x r us us' O,Rel X cl ch S' m ok' a w->Tk X S' m ok' w (T++O)->(∀b t,ok b t->ok' b t)->bD S S' ->vs=us++us' ->oI w.heap ok' md none x us O->gy ⟨w.heap,ok',m⟩ r us' ->(K x r).post S' Q),
  (exM xX md cs K).post S Q
 | .dat t,cs,K,S,ok,vs,T,R,hT,hL,hK=>by unfold exM;exact zT t R hT hL λS' ok' x r us us' R' T' k s e h l=>hK S' ok' x r us us' [] R' (by simpa using T') k s e ⟨h,rfl⟩ l| .own t,cs,K,S,ok,vs,T,R,hT,hL,hK=>by
  unfold exM;split
  .obtain⟨v,r,rfl,h1,_,h3⟩:=hL;simp only[uM]at h1;subst h1;cases ht:t.isEnt
   .exact hK _ _ _ _ [_] r [] R (by simpa using hT) (λ_ _ h=>h) (bD.refl _) rfl (vX.2 ⟨.nil,_,rfl,rfl,⟨rfl,ht⟩,rfl⟩) h3
   .trivial
  .rename_i bx vw r0;obtain⟨v,r,rfl,h1,_,h3⟩:=hL;obtain⟨l,hm,hv⟩:=h1;show Cmd.post (match S (Z4+bx)with| .barr t' xs=>_|_=>_) S Q;have hb:=R.box bx;split
   .rename_i t' xs hS;rw[hS]at hb;obtain⟨l',hm',ha⟩:=hb;simp only at hm hm';rw[hm]at hm';cases hm';refine eQ λe=>?_;subst e;obtain⟨a1,a2,a3⟩:=Dj (C:=⟨w.heap,ok,m⟩) ha hv;show Cmd.post _ (upd S (Z4+bx) .dead) Q;refine hK _ ok _ _ [v] r (Ef l vw).blks (R.kill bx) ?_ (λ_ _ h=>h) (bD.box _ _ _) rfl (vX.2 ⟨_,v,rfl,a2,nS (λ_ _ h=>h) (λ_ _ _=>rfl) (λ_ _=>rfl) a1,rfl⟩) h3;rw[a3];refine hT.kill R bx (λb hb=>?_) (Loc.blks_nodup l);cases l with
    |nil=>simp[Loc.blks]at hb|st _=>cases ha|arr blk off len cap sz=>simp[Loc.blks]at hb;subst hb;simp[S9,hS,hm]|mp blk=>simp[Loc.blks]at hb;subst hb;simp[S9,hS,hm]
   .trivial
  .trivial
 | .ownb t,cs,K,S,ok,vs,T,R,hT,hL,hK=>by
  unfold exM;split
  .obtain⟨v,r,rfl,h1,_,h3⟩:=hL;simp only[uM]at h1;subst h1;cases ht:t.isEnt
   .exact hK _ _ _ _ [_] r [] R (by simpa using hT) (λ_ _ h=>h) (bD.refl _) rfl ⟨.nil,_,rfl,rfl,⟨rfl,ht⟩,rfl⟩ h3
   .trivial
  .rename_i bx r0;obtain⟨v,r,rfl,h1,_,h3⟩:=hL;obtain⟨l,hm,hv⟩:=h1;show Cmd.post (match S (Z4+bx)with| .barr t' xs=>_|_=>_) S Q;have hb:=R.box bx;split
   .rename_i t' xs hS;rw[hS]at hb;obtain⟨l',hm',ha⟩:=hb;simp only at hm hm';rw[hm]at hm';cases hm';refine eQ λe=>?_;subst e;show Cmd.post _ (upd S (Z4+bx) (.gone t')) Q;refine hK _ ok _ _ [v] r l.blks (R.killV bx A7 rfl ⟨l,hm,λblk off len cap sz e=>by subst e;exact ha.2.1⟩) ?_ (λ_ _ h=>h) (bD.box _ _ _) rfl ⟨l,v,rfl,hv,nS (λ_ _ h=>h) (λ_ _ _=>rfl) (λ_ _=>rfl) ha,rfl⟩ h3;refine hT.killV R bx rfl (λb hb=>?_) (Loc.blks_nodup l);cases l with
    |nil=>simp[Loc.blks]at hb|st _=>cases ha|arr blk off len cap sz=>simp[Loc.blks]at hb;subst hb;simp[S9,hS,hm]|mp blk=>simp[Loc.blks]at hb;subst hb;simp[S9,hS,hm]
   .trivial
  .trivial
 | .owns md,cs,K,S,ok,vs,T,R,hT,hL,hK=>by
  unfold exM;split
  .obtain⟨v,r,rfl,h1,_,h3⟩:=hL;simp only[uM]at h1;subst h1;refine fO λhe=>?_;exact hK _ _ _ _ [_] r [] R (by simpa using hT) (λ_ _ h=>h) (bD.refl _) rfl (wV.2 ⟨he,.nil,_,[],rfl,rfl,⟨rfl,rfl⟩,rfl⟩) h3
  .rename_i bx r0;obtain⟨v,r,rfl,h1,_,h3⟩:=hL;obtain⟨l,hm,hv⟩:=h1;show Cmd.post (match S (Z4+bx)with| .barrs m' xs none=>_|_=>_) S Q;have hb:=R.box bx;split
   .rename_i md' xs hS;rw[hS]at hb;obtain⟨hel,l',Os,hm',⟨ha,hho⟩,hk⟩:=hb;simp only at hm hm' hk;rw[hm]at hm';cases hm';refine PE λe=>?_;subst e;have hob:S9 m bx (S (Z4+bx))=l.blks++Os.flatten:=by
     rw[hS];simp only[S9];rw[hk];cases l<;>first|(simp[hm,Loc.blks];done)|cases ha
    show Cmd.post _ (upd S (Z4+bx) .dead) Q;refine hK _ ok _ _ [v] r (l.blks++Os.flatten) (R.kill bx) ?_ (λ_ _ h=>h) (bD.box _ _ _) rfl (wV.2 ⟨hel,l,v,Os,rfl,hv,ha,rfl⟩) h3;refine hT.kill R bx (λb hb=>by rw[hob];exact hb) (by rw[←hob];exact R.nd bx)
   .trivial
  .trivial
 | .unit,cs,K,S,ok,vs,T,R,hT,hL,hK=>by unfold exM;exact hK _ _ _ _ [] vs [] R (by simpa using hT) (λ_ _ h=>h) (bD.refl _) rfl ⟨rfl,rfl⟩ hL
 | .pair p q,cs,K,S,ok,vs,T,R,hT,hL,hK=>by unfold exM;refine Ag p R hT hL λS1 ok1 x r us us' O1 R1 T1 k1 s1 e1 h1 l1=>?_;refine Ag q R1 T1 l1 λS2 ok2 y r' vs2 vs2' O2 R2 T2 k2 s2 e2 h2 l2=>?_;subst e1;subst e2;exact hK _ _ _ _ (us++vs2) vs2' (O1++O2) R2 (by simpa using T2) (λb t h=>k2 b t (k1 b t h)) (s1.trans s2) A7 ⟨us,vs2,O1,O2,rfl,rfl,jQ k2 (λ_ _ _=>rfl) (λ_ _=>rfl) h1,h2⟩ l2| .box md,cs,K,S,ok,vs,T,R,hT,hL,hK=>by
  unfold exM;split
  .rename_i bx r0;obtain⟨v,r,rfl,h1,_,h3⟩:=hL;obtain⟨blk,hm,hv⟩:=h1;show Cmd.post (match S (Z4+bx)with| .bcells bs=>_|_=>_) S Q;have hb:=R.box bx;split
   .rename_i bs hS;rw[hS]at hb;obtain⟨blk',arr,Ty',hm',hh,hl⟩:=hb;simp only at hm hm' hv;rw[hm]at hm';cases hm';subst hv;show Cmd.post _ (upd S (Z4+bx) .dead) Q;have hT1:Tk X (upd S (Z4+bx) .dead) m ok w (T++[blk]):=hT.kill R bx (λb hb=>by simp at hb;subst hb;simp[S9,hS,hm]) A7;refine Ag md (R.kill bx) hT1 hl λS1 ok1 x q us us' O R1 T1 k1 s1 e1 h1 l1=>?_;cases q with
    |nil=>simp only[gy]at l1;subst l1;simp only[E5]at e1;refine hK _ _ _ _ [_] r (blk::O) R1 (by simpa using T1) k1 ((bD.box _ _ _).trans s1) rfl ⟨blk,arr,Ty',O,rfl,hh,by rw[e1];exact h1,rfl⟩ (Hf k1 h3)|cons c q=>trivial
   .trivial
  .trivial
 | .rp t,cs,K,S,ok,vs,T,R,hT,hL,hK=>by
  unfold exM;split
  .obtain⟨v,r,rfl,h1,_,h3⟩:=hL;refine XU t R hT h1 λS1 ok1 x R1 T1 k1 s1 h1=>?_;exact hK _ _ _ _ [v] r [] R1 (by simpa using T1) k1 s1 rfl ⟨v,rfl,h1,rfl⟩ (Hf k1 h3)
  .trivial
 | .fn f ts,cs,K,S,ok,vs,T,R,hT,hL,hK=>by
  unfold exM;split
  .rename_i g caps r0;obtain⟨v,r,rfl,⟨us,rfl,hc⟩,_,h3⟩:=hL;cases hb:Nat.beq g f
   .trivial
   .simp only[cond_true];have e:=iI hb;subst e;exact EJ ts hc λx hx=>hK _ _ _ _ [_] r [] R (by simpa using hT) (λ_ _ h=>h) (bD.refl _) rfl ⟨us,rfl,hx,rfl⟩ h3
  .rename_i g r0;obtain⟨v,r,rfl,h1,_,h3⟩:=hL;have h1:v= .func (.func g) #[] #[]:=h1;subst h1;cases hb:Nat.beq g f
   .trivial
   .simp only[cond_true];have e:=iI hb;subst e;exact EJ (cs:=[]) (vs:=[]) ts rfl λx hx=>hK _ _ _ _ [_] r [] R (by simpa using hT) (λ_ _ h=>h) (bD.refl _) rfl ⟨#[],rfl,hx,rfl⟩ h3
  .trivial
 | .ifc t md,cs,K,S,ok,vs,T,R,hT,hL,hK=>by
  unfold exM;split
  .rename_i t' c r0;obtain⟨v,r,rfl,⟨u,rfl,hu,hc⟩,_,h3⟩:=hL;cases hb:Nat.beq t' t
   .trivial
   .simp only[cond_true];have e:=iI hb;subst e;refine Ag md (vs:=[u]) R hT ⟨u,[],rfl,hc,hu,rfl⟩ λS1 ok1 x q us us' O R1 T1 k1 s1 e1 h1 l1=>?_;cases q with
    |cons c q=>trivial|nil=>simp only[gy]at l1;subst l1;simp only[E5]at e1;subst e1;exact hK _ _ _ _ [_] r O R1 T1 k1 s1 rfl ⟨u,rfl,h1⟩ (Hf k1 h3)
  .trivial
 | .cell (some none),cs,K,S,ok,vs,T,R,hT,hL,hK=>by
  unfold exM;split
  .obtain⟨v,r,rfl,h1,h2,h3⟩:=hL;exact hK _ _ _ _ [v] r [] R (by simpa using hT) (λ_ _ h=>h) (bD.refl _) rfl ⟨v,rfl,h2,λ_=>h1,(λ_ h=>nomatch h),rfl⟩ h3
  .trivial
 | .cell (some (some b)),cs,K,S,ok,vs,T,R,hT,hL,hK=>by
  unfold exM;split
  .obtain⟨v,r,rfl,h1,h2,h3⟩:=hL;cases b
   .trivial
   .exact hK _ _ _ _ [v] r [] R (by simpa using hT) (λ_ _ h=>h) (bD.refl _) rfl ⟨v,rfl,h2,(λh=>nomatch h),(λb' h=>by cases h;exact h1),rfl⟩ h3
  .obtain⟨v,r,rfl,h1,h2,h3⟩:=hL;cases b
   .exact hK _ _ _ _ [v] r [] R (by simpa using hT) (λ_ _ h=>h) (bD.refl _) rfl ⟨v,rfl,h2,(λh=>nomatch h),(λb' h=>by cases h;exact h1),rfl⟩ h3
   .trivial
  .trivial
 | .cell none,cs,K,S,ok,vs,T,R,hT,hL,hK=>by
  unfold exM;split
  .obtain⟨v,r,rfl,h1,h2,h3⟩:=hL;exact hK _ _ _ _ [v] r [] R (by simpa using hT) (λ_ _ h=>h) (bD.refl _) rfl ⟨v,rfl,h2,(λh=>nomatch h),(λ_ h=>nomatch h),rfl⟩ h3
  .trivial
 | .fr t,cs,K,S,ok,vs,T,R,hT,hL,hK=>by
  unfold exM;split
  .obtain⟨v,r,rfl,h1,_,h3⟩:=hL;simp only[uM]at h1;subst h1;cases ht:t.isEnt
   .exact hK _ _ _ _ [_] r [] R (by simpa using hT) (λ_ _ h=>h) (bD.refl _) rfl ⟨.nil,_,rfl,rfl,⟨rfl,ht⟩,(λb h=>by cases h),rfl⟩ h3
   .trivial
  .rename_i bx r0;obtain⟨v,r,rfl,h1,_,h3⟩:=hL;obtain⟨l,hm,hv⟩:=h1;show Cmd.post (match S (Z4+bx)with| .barr t' xs=>_| .bfrz t' xs=>_|_=>_) S Q;have hb:=R.box bx;split
   .rename_i t' xs hS;rw[hS]at hb;obtain⟨l',hm',ha⟩:=hb;simp only at hm hm';rw[hm]at hm';cases hm';refine eQ λe=>?_;subst e;have hob:S9 m bx (S (Z4+bx))=l.blks:=by
     rw[hS];cases l<;>first|(simp[S9,hm,Loc.blks];done)|cases ha
    show Cmd.post _ (upd S (Z4+bx) (.bfrz t' xs)) Q;have hbs:∀b∈l.blks,b∈S9 m bx (S (Z4+bx)):=λb h=>by rw[hob];exact h
    have ha' :arrOk ⟨w.heap,okW ok l.blks [t'],nom⟩ t' xs l:=nS (m:=m) Au (λ_ _ _=>rfl) (λ_ _=>rfl) ha;exact hK _ (okW ok l.blks [t']) _ _ [v] r [] (R.widen A7 rfl hbs ⟨l,hm,nS Au (λ_ _ _=>rfl) (λ_ _=>rfl) ha,λblk hb=> .inr ⟨hb,A7⟩⟩) (by simpa using hT.widen rfl hbs) Au (bD.box _ _ _) rfl ⟨l,v,rfl,hv,ha',λb hb=> .inr ⟨hb,A7⟩,rfl⟩ (Hf Au h3)
   .rename_i t' xs hS;rw[hS]at hb;obtain⟨l',hm',ha,hk⟩:=hb;simp only at hm hm';rw[hm]at hm';cases hm';refine eQ λe=>?_;subst e;exact hK _ ok _ _ [v] r [] R (by simpa using hT) (λ_ _ h=>h) (bD.refl _) rfl ⟨l,v,rfl,hv,nS (m:=m) (λ_ _ h=>h) (λ_ _ _=>rfl) (λ_ _=>rfl) ha,hk,rfl⟩ h3
   .trivial
  .trivial
 | .sit,cs,K,S,ok,vs,T,R,hT,hL,hK=>by
  unfold exM;split
  .rename_i bx r0;obtain⟨v,r,rfl,h1,_,h3⟩:=hL;obtain⟨blk,hm,rfl⟩:=h1;have hb:=R.box bx;show Cmd.post (match S (Z4+bx)with| .biter l p=>_|_=>_) S Q;split
   .rename_i l p hS;rw[hS]at hb;obtain⟨blk',s,q,hm',hh,g1,g2⟩:=hb;simp only at hm hm';rw[hm]at hm';cases hm';show Cmd.post _ (upd S (Z4+bx) .dead) Q;have T2:=hT.kill R bx (bs:=[blk]) (λb hb=>by rw[hS];simpa[S9,hm]using hb) A7;exact hK _ ok (l,p) _ _ r [blk] (R.kill bx) T2 (λ_ _ h=>h) (bD.box _ _ _) rfl ⟨blk,s,q,rfl,hh,g1,g2,rfl⟩ h3
   .trivial
  .trivial
 | .sbx tb te,cs,K,S,ok,vs,T,R,hT,hL,hK=>by
  unfold exM;split
  .rename_i bx r0;obtain⟨v,r,rfl,h1,_,h3⟩:=hL;obtain⟨blk,hm,rfl⟩:=h1;have hb:=R.box bx;show Cmd.post (match S (Z4+bx)with| .bsb tb' c=>_|_=>_) S Q;split
   .rename_i tb' c hS;rw[hS]at hb;obtain⟨blk',a0,v0,hm',hh,hs,g2⟩:=hb;simp only at hm hm';rw[hm]at hm';cases hm';cases he:Nat.beq tb' tb
    .trivial
    have e:=iI he;subst e;simp only[cond_true];refine a4V R hT g2 λS1 ys l R1 T1 s1 n1 hv1 ha1=>?_;show Cmd.post _ (upd S1 (Z4+bx) .dead) Q;have T2:=T1.kill R1 bx (bs:=[blk]) (λb hb=>by rw[n1 bx (λ_ _=>by rw[hS];simp),hS];simpa[S9,hm]using hb) A7;refine hK _ ok ys _ _ r (blk::l.blks) (R1.kill bx) (T2.perm ?_) (λ_ _ h=>h) (s1.trans (bD.box _ _ _)) rfl ⟨blk,a0,v0,l,rfl,hh,hs,hv1,ha1,rfl⟩ h3;rw[E9];exact pF _ jc
   .trivial
  .trivial
end
end Go.GP
namespace Go.GP
def iJ(C:Cx):List V->List Value->Prop
 |[],vs=>vs=[]|c::cs,vs=>∃v r,vs=v::r/\lU C c v/\iJ C cs r
theorem FI{h:Array Obj}{ok ok' :Nat->Ty->Prop}{m:Mp}(k:∀b t,ok b t->ok' b t):∀{cs:List V} {vs:List Value},iJ ⟨h,ok,m⟩ cs vs->iJ ⟨h,ok',m⟩ cs vs
 |[],_,e=>e|_::_,_,⟨v,r,e,h1,h2⟩=>⟨v,r,e,Hg k h1,FI k h2⟩
theorem zn{h:Array Obj}{ok:Nat->Ty->Prop}{m m' :Mp}(k:∀n l,m n=some l->m' n=some l){cs:List V}{vs:List Value}(hr:gy ⟨h,ok,m⟩ cs vs):gy ⟨h,ok,m'⟩ cs vs:=
 BC (C:=⟨h,ok,m⟩) (D:=⟨h,ok,m'⟩) ⟨λ_ _ h=>h,λ_ _ _=>rfl,k⟩ hr
variable {C:Cx}
theorem XG{c:V}{v:Value}(h1:c≠.undef)(h2:c≠.un)(h:uM C c v):v.oneCell' =true:=by
 cases c<;>simp only[uM]at h<;>try (subst h;rfl)
 case ne=>obtain⟨_,_,rfl,_⟩:=h;rfl
 .exact absurd rfl h1
 .exact absurd rfl h2
 .rcases h with⟨_,a,cap,e,_⟩|⟨_,mv,e,_⟩<;>(simp at e;subst e;rfl)
 .obtain⟨l,_,hv⟩:=h;exact nC hv
 .obtain⟨b,_,rfl⟩:=h;rfl
 .obtain⟨_,_,_,_,_,_,_,rfl⟩:=h;rfl
 .exact PU h
 all_goals first|exact h.elim|(obtain⟨_,rfl,_⟩:=h;rfl)|(obtain⟨_,_,rfl⟩:=h;rfl)
theorem zD{c:V}{v:Value}(h:uM C c v):lU C c v:=by
 cases c<;>simp only[uM]at h<;>try exact h
 all_goals exact h.elim
variable {α:Type}{v:V}{Q:α->Sm->Prop}{x:Value}{ln:Ty->Bool}
section
variable {X:Fx} {cl ch:Nat} {S:Sm} {m:Mp} {ok:Nat->Ty->Prop} {a:Act} {w:World} {T:List Nat}
theorem Ba{ag:Bool}{K:List V->Cmd α}{S:Sm}(hv:lU C v x)
  (hK:∀cs us,ML ag x us->gy C cs us->(K cs).post S Q):(PG ag v K).post S Q:=by
 unfold PG;split<;>try trivial
 .obtain⟨arr,rfl,hl⟩:=hv;exact hK _ _ ⟨arr,rfl,rfl⟩ hl
 .rename_i h1 h2 h3 h4;have hc:uM C v x:=by cases v<;>first|exact hv|exact absurd rfl (h1 _)|exact absurd rfl (h2 _)
  exact hK [v] [x] rfl ⟨x,[],rfl,hc,XG (λe=>h3 e) (λe=>h4 e) hc,rfl⟩
theorem rO{K:List V->Cmd α}{S:Sm}(hv:lU C v x)
  (hK:∀cs,gy C cs x.cells.toList->(K cs).post S Q):(BU v K).post S Q:=by
 unfold BU;split<;>try trivial
 .obtain⟨arr,rfl,hl⟩:=hv;exact hK _ hl
 .rename_i h1 h2 h3 h4;have hc:uM C v x:=by cases v<;>first|exact hv|exact absurd rfl (h1 _)|exact absurd rfl (h2 _)
  have h1' :=XG (λe=>h3 e) (λe=>h4 e) hc;have e:x.cells.toList=[x]:=by cases x<;>simp[Value.cells]<;>simp[Value.oneCell']at h1'
  refine hK [v] ?_;rw[e];exact⟨x,[],rfl,hc,h1',rfl⟩
theorem WN{md:MG}{K:md.2.den->Cmd α}(R:Rel X cl ch S m ok a w)(hT:Tk X S m ok w T)(hv:lU ⟨w.heap,ok,m⟩ v x)
  (hK:∀S' ok' y cs O,Rel X cl ch S' m ok' a w->Tk X S' m ok' w (T++O)->(∀b t,ok b t->ok' b t)->bD S S' ->ML md.1 x cs->oI w.heap ok' md.2 none y cs O->(K y).post S' Q):
  (Qa xX md v K).post S Q:=by
 refine Ba hv λcs us hg hl=>?_;refine Ag md.2 R hT hl λS1 ok1 y r us1 us' O R1 T1 k1 s1 e1 h1 l1=>?_;cases r with
 |cons c q=>trivial|nil=>simp only[gy]at l1;subst l1;simp only[E5]at e1;subst e1;exact hK _ _ _ _ _ R1 T1 k1 s1 hg h1
theorem a3g{md:M}(hd:md.isDat=false)(cs:List V)(K:md.den->List V->Cmd α):exM ln md cs K=exM xX md cs K:=by cases md<;>first|rfl|(simp[M.isDat]at hd;done)|(rename_i b;cases b<;>first|rfl|(rename_i b;cases b<;>rfl))
theorem TJ{md:MG}(hd:md.2.isDat=true){K:md.2.den->Cmd α}(R:Rel X cl ch S m ok a w)(hT:Tk X S m ok w T)(hv:lU ⟨w.heap,ok,m⟩ v x)
  (hK:∀S' ok' y cs,Rel X cl ch S' m ok' a w->Tk X S' m ok' w T->(∀b t,ok b t->ok' b t)->(∀b t,okL ln S m ok b t->okL ln S' m ok' b t)->bD S S' ->ML md.1 x cs->oI w.heap (okL ln S' m ok') md.2 none y cs []->(K y).post S' Q):
  (Qa ln md v K).post S Q:=by
 obtain⟨ag,mm⟩:=md;cases mm<;>simp[M.isDat]at hd;refine Ba hv λcs us hg hl=>?_;dsimp only;unfold exM;refine BJ ln _ R hT hl λS1 ok1 y r us1 us' R1 T1 k1 g1 s1 e1 h1 l1=>?_;cases r with
 |cons c q=>trivial|nil=>simp only[gy]at l1;subst l1;simp only[E5]at e1;subst e1;exact hK _ _ _ _ R1 T1 k1 g1 s1 hg ⟨h1,rfl⟩
theorem a9L :∀b t,ok b t->okL ln S m ok b t:=λ_ _ h=> .inl h
theorem Dw{α:Type}{Q:α->Sm->Prop}{ln:Ty->Bool} :∀(ms:List MG) {vs:List V} {xs:List Value} {K:aW ms->Cmd α} {S:Sm} {ok:Nat->Ty->Prop} {T:List Nat} (R:Rel X cl ch S m ok a w) (hT:Tk X S m ok w T)
  (hv:iJ ⟨w.heap,ok,m⟩ vs xs)
  (hK:∀S' ok' y O,Rel X cl ch S' m ok' a w->Tk X S' m ok' w (T++O)->(∀b t,ok b t->ok' b t)->bD S S' ->rF w.heap (okL ln S' m ok') ms y xs O->(K y).post S' Q),
  (Ih ln ms vs K).post S Q
 |[],vs,xs,K,S,ok,T,R,hT,hv,hK=>by
  unfold Ih;split
  .simp only[iJ]at hv;subst hv;exact hK _ _ _ [] R (by simpa using hT) (λ_ _ h=>h) (bD.refl _) ⟨rfl,rfl⟩
  .trivial
 |[md],vs,xs,K,S,ok,T,R,hT,hv,hK=>by
  unfold Ih;split
  .obtain⟨x,r,rfl,h1,h2⟩:=hv;simp only[iJ]at h2;subst h2;cases hd:md.2.isDat
   .unfold Qa;simp only[a3g hd];exact WN R hT h1 λS' ok' y cs O R' T' k s g h=>hK _ _ _ O R' T' k s ⟨x,cs,rfl,g,jQ a9L (λ_ _ _=>rfl) (λ_ _=>rfl) h⟩
   .exact TJ hd R hT h1 λS' ok' y cs R' T' k g s hg h=>hK _ _ _ [] R' (by simpa using T') k s ⟨x,cs,rfl,hg,h⟩
  .trivial
 |md::md' ::r,vs,xs,K,S,ok,T,R,hT,hv,hK=>by
  unfold Ih;split
  .obtain⟨x,xr,rfl,h1,h2⟩:=hv;cases hd:md.2.isDat
   .simp only[cond_false];unfold Qa;simp only[a3g hd];refine WN R hT h1 λS1 ok1 y cs O R1 T1 k1 s1 g1 h1' =>?_;refine Dw (md' ::r) R1 T1 (FI k1 h2) λS2 ok2 z O2 R2 T2 k2 s2 h2' =>?_;exact hK _ _ _ (O++O2) R2 (by simpa using T2) (λb t h=>k2 b t (k1 b t h)) (s1.trans s2) ⟨x,cs,xr,O,O2,rfl,rfl,g1,jQ (λb t h=> .inl (k2 b t h)) (λ_ _ _=>rfl) (λ_ _=>rfl) h1',h2'⟩
   .simp only[cond_true];refine Dw (md' ::r) R hT h2 λS2 ok2 z O2 R2 T2 k2 s2 h2' =>?_;refine TJ hd R2 T2 (Hg k2 h1) λS1 ok1 y cs R1 T1 k1 g1 s1 hg h1' =>?_;exact hK _ _ _ ([]++O2) R1 (by simpa using T1) (λb t h=>k1 b t (k2 b t h)) (s2.trans s1) ⟨x,cs,xr,[],O2,rfl,rfl,hg,h1',NQ g1 (λ_ _ _=>rfl) (λ_ _=>rfl) h2'⟩
  .trivial
theorem WM(ms:List MG){vs:List V}{xs:List Value}{K:aW ms->Cmd α}{S:Sm}{ok:Nat->Ty->Prop}{T:List Nat}(R:Rel X cl ch S m ok a w)(hT:Tk X S m ok w T)
  (hv:iJ ⟨w.heap,ok,m⟩ vs xs)
  (hK:∀S' ok' y O,Rel X cl ch S' m ok' a w->Tk X S' m ok' w (T++O)->(∀b t,ok b t->ok' b t)->bD S S' ->rF w.heap ok' ms y xs O->(K y).post S' Q):
  (Ih xX ms vs K).post S Q:=
 Dw ms R hT hv λS' ok' y O R' T' k s h=>hK S' ok' y O R' T' k s (by rw[a3U]at h;exact h)
theorem Nq{α:Type}{Q:α->Sm->Prop}{tmps:Array Value}{C:Cx} :∀(ns:List Nat) {K:List V->Cmd α} {S:Sm} (hs:∀n,n<Z4->lU C (S n) (tmps.getD n Go.undef))
  (hK:∀vs,iJ C vs (ns.map λn=>tmps.getD n Go.undef)->(K vs).post S Q),(UZ ns K).post S Q
 |[],K,S,hs,hK=>hK [] rfl|n::ns,K,S,hs,hK=>by
  unfold UZ;cases hb:Nat.blt n Z4
  .trivial
  .simp only[cond_true];show Cmd.post _ S Q;refine Nq ns hs λvs hvs=>?_;exact hK _ ⟨_,_,rfl,hs n (by rw[bf]at hb;exact hb),hvs⟩
def Yx(h:Array Obj)(ok:Nat->Ty->Prop)(sg:Sig)(x:pV sg)(tmps:Array Value)(O:List Nat):Prop:=
 rF h ok (sg.ms.map (·.2)) x ((sg.ms.map (·.1)).map λn=>tmps.getD n Go.undef) O/\∀p∈sg.als,tmps.getD p.1 Go.undef=tmps.getD p.2 Go.undef
theorem a4T{v u:V}{x y:Value}(h:a8P v u=true)(hv:lU C v x)(hu:lU C u y):x=y:=by
 cases v<;>try (cases h;done)
 case own a vw=>
 cases u<;>try (cases vw<;>cases h;done)
 case own b vu=>
 cases vw<;>cases vu<;>try (cases h;done)
 have:=iI (show Nat.beq a b=true from h);subst this;obtain⟨l,hm,h1⟩:=hv;obtain⟨l',hm',h2⟩:=hu;rw[hm]at hm';cases hm';cases l with
 |nil=>exact(show x=_ from h1).trans (show y=_ from h2).symm|st b=>cases h1|mp b=>exact(show x=_ from h1).trans (show y=_ from h2).symm|arr blk off len cap sz=>exact(show x=_ from h1).trans (show y=_ from h2).symm
theorem Tv{α:Type}{Q:α->Sm->Prop}{tmps:Array Value}{C:Cx} :∀(als:List (Nat×Nat)) {K:Cmd α} {S:Sm} (hs:∀n,n<Z4->lU C (S n) (tmps.getD n Go.undef))
  (hK:(∀p∈als,tmps.getD p.1 Go.undef=tmps.getD p.2 Go.undef)->K.post S Q),(a6e als K).post S Q
 |[],K,S,hs,hK=>hK (λp hp=>by cases hp)|(n,k)::r,K,S,hs,hK=>by
  unfold a6e;refine fO λhb=>?_;simp only[A8]at hb;show Cmd.post _ S Q;refine fO λhv=>Tv r hs λh=>hK λp hp=>?_;rcases D6.1 hp with rfl|hp
  .have h1:=hb.1;have h2:=hb.2;rw[bf]at h1 h2;exact a4T hv (hs n h1) (hs k h2)
  .exact h p hp
theorem YY{sg:Sig}{Q:pV sg->Sm->Prop}(R:Rel X cl ch S m ok a w)
  (hK:∀S' ok' y O,Rel X cl ch S' m ok' a w->Tk X S' m ok' w O->(∀b t,ok b t->ok' b t)->bD S S' ->
   Yx w.heap ok' sg y a.tmps O->Q y S'):(a3h sg).post S Q:=by
 unfold a3h;refine Tv _ R.slot λhals=>Nq _ R.slot λvs hvs=>?_;refine WM (T:=[]) _ R Tk.nil hvs λS' ok' y O R' T' k s h=>?_;exact hK S' ok' y O R' T' k s ⟨h,hals⟩
theorem Rel.chmono(R:Rel X cl ch S m ok a w){ch' :Nat}(h:ch<=ch'):Rel X cl ch' S m ok a w:={ R with strict:=λn hn=>R.strict n l7 }
theorem qh{n:Nat}{K:Cmd α}(hK:S (Z4+n)= .undef->K.post (upd S (Z4+n) v) Q):(uh n v K).post S Q:=by
 unfold uh;show Cmd.post (match S (Z4+n)with| .undef=>_|_=>_) S Q;split
 .rename_i h;exact hK h
 .trivial
theorem Rel.adopt(R:Rel X cl ch S m ok a w){n:Nat}{l:Loc}{ks:List Nat}{O:List Nat}(hn:S (Z4+n)= .undef)(hcl:cl<=n)(hv:v≠.undef)
  (hT:Tk X S m ok w (O++T)) (ho:∀b∈S9 (mF m n l ks) n v,b∈O) (hnd:(S9 (mF m n l ks) n v).Nodup) (hB:AL ⟨w.heap,ok,mF m n l ks⟩ n v):
  Rel X cl (max ch (n+1)) (upd S (Z4+n) v) (mF m n l ks) ok a w/\Tk X (upd S (Z4+n) v) (mF m n l ks) ok w T/\(∀k l',m k=some l' ->mF m n l ks k=some l'):=by
 have hm:m n=none:=R.fresh n hcl hn;refine⟨(R.chmono (fD ch (n+1))).lay hn hcl l7 hv rfl rfl rfl (C9 _) (λ_ _ _=>rfl) hnd (λb hb=>hT.free b (by simp[ho b hb])) hB,⟨?_,λb hb=>?_⟩,λk l' h=>?_⟩
 .exact(X8.1 hT.nodup).2.1
 .obtain⟨h1,h2,h3,h4⟩:=hT.free b (by simp[hb]);refine⟨h1,h2,h3,λk e=>?_⟩;by_cases ek:k=n
  .subst ek;rw[lw]at e;exact(X8.1 hT.nodup).2.2 b (ho b e) b hb rfl
  .rw[bu _ _ l7]at e;refine h4 k ?_;rw[←DK (m:=m) (ji m l ks ek) (Nc m l ks ek)];exact e
 .by_cases ek:k=n
  .subst ek;simp[hm]at h
  .rw[ji _ _ _ ek];exact h
theorem EE{h:Array Obj}{ok:Nat->Ty->Prop}{m m' :Mp}{t:Ty}{xs:List t.den}{l:Loc}(hr:arrOk ⟨h,ok,m⟩ t xs l):arrOk ⟨h,ok,m'⟩ t xs l:=by cases l<;>exact hr
theorem a2q{S:Sm}{k:Nat}{c:Cmd α}(h:c.post (upd S k v) Q):(Cmd.set k v c).post S Q:=h
theorem CJ{α:Type}{Q:α->Sm->Prop} :∀(md:M) {x:md.den} {n:Nat} {r:List V} {K:List V->Nat->Cmd α} {S:Sm} {m:Mp} {ch:Nat} {us us' :List Value} {O T:List Nat}
  (R:Rel X cl ch S m ok a w) (hcl:cl<=n) (hT:Tk X S m ok w (O++T)) (h:oI w.heap ok md none x us O) (hL:gy ⟨w.heap,ok,m⟩ r us')
  (hK:∀S' m' cs n' ch',Rel X cl ch' S' m' ok a w->ch' <=max ch n' ->Tk X S' m' ok w T->(∀k l,m k=some l->m' k=some l)->bD S S' ->gy ⟨w.heap,ok,m'⟩ cs (us++us')->n<=n' ->(K cs n').post S' Q),
  (emM md x n r K).post S Q
 | .dat t,x,n,r,K,S,m,ch,us,us',O,T,R,hcl,hT,h,hL,hK=>by unfold emM;obtain⟨hr,rfl⟩:=h;refine hK S m _ n ch R (fD _ _) (by simpa using hT) (λ_ _ h=>h) (bD.refl _) ?_ (C9 _);rw[lF];exact uN (qj (C:=⟨w.heap,ok,m⟩) hr) hL
 | .own t,x,n,r,K,S,m,ch,us,us',O,T,R,hcl,hT,h,hL,hK=>by
  unfold emM;obtain⟨l,v,rfl,hv,ha,rfl⟩:=vX.1 h;refine qh λhn=>?_;have hob:S9 (mF m n l []) n (.barr t x)=l.blks:=by cases l<;>first|(simp[S9,Loc.blks];done)|cases ha
  obtain⟨R',T',k'⟩:=R.adopt (l:=l) (ks:=[]) (v:=.barr t x) hn hcl A7 hT (λb hb=>by rw[hob]at hb;exact hb) (by rw[hob];exact Loc.blks_nodup l) ⟨l,ai _ _ _ _,EE ha⟩;exact hK _ _ _ _ _ R' l7 T' k' (bD.box _ _ _) ⟨v,us',rfl,⟨l,ai _ _ _ _,hv⟩,nC hv,zn k' hL⟩ l7
 | .ownb t,x,n,r,K,S,m,ch,us,us',O,T,R,hcl,hT,h,hL,hK=>by
  unfold emM;obtain⟨l,v,rfl,hv,ha,rfl⟩:=h;refine qh λhn=>?_;have hob:S9 (mF m n l []) n (.barr t x)=l.blks:=by cases l<;>first|(simp[S9,Loc.blks];done)|cases ha
  obtain⟨R',T',k'⟩:=R.adopt (l:=l) (ks:=[]) (v:=.barr t x) hn hcl A7 hT (λb hb=>by rw[hob]at hb;exact hb) (by rw[hob];exact Loc.blks_nodup l) ⟨l,ai _ _ _ _,EE ha⟩;exact hK _ _ _ _ _ R' l7 T' k' (bD.box _ _ _) ⟨v,us',rfl,⟨l,ai _ _ _ _,hv⟩,nC hv,zn k' hL⟩ l7
 | .owns md,x,n,r,K,S,m,ch,us,us',O,T,R,hcl,hT,h,hL,hK=>by
  unfold emM;obtain⟨hw,l,v,Os,rfl,hv,ha,rfl⟩:=wV.1 h;refine qh λhn=>?_;have hob:S9 (mF m n l Os.flatten) n (.barrs md x none)=l.blks++Os.flatten:=by cases l<;>first|(simp[S9,Loc.blks];done)|cases ha
  obtain⟨R',T',k'⟩:=R.adopt (l:=l) (ks:=Os.flatten) (v:=.barrs md x none) hn hcl A7 hT (λb hb=>by rw[hob]at hb;exact hb) (by rw[hob];exact(X8.1 hT.nodup).1)
   ⟨hw,l,Os,ai _ _ _ _,⟨ha,trivial⟩,A7⟩
  refine a2q ?_;have T2:=T'.killV R' (Lc+n) (v:=.blen (x9 x) md.size) rfl (bs:=[]) (λb h=>by cases h) dw;rw[E5]at T2;exact hK _ _ _ _ _ (R'.mark (lw _ _ _)) l7 T2 k' ((bD.box _ _ _).trans (bD.box _ _ _)) ⟨v,us',rfl,⟨l,ai _ _ _ _,hv⟩,nC hv,zn k' hL⟩ l7
 | .pair p q,x,n,r,K,S,m,ch,us,us',O,T,R,hcl,hT,h,hL,hK=>by
  unfold emM;obtain⟨c,d,O1,O2,rfl,rfl,h1,h2⟩:=a2k.1 h;have hT1:Tk X S m ok w (O2++(O1++T)):=hT.perm (by rw[E9];exact(List.perm_append_comm_assoc _ _ _))
  refine CJ q R hcl hT1 h2 hL λS1 m1 cs1 n1 ch1 R1 c1 T1 k1 s1 l1 e1=>?_;refine CJ p R1 l7 T1 h1 l1 λS2 m2 cs2 n2 ch2 R2 c2 T2 k2 s2 l2 e2=>?_;exact hK _ _ _ _ _ R2 l7 T2 (λk l h=>k2 k l (k1 k l h)) (s1.trans s2) (by simpa using l2) l7
 | .unit,x,n,r,K,S,m,ch,us,us',O,T,R,hcl,hT,h,hL,hK=>by unfold emM;obtain⟨rfl,rfl⟩:=h;exact hK S m _ n ch R (fD _ _) (by simpa using hT) (λ_ _ h=>h) (bD.refl _) (by simpa using hL) (C9 _)
 | .box md,x,n,r,K,S,m,ch,us,us',O,T,R,hcl,hT,h,hL,hK=>by
  unfold emM;obtain⟨blk,arr,Tt,O',rfl,hh,hr,rfl⟩:=h;have hT1:Tk X S m ok w (O' ++([blk]++T)):=hT.perm (by simpa using List.perm_middle.symm);refine CJ md (r:=[]) (us' :=[]) R l7 hT1 hr rfl λS1 m1 cs1 n1 ch1 R1 c1 T1 k1 s1 l1 e1=>?_;refine qh λhn=>?_;obtain⟨R',T',k'⟩:=R1.adopt (l:=.st blk) (ks:=[]) (v:=.bcells cs1) hn hcl A7 T1 (λb hb=>by
   simp only[S9,ai]at hb;simp at hb;simp[hb]) (by simp[S9]) ⟨blk,arr,Tt,ai _ _ _ _,hh,zn (λk l (h:m1 k=some l)=>by
    by_cases ek:k=n
    .subst ek;have:=R1.fresh k hcl hn;rw[this]at h;cases h
    .rw[ji _ _ _ ek];exact h) (by simpa using l1)⟩
  refine hK _ _ _ _ _ R' l7 T' (λk l h=>k' k l (k1 k l h)) (s1.trans (bD.box _ _ _)) ⟨_,us',rfl,⟨blk,ai _ _ _ _,rfl⟩,rfl,zn k' (zn k1 hL)⟩ l7
 | .rp t,x,n,r,K,S,m,ch,us,us',O,T,R,hcl,hT,h,hL,hK=>by unfold emM;obtain⟨v,rfl,hv,rfl⟩:=h;exact hK S m _ n ch R (fD _ _) (by simpa using hT) (λ_ _ h=>h) (bD.refl _) ⟨v,us',rfl,hv,PU hv,hL⟩ (C9 _)
 | .fn f ts,x,n,r,K,S,m,ch,us,us',O,T,R,hcl,hT,h,hL,hK=>by unfold emM;obtain⟨vs,rfl,hv,rfl⟩:=h;exact hK S m _ n ch R (fD _ _) (by simpa using hT) (λ_ _ h=>h) (bD.refl _) ⟨_,us',rfl,⟨vs,rfl,hv⟩,rfl,hL⟩ (C9 _)
 | .ifc t md,x,n,r,K,S,m,ch,us,us',O,T,R,hcl,hT,h,hL,hK=>by
  unfold emM;obtain⟨u,rfl,h1⟩:=h;refine CJ md (r:=[]) (us' :=[]) R hcl hT h1 rfl λS1 m1 cs1 n1 ch1 R1 c1 T1 k1 s1 l1 e1=>?_;split
  .rename_i c;obtain⟨v',r',e,h1',h2',h3'⟩:=l1;simp only[E5,N8,H7,G6]at e;obtain⟨rfl,rfl⟩:=e;exact hK _ _ _ _ _ R1 c1 T1 k1 s1 ⟨_,us',rfl,⟨u,rfl,h2',h1'⟩,rfl,zn k1 hL⟩ e1
  .trivial
 | .cell (some none),x,n,r,K,S,m,ch,us,us',O,T,R,hcl,hT,h,hL,hK=>by unfold emM;obtain⟨v,rfl,hv,h2,h4,rfl⟩:=h;exact hK S m _ n ch R (fD _ _) (by simpa using hT) (λ_ _ h=>h) (bD.refl _) ⟨v,us',rfl,h2 rfl,hv,hL⟩ (C9 _)
 | .cell (some (some b)),x,n,r,K,S,m,ch,us,us',O,T,R,hcl,hT,h,hL,hK=>by unfold emM;obtain⟨v,rfl,hv,h2,h4,rfl⟩:=h;exact hK S m _ n ch R (fD _ _) (by simpa using hT) (λ_ _ h=>h) (bD.refl _) ⟨v,us',rfl,h4 _ rfl,hv,hL⟩ (C9 _)
 | .cell none,x,n,r,K,S,m,ch,us,us',O,T,R,hcl,hT,h,hL,hK=>by unfold emM;obtain⟨v,rfl,hv,h2,h4,rfl⟩:=h;exact hK S m _ n ch R (fD _ _) (by simpa using hT) (λ_ _ h=>h) (bD.refl _) ⟨v,us',rfl,trivial,hv,hL⟩ (C9 _)
 | .sit,x,n,r,K,S,m,ch,us,us',O,T,R,hcl,hT,h,hL,hK=>by
  unfold emM;obtain⟨blk,s,q,rfl,hh,h2,h3,rfl⟩:=h;refine qh λhn=>?_;obtain⟨R2,T2,k2⟩:=R.adopt (n:=n) (l:=.st blk) (ks:=[]) (v:=.biter x.1 x.2) hn hcl A7 hT (λb hb=>by simp only[S9,ai]at hb;simp at hb;simp[hb]) (by simp[S9]) ⟨blk,s,q,ai _ _ _ _,hh,h2,h3⟩
  exact hK _ _ _ _ _ R2 l7 T2 k2 (bD.box _ _ _) ⟨_,us',rfl,⟨blk,ai _ _ _ _,rfl⟩,rfl,zn k2 hL⟩ l7
 | .sbx tb te,x,n,r,K,S,m,ch,us,us',O,T,R,hcl,hT,h,hL,hK=>by
  unfold emM;obtain⟨blk,a0,v,l,rfl,hh,hs,hv,ha,rfl⟩:=h;have hT1:Tk X S m ok w (l.blks++([blk]++T)):=hT.perm (by simpa using List.perm_middle.symm);refine qh λhn1=>?_;have hob:S9 (mF m (n+1) l []) (n+1) (.brow te x)=l.blks:=by cases l<;>first|(simp[S9,Loc.blks];done)|cases ha
  obtain⟨R1,T1,k1⟩:=R.adopt (n:=n+1) (l:=l) (ks:=[]) (v:=.brow te x) hn1 l7 A7 hT1 (λb hb=>by rw[hob]at hb;exact hb) (by rw[hob];exact Loc.blks_nodup l) ⟨l,ai _ _ _ _,ha⟩;refine qh λhn=>?_;obtain⟨R2,T2,k2⟩:=R1.adopt (n:=n) (l:=.st blk) (ks:=[]) (v:=.bsb tb (.own (n+1) none)) hn hcl A7 T1 (λb hb=>by simp only[S9,ai]at hb;simp at hb;simp[hb]) (by simp[S9]) ⟨blk,a0,v,ai _ _ _ _,hh,hs,⟨l,(by rw[ji _ _ _ l7];exact ai _ _ _ _),hv⟩⟩
  refine hK _ _ _ _ _ R2 l7 T2 (λk l h=>k2 k l (k1 k l h)) ((bD.box _ _ _).trans (bD.box _ _ _)) ⟨_,us',rfl,⟨blk,ai _ _ _ _,rfl⟩,rfl,zn k2 (zn k1 hL)⟩ l7
 | .fr t,x,n,r,K,S,m,ch,us,us',O,T,R,hcl,hT,h,hL,hK=>by unfold emM;obtain⟨l,v,rfl,hv,ha,hk,rfl⟩:=h;refine qh λhn=>?_;obtain⟨R',T',k'⟩:=R.adopt (l:=l) (ks:=[]) (v:=.bfrz t x) hn hcl A7 hT (λb hb=>by cases hb) dw ⟨l,ai _ _ _ _,EE ha,hk⟩;exact hK _ _ _ _ _ R' l7 T' k' (bD.box _ _ _) ⟨v,us',rfl,⟨l,ai _ _ _ _,hv⟩,nC hv,zn k' hL⟩ l7
theorem KF{ag:Bool}{cs:List V}{us:List Value}(hg:ML ag x us)(hl:gy C cs us):lU C (mkV ag cs) x:=by
 cases ag
 .simp only[ML]at hg;subst hg;cases cs with
  |nil=>simp[gy]at hl|cons c r=>
   obtain⟨v,r',e,h1,h2,h3⟩:=hl;simp at e;obtain⟨rfl,rfl⟩:=e;cases r with
   |nil=>exact zD h1|cons d r=>obtain⟨_,_,e,_⟩:=h3;cases e
 .obtain⟨arr,rfl,rfl⟩:=hg;exact⟨arr,rfl,hl⟩
theorem Dt{α:Type}{Q:α->Sm->Prop} :∀(ms:List MG) {x:aW ms} {n:Nat} {K:List V->Nat->Cmd α} {S:Sm} {m:Mp} {ch:Nat} {xs:List Value} {O T:List Nat}
  (R:Rel X cl ch S m ok a w) (hcl:cl<=n) (hT:Tk X S m ok w (O++T)) (h:rF w.heap ok ms x xs O)
  (hK:∀S' m' vs n' ch',Rel X cl ch' S' m' ok a w->ch' <=max ch n' ->Tk X S' m' ok w T->(∀k l,m k=some l->m' k=some l)->bD S S' ->iJ ⟨w.heap,ok,m'⟩ vs xs->n<=n' ->(K vs n').post S' Q),
  (Ig ms x n K).post S Q
 |[],x,n,K,S,m,ch,xs,O,T,R,hcl,hT,h,hK=>by unfold Ig;obtain⟨rfl,rfl⟩:=h;exact hK S m [] n ch R (fD _ _) (by simpa using hT) (λ_ _ h=>h) (bD.refl _) rfl (C9 _)
 |[md],x,n,K,S,m,ch,xs,O,T,R,hcl,hT,h,hK=>by unfold Ig;obtain⟨v,cs,rfl,hg,hr⟩:=h;refine CJ md.2 (us' :=[]) R hcl hT hr rfl λS1 m1 cs1 n1 ch1 R1 c1 T1 k1 s1 l1 e1=>?_;exact hK _ _ _ _ _ R1 c1 T1 k1 s1 ⟨v,[],rfl,KF hg (by simpa using l1),rfl⟩ e1
 |md::md' ::r,x,n,K,S,m,ch,xs,O,T,R,hcl,hT,h,hK=>by unfold Ig;obtain⟨v,cs,vs',O1,O2,rfl,rfl,hg,h1,h2⟩:=h;refine CJ md.2 (us' :=[]) R hcl (by simpa using hT) h1 rfl λS1 m1 cs1 n1 ch1 R1 c1 T1 k1 s1 l1 e1=>?_;refine Dt (md' ::r) R1 l7 T1 h2 λS2 m2 vs2 n2 ch2 R2 c2 T2 k2 s2 l2 e2=>?_;exact hK _ _ _ _ _ R2 l7 T2 (λk l h=>k2 k l (k1 k l h)) (s1.trans s2) ⟨v,vs',rfl,KF hg (zn k2 (by simpa using l1)),l2⟩ l7
theorem NU{Q:Unit->Sm->Prop} :∀(ns:List Nat) {vs:List V} {S:Sm} (R:Rel X cl ch S m ok a w) (hv:iJ ⟨w.heap,ok,m⟩ vs (ns.map λn=>a.tmps.getD n Go.undef))
  (hK:∀S',Rel X cl ch S' m ok a w->Q () S'),(RD ns vs).post S Q
 |[],vs,S,R,hv,hK=>by
  cases vs with
  |nil=>exact hK S R|cons v vs=>trivial
 |n::ns,vs,S,R,hv,hK=>by
  cases vs with
  |nil=>trivial|cons v vs=>
   unfold RD;obtain⟨x,r,e,h1,h2⟩:=hv;simp only[jb,G6]at e;obtain⟨rfl,rfl⟩:=e;cases hb:Nat.blt n Z4
   .trivial
   .simp only[cond_true];show Cmd.post _ (upd S n v) Q;exact NU ns (R.slotV (by rw[bf]at hb;exact hb) h1) h2 hK
theorem KU{Q:Unit->Sm->Prop} :∀(ns:List Nat) {vs:List V} {S:Sm} {K:Cmd Unit} (R:Rel X cl ch S m ok a w) (hv:iJ ⟨w.heap,ok,m⟩ vs (ns.map λn=>a.tmps.getD n Go.undef))
  (hK:∀S',Rel X cl ch S' m ok a w->K.post S' Q),(OT ns vs K).post S Q
 |[],vs,S,K,R,hv,hK=>by
  simp only[nI]at hv;cases vs with
  |nil=>exact hK S R|cons _ _=>obtain⟨_,_,e,_⟩:=hv;cases e
 |n::ns,vs,S,K,R,hv,hK=>by
  cases vs with
  |nil=>trivial
  |cons v vs=>obtain⟨x,r,e,h1,h2⟩:=hv;simp only[jb,G6]at e;obtain⟨rfl,rfl⟩:=e;unfold OT;refine fO λhb=>?_;show Cmd.post _ (upd S n v) Q;exact KU ns (R.slotV (by rw[bf]at hb;exact hb) h1) h2 hK
theorem NV{Q:Unit->Sm->Prop} :∀(als:List (Nat×Nat)) {S:Sm} (R:Rel X cl ch S m ok a w) (h:∀p∈als,a.tmps.getD p.1 Go.undef=a.tmps.getD p.2 Go.undef)
  (hK:∀S',Rel X cl ch S' m ok a w->Q () S'),(VL als).post S Q
 |[],S,R,h,hK=>hK S R
 |(n,k)::r,S,R,h,hK=>by unfold VL;refine fO λhb=>?_;simp only[A8]at hb;have h1:=hb.1;have h2:=hb.2;rw[bf]at h1 h2;show Cmd.post _ (upd S n (S k)) Q;refine NV r (R.slotV h1 ?_) (λp hp=>h p (U2 _ hp)) hK;rw[h (n,k) kL];exact R.slot k h2
theorem YU{sg:Sig}{x:pV sg}{nb lim:Nat}{Q:Unit->Sm->Prop}{O:List Nat}(R:Rel X cl ch S m ok a w)(hcl:cl<=nb)(hT:Tk X S m ok w O)
  (h:Yx w.heap ok sg x a.tmps O)
  (hK:∀S' m',Rel X cl (max ch lim) S' m' ok a w->(∀k l,m k=some l->m' k=some l)->Q () S'):(a3c sg x nb lim).post S Q:=by
 unfold a3c;refine Dt (T:=[]) _ R hcl (by simpa using hT) h.1 λS1 m1 vs n1 ch1 R1 c1 T1 k1 s1 l1 e1=>?_;cases hb:Nat.ble n1 lim
 .trivial
 .simp only[cond_true];have:n1<=lim:=U6 hb;exact KU _ (R1.chmono (ch' :=max ch lim) l7) l1 λS' R' =>NV _ R' h.2 λS'' R'' =>hK S'' m1 R'' k1
end
end Go.GP
namespace Go.GP
def a5O(P:Program)(t:TypeId):TD->Prop
 | .bool=>P.underlying t=some .bool| .int k=>P.underlying t=some (.int k)| .str=>P.underlying t=some .string| .sl e=>P.underlying t=some (.slice e)| .ptr e=>P.underlying t=some (.pointer e)| .struct fs=>∃fields,P.underlying t=some (.struct fields)/\fields.toList.map (λf=>(f.type,f.offset))=fs| .arr n e=>P.underlying t=some (.array n e)| .map k e=>P.underlying t=some (.map k e)| .other=>∃d,P.underlying t=some d/\(match d with| .struct _| .array _ _=>False|_=>True)
structure TiOk (P:Program) (t:TypeId) (i:TI):Prop where
 info:∃inf,P.info? t=some inf/\inf.size=i.size/\inf.bytes=i.bytes/\
  (i.zero.length=i.size->∃z,inf.zero=some z/\gy ⟨#[],λ_ _=>False,nom⟩ i.zero z.cells.toList)/\
  (∀u,i.ty=some u->u.size=i.size/\∃z,inf.zero=some z/\kU #[] (λ_ _=>False) u u.zero z.cells.toList)
 td:a5O P t i.td
 one:bz i.td=false->i.size=1
 agg:∀inf z,P.info? t=some inf->inf.zero=some z->(bz i.td=true->∃arr,z= .agg arr)/\(bz i.td=false->z.oneCell' =true)
def Yw(n:Nat)(v:Value)(rs:List Value):Prop:=rs.length=n/\v=(match rs with|[x]=>x|l=> .tuple l.toArray)
def vP(h:Array Obj):List MG->List Value->List Value->List Nat->Prop
 |[],[],os,B=>os=[]/\B=[]|(_,.box _)::ms,v::vs,os,B=>∃b arr T os' B',v= .pointer (some ⟨b,0,none⟩)/\h[b]? =some (.cells arr T (0,0))/\os= .agg arr::os' /\B=b::B' /\vP h ms vs os' B'|(_,.ifc _ (.box _))::ms,v::vs,os,B=>∃t b arr T os' B',v= .iface t (.pointer (some ⟨b,0,none⟩))/\h[b]? =some (.cells arr T (0,0))/\os= .agg arr::os' /\B=b::B' /\vP h ms vs os' B'|(_,.ownb _)::ms,v::vs,os,B=>∃os',os=v::os' /\vP h ms vs os' B|(_,.sbx _ _)::ms,v::vs,os,B=>∃os',os=v::os' /\vP h ms vs os' B|_::ms,_::vs,os,B=>vP h ms vs os B|_,_,_,_=>False
def gz(P:Program)(gl:List (Nat×(t:Ty)×List t.den))(f:FuncId)(s:FSpec):Prop:=
 ∀(w:World) (ok:Nat->Ty->Prop) (O:List Nat) (vals:List Value) (x:aW s.ps) (r:aW (s.rs++s.outs)),
  (∀b t,ok b t->b<w.heap.size)->O.Nodup->(∀b∈O,(∀t,¬ok b t)/\b<w.heap.size)->(∀g u,dI gl g=some u->Jy ⟨w.heap,ok,nom⟩ g u.1 u.2)->
  rF w.heap ok s.ps x vals O->s.fn x=some r->
  Calls P f vals.toArray w λe w' =>∃v ok' O' rs os B,e= .returned v/\Frame' w w' O/\(∀b t,ok b t->ok' b t)/\(∀b t,ok' b t->b<w'.heap.size/\(ok b t\/w.heap.size<=b\/b∈O))/\
   (O' ++B).Nodup/\(∀b∈O' ++B,(∀t,¬ok' b t)/\b<w'.heap.size/\(w.heap.size<=b\/b∈O))/\
   Yw s.rs.length v rs/\vP w'.heap s.ps vals os B/\rF w'.heap ok' (s.rs++s.outs) r (rs++os) O'
def jD:List Ty->List Value->Prop
 |[],vs=>vs=[]| .bool::ts,vs=>∃b r,vs= .bool b::r/\jD ts r| .int k::ts,vs=>∃b r,vs= .int k b::r/\jD ts r| .str::ts,vs=>∃b r,vs= .string b::r/\jD ts r|_::_,_=>False
def a2E(P:Program)(t:TypeId)(sh:List Ty):Prop:=
 ∀(w:World) (C:Cx) (cs ds:List V) (xs ys:Array Value) (e:Bool) (op:BinOp) (x y:Operand),xO sh cs=true->xO sh ds=true->gy C cs xs.toList->gy C ds ys.toList->xk cs ds=some e->
  (op= .eql\/op= .neq)->(do eqGuard op t x y (.agg xs) (.agg ys);binOp op t (.agg xs) (.agg ys):Sem Value).run P w= .ok (.bool (if op= .eql then e else !e)) w
def Wj(P:Program)(t:TypeId)(sh:List Ty):Prop:=
 (∃fs,P.underlying t=some (.struct fs))/\∀(w:World) (xs:Array Value),jD sh xs.toList->(∀em,(Instr.checkKey em 10000 t (.agg xs)).run P w= .ok () w)/\
  ∀ys:Array Value,jD sh ys.toList->∃r,(Op.equal t (.agg xs) (.agg ys)).run P w= .ok r w/\(r=true↔xs.toList=ys.toList)
def Gn(P:Program)(t:TypeId)(sh:List Ty):Prop:=a2E P t sh/\Wj P t sh
def Uz(P:Program)(t:Nat)(n:String)(f:Nat)(d:Option Nat):Prop:=
 ∀(v:Value) (w:World),match d with
  |none=>(method (P.types.size+Made.depth) t v n).run P w= .ok (f,v) w
  |some e=>∀ad,v= .pointer (some ad)->(method (P.types.size+Made.depth) t v n).run P w=((loadVar e ad).run P w).andThen λu w' => .ok (f,u) w'
structure FxOk (X:Fx):Prop where
 nt:64*X.E.nt<=999936
 tt:∀t i,dI X.E.tt t=some i->TiOk X.P t i
 fs:∀p∈X.E.fs,gz X.P X.E.gl p.1 p.2
 eqs:∀t sh,dI X.E.eqs t=some sh->Gn X.P t sh
 ms:∀p∈X.E.ms,Uz X.P p.1.1 p.1.2 p.2.1 p.2.2
 fn:∀p∈X.E.fs,∃fn,X.P.funcs[p.1]? =some fn/\fn.body.isSome=true/\(fn.name== "runtime.NumGoroutine")=false
theorem FxOk.ntB{X:Fx}(H:FxOk X):X.E.nt<=Z4:=by have:=H.nt;show X.E.nt<=1000000;omega
def iK(X:Fx)(cl ch:Nat)(o:Oper)(a:Act)(w:World)(m:Mp)(ok:Nat->Ty->Prop)(S' :Sm):Prop:=
 ∀(next:Act->World->Prop) (Q:Exit->Act->World->Prop),
  (∀m' ok' a' w',Rel X cl ch S' m' ok' a' w' ->(∀k l,m k=some l->m' k=some l)->(∀b t,ok b t->ok' b t)->next a' w')->o.wp X.P a w next Q
theorem Dc{α:Type}{ι:Sort _}{Q:ι->α->Sm->Prop} :∀{c:Cmd α} {S:Sm},(∀i,c.post S (Q i))->c.post S (λx S' =>∀i,Q i x S')
 | .ret x,S,h=>λi=>h i| .fail,S,h=>trivial| .get k c,S,h=>Dc (c:=c (S k)) h| .set k v c,S,h=>Dc (c:=c) h
 | .opt o c,S,h=>λx e=>Dc (c:=c x) λi=>h i x e| .br b c d,S,h=>⟨λe=>Dc (c:=c) λi=>(h i).1 e,λe=>Dc (c:=d) λi=>(h i).2 e⟩
variable {x:Operand}{k:IntKind}{y:Operand}{α:Type}{Q:α->Sm->Prop}{C:Cx}{v:Value}{op:BinOp}{t:TypeId}{yt:TypeId}
section
variable {X:Fx} {cl ch:Nat} {S:Sm} {m:Mp} {ok:Nat->Ty->Prop} {a:Act} {w:World} {o:Oper}
theorem dD{b:Bool}{c:Cmd α}{S:Sm}(h:b=true->c.post S Q):(bif b then c else Cmd.fail).post S Q:=by
 cases b
 .trivial
 .exact h rfl
theorem IJ{a b:Nat}(h:Nat.blt a b=true):a<b:=by rw[bf]at h;exact h
theorem qY(H:FxOk X){S:Sm}{m0 m:Mp}{ok0 ok:Nat->Ty->Prop}{w0 w:World}{a:Act}(R:Rel X cl ch S m ok a w)(hm:∀k l,m0 k=some l->m k=some l)(hok:∀b t,ok0 b t->ok b t)
  {v:V} {x:Value} (hv:lU ⟨w.heap,ok,m⟩ v x) (run:(execOp a.eval o).run X.P w0= .ok (.value x) w):
  (dH X.E o.dst v).post S (λ_ S' =>iK X cl ch o a w0 m0 ok0 S'):=by
 unfold dH;cases hd:o.dst with
 |none=>
  intro next Q hn
  unfold Oper.wp;rw[run,ng,hd];exact hn m ok a w R hm hok
 |some d=>
  refine dD λhb=>?_;intro next Q hn
  unfold Oper.wp;rw[run,ng,hd];exact hn m ok _ w (R.put H.ntB hb hv) hm hok
theorem YM(C:Cx)(v:Value):lU C (YL v) v:=by unfold YL;split<;>first|exact rfl|trivial
theorem Z9(R:Rel X cl ch S m ok a w){K:V->Cmd α}(hK:∀v,lU ⟨w.heap,ok,m⟩ v (a.eval x)->(K v).post S Q):(pK x K).post S Q:=by
 unfold pK;cases x with
 |tmp t=>exact dD λhb=>hK (S t) (R.slot t (IJ hb))|const v=>exact hK _ (YM _ v)|global g=>exact hK _ rfl|func f=>exact hK _ rfl
theorem lh{α:Type}{Q:α->Sm->Prop}(R:Rel X cl ch S m ok a w):∀(xs:List Operand) {K:List V->Cmd α} (hK:∀vs,iJ ⟨w.heap,ok,m⟩ vs (xs.map a.eval)->(K vs).post S Q),(Kq xs K).post S Q
 |[],K,hK=>hK [] rfl
 |x::r,K,hK=>by unfold Kq;refine Z9 R λv hv=>?_;exact lh R r λvs hvs=>hK _ ⟨_,_,rfl,hv,hvs⟩
theorem ay(H:FxOk X)(R:Rel X cl ch S m ok a w){v:V}{x:Value}(hv:lU ⟨w.heap,ok,m⟩ v x)(run:(execOp a.eval o).run X.P w= .ok (.value x) w):
  (dH X.E o.dst v).post S (λ_ S' =>iK X cl ch o a w m ok S'):=qY H R (λ_ _ h=>h) (λ_ _ h=>h) hv run
theorem MM{x:Bool}(h:lU C (.b x) v):v= .bool x:=h
theorem rH{n:Int}(h:lU C (.i k n) v):v= .int k n:=h
theorem FH{l:List UInt8}(h:lU C (.s l) v):v= .string ⟨l.toArray⟩:=h
theorem a0A(H:FxOk X)(R:Rel X cl ch S m ok a w)(ho:o.op= .move x\/o.op= .assign x):(pK x λv=>dH X.E o.dst v).post S (λ_ S' =>iK X cl ch o a w m ok S'):=by refine Z9 R λv hv=>ay H R hv ?_;rcases ho with ho|ho<;>simp[execOp,ho]
theorem a6V(H:FxOk X)(R:Rel X cl ch S m ok a w){c x y:Operand}{q:Nat}(ho:o.op= .pick c x y):(aY X.E q o).post S (λ_ S' =>iK X cl ch o a w m ok S'):=by
 unfold aY;simp only[ho];refine Z9 R λv hv=>?_;split<;>try trivial
 rename_i t;have hc:=MM hv;cases t
 .simp only[cond_false];refine Z9 R λv hv=>ay H R hv ?_;simp[execOp,ho,hc,asBool]
 .simp only[cond_true];refine Z9 R λv hv=>ay H R hv ?_;simp[execOp,ho,hc,asBool]
theorem gZ{α β:Type}{Q:α->Sm->Prop}{x:Option β}{c:β->Cmd α}{S:Sm}(h:∀y,x=some y->(c y).post S Q):(Cmd.opt x c).post S Q:=h
theorem a1k{yc:Operand}{a:Act}{b:Int}(h:zM yc=false)(he:a.eval yc= .int k b):b≠0:=by
 unfold zM at h;split at h
 .simp[Act.eval]at he;obtain⟨_,rfl⟩:=he;simpa using h
 .simp at h
theorem a3M{yc:Operand}{a:Act}{b:Int}(h:CU yc=false)(he:a.eval yc= .int k b):¬b<0:=by
 unfold CU at h;split at h
 .simp[Act.eval]at he;obtain⟨_,rfl⟩:=he;simpa using h
 .simp at h
theorem a1W(H:FxOk X)(R:Rel X cl ch S m ok a w)(ho:o.op= .binOp op t x y yt){k k' :IntKind}{p q:Int}
  (hx:a.eval x= .int k p) (hy:a.eval y= .int k' q):(EH X.E t op y (.i k p) (.i k' q) λv=>dH X.E o.dst v).post S (λ_ S' =>iK X cl ch o a w m ok S'):=by
 have run:∀v,(binOp op t (.int k p) (.int k' q)).run X.P w= .ok v w->(execOp a.eval o).run X.P w= .ok (.value v) w:=λv h=>by simp[execOp,ho,hx,hy,eqGuard_at_int,h]
 have fin:∀(v:V) (u:Value),lU ⟨w.heap,ok,m⟩ v u->(binOp op t (.int k p) (.int k' q)).run X.P w= .ok u w->(dH X.E o.dst v).post S (λ_ S' =>iK X cl ch o a w m ok S'):=
  λv u hv h=>ay H R hv (run u h)
 unfold EH;cases op<;>simp only[]
 case shl=>
  cases hn:CU y
  .simp only[cond_false];have h0:=a3M hn hy;exact fin _ _ rfl (by simp[binOp,Op.shift,h0,CV])
  .simp only[cond_true];refine gZ λr hr=>?_;unfold a0l at hr;split at hr
   .cases hr
   .rename_i h0;cases hr;exact fin _ _ rfl (by simp[binOp,Op.shift,h0,CV])
 case shr=>
  cases hn:CU y
  .simp only[cond_false];have h0:=a3M hn hy;exact fin _ _ rfl (by simp[binOp,Op.shift,h0,WX])
  .simp only[cond_true];refine gZ λr hr=>?_;unfold Ii at hr;split at hr
   .cases hr
   .rename_i h0;cases hr;exact fin _ _ rfl (by simp[binOp,Op.shift,h0,WX])
 all_goals
  refine dD λhk=>?_;have hk' :k=k' :=of_decide_eq_true hk;subst hk'
 case quo=>
  cases hz:zM y
  .simp only[cond_false];have h0:=a1k hz hy;exact fin _ _ rfl (by simp[binOp,Op.intDiv,h0,dX])
  .simp only[cond_true];refine gZ λr hr=>?_;unfold a8k at hr;split at hr
   .cases hr
   .rename_i h0;cases hr;exact fin _ _ rfl (by simp[binOp,Op.intDiv,h0])
 case rem=>
  cases hz:zM y
  .simp only[cond_false];have h0:=a1k hz hy;exact fin _ _ rfl (by simp[binOp,Op.intDiv,h0,iY])
  .simp only[cond_true];refine gZ λr hr=>?_;unfold a8l at hr;split at hr
   .cases hr
   .rename_i h0;cases hr;exact fin _ _ rfl (by simp[binOp,Op.intDiv,h0])
 case add=>exact fin _ _ rfl (by simp[binOp,Op.intArith,I5])
 case sub=>exact fin _ _ rfl (by simp[binOp,Op.intArith,ae])
 case mul=>exact fin _ _ rfl (by simp[binOp,Op.intArith,JK])
 case and=>exact fin _ _ rfl (by simp[binOp,Op.intBits,tZ])
 case or=>exact fin _ _ rfl (by simp[binOp,Op.intBits,ior])
 case xor=>exact fin _ _ rfl (by simp[binOp,Op.intBits,a3w])
 case andNot=>exact fin _ _ rfl (by simp[binOp,Op.intBits,a0f])
 case eql=>exact fin _ _ rfl (by simp[binOp,Op.intCmp,D5];rfl)
 case neq=>exact fin _ _ rfl (by simp[binOp,Op.intCmp,D5,H9];rfl)
 case lss=>exact fin _ _ rfl (by simp[binOp,Op.intCmp,I8])
 case leq=>exact fin _ _ rfl (by simp[binOp,Op.intCmp,V6])
 case gtr=>exact fin _ _ rfl (by simp[binOp,Op.intCmp,I8])
 case geq=>exact fin _ _ rfl (by simp[binOp,Op.intCmp,V6])
theorem a1X(H:FxOk X)(R:Rel X cl ch S m ok a w)(ho:o.op= .binOp op t x y yt){p q:List UInt8}
  (hx:a.eval x= .string ⟨p.toArray⟩) (hy:a.eval y= .string ⟨q.toArray⟩):(EH X.E t op y (.s p) (.s q) λv=>dH X.E o.dst v).post S (λ_ S' =>iK X cl ch o a w m ok S'):=by
 have run:∀v,(Op.stringOp op ⟨p.toArray⟩ ⟨q.toArray⟩).run X.P w= .ok v w->(execOp a.eval o).run X.P w= .ok (.value v) w:=λv h=>by simp[execOp,ho,hx,hy,eqGuard_at_string,binOp,h]
 have fin:∀(v:V) (u:Value),lU ⟨w.heap,ok,m⟩ v u->(Op.stringOp op ⟨p.toArray⟩ ⟨q.toArray⟩).run X.P w= .ok u w->(dH X.E o.dst v).post S (λ_ S' =>iK X cl ch o a w m ok S'):=
  λv u hv h=>ay H R hv (run u h)
 unfold EH;cases op<;>simp only[]<;>try trivial
 case add=>
  refine gZ λr hr=>?_;unfold Z7 at hr;split at hr
  .rename_i hle;cases hr;have e:(⟨p.toArray⟩:ByteArray)++⟨q.toArray⟩=⟨(p++q).toArray⟩:=by
    apply ByteArray.ext;apply ku;simp[ByteArray.data_append]
   refine fin _ (.string ⟨(p++q).toArray⟩) rfl ?_;have hs:¬((9223372036854775807:Int)<(p.length:Int)+(q.length:Int)):=l7;simp[Op.stringOp,e,ByteArray.size,hs]
  .cases hr
 case eql=>exact fin _ _ rfl (by simp only[Op.stringOp,ByteArray.toList_mk,seq,U8];rw[show(p==q)=decide (p=q) by rw[kK];simp])
 case neq=>exact fin _ _ rfl (by simp only[Op.stringOp,ByteArray.toList_mk,seq,H9,U8];rw[show(p==q)=decide (p=q) by rw[kK];simp])
 case lss=>exact fin _ _ rfl (by simp[Op.stringOp,ByteArray.toList_mk,slt])
theorem Zt(H:FxOk X)(R:Rel X cl ch S m ok a w)(ho:o.op= .binOp op t x y yt){p q:Bool}
  (hx:a.eval x= .bool p) (hy:a.eval y= .bool q):(EH X.E t op y (.b p) (.b q) λv=>dH X.E o.dst v).post S (λ_ S' =>iK X cl ch o a w m ok S'):=by
 unfold EH;cases hi:dI X.E.tt t with
 |none=>trivial|some i=>
 have ht' :=(H.tt t i hi).td;simp only[];cases hd:i.td<;>try trivial
 rw[hd]at ht';have ht:X.P.underlying t=some .bool:=ht';have he' :∀d,(Op.equalIn (d+1) t (.bool p) (.bool q)).run X.P w= .ok (p==q) w:=λd=>by simp[Op.equalIn,run_underlying ht]
 have he:(Op.equal t (.bool p) (.bool q)).run X.P w= .ok (p==q) w:=he' 9999;have run:∀v,(binOp op t (.bool p) (.bool q)).run X.P w= .ok v w->(execOp a.eval o).run X.P w= .ok (.value v) w:=λv h=>by simp[execOp,ho,hx,hy,eqGuard_at_bool,h]
 have fin:∀(v:V) (u:Value),lU ⟨w.heap,ok,m⟩ v u->(binOp op t (.bool p) (.bool q)).run X.P w= .ok u w->(dH X.E o.dst v).post S (λ_ S' =>iK X cl ch o a w m ok S'):=
  λv u hv h=>ay H R hv (run u h)
 cases op<;>try trivial
 case eql=>exact fin _ _ rfl (by simp[binOp,he,Pq])
 case neq=>exact fin _ _ rfl (by simp[binOp,he,Pq,H9])
end
end Go.GP
namespace Go.GP
variable {x:Operand}{t:TypeId}{q:Nat}
section
variable {X:Fx} {cl ch:Nat} {S:Sm} {m:Mp} {ok:Nat->Ty->Prop} {a:Act} {w:World} {o:Oper}
theorem kQ{α:Type}{Q:α->Sm->Prop}(H:FxOk X){t:Nat}{K:TI->Cmd α}(hK:∀i,TiOk X.P t i->(K i).post S Q):(tiC X.E t K).post S Q:=by
 unfold tiC;cases hi:dI X.E.tt t with
 |none=>trivial|some i=>exact hK i (H.tt t i hi)
theorem a2v{P:Program} :∀{d:TD},a5O P t d->∃e,P.underlying t=some e
 | .bool,h=>⟨_,h⟩| .int _,h=>⟨_,h⟩| .str,h=>⟨_,h⟩| .sl _,h=>⟨_,h⟩| .ptr _,h=>⟨_,h⟩| .struct _,⟨_,h,_⟩=>⟨_,h⟩| .arr _ _,h=>⟨_,h⟩| .map _ _,h=>⟨_,h⟩| .other,⟨_,h,_⟩=>⟨_,h⟩
theorem Vs(H:FxOk X)(R:Rel X cl ch S m ok a w){op:BinOp}{x y:Operand}{yt:TypeId}(ho:o.op= .binOp op t x y yt){ad:Option Addr}{n c:Nat}
  (hx:a.eval x= .slice ad n c) (hy:a.eval y= .slice none 0 0):(a3N X.E t op ad.isNone λv=>dH X.E o.dst v).post S (λ_ S' =>iK X cl ch o a w m ok S'):=by
 unfold a3N;cases hi:dI X.E.tt t with
 |none=>trivial|some i=>
 have ht' :=(H.tt t i hi).td;simp only[];cases hd:i.td<;>try trivial
 rename_i e;rw[hd]at ht';have ht:X.P.underlying t=some (.slice e):=ht';have he' :∀d,(Op.equalIn (d+1) t (.slice ad n c) (.slice none 0 0)).run X.P w= .ok ad.isNone w:=λd=>by cases ad<;>simp[Op.equalIn,run_underlying ht]
 have he:(Op.equal t (.slice ad n c) (.slice none 0 0)).run X.P w= .ok ad.isNone w:=he' 9999;have run:∀v,(binOp op t (.slice ad n c) (.slice none 0 0)).run X.P w= .ok v w->(execOp a.eval o).run X.P w= .ok (.value v) w:=λv h=>by simp[execOp,ho,hx,hy,eqGuard_at_slice,h]
 cases op<;>try trivial
 case eql=>exact ay H R (v:=.b ad.isNone) (x:=.bool ad.isNone) rfl (run _ (by simp[binOp,he]))
 case neq=>exact ay H R (v:=.b (H9 ad.isNone)) (x:=.bool (!ad.isNone)) rfl (run _ (by simp[binOp,he]))
theorem a3X(H:FxOk X)(R:Rel X cl ch S m ok a w){op:BinOp}{x y:Operand}{yt:TypeId}(ho:o.op= .binOp op t x y yt):
  (aY X.E q o).post S (λ_ S' =>iK X cl ch o a w m ok S'):=by
 unfold aY;simp only[ho];refine Z9 R λu hu=>Z9 R λv hv=>?_;cases u<;>try (unfold EH;trivial)
 case b p=>
  cases v<;>try (unfold EH;trivial)
  exact Zt H R ho (MM hu) (MM hv)
 case i k p=>
  cases v<;>try (unfold EH;trivial)
  exact a1W H R ho (rH hu) (rH hv)
 case s p=>
  cases v<;>try (unfold EH;trivial)
  exact a1X H R ho (FH hu) (FH hv)
 case nl=>
  cases v<;>try (unfold EH;trivial)
  exact Vs H R ho (ad:=none) (show a.eval x= .slice none 0 0 from hu) hv
 case ne=>
  cases v<;>try (unfold EH;trivial)
  obtain⟨ad,c,hx,hb⟩:=hu;subst hb;exact Vs H R ho (ad:=ad) hx hv
 case sl t' xs=>
  cases v<;>try (unfold EH;trivial)
  unfold EH;simp only[];cases ht:t'.isEnt
  .simp only[cond_false];obtain⟨ad,c,hx,hle,hx'⟩:=(yH ht).1 (show kU w.heap ok (.sl t') xs [a.eval x]from hu);cases xs with
   |nil=>exact⟨λ_=>trivial,λh=>by simp[D5,x9]at h⟩|cons z zs=>obtain⟨blk,off,es,rfl,_⟩:=hx' 0 z rfl;exact⟨λ_=>trivial,λ_=>Vs H R ho (ad:=some _) (by simpa using hx) hv⟩
  .trivial
 case agg cs=>
  cases v<;>try (unfold EH;trivial)
  case agg ds=>
  obtain⟨xs,hx,hl⟩:=hu;obtain⟨ys,hy,hl'⟩:=hv;unfold EH;simp only[];cases hq:dI X.E.eqs t with
  |none=>trivial|some sh=>
  simp only[];refine dD λhm=>?_;simp only[A8]at hm;have hE:=(H.eqs t sh hq).1;cases he:xk cs ds with
  |none=>cases op<;>trivial|some e=>
   cases op<;>try trivial
   case eql=>refine ay H R (v:=.b e) (x:=.bool e) rfl ?_;have h:=hE w _ cs ds xs ys e .eql x y hm.1 hm.2 hl hl' he (.inl rfl);simp only[execOp,ho,hx,hy];rw[G8,h];rfl
   case neq=>refine ay H R (v:=.b (H9 e)) (x:=.bool (!e)) rfl ?_;have h:=hE w _ cs ds xs ys e .neq x y hm.1 hm.2 hl hl' he (.inr rfl);simp only[execOp,ho,hx,hy];rw[G8,h];rfl
theorem a6W(H:FxOk X)(R:Rel X cl ch S m ok a w){op:UnOp}(ho:o.op= .unOp op t x):
  (aY X.E q o).post S (λ_ S' =>iK X cl ch o a w m ok S'):=by
 unfold aY;simp only[ho];refine Z9 R λu hu=>?_;cases u<;>cases op<;>try (unfold unC;trivial)
 case b.not p=>exact ay H R (v:=.b (H9 p)) (x:=.bool (!p)) rfl (by simp[execOp,ho,MM hu,Op.unary])
 case i.neg k p=>exact ay H R (v:=.i k (ae k 0 p)) (x:=.int k (k.wrap (0 -p))) rfl (by simp[execOp,ho,rH hu,Op.unary,Op.intArith])
 case i.xor k p=>exact ay H R (v:=.i k (a3w k (bif k.signed then -1 else k.max) p)) rfl (by simp only[execOp,ho,rH hu,Op.unary,Op.intBits,a3w];cases k.signed<;>simp)
theorem a4n{α:Type}{Q:α->Sm->Prop}(R:Rel X cl ch S m ok a w){u:Ty}{y:V}{vy:Value}{K:List u.den->Cmd α}(hy:lU ⟨w.heap,ok,m⟩ y vy)
  (hK:∀xs,kU w.heap (λ_ _=>True) (.sl u) xs [vy]->(K xs).post S Q):(XA u y K).post S Q:=by
 unfold XA;split<;>try trivial
 .have hv:vy= .slice none 0 0:=hy;subst hv;cases ht:u.isEnt
  .exact hK [] (.inl ⟨ht,none,0,rfl,C9 _,λi x hi=>by simp at hi⟩)
  .trivial
 .obtain⟨ad,c,rfl,_⟩:=(show ∃a c,vy=Value.slice a 0 c/\a.isNone=_ from hy);cases ht:u.isEnt
  .exact hK [] (.inl ⟨ht,ad,c,rfl,bI _,λi x hi=>by simp at hi⟩)
  .trivial
 .refine eQ λe=>?_;subst e;exact hK _ (dM (λ_ _ _=>trivial) (λ_ _ _=>rfl) (show kU w.heap ok (.sl _) _ [vy]from hy))
 .rename_i bx vw;obtain⟨l,hm,hv⟩:=hy;show Cmd.post (match S (Z4+bx)with| .barr t' xs=>_| .bfrz t' xs=>_|_=>_) S Q;have hb:=R.box bx;split<;>try trivial
  .rename_i t' xs hS;rw[hS]at hb;obtain⟨l',hm',ha⟩:=hb;simp only at hm hm';rw[hm]at hm';cases hm';refine eQ λe=>?_;subst e;exact hK _ (pO (C:=⟨w.heap,ok,m⟩) ha hv (λ_ _ _=>trivial) (λ_ _=>trivial))
  .rename_i t' xs hS;rw[hS]at hb;obtain⟨l',hm',ha,hok⟩:=hb;simp only at hm hm';rw[hm]at hm';cases hm';refine eQ λe=>?_;subst e;exact hK _ (pO (C:=⟨w.heap,ok,m⟩) ha hv (λ_ _ _=>trivial) (λ_ _=>trivial))
theorem Xv(H:FxOk X)(R:Rel X cl ch S m ok a w){src t:TypeId}(ho:o.op= .convert src t x)
  (hB:∀l,a.eval x= .string ⟨l.toArray⟩->X.P.underlying src=some .string->(a2V X.E (J9 q o.dst) t l λv=>dH X.E o.dst v).post S (λ_ S' =>iK X cl ch o a w m ok S')):
  (aY X.E q o).post S (λ_ S' =>iK X cl ch o a w m ok S'):=by
 unfold aY;simp only[ho];refine Z9 R λu hu=>kQ H λj hj=>kQ H λi hi=>?_;obtain⟨e,he⟩:=a2v hj.td;have hd:=hi.td;split<;>try trivial
 .rename_i k' n k htd;rw[htd]at hd;exact ay H R (v:=.i k (wrap k n)) (x:=.int k (k.wrap n)) rfl (by simp[execOp,ho,rH hu,convert,run_underlying he,run_underlying (show X.P.underlying t=some (.int k)from hd),Conv.intToInt])
 .rename_i l htd;rw[htd]at hd;refine ay H R (v:=.s l) (x:=.string ⟨l.toArray⟩) rfl ?_;simp only[execOp,ho,FH hu,convert,G8,run_underlying he,run_underlying (show X.P.underlying t=some .string from hd),G9];cases e<;>simp
 .split<;>try trivial
  rename_i l _ _ _ hjd;have hjs:=hj.td;rw[hjd]at hjs;exact hB l (FH hu) hjs
 .rename_i hns htd;rw[htd]at hd;split<;>try trivial
  rename_i el hjd;have hjs:=hj.td;rw[hjd]at hjs;refine kQ H λk hk=>?_;have hkd:=hk.td;split<;>try trivial
  rename_i hke;rw[hke]at hkd;refine a4n R hu λxs hr=>?_;obtain⟨ad,cap,hv,hcap,hcells⟩:=(yH rfl).1 hr;have hv:=(P5 hv).1;refine ay H R (v:=.s (BR xs)) (x:=.string ⟨(BR xs).toArray⟩) rfl ?_;have hh:(convert src t (a.eval x)).run X.P w= .ok (.string ⟨(BR xs).toArray⟩) w:=by
   rw[hv];cases xs with
   |nil=>
    have:=run_convert_bytes_nil (P:=X.P) w src el hjs hkd 0 cap t hd;cases ad with
    |none=>exact this|some ad=>obtain⟨b,o,s⟩:=ad;rw[run_convert_bytes_string w src t el _ _ cap hjs hkd hd];simp[Conv.bytesToString,BR];rfl
   |cons y ys=>
    obtain⟨blk,off,es,rfl,_,_,_⟩:=hcells 0 y rfl;have:=run_convert_bytes_arg (P:=X.P) w src el hjs hkd blk off (y::ys).length cap (y::ys) rfl (λi hi=>?_) t hd
    .exact this
    .obtain⟨blk2,off2,es2,e2,_,hc,hr2⟩:=hcells i _ (lG hi);simp only[G5,kz]at e2;obtain⟨rfl,rfl,_⟩:=e2;obtain⟨c,T,f,hb,hn,rfl⟩:=uw hc;have hr3:((c.toList.drop (off+i*1)).take 1)=[.int .u8 (y::ys)[i]]:=hr2;have h5:=congrArg (λl=>l[0]?) hr3;simp only[mZ (show 0<1 by omega),U4,ah,bU,iw,aj]at h5;simp only[World.cell?,hb,h5,Option.isSome_none];simp[List.getD,lG hi]
  simp only[execOp,ho];rw[G8,hh];rfl
theorem Zv(H:FxOk X)(R:Rel X cl ch S m ok a w){n:Nat}(ho:o.op= .extract x n):
  (aY X.E q o).post S (λ_ S' =>iK X cl ch o a w m ok S'):=by
 unfold aY;simp only[ho];refine Z9 R λu hu=>?_;cases u<;>try trivial
 case tup vs=>
 obtain⟨arr,hx,hl⟩:=hu;have key:∀(vs:List V) (us:List Value) (n:Nat) (v:V),VD ⟨w.heap,ok,m⟩ vs us->vs[n]? =some v->∃u,us[n]? =some u/\lU ⟨w.heap,ok,m⟩ v u:=by
  intro vs;induction vs with
  |nil=>intro us n v _ h;simp at h|cons c cs ih=>
   rintro us n v ⟨u,r,rfl,h1,h2⟩ h;cases n with
   |zero=>simp at h;subst h;refine⟨u,rfl,?_⟩;cases c<;>first|exact h1|exact h1.elim
   |succ n=>simpa using ih r n v h2 (by simpa using h)
 simp only[];split
 .rename_i v hv;obtain⟨u,hu,hr⟩:=key vs arr.toList n v hl hv;refine ay H R hr ?_;have:arr[n]? =some u:=by simpa using hu
  simp[execOp,ho,hx,Instr.extract,this]
 .trivial
theorem a4b(H:FxOk X)(R:Rel X cl ch S m ok a w){x ix:Operand}(ho:o.op= .index t x ix):
  (aY X.E q o).post S (λ_ S' =>iK X cl ch o a w m ok S'):=by
 unfold aY;simp only[ho];refine Z9 R λu hu=>Z9 R λv hv=>kQ H λi hi=>?_;have hd:=hi.td;split<;>try trivial
 rename_i l k n htd;rw[htd]at hd;refine gZ λc hc=>?_;unfold sat at hc;split at hc
 .rename_i h0;cases hl:l[n.toNat]? with
  |none=>simp[hl]at hc|some b=>
   simp[hl]at hc;subst hc;refine ay H R (v:=.i .u8 b.toNat) (x:=.int .u8 b.toNat) rfl ?_;have e:(⟨l.toArray⟩:ByteArray)[n.toNat]? =some b:=by
    obtain⟨h1,h2⟩:=aO.1 hl;have hs:n.toNat<(⟨l.toArray⟩:ByteArray).size:=by simpa[ByteArray.size]using h1
    show decidableGetElem? _ _=_;unfold decidableGetElem?;rw[dif_pos hs,←h2];rfl
   simp[execOp,ho,FH hu,rH hv,Instr.index,asIntOf,run_underlying (show X.P.underlying t=some .string from hd),h0,e]
 .cases hc
theorem Xx(H:FxOk X)(R:Rel X cl ch S m ok a w)(ho:o.op= .nilCheck x):
  (aY X.E q o).post S (λ_ S' =>iK X cl ch o a w m ok S'):=by
 unfold aY;simp only[ho];refine Z9 R λu hu=>?_;cases u<;>try trivial
 case ptr bx f=>obtain⟨b,h1,h2⟩:=hu;exact ay H R (v:=.ptr bx f) ⟨b,h1,h2⟩ (by simp[execOp,ho,h2])
 case ep bx ix f=>obtain⟨_,_,_,_,_,h1,h2,h3⟩:=hu;exact ay H R (v:=.ep bx ix f) ⟨_,_,_,_,_,h1,h2,h3⟩ (by simp[execOp,ho,h3])
 case dp u y f=>obtain⟨_,_,_,h1,h2⟩:=hu;exact ay H R (v:=.dp u y f) ⟨_,_,_,h1,h2⟩ (by simp[execOp,ho,h1])
 case glob g=>exact ay H R (v:=.glob g) hu (by have hu:a.eval x=_:=hu;simp[execOp,ho,hu])
end
end Go.GP
namespace Go.GP
variable {n:Nat}{off:Nat}{blk:Nat}{es:List Value}
theorem sQ{w:World}(e:dN w.heap blk off n=some es){j:Nat}{v:Value}(h:es[j]? =some v):w.cell? ⟨blk,off+j,none⟩=some v:=by
 obtain⟨c,T,f,hb,hn,rfl⟩:=uw e;rw[cell_of_row w blk (off+j) c T f hb];have hj:j<n:=by have:=(aO.1 h).1;simp at this;omega
 rw[V9,if_pos hj,U4]at h;simpa using h
variable {t:TypeId}{P:Program}
theorem zQ{d:TD}(h:a5O P t d)(w:World):(isAgg t).run P w= .ok (bz d) w:=by
 unfold isAgg;cases d<;>simp only[a5O]at h
 case struct fs=>obtain⟨fields,hu,_⟩:=h;rw[G8,run_underlying hu];rfl
 case other=>obtain⟨e,hu,hn⟩:=h;rw[G8,run_underlying hu];cases e<;>first|rfl|exact hn.elim
 all_goals (rw[G8,run_underlying h];rfl)
variable {i:TI}
theorem pR(h:TiOk P t i)(w:World):(sizeOf t).run P w= .ok i.size w:=by obtain⟨inf,h1,h2,_⟩:=h.info;simp[sizeOf,typeInfo,h1,h2]
def KY(ag:Bool)(es:List Value):Value:=match ag with|true=> .agg es.toArray|false=>es.headD Go.undef
theorem uS(hi:TiOk P t i)(w:World)(e:dN w.heap blk off i.size=some es):
  (loadVar t ⟨blk,off,none⟩).run P w= .ok (KY (bz i.td) es) w:=by
 have hl:=oZ e;unfold loadVar;rw[G8,zQ hi.td];simp only[G9];cases ha:bz i.td
 .have h1:=hi.one ha;rw[h1]at hl;obtain⟨v,rfl⟩:∃v,es=[v]:=by
   cases es with
   |nil=>simp at hl
   |cons v r=>cases r with
    |nil=>exact⟨v,rfl⟩|cons _ _=>simp at hl
  have hc:=sQ e (j:=0) (v:=v) rfl;simp only[ah]at hc;simp[hc,KY]
 .have hc:=run_loadCells_list (P:=P) w ⟨blk,off,none⟩ es (λj v h=>by rw[gQ];exact sQ e h);rw[hl]at hc;simp[pR hi,hc,KY]
variable {C:Cx}{cs:List V}
theorem yG{ag:Bool}(h:gy C cs es)(h1:ag=false->es.length=1):lU C (mkV ag cs) (KY ag es):=by
 refine KF (us:=es) ?_ h;cases ag
 .have:=h1 rfl;obtain⟨v,rfl⟩:∃v,es=[v]:=by
   cases es with
   |nil=>simp at this
   |cons v r=>cases r with
    |nil=>exact⟨v,rfl⟩|cons _ _=>simp at this
  rfl
 .exact⟨es.toArray,rfl,A7⟩
theorem PW:∀(n:Nat) (cs r:List V),PV n cs=some r->n<=cs.length/\r=cs.drop n
 |0,cs,r,h=>by simp[PV]at h;simp[h]|n+1,[],r,h=>by simp[PV]at h|n+1,c::cs,r,h=>by obtain⟨h1,h2⟩:=PW n cs r (by simpa[PV]using h);exact⟨by simp;omega,by simpa using h2⟩
theorem RN{α:Type}{Q:α->Sm->Prop}{S:Sm} :∀(n:Nat) (cs:List V) {K:List V->Cmd α} (hK:n<=cs.length->(K (cs.take n)).post S Q),(Yk n cs K .fail).post S Q
 |0,cs,K,hK=>by simpa[Yk]using hK (bI _)|n+1,[],K,hK=>trivial
 |n+1,c::cs,K,hK=>by unfold Yk;exact RN n cs λh=>by simpa using hK F9
variable {α:Type}{Q:α->Sm->Prop}
theorem zS{S:Sm}{K:List V->Cmd α}(hK:off+n<=cs.length->(K ((cs.drop off).take n)).post S Q):(Tf off n cs K .fail).post S Q:=by
 unfold Tf;split
 .rename_i r hr;obtain⟨h1,rfl⟩:=PW _ _ _ hr;refine RN n _ λh=>hK ?_;simp at h;omega
 .trivial
def aF(off:Nat)(vs cs:List α):List α:=cs.take off++vs++cs.drop (off+vs.length)
theorem yF{α:Type}{Q:α->Sm->Prop}{S:Sm} :∀(off:Nat) (vs cs:List V) {K:List V->Cmd α} (hK:off+vs.length<=cs.length->(K (aF off vs cs)).post S Q),(Kw off vs cs K .fail).post S Q
 |0,[],cs,K,hK=>by have:=hK A7;cases cs<;>simpa[Kw,aF]using this|0,v::vs,[],K,hK=>by simp[Kw];trivial
 |0,v::vs,c::cs,K,hK=>by unfold Kw;exact yF 0 vs cs λh=>by simpa[aF]using hK (by simp at h ⊢;omega)|n+1,vs,[],K,hK=>by cases vs<;>simp[Kw]<;>trivial|n+1,vs,c::cs,K,hK=>by
  have e:Kw (n+1) vs (c::cs) K Cmd.fail=Kw n vs cs (λr=>K (c::r)) Cmd.fail:=by cases vs<;>rfl
  rw[e];refine yF n vs cs λh=>?_;have:=hK F9;have e2:n+1+vs.length=(n+vs.length)+1:=l7;simpa[aF,e2]using this
theorem yY{vs cs:List V}{us xs:List Value}(hv:gy C vs us)(hc:gy C cs xs):gy C (aF off vs cs) (aF off us xs):=by unfold aF;rw[←kP hv];exact uN (uN (wU off hc) hv) (vJ _ hc)
theorem vK{P:Program}(g o:Nat)(t:TypeId):∀(vs:List Value) (i:Nat) (cur:Array Value) (f:Nat×Nat) (w:World),w.heap[g]? =some (.cells cur t f)->(f=(0,0)\/f=(cur.size,cur.size+1))->o+i+vs.length<=cur.size->(∀v∈vs,v.oneCell' =true)->
  (storeCells ⟨g,o,none⟩ vs i).run P w= .ok () (w.setRow g (cur.toList.take (o+i)++vs++cur.toList.drop (o+i+vs.length)).toArray)
 |[],i,cur,f,w,hg,_,_,_=>by simp only[storeCells,E5,H6,ah,dL,Array.toArray_toList];rw[setRow_self w g cur t f hg];rfl|v::rest,i,cur,f,w,hg,hf,hl,h1=>by
  have hi:o+i<cur.size:=by simp at hl;omega
  have hadd:(⟨g,o,none⟩:Addr).add i=⟨g,o+i,none⟩:=by unfold Addr.add;split<;>simp_all
  have hcell:w.cell? ⟨g,o+i,none⟩=some cur[o+i]:=by simp[World.cell?,hg,hi]
  have hfro:w.frozen? ⟨g,o+i,none⟩=false:=by rcases hf with rfl|rfl<;>simp[World.frozen?,hg];omega
  have hst:(store ((⟨g,o,none⟩:Addr).add i) v).run P w= .ok () (w.setRow g (cur.setIfInBounds (o+i) v)):=by rw[hadd,run_store P w _ v _ (h1 v A7),hcell];simp[hfro,setCell_eq_setRow w g (o+i) cur t f v hg]
  have ih:=vK (P:=P) g o t rest (i+1) (cur.setIfInBounds (o+i) v) f (w.setRow g (cur.setIfInBounds (o+i) v)) (setRow_heap w g cur _ t _ hg) (by simpa using hf) (by simp at hl ⊢;omega) (λx hx=>h1 x (by simp[hx]));simp only[storeCells,G8,hst,G9,ih,setRow_setRow];congr 3;have e:=list_seg_step cur.toList (o+i) v rest (by simp at hl ⊢;omega);simpa[lH,lZ]using e
theorem zF(hi:TiOk P t i)(w:World){c:Array Value}{T:TypeId}{f:Nat×Nat}(hb:w.heap[blk]? =some (.cells c T f))(hf:f=(0,0)\/f=(c.size,c.size+1)){v:Value}
  (hs:v.cells.size=i.size) (ho:off+i.size<=c.size) (h1:∀u∈v.cells.toList,u.oneCell' =true):
  (storeVar t ⟨blk,off,none⟩ v).run P w= .ok () (w.setRow blk (aF off v.cells.toList c.toList).toArray):=by
 have h:=vK (P:=P) blk off T v.cells.toList 0 c f w hb hf F9 h1;simp only[ah]at h;unfold storeVar;simp[pR hi,hs,h,aF]
variable {v:V}{l:Loc}{obj:Obj}{q:Nat}{ks:List Nat}
section
variable {X:Fx} {cl ch:Nat} {S:Sm} {m:Mp} {ok:Nat->Ty->Prop} {a:Act} {w:World} {o:Oper}
theorem Rel.own_cells(R:Rel X cl ch S m ok a w)(h:S (Z4+n)= .bcells cs):∃blk arr T,m n=some (.st blk)/\w.heap[blk]? =some (.cells arr T (0,0))/\gy ⟨w.heap,ok,m⟩ cs arr.toList:=by have:=R.box n;rw[h]at this;exact this
theorem Rel.own_arr(R:Rel X cl ch S m ok a w){t:Ty}{xs:List t.den}(h:S (Z4+n)= .barr t xs):∃l,m n=some l/\arrOk ⟨w.heap,ok,m⟩ t xs l:=by have:=R.box n;rw[h]at this;exact this
theorem Rel.own_frz(R:Rel X cl ch S m ok a w){t:Ty}{xs:List t.den}(h:S (Z4+n)= .bfrz t xs):∃l,m n=some l/\arrOk ⟨w.heap,ok,m⟩ t xs l/\(∀blk,blk∈l.blks->ok blk t):=by have:=R.box n;rw[h]at this;exact this
theorem Rel.own_barrs(R:Rel X cl ch S m ok a w){md:M}{xs:List md.den}{hole:Option (Nat×Nat×Option Nat)}(h:S (Z4+n)= .barrs md xs hole):md.el=true/\∃l Os,m n=some l/\K_ ⟨w.heap,ok,m⟩ md xs hole Os l/\m.kid n=Os.flatten:=by have:=R.box n;rw[h]at this;exact this
theorem Rel.own_fc(R:Rel X cl ch S m ok a w){t:Ty}{x:t.den}(h:S (Z4+n)= .bfc t x):∃blk es,m n=some (.st blk)/\ok blk t/\dN w.heap blk 0 t.size=some es/\kU w.heap ok t x es:=by have:=R.box n;rw[h]at this;exact this
theorem xn:∀(m:M) (x:m.den) (r:List V),Ei m x r=Ei m x []++r
 | .dat t,x,r=>lF t x r| .pair a b,x,r=>by simp only[Ei];rw[xn a x.1 (Ei b x.2 r),xn b x.2 r,xn a x.1 (Ei b x.2 [])];simp| .unit,_,_=>rfl| .own _,_,_=>rfl| .owns _,_,_=>rfl| .box _,_,_=>rfl| .ownb _,_,_=>rfl| .rp _,_,_=>rfl| .fn _ _,_,_=>rfl| .ifc _ _,_,_=>rfl| .cell _,_,_=>rfl| .fr _,_,_=>rfl| .sbx _ _,_,_=>rfl| .sit,_,_=>rfl
theorem Dy:∀(m:M) (x:m.den),(Ei m x []).length=m.size
 | .dat t,x=>oL t x| .pair a b,x=>by simp only[Ei,M.size];rw[xn a,E8,Dy a x.1,Dy b x.2]| .unit,_=>rfl| .own _,_=>rfl| .owns _,_=>rfl| .box _,_=>rfl| .ownb _,_=>rfl| .rp _,_=>rfl| .fn _ _,_=>rfl| .ifc _ _,_=>rfl| .cell _,_=>rfl| .fr _,_=>rfl| .sbx _ _,_=>rfl| .sit,_=>rfl
theorem pM{cs:List Value}(h:cs.length=1)(h1:∀v∈cs,v.oneCell' =true):gy C [.undef] cs:=by
 match cs,h with
 |[v],_=>exact⟨v,[],rfl,trivial,h1 v A7,rfl⟩
theorem Jj{C:Cx} :∀{m:M} {ho:Option Nat} {x:m.den} {cs:List Value} {O:List Nat},oI C.h C.ok m ho x cs O->gy C (Ei m x []) cs
 | .dat t,_,_,_,_,h=>qj h.1| .pair a b,_,x,_,_,h=>by obtain⟨c,d,O1,O2,rfl,rfl,h1,h2⟩:=h;simp only[Ei];rw[xn a];exact uN (Jj h1) (Jj h2)
 | .unit,_,_,_,_,h=>by obtain⟨rfl,_⟩:=h;rfl
 | .own _,_,_,_,_,h=>pM (cZ h) (qF h)| .owns _,_,_,_,_,h=>pM (cZ h) (qF h)| .box _,_,_,_,_,h=>pM (cZ h) (qF h)| .ownb _,_,_,_,_,h=>pM (cZ h) (qF h)| .rp _,_,_,_,_,h=>pM (cZ h) (qF h)| .fn _ _,_,_,_,_,h=>pM (cZ h) (qF h)| .ifc _ _,_,_,_,_,h=>pM (cZ h) (qF h)| .cell _,_,_,_,_,h=>pM (cZ h) (qF h)| .fr _,_,_,_,_,h=>pM (cZ h) (qF h)| .sbx _ _,_,_,_,_,h=>pM (cZ h) (qF h)| .sit,_,_,_,_,h=>pM (cZ h) (qF h)
theorem dm{S:Sm}{k:Nat}{c:V->Cmd α}(h:(c (S k)).post S Q):(Cmd.get k c).post S Q:=h
theorem jf{S:Sm}{k:Nat}{c:Cmd α}(h:c.post (upd S k v) Q):(Cmd.set k v c).post S Q:=h
theorem DJ(H:FxOk X)(R:Rel X cl ch S m ok a w){t:Nat}{p:V}{x:Value}(hp:lU ⟨w.heap,ok,m⟩ p x){K:V->Cmd α}
  (hK:∀v u ad,lU ⟨w.heap,ok,m⟩ v u->x= .pointer (some ad)->(loadVar t ad).run X.P w= .ok u w->(K v).post S Q):(Ik X.E t p K).post S Q:=by
 unfold Ik;refine kQ H λi hi=>?_;cases p<;>try trivial
 case ptr bx off=>
  obtain⟨blk,hm,rfl⟩:=hp;refine dm ?_;split<;>try trivial
  .rename_i cs hS;obtain⟨blk',arr,T,hm',hh,hl⟩:=R.own_cells hS;simp only at hm;rw[hm]at hm';cases hm';refine zS λhle=>?_;have hlen:=kP hl;have e:=lW hh off i.size (by simp at hlen;omega);refine hK _ _ _ (yG (wU _ (vJ _ hl)) (λha=>by have:=oZ e;rw[hi.one ha]at this;rw[hi.one ha];exact this)) rfl ?_;exact uS hi w e
  .rename_i u y hS;obtain⟨blk',es,hm',hok,he,hr⟩:=R.own_fc hS;simp only at hm;rw[hm]at hm';cases hm';refine zS λhle=>?_;rw[oL]at hle;have e:=yT he off i.size hle;rw[fE]at e;refine hK _ _ _ (yG (wU _ (vJ _ (qj (C:=⟨w.heap,ok,m⟩) hr))) (λha=>by have:=oZ e;rw[hi.one ha]at this;rw[hi.one ha];exact this)) rfl ?_;exact uS hi w e
 case ep bx ix off=>
  obtain⟨blk,o',len,cap,sz,hm,hlt,rfl⟩:=hp;refine dm ?_;have key:∀{u:Ty} {xs:List u.den},arrOk ⟨w.heap,ok,m⟩ u xs (.arr blk o' len cap sz)->(Cmd.opt (qN xs ix) λx=>Tf off i.size (flat u x []) (λr=>K (mkV (bz i.td) r)) Cmd.fail).post S Q:=by intro u xs ha;obtain⟨_,rfl,rfl,h3,c,T,f,hh,hz,hs,hx⟩:=ha;refine gZ λy hy=>?_;obtain⟨es,he,hr⟩:=hx ix y hy;refine zS λhle=>?_;rw[oL]at hle;have e:=yT he off i.size hle;refine hK _ _ _ (yG (wU _ (vJ _ (qj (C:=⟨w.heap,ok,m⟩) hr))) (λha=>by have:=oZ e;rw[hi.one ha]at this;rw[hi.one ha];exact this)) rfl ?_;exact uS hi w e
  split<;>try trivial
  .rename_i u xs hS;obtain⟨l,hm',ha⟩:=R.own_arr hS;simp only at hm;rw[hm]at hm';cases hm';exact key ha
  .rename_i u xs hS;obtain⟨l,hm',ha,_⟩:=R.own_frz hS;simp only at hm;rw[hm]at hm';cases hm';exact key ha
  .rename_i md xs hole hS;obtain⟨_,l,Os,hm',⟨ha,hho⟩,_⟩:=R.own_barrs hS;simp only at hm;rw[hm]at hm';cases hm';obtain⟨rfl,rfl,h3,h7,c,T,hh,hs,hx⟩:=ha;refine gZ λy hy=>?_;obtain⟨es,O,hO,he,hr⟩:=hx ix y hy;refine zS λhle=>?_;rw[Dy]at hle;have e:=yT he off i.size hle;refine hK _ _ _ (yG (wU _ (vJ _ (Jj (C:=⟨w.heap,ok,m⟩) hr))) (λha=>by have:=oZ e;rw[hi.one ha]at this;rw[hi.one ha];exact this)) rfl ?_;exact uS hi w e
 case dp u y off=>obtain⟨blk,o',es,rfl,hb,he,hr⟩:=hp;refine zS λhle=>?_;rw[oL]at hle;have e:=yT he off i.size hle;refine hK _ _ _ (yG (wU _ (vJ _ (qj (C:=⟨w.heap,ok,m⟩) hr))) (λha=>by have:=oZ e;rw[hi.one ha]at this;rw[hi.one ha];exact this)) rfl ?_;exact uS hi w e
theorem vW(h:Array Obj)(o:Obj){b:Nat}(hb:b<h.size):(h.push o)[b]? =h[b]?:=by rw[Array.getElem?_push,if_neg l7]
theorem Rel.new(R:Rel X cl ch S m ok a w)(hn:S (Z4+n)= .undef)(hcl:cl<=n)(hch:n<ch)(hv:v≠.undef)
  (hb:S9 (mF m n l ks) n v=[w.heap.size]) (hB:AL ⟨(w.alloc obj).heap,ok,mF m n l ks⟩ n v):
  Rel X cl ch (upd S (Z4+n) v) (mF m n l ks) ok a (w.alloc obj):=by
 refine R.lay hn hcl hch hv rfl rfl rfl A7 (λb hb' _=>vW _ _ hb') (by rw[hb];simp) (λb h=>?_) hB;rw[hb]at h;simp only[iO]at h;subst h;refine⟨λt h' =>pI _ (R.okLt _ t h'),A7,.inl R.frame.size,λk h' =>pI _ (R.sep k _ h').2.1⟩
theorem Rel.newK(R:Rel X cl ch S m ok a w){T:List Nat}(hT:Tk X S m ok w T)(hn:S (Z4+n)= .undef)(hcl:cl<=n)(hch:n<ch)(hv:v≠.undef)
  (hb:S9 (mF m n l ks) n v=w.heap.size::ks) (hnd:ks.Nodup) (hks:∀b∈ks,b∈T) (hB:AL ⟨(w.alloc obj).heap,ok,mF m n l ks⟩ n v):
  Rel X cl ch (upd S (Z4+n) v) (mF m n l ks) ok a (w.alloc obj):=by
 refine R.lay hn hcl hch hv rfl rfl rfl A7 (λb hb' _=>vW _ _ hb') (by rw[hb];exact dF.2 ⟨λh=>pI _ (hT.free _ (hks _ h)).2.1,hnd⟩) (λb h=>?_) hB;rw[hb]at h;rcases D6.1 h with rfl|h
 .exact⟨λt h' =>pI _ (R.okLt _ t h'),A7,.inl R.frame.size,λk h' =>pI _ (R.sep k _ h').2.1⟩
 .obtain⟨h1,h2,h3,h4⟩:=hT.free b (hks b h);exact⟨h1,by simp;omega,h3,h4⟩
theorem Rel.le_new(R:Rel X cl ch S m ok a w)(hn:S (Z4+n)= .undef)(hcl:cl<=n):Cx.le ⟨w.heap,ok,m⟩ ⟨(w.alloc obj).heap,ok,mF m n l ks⟩:=
 ⟨λ_ _ h=>h,λb t hb=>vW _ _ (R.okLt b t hb),λk x h=>by
  by_cases e:k=n
  .subst e;have:=R.fresh k hcl hn;simp only at h;rw[this]at h;cases h
  .show mF m n l ks k=some x;rw[ji _ _ _ e];exact h⟩
theorem qJ(H:FxOk X)(d:Option Tmp)(hd:∀t,d=some t->t<X.E.nt):CB*q<=J9 q d/\J9 q d+64<=CB*q+CB:=by
 have:=H.nt;cases d with
 |none=>simp only[J9];show 1000000*q<=1000000*q+999936/\1000000*q+999936+64<=1000000*q+1000000;omega|some t=>simp only[J9];have h2:LT.lt (α:=Nat) t X.E.nt:=hd t rfl;clear hd;generalize X.E.nt=n at*;revert this h2;generalize (t:Nat)=t';intro this h2;show 1000000*q<=1000000*q+64*t' /\1000000*q+64*t' +64<=1000000*q+1000000;omega
theorem CX(H:FxOk X)(R:Rel X (CB*q) (CB*q+CB) S m ok a w){vv:V}{x:Value}(hv:v≠.undef)
  (hb:S9 (mF m (J9 q o.dst) l []) (J9 q o.dst) v=[w.heap.size]) (hB:S (Z4+J9 q o.dst)= .undef->CB*q<=J9 q o.dst->AL ⟨(w.alloc obj).heap,ok,mF m (J9 q o.dst) l []⟩ (J9 q o.dst) v)
  (hx:lU ⟨(w.alloc obj).heap,ok,mF m (J9 q o.dst) l []⟩ vv x) (run:(execOp a.eval o).run X.P w= .ok (.value x) (w.alloc obj)):
  (uh (J9 q o.dst) v (dH X.E o.dst vv)).post S (λ_ S' =>iK X (CB*q) (CB*q+CB) o a w m ok S'):=by
 refine qh λhn=>?_;cases hd:o.dst with
 |none=>have hin:=qJ H (q:=q) none (λt h=>by cases h);rw[hd]at hn hB hb hx;have R' :=R.new hn hin.1 l7 hv hb (hB hn hin.1);have:=qY (o:=o) H R' (m0:=m) (ok0:=ok) (λk l' h=>(R.le_new (obj:=obj) hn hin.1).m k l' h) (λ_ _ h=>h) hx run;rw[hd]at this;exact this
 |some t=>unfold dH;refine dD λhb' =>?_;have hin:=qJ H (q:=q) (some t) (λt' h=>by cases h;exact(yD hb').1);rw[hd]at hn hB hb hx;have R' :=R.new hn hin.1 l7 hv hb (hB hn hin.1);have:=qY (o:=o) H R' (m0:=m) (ok0:=ok) (λk l' h=>(R.le_new (obj:=obj) hn hin.1).m k l' h) (λ_ _ h=>h) hx run;rw[hd]at this;unfold dH at this;simp only[hb',cond_true]at this;exact this
theorem Ji :∀{cs:List V} {vs:List Value},gy ⟨#[],λ_ _=>False,nom⟩ cs vs->gy C cs vs:=by intro cs vs h;exact BC (C:=⟨#[],λ_ _=>False,nom⟩) ⟨λ_ _ h=>h.elim,λ_ _ h=>h.elim,λ_ _ h=>by cases h⟩ h
theorem a3V(H:FxOk X)(R:Rel X (CB*q) (CB*q+CB) S m ok a w)(ho:o.op= .alloc t):(aY X.E q o).post S (λ_ S' =>iK X (CB*q) (CB*q+CB) o a w m ok S'):=by
 unfold aY;simp only[ho];refine kQ H λi hi=>dD λhz=>?_;obtain⟨inf,h1,h2,h3,h4,h5⟩:=hi.info;obtain⟨z,hz1,hz2⟩:=h4 (iI hz);have hex:(execOp a.eval o).run X.P w= .ok (.value (.pointer (some ⟨w.heap.size,0,none⟩))) (w.alloc (.cells z.cells t)):=by simp[execOp,ho,Instr.alloc,zeroValue,typeInfo,h1,hz1,newVar,newRow]
 unfold b1N;split
 .rename_i hz0;rw[hz0]at hz2;obtain⟨a0,r1,e1,g1,_,v0,r2,rfl,g2,_,g3⟩:=hz2;simp only[gy]at g3;subst g3;refine CX (l:=.st w.heap.size) (obj:=.cells z.cells t) H R A7 (by simp[S9]) (λhn hc=>?_) ⟨w.heap.size,A7,rfl⟩ hex;refine⟨w.heap.size,a0,v0,A7,?_,.inl g1,g2⟩;have:=heap_alloc_new w (.cells z.cells t);rw[show z.cells=#[a0,v0]from Array.toList_inj.1 e1]at this ⊢;exact this
 .refine CX (l:=.st w.heap.size) (obj:=.cells z.cells t) H R A7 (by simp[S9]) (λhn hc=>?_) ⟨w.heap.size,A7,rfl⟩ hex;exact⟨w.heap.size,z.cells,t,A7,heap_alloc_new w _,Ji hz2⟩
theorem a9O(H:FxOk X)(R:Rel X (CB*q) (CB*q+CB) S m ok a w){x:Operand}(ho:o.op= .box t x):(aY X.E q o).post S (λ_ S' =>iK X (CB*q) (CB*q+CB) o a w m ok S'):=by
 unfold aY;simp only[ho];refine Z9 R λu hu=>rO hu λcs hcs=>?_;refine CX (l:=.st w.heap.size) (obj:=.cells (a.eval x).cells t) H R A7 (by simp[S9]) (λhn hc=>?_) ⟨w.heap.size,A7,rfl⟩ ?_
 .exact⟨w.heap.size,(a.eval x).cells,t,A7,heap_alloc_new w _,BC (R.le_new hn hc) hcs⟩
 .simp[execOp,ho,Instr.box,newVar,newRow]
end
end Go.GP
namespace Go.GP
variable {α:Type}{us:List α}{L:List α}{p:Nat}
theorem qQ(h:p+us.length<=L.length)(i:Nat):
  (aF p us L)[i]? =if i<p then L[i]? else if i<p+us.length then us[i -p]? else L[i]?:=by
 unfold aF;rw[E9];by_cases h1:i<p
 .rw[if_pos h1,P9 F9,V9,if_pos h1]
 .rw[if_neg h1,F7 F9];have e:(L.take p).length=p:=by simp;omega
  rw[e];by_cases h2:i<p+us.length
  .rw[if_pos h2,P9 l7]
  .rw[if_neg h2,F7 l7,U4];congr 1;omega
theorem tV(h:p+us.length<=L.length):(aF p us L).length=L.length:=by unfold aF;simp;omega
variable {b:Nat}{n:Nat}
theorem g_(h:p+us.length<=L.length)(hd:b+n<=p\/p+us.length<=b):((aF p us L).drop b).take n=(L.drop b).take n:=by
 apply fC;intro i;rw[V9,V9];split
 .rw[U4,U4,qQ h];rcases hd with hd|hd
  .rw[if_pos l7]
  .rw[if_neg l7,if_neg l7]
 .rfl
variable {off:Nat}
theorem Ho(h:b+n<=L.length)(ho:off+us.length<=n):((aF (b+off) us L).drop b).take n=aF off us ((L.drop b).take n):=by
 have hl:((L.drop b).take n).length=n:=by simp;omega
 apply fC;intro i;rw[V9,qQ (by rw[hl];exact ho)];by_cases hi:i<n
 .rw[if_pos hi,U4,qQ l7,V9,if_pos hi,U4];by_cases h1:i<off
  .rw[if_pos l7,if_pos h1]
  .rw[if_neg l7,if_neg h1];by_cases h2:i<off+us.length
   .rw[if_pos l7,if_pos h2];congr 1;omega
   .rw[if_neg l7,if_neg h2]
 .rw[if_neg hi,if_neg l7,if_neg l7,V9,if_neg hi]
variable {blk:Nat}
theorem FW{w:World}{c:Array Value}{T:TypeId}{f:Nat×Nat}(hb:w.heap[blk]? =some (.cells c T f))(L:List Value)(off n:Nat)(h:off+n<=L.length):
  dN (w.setRow blk L.toArray).heap blk off n=some ((L.drop off).take n):=by
 rw[lW (setRow_heap w blk c L.toArray T f hb) off n (by simpa using h)]
theorem a2R{a b:Nat}(h:a<b):Nat.blt a b=true:=by unfold Nat.blt;exact Nat.ble_eq_true_of_le h
theorem a2Q{a b:Nat}(h:¬a<b):Nat.blt a b=false:=by
 cases e:Nat.blt a b
 .rfl
 .exact absurd (IJ e) h
theorem zA{α:Type} :∀{Os:List (List α)} {i:Nat} {O1 P O2:List α},Os[i]? =some (O1++P++O2)->Os.flatten.Perm ((Os.set i (O1++O2)).flatten++P)
 |[],i,_,_,_,h=>by simp at h|A::Os,0,O1,P,O2,h=>by simp at h;subst h;simp only[List.set_cons_zero,List.flatten_cons,E9];refine pF O1 ?_;have:=(jc (l₁:=P) (l₂:=O2++Os.flatten));simpa using this|A::Os,i+1,O1,P,O2,h=>by simp at h;simp only[List.set_cons_succ,List.flatten_cons,E9];exact pF A (zA (by simpa using h))
variable {t:TypeId}{Op:List Nat}{k:Option Nat}{q:Nat}{x:Operand}
section
variable {X:Fx} {cl ch:Nat} {S:Sm} {m:Mp} {ok:Nat->Ty->Prop} {a:Act} {w:World} {o:Oper}
theorem a9V{h h' :Array Obj}{ok:Nat->Ty->Prop}{m:Mp}(k:∀b t,ok b t->h'[b]? =h[b]?){cs:List V}{vs:List Value}(hr:gy ⟨h,ok,m⟩ cs vs):gy ⟨h',ok,m⟩ cs vs:=
 BC (C:=⟨h,ok,m⟩) (D:=⟨h',ok,m⟩) ⟨λ_ _ h=>h,k,λ_ _ h=>h⟩ hr
theorem Jg{α:Type}{Q:α->Sm->Prop}{S:Sm}{h:Array Obj}{ok:Nat->Ty->Prop} :∀(md:M) (off:Nat) {x:md.den} {es:List Value} {O:List Nat} {K:V->Cmd α} (hr:oI h ok md none x es O)
  (hK:∀v l ks u O1 Op O2,O=O1++Op++O2->oI h ok md (some off) x es (O1++O2)->es[off]? =some u->l.view none u->
   (∀mp n,AL ⟨h,ok,mF mp n l ks⟩ n v/\S9 (mF mp n l ks) n v=Op/\mF mp n l ks n=some l)->v≠.undef->(K v).post S Q),
  (QO md off x K .fail).post S Q
 | .own t,off,x,es,O,K,hr,hK=>by unfold QO;refine dD λhb=>?_;have:=iI hb;subst this;obtain⟨l,v,rfl,hv,ha,rfl⟩:=vX.1 hr;refine hK _ l [] v [] l.blks [] A7 ⟨v,rfl,nC hv,rfl⟩ rfl hv (λmp n=>⟨⟨l,A7,EE ha⟩,?_,A7⟩) A7;cases l<;>first|(simp[S9,Loc.blks];done)|cases ha
 | .owns md,off,x,es,O,K,hr,hK=>by unfold QO;refine dD λhb=>?_;have:=iI hb;subst this;obtain⟨he,l,v,Os,rfl,hv,ha,rfl⟩:=wV.1 hr;refine hK _ l Os.flatten v [] (l.blks++Os.flatten) [] A7 ⟨v,rfl,nC hv,rfl⟩ rfl hv (λmp n=>⟨⟨he,l,Os,A7,⟨ha,trivial⟩,A7⟩,?_,A7⟩) A7;cases l<;>first|(simp[S9,Loc.blks];done)|cases ha
 | .pair p q,off,x,es,O,K,hr,hK=>by
  unfold QO;obtain⟨c,d,O1,O2,rfl,rfl,h1,h2⟩:=hr;have hc:=cZ h1;by_cases hlt:off<p.size
  .have hb:Nat.blt off p.size=true:=a2R hlt;simp only[hb,cond_true];refine Jg p off h1 λv l ks u A Op B e1 e2 e3 e4 e5 e6=>?_;refine hK v l ks u A Op (B++O2) (by subst e1;simp) ⟨c,d,A++B,O2,rfl,A7,?_,?_⟩ (by rw[P9 (by rw[hc];exact hlt)];exact e3) e4 e5 e6
   .simp only[hlt,if_true];exact e2
   .simp only[hlt,if_true];exact h2
  .have hb:Nat.blt off p.size=false:=a2Q hlt;simp only[hb,cond_false];refine Jg q (off -p.size) h2 λv l ks u A Op B e1 e2 e3 e4 e5 e6=>?_;refine hK v l ks u (O1++A) Op B (by subst e1;simp) ⟨c,d,O1,A++B,rfl,A7,?_,?_⟩ (by rw[F7 l7,hc];exact e3) e4 e5 e6
   .simp only[hlt,if_false];exact h1
   .simp only[hlt,if_false];exact e2
 | .dat _,_,_,_,_,_,_,_=>trivial| .unit,_,_,_,_,_,_,_=>trivial| .box _,_,_,_,_,_,_,_=>trivial| .ownb _,_,_,_,_,_,_,_=>trivial| .cell _,_,_,_,_,_,_,_=>trivial| .fr _,_,_,_,_,_,_,_=>trivial| .sbx _ _,_,_,_,_,_,_,_=>trivial| .sit,_,_,_,_,_,_,_=>trivial| .rp _,_,_,_,_,_,_,_=>trivial| .fn _ _,_,_,_,_,_,_,_=>trivial| .ifc _ _,_,_,_,_,_,_,_=>trivial
def UA(h:Array Obj)(ok:Nat->Ty->Prop)(v:V)(u:Value)(Op:List Nat):Prop:=
 (v= .nl/\u= .slice none 0 0/\Op=[])\/(∃t ys l,v= .barr t ys/\l.view none u/\arrOk ⟨h,ok,nom⟩ t ys l/\Op=l.blks)\/
 (∃md ys l Os,v= .barrs md ys none/\md.el=true/\l.view none u/\zg h md.size (λ_ x es O=>oI h ok md none x es O) ys Os l/\Op=l.blks++Os.flatten)
theorem UA.one{h:Array Obj}{v:V}{u:Value}(k:UA h ok v u Op):u.oneCell' =true:=by
 rcases k with⟨_,rfl,_⟩|⟨_,_,l,_,hv,_⟩|⟨_,_,l,_,_,_,hv,_⟩
 .rfl
 .exact nC hv
 .exact nC hv
theorem Mc{α:Type}{Q:α->Sm->Prop}{S:Sm}{h:Array Obj}{ok:Nat->Ty->Prop}{v:V}{u:Value}{Op:List Nat}(hp:UA h ok v u Op):∀(md:M) (off:Nat) {ho:Option Nat} {x:md.den} {es:List Value} {O:List Nat} {K:md.den->Cmd α}
  (hr:oI h ok md ho x es O) (hh:ho=none\/ho=some off) (hel:md.el=true)
  (hK:∀y O1 Old O2,O=O1++Old++O2->oI h ok md none y (es.set off u) (O1++Op++O2)->off<es.length->(K y).post S Q),
  (Zj md off v x K .fail).post S Q
 | .own t,off,ho,x,es,O,K,hr,hh,hel,hK=>by
  unfold Zj;refine dD λhb=>?_;have:=iI hb;subst this;obtain⟨v0,rfl,_,_⟩:=hr;rcases hp with⟨rfl,rfl,rfl⟩|⟨t',ys,l,rfl,hv,ha,rfl⟩|⟨md',ys,l,Os,rfl,_,hv,ha,rfl⟩
  .have ht:t.isEnt=false:=by simpa[M.el]using hel
   simp only[ht,cond_false];exact hK [] [] O [] A7 ⟨_,rfl,rfl,.nil,rfl,⟨rfl,ht⟩,rfl⟩ A7
  .simp only;refine eQ λe=>?_;subst e;exact hK _ [] O [] A7 ⟨u,rfl,nC hv,l,hv,ha,A7⟩ A7
  .trivial
 | .owns md,off,ho,x,es,O,K,hr,hh,hel,hK=>by
  unfold Zj;refine dD λhb=>?_;have:=iI hb;subst this;obtain⟨v0,rfl,_,_⟩:=hr;rcases hp with⟨rfl,rfl,rfl⟩|⟨t',ys,l,rfl,hv,ha,rfl⟩|⟨md',ys,l,Os,rfl,he,hv,ha,rfl⟩
  .exact hK [] [] O [] A7 ⟨_,rfl,rfl,by simpa[M.el]using hel,.nil,[],rfl,⟨rfl,rfl⟩,rfl⟩ A7
  .trivial
  .simp only;refine PE λe=>?_;subst e;exact hK _ [] O [] A7 ⟨u,rfl,nC hv,he,l,Os,hv,ha,A7⟩ A7
 | .pair p q,off,ho,x,es,O,K,hr,hh,hel,hK=>by
  unfold Zj;obtain⟨c,d,O1,O2,rfl,rfl,h1,h2⟩:=hr;have hc:=cZ h1;have hel' :p.el=true/\q.el=true:=by simpa[M.el]using hel
  by_cases hlt:off<p.size
  .have hb:Nat.blt off p.size=true:=a2R hlt;simp only[hb,cond_true];have h2' :oI h ok q none x.2 d O2:=by
    rcases hh with rfl|rfl
    .exact h2
    .simpa only[hlt,if_true]using h2
   refine Mc hp p off h1 (by rcases hh with rfl|rfl<;>first|exact .inl rfl|(right;simp only[hlt,if_true])) hel'.1 λy A Old B e1 e2 e3=>?_;refine hK _ A Old (B++O2) (by subst e1;simp) ⟨c.set off u,d,A++Op++B,O2,?_,A7,e2,h2'⟩ F9;rw[List.set_append_left _ _ l7]
  .have hb:Nat.blt off p.size=false:=a2Q hlt;simp only[hb,cond_false];have h1' :oI h ok p none x.1 c O1:=by
    rcases hh with rfl|rfl
    .exact h1
    .simpa only[hlt,if_false]using h1
   refine Mc hp q (off -p.size) h2 (by rcases hh with rfl|rfl<;>first|exact .inl rfl|(right;simp only[hlt,if_false])) hel'.2 λy A Old B e1 e2 e3=>?_;refine hK _ (O1++A) Old B (by subst e1;simp) ⟨c,d.set (off -p.size) u,O1,A++Op++B,?_,A7,h1',e2⟩ F9;rw[pG _ _ l7,hc]
 | .dat _,_,_,_,_,_,_,_,_,_,_=>trivial| .unit,_,_,_,_,_,_,_,_,_,_=>trivial| .box _,_,_,_,_,_,_,_,_,_,_=>trivial| .ownb _,_,_,_,_,_,_,_,_,_,_=>trivial| .cell _,_,_,_,_,_,_,_,_,_,_=>trivial| .fr _,_,_,_,_,_,_,_,_,_,_=>trivial| .sbx _ _,_,_,_,_,_,_,_,_,_,_=>trivial| .sit,_,_,_,_,_,_,_,_,_,_=>trivial| .rp _,_,_,_,_,_,_,_,_,_,_=>trivial| .fn _ _,_,_,_,_,_,_,_,_,_,_=>trivial| .ifc _ _,_,_,_,_,_,_,_,_,_,_=>trivial
theorem BI{α:Type}{Q:α->Sm->Prop}{C:Cx}{ln:Ty->Bool} :∀(t:Ty) {cs:List V} {K:t.den->List V->Cmd α} {S:Sm} {vs:List Value} (hf:t.flat=true) (hL:gy C cs vs)
  (hK:∀x r us us',vs=us++us' ->(∀h ok,kU h ok t x us)->gy C r us' ->(K x r).post S Q),(og ln t cs K).post S Q
 | .bool,cs,K,S,vs,hf,hL,hK=>by
  unfold og;split
  .obtain⟨v,r,rfl,h1,_,h3⟩:=hL;exact hK _ _ [v] r rfl (λ_ _=>by simp only[uM]at h1;simp[kU,h1]) h3
  .trivial
 | .int k,cs,K,S,vs,hf,hL,hK=>by
  unfold og;split
  .obtain⟨v,r,rfl,h1,_,h3⟩:=hL;refine fO λe=>?_;have e:=of_decide_eq_true e;subst e;exact hK _ _ [v] r rfl (λ_ _=>by simp only[uM]at h1;simp[kU,h1]) h3
  .trivial
 | .str,cs,K,S,vs,hf,hL,hK=>by
  unfold og;split
  .obtain⟨v,r,rfl,h1,_,h3⟩:=hL;exact hK _ _ [v] r rfl (λ_ _=>by simp only[uM]at h1;simp[kU,h1]) h3
  .trivial
 | .unit,cs,K,S,vs,hf,hL,hK=>by unfold og;exact hK _ _ [] vs rfl (λ_ _=>rfl) hL
 | .prod p q,cs,K,S,vs,hf,hL,hK=>by unfold og;simp[Ty.flat]at hf;refine BI p hf.1 hL λx r us us' e1 h1 l1=>?_;refine BI q hf.2 l1 λy r' vs2 vs2' e2 h2 l2=>?_;subst e1;subst e2;exact hK _ _ (us++vs2) vs2' A7 (λh ok=>⟨us,vs2,rfl,h1 h ok,h2 h ok⟩) l2| .sl t,cs,K,S,vs,hf,hL,hK=>by simp[Ty.flat]at hf
theorem Yg{us c d:List α}(h:off+us.length<=c.length):aF off us (c++d)=aF off us c++d:=by
 apply fC;intro i;have hs:=tV h;rw[qQ F9];by_cases hi:i<c.length
 .rw[P9 hi,P9 (l₁:=aF off us c) (by rw[hs];exact hi),qQ h]
 .rw[F7 l7,F7 (l₁:=aF off us c) (by rw[hs];omega),hs,if_neg l7,if_neg l7]
theorem VP{us c d:List α}(h:(off -c.length)+us.length<=d.length)(h' :c.length<=off):aF off us (c++d)=c++aF (off -c.length) us d:=by
 apply fC;intro i;rw[qQ F9];by_cases hi:i<c.length
 .rw[P9 hi,if_pos l7,P9 hi]
 .rw[F7 l7,F7 (l₂:=aF (off -c.length) us d) l7,qQ h];by_cases h1:i<off
  .simp only[h1,if_true,show i -c.length<off -c.length by omega]
  .by_cases h2:i<off+us.length
   .simp only[h1,if_false,h2,if_true,show ¬(i -c.length<off -c.length) by omega,show i -c.length<off -c.length+us.length by omega];congr 1;omega
   .simp only[h1,if_false,h2,show ¬(i -c.length<off -c.length) by omega,show ¬(i -c.length<off -c.length+us.length) by omega]
theorem Ls{α:Type}{Q:α->Sm->Prop}{h:Array Obj}{ok:Nat->Ty->Prop}{m:Mp} :∀(md:M) (off:Nat) {ho:Option Nat} {x:md.den} {es us:List Value} {vs:List V} {O:List Nat} {K:md.den->Cmd α} {S:Sm}
  (hr:oI h ok md ho x es O) (hv:gy ⟨h,ok,m⟩ vs us)
  (hK:∀y,off+us.length<=es.length->oI h ok md ho y (aF off us es) O->(K y).post S Q),(a1v md off vs x K).post S Q
 | .dat t,off,ho,x,es,us,vs,O,K,S,hr,hv,hK=>by
  unfold a1v;refine fO λhf=>yF _ _ _ λhle=>?_;rw[oL]at hle;obtain⟨hr,rfl⟩:=hr;have hl:=fM hr;have hlv:=kP hv;have hnew:=yY (off:=off) hv (qj (C:=⟨h,ok,m⟩) hr);refine BI t hf hnew λy q vs1 vs2 e1 h1 l1=>?_;cases q with
  |cons _ _=>trivial|nil=>
  simp only[gy]at l1;subst l1;simp only[E5]at e1;subst e1;exact hK y l7 ⟨h1 _ _,rfl⟩
 | .pair p q,off,ho,x,es,us,vs,O,K,S,hr,hv,hK=>by
  unfold a1v;obtain⟨c,d,O1,O2,rfl,rfl,h1,h2⟩:=hr;have hc:=cZ h1;by_cases hlt:off<p.size
  .have hb:Nat.blt off p.size=true:=a2R hlt;simp only[hb,cond_true];refine Ls p off h1 hv λy hle e2=>?_;exact hK _ F9 ⟨_,d,O1,O2,Yg hle,rfl,e2,h2⟩
  .have hb:Nat.blt off p.size=false:=a2Q hlt;simp only[hb,cond_false];refine Ls q (off -p.size) h2 hv λy hle e2=>?_;refine hK _ F9 ⟨c,_,O1,O2,?_,rfl,h1,e2⟩;rw[VP l7 l7,hc]
 | .own _,_,_,_,_,_,_,_,_,_,_,_,_=>trivial| .owns _,_,_,_,_,_,_,_,_,_,_,_,_=>trivial| .unit,_,_,_,_,_,_,_,_,_,_,_,_=>trivial| .box _,_,_,_,_,_,_,_,_,_,_,_,_=>trivial| .ownb _,_,_,_,_,_,_,_,_,_,_,_,_=>trivial| .cell _,_,_,_,_,_,_,_,_,_,_,_,_=>trivial| .fr _,_,_,_,_,_,_,_,_,_,_,_,_=>trivial| .sbx _ _,_,_,_,_,_,_,_,_,_,_,_,_=>trivial| .sit,_,_,_,_,_,_,_,_,_,_,_,_=>trivial| .rp _,_,_,_,_,_,_,_,_,_,_,_,_=>trivial| .fn _ _,_,_,_,_,_,_,_,_,_,_,_,_=>trivial| .ifc _ _,_,_,_,_,_,_,_,_,_,_,_,_=>trivial
theorem a1C(i:Nat):SK none i=none:=rfl
theorem Qj{i o j:Nat}(h:j≠i):SK (some (i,o,k)) j=none:=by simp[SK,h]
theorem TP{i o:Nat} :SK (some (i,o,k)) i=some o:=by simp[SK]
theorem QY{C:Cx}{md:M}{xs:List md.den}{hole:Option (Nat×Nat×Option Nat)}{blk off len cap sz:Nat}{Os:List (List Nat)}(he:md.el=true)(hm:C.m n=some (.arr blk off len cap sz))
  (ha:zg C.h md.size (λi x es O=>oI C.h C.ok md (SK hole i) x es O) xs Os (.arr blk off len cap sz)) (hk:C.m.kid n=Os.flatten) (hh:Qk C md.size (.arr blk off len cap sz) hole):AL C n (.barrs md xs hole):=⟨he,_,Os,hm,⟨ha,hh⟩,hk⟩
theorem EX{j o2 idx off:Nat}(h:Va (some (j,o2,k)) idx off=true):j=idx/\o2=off:=by
 simp only[Va]at h;cases hb:Nat.beq o2 off<;>rw[hb]at h
 .cases h
 .exact⟨iI h,iI hb⟩
theorem a1P(H:FxOk X){S1:Sm}{m1:Mp}{ok1:Nat->Ty->Prop}{w0:World}(R:Rel X (CB*q) (CB*q+CB) S1 m1 ok1 a w)(hT:Tk X S1 m1 ok1 w Op)
  (hm:∀k l,m k=some l->m1 k=some l) (hok:∀b t,ok b t->ok1 b t) {v:V} {l:Loc} {ks:List Nat} {x:Value} (hv:v≠.undef)
  (ho:S9 (mF m1 (J9 q o.dst) l ks) (J9 q o.dst) v=Op) (hB:AL ⟨w.heap,ok1,mF m1 (J9 q o.dst) l ks⟩ (J9 q o.dst) v)
  (hx:l.view none x) {bx idx off:Nat} {md:M} {xs:List md.den} (hS:S1 (Z4+bx)= .barrs md xs (some (idx,off,none))) {blk o' len cap sz:Nat} (hmb:m1 bx=some (.arr blk o' len cap sz))
  (hc:dN w.heap blk (o' +idx*md.size+off) 1=some [x]) (hsz:sz=md.size)
  (run:(execOp a.eval o).run X.P w0= .ok (.value x) w):
  (uh (J9 q o.dst) v (Cmd.set (Z4+bx) (.barrs md xs (some (idx,off,some (J9 q o.dst)))) (dH X.E o.dst (.own (J9 q o.dst) none)))).post S1 (λ_ S' =>iK X (CB*q) (CB*q+CB) o a w0 m ok S'):=by
 refine qh λhn=>?_;have key:∀n,n=J9 q o.dst->CB*q<=n->n<CB*q+CB->∃R2:Rel X (CB*q) (CB*q+CB) (upd (upd S1 (Z4+n) v) (Z4+bx) (.barrs md xs (some (idx,off,some n)))) (mF m1 n l ks) ok1 a w,∀k l',m k=some l' ->mF m1 n l ks k=some l' :=by
  rintro n rfl h1 h2;obtain⟨R',_,hm'⟩:=R.adopt (T:=[]) hn h1 hv (by simpa using hT) (λb h=>by rw[ho]at h;exact h) (by rw[ho];exact hT.nodup) hB;rw[Nat.max_eq_left l7]at R';have hne:bx≠J9 q o.dst:=λe=>by have:=R.fresh _ h1 hn;rw[←e,hmb]at this;cases this
  have hS' :upd S1 (Z4+J9 q o.dst) v (Z4+bx)= .barrs md xs (some (idx,off,none)):=by rw[bu _ _ l7];exact hS
  have hb:=R'.box bx;rw[hS']at hb;obtain⟨hel,l0,Os,hm0,⟨ha,_⟩,hk⟩:=hb;have hmb' :=hm' _ _ hmb;simp only at hm0;rw[hmb']at hm0;cases hm0;refine⟨R'.mod (by rw[hS'];rfl) A7 rfl rfl rfl rfl (λ_ _=>rfl) ⟨hel,_,Os,hmb',⟨?_,?_⟩,hk⟩,λk l' h=>hm' k l' (hm k l' h)⟩
  .exact AZ (λ_ _=>rfl) (λi x es O _ hr=>hr) ha
  .exact⟨blk,o',len,cap,x,l,by rw[hsz],hc,ai _ _ _ _,hx⟩
 cases hd:o.dst with
 |none=>have hin:=qJ H (q:=q) none (λt h=>by cases h);obtain⟨R2,hm2⟩:=key (J9 q none) (by rw[hd]) hin.1 l7;have:=qY (o:=o) H R2 (m0:=m) (ok0:=ok) hm2 hok (v:=.own (J9 q none) none) ⟨l,ai _ _ _ _,hx⟩ run;rw[hd]at this;exact this
 |some t=>unfold dH;refine jf (dD λhb' =>?_);have hin:=qJ H (q:=q) (some t) (λt' h=>by cases h;exact(yD hb').1);obtain⟨R2,hm2⟩:=key (J9 q (some t)) (by rw[hd]) hin.1 l7;have:=qY (o:=o) H R2 (m0:=m) (ok0:=ok) hm2 hok (v:=.own (J9 q (some t)) none) ⟨l,ai _ _ _ _,hx⟩ run;rw[hd]at this;unfold dH at this;simp only[hb',cond_true]at this;exact this
theorem a6T(H:FxOk X)(R:Rel X (CB*q) (CB*q+CB) S m ok a w)(ho:o.op= .load t x):(aY X.E q o).post S (λ_ S' =>iK X (CB*q) (CB*q+CB) o a w m ok S'):=by
 unfold aY;simp only[ho];refine Z9 R λp hp=>?_;have plain:(Ik X.E t p λv=>dH X.E o.dst v).post S (λ_ S' =>iK X (CB*q) (CB*q+CB) o a w m ok S'):=by refine DJ H R hp λv u ad hv hx hr=>ay H R hv ?_;simp[execOp,ho,hx,Instr.loadAt,Instr.sureAddr,hr]
 unfold a8n;split
 .rename_i bx idx off;refine dm ?_;split
  .rename_i md xs hS;cases hown:md.ownAt off
   .simpa only[cond_false]using plain
   simp only[cond_true];refine kQ H λi hi=>fO λhi1=>?_;simp only[A8,aU]at hi1;obtain⟨hsz,hagg⟩:=hi1;have hsz:=iI hsz;have hp' :=hp;obtain⟨blk,o',len,cap,sz,hm,hlt,hx⟩:=hp;obtain⟨hel,l,Os,hm',⟨ha,hho⟩,hk⟩:=R.own_barrs hS;simp only at hm;rw[hm]at hm';cases hm';cases Aq (match o.dst with|some d=>d|none=>Z4) X.E.tk<;>simp only[cond_true,cond_false]
   .refine zT (T:=[]) (.sl md.ty) R Tk.nil (cs:=[.own bx none]) (vs:=[.slice (some ⟨blk,o',none⟩) len cap]) ⟨_,_,rfl,⟨_,hm,rfl⟩,rfl,rfl⟩ λS1 ok1 _ _ us us' R1 T1 k1 s1 e1 h1 l1=>?_;refine DJ H R1 (Hg k1 hp') λv u ad hv hx hr=>qY H R1 (λ_ _ h=>h) k1 hv ?_;simp[execOp,ho,hx,Instr.loadAt,Instr.sureAddr,hr]
   .refine gZ λe0 he0=>?_;obtain⟨rfl,rfl,h3,h7,c,T,hh,hs,hxs⟩:=ha;obtain⟨es,O,hO,he,hr⟩:=hxs idx e0 he0;refine Jg md off hr λv l2 ks u O1 Op O2 eO hr' hu hv hB hvu=>?_;refine jf ?_;have hOs:Os.flatten.Perm ((Os.set idx (O1++O2)).flatten++Op):=zA (by rw[hO,eO]);have hown0:S9 m bx (S (Z4+bx))=blk::Os.flatten:=by simp[S9,hS,hm,hk]
    have hown1:S9 (AY m bx (Os.set idx (O1++O2)).flatten) bx (.barrs md xs (some (idx,off,none)))=blk::(Os.set idx (O1++O2)).flatten:=by simp[S9,hm]
    have hnd:=R.nd bx;rw[hown0]at hnd;have hperm:(blk::Os.flatten).Perm ((blk::(Os.set idx (O1++O2)).flatten)++Op):=by simpa using hOs.cons blk
    have hnd' :=X8.1 (hperm.nodup_iff.1 hnd);have hB1:AL ⟨w.heap,ok,AY m bx (Os.set idx (O1++O2)).flatten⟩ bx (.barrs md xs (some (idx,off,none))):=by
     refine QY (Os:=Os.set idx (O1++O2)) hel hm ⟨rfl,rfl,h3,by simp[h7],c,T,hh,hs,λj z hz=>?_⟩ A7 trivial;by_cases hj:j=idx
     .subst hj;rw[show xs[j]? =some e0 from he0]at hz;cases hz;refine⟨es,O1++O2,?_,he,by simp only[TP];exact hr'⟩;rw[Y9,if_pos rfl,if_pos (by rw[h7];exact hlt)]
     .obtain⟨es2,O',hO2,he2,hr2⟩:=hxs j z hz;refine⟨es2,O',?_,he2,by simp only[Qj hj];exact hr2⟩;rw[Y9,if_neg (λe=>hj e.symm)];exact hO2
    obtain⟨R1,T1⟩:=R.modK (T:=[]) Tk.nil (n:=bx) (v:=.barrs md xs (some (idx,off,none))) (ks:=(Os.set idx (O1++O2)).flatten) (w' :=w) (T' :=Op) A7 (by rw[hown1];exact hnd'.1)
     (λb hb=> .inl (by rw[hown0];rw[hown1]at hb;exact hperm.mem_iff.2 (ig _ hb))) rfl rfl rfl rfl (λ_ _=>rfl) hB1 hnd'.2.1
     (λb hb=>⟨.inl (by rw[hown0];exact hperm.mem_iff.2 (kZ _ hb)),λh=>hnd'.2.2 b (by rw[hown1]at h;exact h) b hb rfl⟩)
    obtain⟨hB2,hB3,hB4⟩:=hB (AY m bx (Os.set idx (O1++O2)).flatten) (J9 q o.dst);have hlt2:=(aO.1 hu);have hle:off+1<=md.size:=by have:=cZ hr;have:=hlt2.1;omega
    have e:=yT he off i.size l7;have hr2:=uS hi w e;have h1:(es.drop off).take i.size=[u]:=by obtain⟨hlt3,rfl⟩:=hlt2;rw[hsz,Y8 hlt3];rfl
    refine a1P (ok:=ok) (m:=m) H R1 T1 (λ_ _ h=>h) (λ_ _ h=>h) hvu hB3 hB2 hv (by rw[lw]) hm (by rw[←h1,←hsz];exact e) rfl ?_;rw[h1,hagg]at hr2;simp[execOp,ho,hx,Instr.loadAt,Instr.sureAddr,hr2,KY]
  .rename_i md xs i2 o2 n2 hS;cases hown:md.ownAt off
   .simpa only[cond_false]using plain
   simp only[cond_true];refine kQ H λi hi=>fO λhi1=>⟨λhat=>?_,λ_=>trivial⟩;simp only[A8,aU]at hi1;obtain⟨hsz,hagg⟩:=hi1;have hsz:=iI hsz;obtain⟨e1,e2⟩:=EX hat
   subst e1;subst e2;obtain⟨blk,o',len,cap,sz,hm,hlt,hx⟩:=hp;obtain⟨hel,l,Os,hm',⟨ha,blk',off',len',cap',u,l',hl,hc,hmn,hvw⟩,hk⟩:=R.own_barrs hS;simp only at hm;rw[hm]at hm';cases hm';cases hl;have e:dN w.heap blk (o' +i2*md.size+o2) i.size=some [u]:=by rw[hsz];exact hc
   have hr2:=uS hi w e;rw[hagg]at hr2;refine ay H R (v:=.own n2 none) (x:=u) ⟨l',hmn,hvw⟩ ?_;simp[execOp,ho,hx,Instr.loadAt,Instr.sureAddr,hr2,KY]
  .exact plain
 .exact plain
theorem Ec{S' :Sm}{x y:Operand}{w' :World}{m' :Mp}{ok' :Nat->Ty->Prop}(ho:o.op= .store t x y)(hd:o.dst=none)(run:(Instr.storeAt t (a.eval x) (a.eval y)).run X.P w= .ok () w')
  (R:Rel X cl ch S' m' ok' a w') (hm:∀k l,m k=some l->m' k=some l) (hok:∀b t,ok b t->ok' b t):iK X cl ch o a w m ok S' :=by
 intro next Q hn
 unfold Oper.wp;have e:(execOp a.eval o).run X.P w= .ok .skip w' :=by simp[execOp,ho,run]
 rw[e,Oper.upon_skip,hd];exact hn m' ok' a w' R hm hok
theorem f_{u:α}(h:off<L.length):aF off [u] L=L.set off u:=by
 apply fC;intro i;rw[qQ F9,Y9];by_cases h1:i=off
 .subst h1;rw[if_neg l7,if_pos A7,if_pos rfl,if_pos h];simp
 .by_cases h2:i<off
  .rw[if_pos h2,if_neg l7]
  .rw[if_neg h2,if_neg F9,if_neg l7]
theorem a1t{u:Value}(h:u.oneCell' =true):u.cells.toList=[u]:=by cases u<;>simp[Value.oneCell',Value.cells]at*
theorem Rk{w:World}{blk o' sz len cap off idx:Nat}{c:Array Value}{T:TypeId}{f:Nat×Nat}(hh:w.heap[blk]? =some (.cells c T f))(hs:o' +cap*sz<=c.size)(hlc:len<=cap)(hlt:idx<len){us es:List Value}
  (he:dN w.heap blk (o' +idx*sz) sz=some es) (hf:off+us.length<=sz):
  o' +idx*sz+off+us.length<=c.size/\(aF (o' +idx*sz+off) us c.toList).length=c.size/\
  dN (w.setRow blk (aF (o' +idx*sz+off) us c.toList).toArray).heap blk (o' +idx*sz) sz=some (aF off us es)/\
  (∀j,j<len->j≠idx->dN (w.setRow blk (aF (o' +idx*sz+off) us c.toList).toArray).heap blk (o' +j*sz) sz=dN w.heap blk (o' +j*sz) sz):=by
 have hcap:(idx+1)*sz<=cap*sz:=G7 _ l7;rw[I7,aP]at hcap;have hfit:o' +idx*sz+off+us.length<=c.size:=l7;have hcl:c.toList.length=c.size:=A7;have hsp:(aF (o' +idx*sz+off) us c.toList).length=c.size:=by rw[tV (by rw[hcl];exact hfit)];exact hcl
 refine⟨hfit,hsp,?_,λj hj hne=>?_⟩
 .rw[FW hh _ _ _ (by rw[hsp];omega),Ho (by rw[hcl];omega) l7];obtain⟨c2,T2,f2,hb2,hn2,rfl⟩:=uw he;rw[hh]at hb2;cases hb2;rfl
 .have hcap' :(j+1)*sz<=cap*sz:=G7 _ l7;rw[I7,aP]at hcap';rw[FW hh _ _ _ (by rw[hsp];omega),lW hh _ _ l7,g_ (by rw[hcl];exact hfit)];rcases Nat.lt_or_gt_of_ne hne with hlt'|hgt
  .left;have:(j+1)*sz<=idx*sz:=G7 _ l7;rw[I7,aP]at this;omega
  .right;have:(idx+1)*sz<=j*sz:=G7 _ l7;rw[I7,aP]at this;omega
theorem NY{Q:Unit->Sm->Prop}(R:Rel X cl ch S m ok a w)(hT:Tk X S m ok w Op){i:TI}(hi:TiOk X.P t i)(h1:i.size=1){bx idx off:Nat}{md:M}{xs:List md.den}{hole:Option (Nat×Nat×Option Nat)}
  (hS:S (Z4+bx)= .barrs md xs hole) {blk o' len cap sz:Nat} (hm:m bx=some (.arr blk o' len cap sz)) {v:V} {u:Value} (hp:UA w.heap ok v u Op)
  (hK:∀S' m' w',Rel X cl ch S' m' ok a w' ->(∀k l,m k=some l->m' k=some l)->(storeVar t ⟨blk,o' +idx*sz+off,none⟩ u).run X.P w= .ok () w' ->Q () S'):
  (VR bx idx off md xs hole v (.ret ())).post S Q:=by
 unfold VR;refine⟨λhb=>?_,λ_=>trivial⟩;refine gZ λe0 he0=>?_;have he0' :xs[idx]? =some e0:=he0;obtain⟨hel,l,Os,hm',⟨ha,hho⟩,hk⟩:=R.own_barrs hS;rw[hm]at hm';cases hm';obtain⟨rfl,rfl,h3,h7,c,T,hh,hs,hxs⟩:=ha;obtain⟨es,O,hO,he,hr⟩:=hxs idx e0 he0';have hho:SK hole idx=none\/SK hole idx=some off:=by
  rcases hole with _|⟨j,o2,o3⟩
  .exact .inl rfl
  .obtain⟨e1,e2⟩:=EX hb;subst e1;subst e2;exact .inr TP
 have hho' :∀j,j≠idx->SK hole j=none:=λj hj=>by
  rcases hole with _|⟨j',o2,o3⟩
  .rfl
  .obtain⟨e1,_⟩:=EX hb;subst e1;exact Qj hj
 refine Mc hp md off hr hho hel λy O1 Old O2 eO hr' hoff=>jf ?_;have hlt:idx<xs.length:=(aO.1 he0').1;have hes:es.length=md.size:=cZ hr;have hu1:=hp.one;have huc:=a1t hu1;obtain⟨hfit,hsp,hnew,hold⟩:=Rk (us:=[u]) (off:=off) hh hs h3 hlt he F9;have run:=zF hi w (off:=o' +idx*md.size+off) hh (.inl rfl) (v:=u) (by have:=congrArg List.length huc;simp at this;omega) (by simpa[h1]using hfit) (by rw[huc];simp[hu1]);rw[huc]at run;generalize hw' :w.setRow blk (aF (o' +idx*md.size+off) [u] c.toList).toArray=w' at run hnew hold;have hrow:w'.heap[blk]? =some (.cells (aF (o' +idx*md.size+off) [u] c.toList).toArray T (0,0)):=by subst hw';exact setRow_heap w blk c _ T (0,0) hh
 have hoth:∀b,b≠blk->w'.heap[b]? =w.heap[b]?:=λb hb=>by subst hw';exact setRow_other w blk b _ hb
 have hsize:w'.heap.size=w.heap.size:=by subst hw';simp
 have hos:w'.os=w.os:=by subst hw';rfl
 have htp:w'.tape=w.tape:=by subst hw';rfl
 have hout:w'.output=w.output:=by subst hw';rfl
 have hO1:Os.flatten.Perm ((Os.set idx (O1++O2)).flatten++Old):=zA (by rw[hO,eO]);have hO2:(Os.set idx (O1++Op++O2)).flatten.Perm ((Os.set idx (O1++O2)).flatten++Op):=by have:=zA (Os:=Os.set idx (O1++Op++O2)) (i:=idx) (O1:=O1) (P:=Op) (O2:=O2) (by rw[Y9,if_pos rfl,if_pos (by rw[h7];exact hlt)]);rwa[List.set_set]at this
 have hown0:S9 m bx (S (Z4+bx))=blk::Os.flatten:=by simp[S9,hS,hm,hk]
 have hown1:S9 (AY m bx (Os.set idx (O1++Op++O2)).flatten) bx (.barrs md (wI xs idx y) none)=blk::(Os.set idx (O1++Op++O2)).flatten:=by simp[S9,hm]
 have hnd:=R.nd bx;rw[hown0]at hnd;have hnd0:=dF.1 hnd;have hndA:=X8.1 (hO1.nodup_iff.1 hnd0.2);have hfreeOp:∀b∈Op,b∉blk::Os.flatten:=λb hb h=>(hT.free b hb).2.2.2 bx (by rw[hown0];exact h);have hsubA:∀b∈(Os.set idx (O1++O2)).flatten,b∈Os.flatten:=λb hb=>hO1.mem_iff.2 (ig _ hb);have hneO:∀b∈Os.flatten,b≠blk:=λb hb e=>hnd0.1 (e▸hb);have hneP:∀b∈Op,b≠blk:=λb hb e=>hfreeOp b hb (by simp[e]);have hkeep:∀b t,ok b t->w'.heap[b]? =w.heap[b]?:=λb t hb=>hoth b (λe=>(R.sep bx blk (by rw[hown0];simp)).1 t (e▸hb));have hB:AL ⟨w'.heap,ok,AY m bx (Os.set idx (O1++Op++O2)).flatten⟩ bx (.barrs md (wI xs idx y) none):=by
  refine QY (Os:=Os.set idx (O1++Op++O2)) hel hm ⟨rfl,by simp[wI],h3,by simp[h7,wI],_,T,hrow,by simp[hsp];exact hs,λj z hz=>?_⟩ A7 trivial;unfold wI at hz;rw[Y9]at hz;split at hz
  .rename_i hj;subst hj;cases hz;refine⟨_,O1++Op++O2,by rw[Y9,if_pos rfl,if_pos (by rw[h7];exact hlt)],hnew,?_⟩;rw[f_ l7];refine jQ (λ_ _ h=>h) hkeep (λb hb=>hoth b ?_) hr';rcases I4.1 hb with hb|hb
   .rcases I4.1 hb with hb|hb
    .exact hneO b (bW.2 ⟨O,yw hO,by rw[eO];simp[hb]⟩)
    .exact hneP b hb
   .exact hneO b (bW.2 ⟨O,yw hO,by rw[eO];simp[hb]⟩)
  .rename_i hj;obtain⟨es2,O',hO2',he2,hr2⟩:=hxs j z hz;refine⟨es2,O',by rw[Y9,if_neg hj];exact hO2',by rw[←he2];exact hold j (aO.1 hz).1 (λe=>hj e.symm),?_⟩;simp only[a1C];rw[hho' j (λe=>hj e.symm)]at hr2;exact jQ (λ_ _ h=>h) hkeep (λb hb=>hoth b (hneO b (bW.2 ⟨O',yw hO2',hb⟩))) hr2
 have hmod:=R.modK hT (n:=bx) (v:=.barrs md (wI xs idx y) none) (ks:=(Os.set idx (O1++Op++O2)).flatten) (w' :=w') (T' :=[]) A7
  (by
   rw[hown1];refine dF.2 ⟨λh=>?_,hO2.nodup_iff.2 (X8.2 ⟨hndA.1,hT.nodup,λx hx z hz e=>?_⟩)⟩
   .rcases I4.1 (hO2.mem_iff.1 h)with h|h
    .exact hnd0.1 (hsubA _ h)
    .exact hneP _ h rfl
   .subst e;exact hfreeOp x hz (by simp[hsubA x hx]))
  (λb hb=>by
   rw[hown1]at hb;rw[hown0];rcases D6.1 hb with hb|hb
   .exact .inl (by simp[hb])
   .rcases I4.1 (hO2.mem_iff.1 hb)with h|h
    .exact .inl (by simp[hsubA _ h])
    .exact .inr h)
  hos htp hout hsize (λb hb=>hoth b (λe=>hb (by rw[hown0,e];simp))) hB dw (λb hb=>by cases hb)
 exact hK _ _ w' hmod.1 (λ_ _ h=>h) run
theorem a4e(H:FxOk X)(R:Rel X cl ch S m ok a w){x y:Operand}(ho:o.op= .store t x y):(aY X.E q o).post S (λ_ S' =>iK X cl ch o a w m ok S'):=by
 unfold aY;simp only[ho];cases hd:o.dst with
 |some d=>trivial|none=>
 refine Z9 R λp hp=>Z9 R λv hv=>?_;unfold a5I;refine kQ H λi hi=>?_;cases p<;>try trivial
 case ptr bx off=>
  obtain⟨blk,hm,hx⟩:=hp;refine dm ?_;split<;>try trivial
  rename_i cs hS;obtain⟨blk',arr,T,hm',hh,hl⟩:=R.own_cells hS;simp only at hm hm';rw[hm]at hm';cases hm';refine rO hv λvs hvs=>fO λhlen=>yF _ _ _ λhle=>jf ?_;have hlen' :=iI hlen;have hL:=kP hl;have hL2:=kP hvs;have hsz:(a.eval y).cells.size=i.size:=by simp at hL2;omega
  have hown:S9 m bx (S (Z4+bx))=[blk]:=by simp[S9,hS,hm]
  have hfit:off+i.size<=arr.size:=by simp at hL;omega
  have run:=zF hi w hh (.inl rfl) (v:=a.eval y) hsz hfit (KC hvs);refine Ec ho hd (w' :=w.setRow blk (aF off (a.eval y).cells.toList arr.toList).toArray) (by simp[Instr.storeAt,Instr.sureAddr,hx,run]) ?_ (λ_ _ h=>h) (λ_ _ h=>h);refine R.mod (by rw[hown];simp[S9,hm]) A7 rfl rfl rfl A7 (λb hb=>setRow_other w blk b _ (by rw[hown]at hb;simpa using hb)) ?_;refine⟨blk,_,T,hm,setRow_heap w blk arr _ T (0,0) hh,?_⟩;refine a9V (λb t hb=>setRow_other w blk b _ (λe=>(R.sep bx blk (by rw[hown];simp)).1 t (e▸hb))) ?_;simpa using yY hvs hl
 case ep bx ix off=>
  obtain⟨blk,o',len,cap,sz,hm,hlt,hx⟩:=hp;simp only at hm;refine dm ?_;split<;>try trivial
  .rename_i u xs hS;obtain⟨l,hm',ha⟩:=R.own_arr hS;rw[hm]at hm';cases hm';obtain⟨hE0,rfl,rfl,h3,c,T,f,hh,hz,hs,hxs⟩:=ha;refine gZ λe0 he0=>?_;obtain⟨es,he,hr⟩:=hxs ix e0 he0;refine rO hv λvs hvs=>fO λhlen=>yF _ _ _ λhle=>?_;rw[oL]at hle;have hlen' :=iI hlen;have hL2:=kP hvs;have hsz:(a.eval y).cells.size=i.size:=by simp at hL2;omega
   have hes:=oZ he;have hnew:=yY (off:=off) hvs (qj (C:=⟨w.heap,ok,m⟩) hr);refine zT (T:=[]) u R Tk.nil hnew λS1 ok1 y1 q1 us us' R1 T1 k1 s1 e1 h1 l1=>?_;cases q1 with
   |cons _ _=>trivial|nil=>
   simp only[gy]at l1;subst l1;simp only[E5]at e1;subst e1;refine dm ?_;split<;>try trivial
   rename_i u' xs' hS1;refine eQ λe=>?_;subst e;refine jf ?_;obtain⟨l,hm',ha⟩:=R1.own_arr hS1;rw[hm]at hm';cases hm';obtain⟨_,hszu,hlen2,h3',c',T',f',hh',hz',hs',hxs'⟩:=ha;rw[hh]at hh';cases hh';have hown:S9 m bx (S1 (Z4+bx))=[blk]:=by simp[S9,hS1,hm]
   have hvl:(a.eval y).cells.toList.length=i.size:=by simpa using hsz
   obtain⟨hfit,hsp,hnew2,hold⟩:=Rk (us:=(a.eval y).cells.toList) (off:=off) hh hs h3 hlt he (by rw[hvl];omega);have run:=zF hi w (off:=o' +ix*u'.size+off) hh hz.of (v:=a.eval y) hsz (by rw[hvl]at hfit;exact hfit) (KC hvs);refine Ec ho hd (w' :=w.setRow blk (aF (o' +ix*u'.size+off) (a.eval y).cells.toList c.toList).toArray) (by simp[Instr.storeAt,Instr.sureAddr,hx,run]) ?_ (λ_ _ h=>h) k1;refine R1.mod (by rw[hown];simp[S9,hm]) A7 rfl rfl rfl A7 (λb hb=>setRow_other w blk b _ (by rw[hown]at hb;simpa using hb)) ?_;have hkeep:∀b t,ok1 b t->(w.setRow blk (aF (o' +ix*u'.size+off) (a.eval y).cells.toList c.toList).toArray).heap[b]? =w.heap[b]?:=
    λb t hb=>setRow_other w blk b _ (λe=>(R1.sep bx blk (by rw[hown];simp)).1 t (e▸hb))
   refine⟨_,hm,hE0,rfl,by simp[wI,hlen2],h3,_,T,f,setRow_heap w blk c _ T f hh,by rw[ax,hsp];exact hz,by simp[hsp];exact hs,λj z hz=>?_⟩;unfold wI at hz;rw[Y9]at hz;split at hz
   .rename_i hj;subst hj;split at hz
    .cases hz;exact⟨_,hnew2,dM (λ_ _ h=>h) hkeep h1⟩
    .cases hz
   .rename_i hj;obtain⟨es2,he2,hr2⟩:=hxs' j z hz;have hj2:=(aO.1 hz).1;exact⟨_,(hold j (by rw[hlen2];exact hj2) (λe=>hj e.symm)).trans he2,dM (λ_ _ h=>h) hkeep hr2⟩
  .rename_i md xs hole hS;cases hcd:(md.ownAt off&&Nat.beq i.size 1&&!bz i.td)
   .simp only[cond_false];cases hole with
    |some _=>trivial|none=>
    refine rO hv λvs hvs=>fO λhlen=>gZ λe0 he0=>?_;have he0' :xs[ix]? =some e0:=he0;obtain⟨hel,l,Os,hm',⟨ha,hho⟩,hk⟩:=R.own_barrs hS;rw[hm]at hm';cases hm';obtain⟨rfl,rfl,h3,h7,c,T,hh,hs,hxs⟩:=ha;obtain⟨es,O,hO,he,hr⟩:=hxs ix e0 he0';refine Ls md off hr hvs λy1 hle hr' =>jf ?_;have hes:es.length=md.size:=cZ hr;have hlen' :=iI hlen;have hL2:=kP hvs;have hsz:(a.eval y).cells.size=i.size:=by simp at hL2;omega
    have hvl:(a.eval y).cells.toList.length=i.size:=by simpa using hsz
    obtain⟨hfit,hsp,hnew2,hold⟩:=Rk (us:=(a.eval y).cells.toList) (off:=off) hh hs h3 hlt he l7;have run:=zF hi w (off:=o' +ix*md.size+off) hh (.inl rfl) (v:=a.eval y) hsz (by rw[hvl]at hfit;exact hfit) (KC hvs);have hown:S9 m bx (S (Z4+bx))=blk::Os.flatten:=by simp[S9,hS,hm,hk]
    have hnd:=R.nd bx;rw[hown]at hnd;have hnd0:=dF.1 hnd;have hneO:∀b∈Os.flatten,b≠blk:=λb hb e=>hnd0.1 (e▸hb);refine Ec ho hd (w' :=w.setRow blk (aF (o' +ix*md.size+off) (a.eval y).cells.toList c.toList).toArray) (by simp[Instr.storeAt,Instr.sureAddr,hx,run]) ?_ (λ_ _ h=>h) (λ_ _ h=>h);have hkeep:∀b t,ok b t->(w.setRow blk (aF (o' +ix*md.size+off) (a.eval y).cells.toList c.toList).toArray).heap[b]? =w.heap[b]?:=
     λb t hb=>setRow_other w blk b _ (λe=>(R.sep bx blk (by rw[hown];simp)).1 t (e▸hb))
    refine R.mod (by rw[hown];simp[S9,hm,hk]) A7 rfl rfl rfl A7 (λb hb=>setRow_other w blk b _ (λe=>hb (by rw[hown,e];simp))) ?_;refine QY (Os:=Os) hel hm ⟨rfl,by simp[wI],h3,by simp[h7,wI],_,T,setRow_heap w blk c _ T (0,0) hh,by simp[hsp];exact hs,λj z hz=>?_⟩ hk trivial;unfold wI at hz;rw[Y9]at hz;split at hz
    .rename_i hj;subst hj;cases hz;exact⟨_,O,hO,hnew2,jQ (λ_ _ h=>h) hkeep (λb hb=>setRow_other w blk b _ (hneO b (bW.2 ⟨O,yw hO,hb⟩))) hr'⟩
    .rename_i hj;obtain⟨es2,O2,hO2,he2,hr2⟩:=hxs j z hz;have hj2:=(aO.1 hz).1;exact⟨_,O2,hO2,(hold j l7 (λe=>hj e.symm)).trans he2,jQ (λ_ _ h=>h) hkeep (λb hb=>setRow_other w blk b _ (hneO b (bW.2 ⟨O2,yw hO2,hb⟩))) hr2⟩
   .simp only[cond_true];simp only[A8,aU]at hcd;obtain⟨⟨_,hsz1⟩,_⟩:=hcd;have hsz1:=iI hsz1;have fin:∀{S' :Sm} {m' :Mp} {w' :World},Rel X cl ch S' m' ok a w' ->(∀k l,m k=some l->m' k=some l)->(storeVar t ⟨blk,o' +ix*sz+off,none⟩ (a.eval y)).run X.P w= .ok () w' ->iK X cl ch o a w m ok S' :=
     λR' hm' run=>Ec ho hd (by simp[Instr.storeAt,Instr.sureAddr,hx,run]) R' hm' (λ_ _ h=>h)
    split
    .have hv' :a.eval y= .slice none 0 0:=hv;exact NY (Op:=[]) R Tk.nil hi hsz1 hS hm (.inl ⟨rfl,hv',rfl⟩) (λS' m' w' R' h' run=>fin R' h' run)
    .rename_i b2;obtain⟨l2,hm2,hv2⟩:=hv;simp only at hm2;refine dm ?_;refine fO λharr=>jf (dm ?_);split<;>try trivial
     rename_i md2 xs2 hole2 hS2;have T1:=Tk.kill R (T:=[]) Tk.nil b2 (bs:=S9 m b2 (S (Z4+b2))) (λ_ h=>h) (R.nd b2);rw[H7]at T1;refine NY (R.kill b2) T1 hi hsz1 hS2 hm ?_ (λS' m' w' R' h' run=>fin R' h' run);cases hb2:S (Z4+b2)<;>rw[hb2]at harr<;>try cases harr
     .rename_i t2 ys;obtain⟨l',hm',ha'⟩:=R.own_arr hb2;rw[hm2]at hm';cases hm';refine .inr (.inl ⟨t2,ys,l2,rfl,hv2,EE ha',?_⟩);cases l2<;>first|(simp[S9,hm2,Loc.blks];done)|cases ha'
     .rename_i md3 ys hole3;obtain⟨hel3,l',Os,hm',⟨ha',hho⟩,hk'⟩:=R.own_barrs hb2;rw[hm2]at hm';cases hm';rcases hole3 with _|⟨p1,p2,p3⟩
      .refine .inr (.inr ⟨md3,ys,l2,Os,rfl,hel3,hv2,ha',?_⟩);cases l2<;>first|(simp[S9,hm2,Loc.blks,hk'];done)|cases ha'
      .cases harr
    .trivial
end
end Go.GP
namespace Go.GP
variable {t:TypeId}{q:Nat}{f:Nat}{P:Program}{j:TI}{x:Operand}{sz:Nat}{α:Type}
section
variable {X:Fx} {cl ch:Nat} {S:Sm} {m:Mp} {ok:Nat->Ty->Prop} {a:Act} {w:World} {o:Oper}
theorem BZ(H:FxOk X){t f off n:Nat}{ag:Bool}(h:ER X.E t f=some (off,n,ag)):
  ∃fields fld j,X.P.underlying t=some (.struct fields)/\fields[f]? =some fld/\fld.offset=off/\TiOk X.P fld.type j/\j.size=n/\n≠0/\ag=bz j.td:=by
 unfold ER at h;cases hi:dI X.E.tt t with
 |none=>simp[hi]at h|some i=>
  have Hi:=H.tt t i hi;have htd:=Hi.td;simp only[hi]at h;cases hd:i.td<;>simp only[hd]at h<;>try (simp at h;done)
  rename_i fs;rw[hd]at htd;obtain⟨fields,hu,hf⟩:=htd;cases hfs:fs[f]? with
  |none=>simp[hfs]at h|some x=>
   obtain⟨ft,off'⟩:=x;simp only[hfs]at h;cases hj:dI X.E.tt ft with
   |none=>simp[hj]at h|some j=>
    simp only[hj]at h;cases hb:Nat.beq j.size 0
    .simp only[hb,cond_false,G5,je]at h;obtain⟨rfl,rfl,rfl⟩:=h;rw[←hf]at hfs;simp only[dC,fQ]at hfs;obtain⟨fld,hfl,he⟩:=hfs;simp only[je]at he;obtain⟨rfl,rfl⟩:=he;refine⟨fields,fld,j,hu,by simpa using hfl,rfl,H.tt _ _ hj,rfl,λe=>?_,rfl⟩;rw[e]at hb;simp at hb
    .simp[hb]at h
theorem FT{t f off:Nat}{fields:Array Field}{fld:Field}(w:World)(hu:P.underlying t=some (.struct fields))(hf:fields[f]? =some fld)(ho:fld.offset=off)
  (hj:TiOk P fld.type j) (hn:j.size≠0) (b p:Nat):(Instr.fieldAt t (.pointer (some ⟨b,p,none⟩)) f).run P w= .ok (.pointer (some ⟨b,p+off,none⟩)) w:=by
 simp[Instr.fieldAt,run_underlying hu,hf,Instr.sureAddr,fieldPlace,pR hj,hn,gQ,ho]
theorem Vp(H:FxOk X)(R:Rel X cl ch S m ok a w)(ho:o.op= .fieldAddr t x f):(aY X.E q o).post S (λ_ S' =>iK X cl ch o a w m ok S'):=by
 unfold aY;simp only[ho];refine Z9 R λp hp=>?_;split<;>try trivial
 rename_i off n ag hfo;obtain⟨fields,fld,j,hu,hf,hoff,hj,hn,hn0,_⟩:=BZ H hfo;have hj0:j.size≠0:=l7;cases p<;>try trivial
 case ptr bx o' =>obtain⟨blk,h1,h2⟩:=hp;exact ay H R (v:=.ptr bx (o' +off)) ⟨blk,h1,rfl⟩ (by simp[execOp,ho,h2,FT w hu hf hoff hj hj0])
 case ep bx ix o' =>obtain⟨blk,o2,len,cap,sz,h1,h2,h3⟩:=hp;exact ay H R (v:=.ep bx ix (o' +off)) ⟨blk,o2,len,cap,sz,h1,h2,rfl⟩ (by simp[execOp,ho,h3,FT w hu hf hoff hj hj0,lZ])
 case dp u y o' =>obtain⟨blk,o2,es,h1,h2⟩:=hp;exact ay H R (v:=.dp u y (o' +off)) ⟨blk,o2,es,rfl,h2⟩ (by simp[execOp,ho,h1,FT w hu hf hoff hj hj0,lZ])
theorem a4a(H:FxOk X)(R:Rel X cl ch S m ok a w)(ho:o.op= .field t x f):(aY X.E q o).post S (λ_ S' =>iK X cl ch o a w m ok S'):=by
 unfold aY;simp only[ho];refine Z9 R λp hp=>?_;split<;>try trivial
 rename_i off n ag hfo;obtain⟨fields,fld,j,hu,hf,hoff,hj,hn,hn0,rfl⟩:=BZ H hfo;refine Ba hp λps us hg hl=>zS λhle=>?_;obtain⟨arr,hx,rfl⟩:=hg;have hL:=kP hl;have hlen:((arr.toList.drop off).take n).length=n:=by simp at hL ⊢;omega
 refine ay H R (yG (wU n (vJ off hl)) (λha=>by rw[hlen,←hn];exact hj.one ha)) ?_;have hpart:(part fld.type arr off).run X.P w= .ok (KY (bz j.td) ((arr.toList.drop off).take n)) w:=by
  unfold part;rw[G8,zQ hj.td];simp only[G9];cases ha:bz j.td
  .have h1:=hj.one ha;have hlt:off<arr.size:=by simp at hL;omega
   simp only[dV,if_false,KY];rw[show arr[off]? =some arr[off]from by simp[hlt]];have:n=1:=l7;subst this;simp[List.take_one,hlt]
  .simp only[if_true,KY,G8,pR hj,G9,hn,U8];congr 2;apply ku;simp[lY]
 simp[execOp,ho,hx,Instr.field,run_underlying hu,hf,asAgg,hoff,hpart]
theorem Dq(H:FxOk X){t n sz:Nat}(h:Dp X.E t=some (false,n,sz)):∃e j,X.P.underlying t=some (.slice e)/\TiOk X.P e j/\j.size=sz:=by
 unfold Dp at h;cases hi:dI X.E.tt t with
 |none=>simp[hi]at h|some i=>
  have htd:=(H.tt t i hi).td;simp only[hi]at h;cases hd:i.td<;>simp only[hd]at h<;>try (simp at h;done)
  .rename_i e;rw[hd]at htd;cases hj:dI X.E.tt e with
   |none=>simp[hj]at h|some j=>simp[hj]at h;exact⟨e,j,htd,H.tt _ _ hj,h.2⟩
  .rename_i l e;cases hj:dI X.E.tt e<;>simp[hj]at h
theorem YT(H:FxOk X){t n sz:Nat}(h:Dp X.E t=some (true,n,sz)):∃e j,X.P.underlying t=some (.array n e)/\TiOk X.P e j/\j.size=sz:=by
 unfold Dp at h;cases hi:dI X.E.tt t with
 |none=>simp[hi]at h|some i=>
  have htd:=(H.tt t i hi).td;simp only[hi]at h;cases hd:i.td<;>simp only[hd]at h<;>try (simp at h;done)
  .rename_i e;cases hj:dI X.E.tt e<;>simp[hj]at h
  .rename_i l e;rw[hd]at htd;cases hj:dI X.E.tt e with
   |none=>simp[hj]at h|some j=>simp[hj]at h;obtain⟨rfl,h⟩:=h;exact⟨e,j,htd,H.tt _ _ hj,h⟩
theorem Fa{l:List α}{n:Int}{y:α}(h:X0 l n=some y):0<=n/\l[n.toNat]? =some y/\n.toNat<l.length/\n<l.length:=by
 unfold X0 at h;split at h
 .rename_i h0;have:=(aO.1 h).1;exact⟨h0,h,this,l7⟩
 .cases h
theorem uQ{t e:TypeId}(w:World)(hu:P.underlying t=some (.slice e))(hj:TiOk P e j){k:IntKind}{n:Int}{b p len cap:Nat}(h0:0<=n)(hlt:n<len):
  (Instr.indexAt t (.slice (some ⟨b,p,none⟩) len cap) (.int k n)).run P w= .ok (.pointer (some ⟨b,p+n.toNat*j.size,none⟩)) w:=by
 simp[Instr.indexAt,asIntOf,run_underlying hu,h0,hlt,pR hj,gQ]
theorem KP{t e:TypeId}(w:World){len:Nat}(hu:P.underlying t=some (.array len e))(hj:TiOk P e j){k:IntKind}{n:Int}{b p:Nat}(h0:0<=n)(hlt:n<len):
  (Instr.indexAt t (.pointer (some ⟨b,p,none⟩)) (.int k n)).run P w= .ok (.pointer (some ⟨b,p+n.toNat*j.size,none⟩)) w:=by
 simp[Instr.indexAt,asIntOf,run_underlying hu,h0,hlt,pR hj,gQ,Instr.sureAddr]
theorem Dz{w:World}{r:Nat}{es:Array MapEntry}{ck:Nat}(hb:w.heap[r]? =some (.map es ck)):(getObj r).run P w= .ok (.map es ck) w:=by simp[getObj,Sem.run,hb]
theorem FX{u:Ty}(h:szB sz u=true):u.isEnt=false/\sz=u.size:=by
 unfold szB at h;cases hu:u.isEnt<;>rw[hu]at h
 .exact⟨rfl,iI h⟩
 .cases h
theorem a2z{C:Cx}{t:Ty}{xs:List t.den}{l:Loc}{vw:Option (Nat×Nat)}{v:Value}(h0:t.isEnt=false)(ha:arrOk C t xs l)(hv:l.view vw v){i:Nat}{y:t.den}(hy:(jk vw xs)[i]? =some y):
  ∃blk off len cap,l= .arr blk off len cap t.size/\xs[Xg vw+i]? =some y/\∃p c,v= .slice (some ⟨blk,p,none⟩) (jk vw xs).length c/\p+i*t.size=off+(Xg vw+i)*t.size:=by
 cases l with
 |nil=>obtain⟨ha,_⟩:=ha;subst ha;rcases vw with _|⟨lo,hi⟩<;>simp[jk,kN]at hy
 |st b=>cases ha|mp b=>exact absurd ha.1 (by simp[h0])|arr blk off len cap sz=>
  obtain⟨_,rfl,rfl,hc,_⟩:=ha;rcases vw with _|⟨lo,hi⟩
  .simp only[Loc.view]at hv;subst hv;exact⟨blk,off,_,cap,rfl,by simpa[Xg,jk]using hy,off,cap,rfl,by simp[Xg]⟩
  .obtain⟨h1,h2,rfl⟩:=hv;have hl:(jk (some (lo,hi)) xs).length=hi -lo:=by simp[jk,kN];omega
   have hi' :i<hi -lo:=by rw[←hl];exact(aO.1 hy).1
   have hx' :xs[lo+i]? =some y:=by
    simp only[jk,kN,U4,V9]at hy;split at hy
    .exact hy
    .cases hy
   have hne:cap≠lo:=l7;exact⟨blk,off,_,cap,rfl,hx',off+lo*t.size,cap -lo,by rw[hl];simp[hne],by simp[Xg,I7];omega⟩
theorem Vq(H:FxOk X)(R:Rel X cl ch S m ok a w){x ix:Operand}(ho:o.op= .indexAddr t x ix):(aY X.E q o).post S (λ_ S' =>iK X cl ch o a w m ok S'):=by
 unfold aY;simp only[ho];refine Z9 R λu hu=>Z9 R λv hv=>?_;unfold Qm;split<;>try trivial
 ·
  rename_i k n l sz hsz;obtain⟨e,j,hut,hj,hjs⟩:=Dq H hsz;have hix:=rH hv;cases u<;>try trivial
  case sl u xs=>refine dD λhb=>gZ λy hy=>?_;obtain⟨hE0,hb'⟩:=FX hb;obtain⟨h0,hget,hlt,hlt'⟩:=Fa hy;obtain⟨ad,cap,hx,hc,hel⟩:=(yH hE0).1 hu;simp only[G6,and_true]at hx;obtain⟨blk,off,es,rfl,hok,he,hr⟩:=hel _ y hget;refine ay H R (v:=.dp u y 0) (x:=.pointer (some ⟨blk,off+n.toNat*u.size,none⟩)) ⟨blk,off+n.toNat*u.size,es,rfl,hok,he,hr⟩ ?_;simp[execOp,ho,hx,hix,uQ w hut hj h0 hlt',hjs,hb']
  case own bx vw=>
   obtain⟨loc,hm,hview⟩:=hu;refine dm ?_;split
   .rename_i ln sz' hSl;split<;>try trivial
    refine fO λhb=>⟨λhin=>?_,λ_=>trivial⟩;have hb' :=iI hb;have hin' :=of_decide_eq_true (show decide (0<=n/\n<ln)=true from hin);have hbx:=R.box (Lc+bx);rw[hSl]at hbx;obtain⟨k',l',e,hm',hl⟩:=hbx;have e' :k' =bx:=l7;subst e';simp only at hm hm';rw[hm]at hm';cases hm';cases loc with
    |nil=>simp only at hl;omega|st b=>cases hl|mp b=>cases hl|arr blk off len cap sz2=>obtain⟨rfl,rfl⟩:=hl;simp only[Loc.view]at hview;refine ay H R (v:=.ep k' (jC n) 0) (x:=.pointer (some ⟨blk,off+n.toNat*sz',none⟩)) ⟨blk,off,len,cap,sz',hm,by unfold jC;omega,rfl⟩ ?_;simp[execOp,ho,hview,hix,uQ w hut hj hin'.1 hin'.2,hjs,hb']
   refine dm ?_;split<;>try trivial
   .rename_i u xs hS;refine dD λhb=>gZ λy hy=>?_;obtain⟨hE0,hb'⟩:=FX hb;obtain⟨h0,hget,hlt,hlt'⟩:=Fa hy;obtain⟨loc',hm',ha⟩:=R.own_arr hS;simp only at hm;rw[hm]at hm';cases hm';obtain⟨blk,off,len,cap,rfl,hx2,p,c,hvv,hp⟩:=a2z hE0 ha hview hget;have hlen:=ha.2.2.1;have hlt2:=(aO.1 hx2).1;rw[a6y];refine ay H R (v:=.ep bx (Xg vw+jC n) 0) (x:=.pointer (some ⟨blk,p+n.toNat*u.size,none⟩)) ⟨blk,off,len,cap,u.size,hm,by rw[hlen];exact hlt2,by rw[hp];rfl⟩ ?_;simp[execOp,ho,hvv,hix,uQ w hut hj h0 hlt',hjs,hb']
   .rename_i u xs hS;refine dD λhb=>gZ λy hy=>?_;obtain⟨hE0,hb'⟩:=FX hb;obtain⟨h0,hget,hlt,hlt'⟩:=Fa hy;obtain⟨loc',hm',ha,hok⟩:=R.own_frz hS;simp only at hm;rw[hm]at hm';cases hm';obtain⟨ad,cap,hx,hc,hel⟩:=(yH hE0).1 (pO (C:=⟨w.heap,ok,m⟩) ha hview (λ_ _ h=>h) hok);simp only[G6,and_true]at hx;obtain⟨blk,off,es,rfl,hok',he,hr⟩:=hel _ y hget;refine ay H R (v:=.dp u y 0) (x:=.pointer (some ⟨blk,off+n.toNat*u.size,none⟩)) ⟨blk,off+n.toNat*u.size,es,rfl,hok',he,hr⟩ ?_;simp[execOp,ho,hx,hix,uQ w hut hj h0 hlt',hjs,hb']
   .rename_i md xs hole hS;split<;>try trivial
    refine fO λhb=>gZ λy hy=>?_;have hb' :=iI hb;obtain⟨h0,hget,hlt,hlt'⟩:=Fa hy;obtain⟨hel,loc',Os,hm',⟨ha,hho⟩,hk⟩:=R.own_barrs hS;simp only at hm;rw[hm]at hm';cases hm';cases loc with
    |st b=>cases ha|mp b=>cases ha|nil=>obtain⟨e1,_⟩:=ha;subst e1;simp at hlt
    |arr blk off len cap sz' =>obtain⟨rfl,rfl,h3,_⟩:=ha;simp only[Loc.view]at hview;refine ay H R (v:=.ep bx (jC n) 0) (x:=.pointer (some ⟨blk,off+n.toNat*md.size,none⟩)) ⟨blk,off,xs.length,cap,md.size,hm,hlt,rfl⟩ ?_;simp[execOp,ho,hview,hix,uQ w hut hj h0 hlt',hjs,hb']
 ·
  rename_i k n l sz hsz;obtain⟨e,j,hut,hj,hjs⟩:=YT H hsz;have hix:=rH hv;cases u<;>try trivial
  case glob g=>
   cases hg:dI X.E.gl g with
   |none=>simp only[hg];trivial|some p=>
   obtain⟨u,xs⟩:=p;simp only[hg];refine dD λhb=>gZ λy hy=>?_;simp only[A8]at hb;have hb1:=iI hb.1;have hb2:=iI hb.2;obtain⟨h0,hget,hlt,hlt'⟩:=Fa hy;obtain⟨hok,_,hel⟩:=R.gl g _ hg;obtain⟨es,he,hr⟩:=hel _ y hget;have hx:a.eval x= .pointer (some ⟨g,0,none⟩):=hu;refine ay H R (v:=.dp u y 0) (x:=.pointer (some ⟨g,0+n.toNat*u.size,none⟩)) ⟨g,n.toNat*u.size,es,A7,hok,he,hr⟩ ?_;have:=KP w hut hj (k:=k) (b:=g) (p:=0) h0 (by rw[hb2];exact hlt');simp only[hjs,hb1]at this;simp[execOp,ho,hx,hix,this]
  case ptr bx off=>refine⟨λhin=>?_,λ_=>trivial⟩;have hin' :=of_decide_eq_true (show decide (0<=n/\n<(l:Int))=true from hin);obtain⟨blk,hm,hx⟩:=hu;refine ay H R (v:=.ptr bx (off+jC n*sz)) (x:=.pointer (some ⟨blk,off+n.toNat*sz,none⟩)) ⟨blk,hm,rfl⟩ ?_;have:=KP w hut hj (k:=k) (b:=blk) (p:=off) hin'.1 hin'.2;simp only[hjs]at this;simp[execOp,ho,hx,hix,this]
theorem a3E{α β:Type}{f:α->β}{args:Array α}{u:β}(h:args.toList.map f=[u]):∃y,args=#[y]/\f y=u:=by obtain⟨l⟩:=args;simp only[List.map_eq_cons_iff,List.map_eq_nil_iff]at h;obtain⟨y,r,h1,h2,h3⟩:=h;subst h3;exact⟨y,by rw[h1],h2⟩
theorem Qs{α β:Type}{f:α->β}{args:Array α}{u v:β}(h:args.toList.map f=[u,v]):∃y z,args=#[y,z]/\f y=u/\f z=v:=by obtain⟨l⟩:=args;simp only[List.map_eq_cons_iff,List.map_eq_nil_iff]at h;obtain⟨y,r,h1,h2,z,r',h3,h4,h5⟩:=h;subst h5;subst h3;exact⟨y,z,by rw[h1],h2,h4⟩
theorem a9P(H:FxOk X)(R:Rel X cl ch S m ok a w){c:Call}(ho:o.op= .call c)(hc:c.callee= .builtin .len):(aY X.E q o).post S (λ_ S' =>iK X cl ch o a w m ok S'):=by
 obtain⟨cal,args,ats⟩:=c;simp only at hc;subst hc;unfold aY;simp only[ho];refine lh R _ λvs hvs=>?_;split<;>try trivial
 rename_i t rt x hat
 obtain⟨u,r,he,hx,hr⟩:=hvs;simp only[iJ]at hr;subst hr;refine kQ H λi hi=>?_;have htd:=hi.td;obtain⟨y,rfl,rfl⟩:=a3E he;have h0:ats[0]? =some t:=by
  obtain⟨l⟩:=ats;simp only at hat
  simp[hat]
 have fin:∀(v:V) (n:Nat),lU ⟨w.heap,ok,m⟩ v (.int .i64 n)->(Builtin.len_ ats o.type #[a.eval y]).run X.P w= .ok (.int .i64 n) w->(dH X.E o.dst v).post S (λ_ S' =>iK X cl ch o a w m ok S'):=λv n hv h=>
  ay H R hv (by simp[execOp,ho,resolve,invoke,builtin,h])
 have mapLen:∀{ke e n:Nat},X.P.underlying t=some (.map ke e)->(∃mv,a.eval y= .map mv/\(mv=none->n=0)/\∀blk,mv=some blk->∃es ck,w.heap[blk]? =some (.map es ck)/\es.size=n)->
   (dH X.E o.dst (.i .i64 n)).post S (λ_ S' =>iK X cl ch o a w m ok S'):=λ{ke e n} hu ⟨mv,hv,h1,h2⟩=>by
  refine fin _ n rfl ?_;cases mv with
  |none=>rw[h1 rfl];simp[Builtin.len_,h0,run_underlying hu,hv,goInt]|some blk=>obtain⟨es,ck,h3,h4⟩:=h2 blk rfl;simp[Builtin.len_,h0,run_underlying hu,hv,goInt,Dz h3,h4]
 unfold b2a;split<;>try trivial
 .rename_i l htd';rw[htd']at htd;refine fin _ l.length rfl ?_;simp[Builtin.len_,h0,run_underlying (show X.P.underlying t=some .string from htd),FH hx,goInt];rfl
 .rename_i e u xs htd';rw[htd']at htd;cases hE0:u.isEnt
  .simp only[cond_false];obtain⟨ad,cap,hv,_⟩:=(yH hE0).1 hx;simp only[G6,and_true]at hv;refine fin _ xs.length rfl ?_;simp[Builtin.len_,h0,run_underlying (show X.P.underlying t=some (.slice e)from htd),hv,goInt]
  .trivial
 .rename_i ke e u xs htd';rw[htd']at htd;cases hE0:u.isEnt
  .trivial
  .simp only[cond_true];refine mapLen htd ?_;obtain⟨mv,hv,h1,h2⟩:=(ZI hE0).1 hx;exact⟨mv,by simpa using hv,(λe=>by simp[h1 e]),λblk hb=>by obtain⟨_,es,ck,h3,h4,_⟩:=h2 blk hb;exact⟨es,ck,h3,h4⟩⟩
 .rename_i ke e bx htd';rw[htd']at htd;obtain⟨loc,hm,hview⟩:=hx;simp only at hm;refine dm ?_;have key:∀{u:Ty} {xs:List u.den},u.isEnt=true->arrOk ⟨w.heap,ok,m⟩ u xs loc->(dH X.E o.dst (.i .i64 (x9 xs))).post S (λ_ S' =>iK X cl ch o a w m ok S'):=λ{u xs} hE0 ha=>by
   refine mapLen htd ?_;cases loc with
   |nil=>exact absurd ha.2 (by simp[hE0])|st b=>cases ha|arr blk off len cap sz=>exact absurd ha.1 (by simp[hE0])|mp b=>simp only[Loc.view]at hview;obtain⟨_,es,ck,h3,h4,_⟩:=ha;exact⟨some b,hview,(λh=>nomatch h),λblk hb=>by cases hb;exact⟨es,ck,h3,h4⟩⟩
  split<;>try trivial
  .rename_i u xs hS;obtain⟨loc',hm',ha⟩:=R.own_arr hS;rw[hm]at hm';cases hm';cases hE0:u.isEnt
   .trivial
   .exact key hE0 ha
  .rename_i u xs hS;obtain⟨loc',hm',ha,_⟩:=R.own_frz hS;rw[hm]at hm';cases hm';cases hE0:u.isEnt
   .trivial
   .exact key hE0 ha
 .rename_i e htd';rw[htd']at htd;have hv:a.eval y= .slice none 0 0:=hx;refine fin _ 0 rfl ?_;simp[Builtin.len_,h0,run_underlying (show X.P.underlying t=some (.slice e)from htd),hv,goInt]
 .rename_i e bx vw htd';rw[htd']at htd;obtain⟨loc,hm,hview⟩:=hx;refine dm ?_;split
  .rename_i ln sz' hSl;split<;>try trivial
   have hbx:=R.box (Lc+bx);rw[hSl]at hbx;obtain⟨k',l',e',hm',hl⟩:=hbx;have e2:k' =bx:=l7;subst e2;simp only at hm hm';rw[hm]at hm';cases hm';cases loc with
   |nil=>simp only at hl;subst hl;simp only[Loc.view]at hview;refine fin _ 0 rfl ?_;simp[Builtin.len_,h0,run_underlying (show X.P.underlying t=some (.slice e)from htd),hview,goInt]|st b=>cases hl|mp b=>cases hl|arr blk off len cap sz2=>obtain⟨rfl,rfl⟩:=hl;simp only[Loc.view]at hview;refine fin _ len rfl ?_;simp[Builtin.len_,h0,run_underlying (show X.P.underlying t=some (.slice e)from htd),hview,goInt]
  refine dm ?_;have key:∀{u:Ty} {xs:List u.den},u.isEnt=false->arrOk ⟨w.heap,ok,m⟩ u xs loc->(dH X.E o.dst (.i .i64 (x9 (jk vw xs)))).post S (λ_ S' =>iK X cl ch o a w m ok S'):=λ{u xs} hE0 ha=>by obtain⟨ad,cap,hv,_⟩:=(yH hE0).1 (pO (C:=⟨w.heap,ok,m⟩) (ok' :=λ_ _=>True) ha hview (λ_ _ _=>trivial) (λ_ _=>trivial));simp only[G6,and_true]at hv;refine fin _ (jk vw xs).length rfl ?_;simp[Builtin.len_,h0,run_underlying (show X.P.underlying t=some (.slice e)from htd),hv,goInt]
  split<;>try trivial
  .rename_i u xs hS;obtain⟨loc',hm',ha⟩:=R.own_arr hS;simp only at hm;rw[hm]at hm';cases hm';cases hE0:u.isEnt
   .exact key hE0 ha
   .trivial
  .rename_i u xs hS;obtain⟨loc',hm',ha,_⟩:=R.own_frz hS;simp only at hm;rw[hm]at hm';cases hm';cases hE0:u.isEnt
   .exact key hE0 ha
   .trivial
  .rename_i md xs hole hS;split<;>try trivial
   obtain⟨hel,loc',Os,hm',⟨ha,hho⟩,hk⟩:=R.own_barrs hS;simp only at hm;rw[hm]at hm';cases hm';cases loc with
   |st b=>cases ha|mp b=>cases ha|nil=>obtain⟨e1,_⟩:=ha;subst e1;simp only[Loc.view]at hview;refine fin _ 0 rfl ?_;simp[Builtin.len_,h0,run_underlying (show X.P.underlying t=some (.slice e)from htd),hview,goInt]
   |arr blk off len cap sz' =>obtain⟨rfl,rfl,h3,_⟩:=ha;simp only[Loc.view]at hview;refine fin _ xs.length rfl ?_;simp[Builtin.len_,h0,run_underlying (show X.P.underlying t=some (.slice e)from htd),hview,goInt]
theorem Ud(H:FxOk X)(R:Rel X cl ch S m ok a w){c:Call}(ho:o.op= .call c)(hc:c.callee= .builtin .min\/c.callee= .builtin .max):(aY X.E q o).post S (λ_ S' =>iK X cl ch o a w m ok S'):=by
 obtain⟨cal,args,ats⟩:=c;simp only at hc;rcases hc with rfl|rfl
 all_goals
  unfold aY;simp only[ho];refine lh R _ λvs hvs=>?_;split<;>try trivial
  rename_i k p k' r;obtain⟨u,r',he,hx,v,r'',he',hy,hr⟩:=hvs;simp only[iJ]at hr;subst hr;rw[he']at he;refine dD λhk=>?_;have hk' :k=k' :=of_decide_eq_true hk;subst hk';obtain⟨y,z,rfl,rfl,rfl⟩:=Qs he
 .refine ay H R (v:=.i k (zk p r)) rfl ?_;simp[execOp,ho,resolve,invoke,builtin,Builtin.min_,Builtin.min2,rH hx,rH hy,zk]
 .refine ay H R (v:=.i k (zi p r)) rfl ?_;simp[execOp,ho,resolve,invoke,builtin,Builtin.max_,Builtin.max2,rH hx,rH hy,zi]
end
end Go.GP
namespace Go.GP
def Bnd(d:Int)(o:Option Value)(n:Int):Prop:=(o=none/\n=d)\/∃k,o=some (.int k n)
theorem AV{P:Program}{w:World}{isS:Bool}{len cap:Nat}{lo hi:Option Value}{x y:Int}(hlo:Bnd 0 lo x)(hhi:Bnd len hi y)(h0:0<=x)(h1:x<=y)(h2:y<=len)(hc:len<=cap):
  (Instr.sliceBounds isS len cap lo hi none).run P w= .ok (x.toNat,y.toNat,cap) w:=by
 have hyc:y<=cap:=l7;have hy0:0<=y:=l7;have e:((y.toNat:Nat):Int)=y:=l7;rcases hlo with⟨rfl,rfl⟩|⟨k,rfl⟩<;>rcases hhi with⟨rfl,rfl⟩|⟨k',rfl⟩
 .simp[Instr.sliceBounds]
 .simp[Instr.sliceBounds,Instr.sliceBound,asIntOf,hy0,hyc]
 .simp[Instr.sliceBounds,Instr.sliceBound,asIntOf,h0,h1]
 .simp[Instr.sliceBounds,Instr.sliceBound,asIntOf,hy0,hyc,h0,e,h1]
theorem TY{α:Type}{l r:List α}{x y:Int}(h:bQ l x y=some r):0<=x/\x<=y/\y<=l.length/\r=(l.take y.toNat).drop x.toNat:=by
 unfold bQ at h;split at h
 .rename_i hh;cases h;exact⟨hh.1,hh.2.1,hh.2.2,rfl⟩
 .cases h
theorem Su(l:List UInt8)(x y:Nat):(⟨l.toArray⟩:ByteArray).extract x y=⟨((l.take y).drop x).toArray⟩:=by apply ByteArray.ext;apply ku;simp[ByteArray.data_extract,lY,gq]
theorem a7m{h:Array Obj}{ok:Nat->Ty->Prop}{t:Ty}(ht:t.isEnt=false){xs:List t.den}{ad:Option Addr}{cap:Nat}{x y:Nat}(hr:kU h ok (.sl t) xs [.slice ad xs.length cap])(h1:x<=y)(h2:y<=xs.length):
  kU h ok (.sl t) ((xs.take y).drop x) [.slice (if cap=x then ad else ad.map (·.add (x*t.size))) (y -x) (cap -x)]:=by
 obtain⟨ad',cap',e,hc,hel⟩:=(yH ht).1 hr;simp only[G6,Value.slice.injEq,and_true,true_and]at e;obtain⟨rfl,rfl⟩:=e;have hl:((xs.take y).drop x).length=y -x:=by simp;omega
 refine(yH ht).2 ⟨_,cap -x,by rw[hl],by rw[hl];omega,λi z hz=>?_⟩;have hi:i<y -x:=by rw[←hl];exact(aO.1 hz).1
 have hz' :xs[x+i]? =some z:=by
  simp only[U4,V9]at hz;split at hz
  .exact hz
  .cases hz
 obtain⟨blk,off,es,rfl,hb,he,hrp⟩:=hel _ z hz';have hne:cap≠x:=l7;refine⟨blk,off+x*t.size,es,by simp[hne,gQ],hb,?_,hrp⟩;rw[←he];congr 1;rw[I7];omega
section
variable {X:Fx} {cl ch:Nat} {S:Sm} {m:Mp} {ok:Nat->Ty->Prop} {a:Act} {w:World} {o:Oper}
theorem ut{C:Cx}{d n:Int}{v:Option V}{u:Option Value}(h:yg d v=some n)(hr:(v=none/\u=none)\/∃c x,v=some c/\u=some x/\lU C c x):Bnd d u n:=by
 rcases hr with⟨rfl,rfl⟩|⟨c,x,rfl,rfl,hr⟩
 .simp[yg]at h;subst h;exact .inl ⟨rfl,rfl⟩
 .cases c<;>simp[yg]at h;subst h;exact .inr ⟨_,by rw[rH hr]⟩
theorem BG(H:FxOk X)(R:Rel X cl ch S m ok a w){t:TypeId}{x:V}{u:Value}{lo hi:Option V}{lv hv:Option Value}(hx:lU ⟨w.heap,ok,m⟩ x u)
  (hlo:(lo=none/\lv=none)\/∃c y,lo=some c/\lv=some y/\lU ⟨w.heap,ok,m⟩ c y) (hhi:(hi=none/\hv=none)\/∃c y,hi=some c/\hv=some y/\lU ⟨w.heap,ok,m⟩ c y)
  {K:V->Cmd Unit} {Q:Unit->Sm->Prop} (hK:∀v z,lU ⟨w.heap,ok,m⟩ v z->(Instr.sliceAt t u lv hv none).run X.P w= .ok z w->(K v).post S Q):(MX X.E t x lo hi K).post S Q:=by
 unfold MX;cases x<;>try trivial
 case s l=>
  refine kQ H λi hi' =>?_;have htd:=hi'.td;split<;>try trivial
  rename_i p q htd' hp hq;rw[htd']at htd;refine gZ λr hr=>?_;obtain⟨h0,h1,h2,rfl⟩:=TY hr;have hb:=AV (P:=X.P) (w:=w) (isS:=false) (cap:=l.length) (ut hp hlo) (ut hq hhi) h0 h1 h2 (C9 _);refine hK (.s _) (.string ⟨((l.take q.toNat).drop p.toNat).toArray⟩) rfl ?_;have hus:X.P.underlying t=some .string:=htd;have hs:(⟨l.toArray⟩:ByteArray).size=l.length:=rfl;simp[Instr.sliceAt,run_underlying hus,Instr.slice,FH hx,hs,hb,Su]
 case sl v l=>
  dsimp only;split<;>try trivial
  rename_i n sz p q hsz hp hq;obtain⟨e,j,hut,hj,hjs⟩:=Dq H hsz;refine dD λhbq=>gZ λr hr=>?_;obtain⟨hE0,hbq'⟩:=FX hbq;obtain⟨h0,h1,h2,rfl⟩:=TY hr;have hx' :kU w.heap ok (.sl v) l [u]:=hx;obtain⟨ad,cap,hu,hc,_⟩:=(yH hE0).1 hx';simp only[G6,and_true]at hu;subst hu;have hb:=AV (P:=X.P) (w:=w) (isS:=true) (cap:=cap) (ut hp hlo) (ut hq hhi) h0 h1 h2 hc;refine hK (.sl v _) _ (a7m hE0 (x:=p.toNat) (y:=q.toNat) hx' l7 l7) ?_;simp[Instr.sliceAt,run_underlying hut,Instr.slice,hb,pR hj,hjs,hbq']
 case own bx vw=>
  cases vw with
  |some _=>trivial|none=>
  obtain⟨loc,hm,hview⟩:=hx;refine dm ?_;have key:∀{v:Ty} {xs:List v.den} {n sz:Nat} {p q:Int},arrOk ⟨w.heap,ok,m⟩ v xs loc->Dp X.E t=some (false,n,sz)->yg 0 lo=some p->yg (x9 xs) hi=some q->
    (bif szB sz v then Cmd.br (mJ p q (x9 xs)) (K (.own bx (some (jC p,jC q)))) .fail else .fail).post S Q:=λ{v xs n sz p q} ha hsz hp hq=>by
   obtain⟨e,j,hut,hj,hjs⟩:=Dq H hsz;refine dD λhbq=>⟨λhr=>?_,λ_=>trivial⟩;obtain⟨hE0,hbq'⟩:=FX hbq;have hr' :=of_decide_eq_true (show decide (0<=p/\p<=q/\q<=x9 xs)=true from hr);obtain⟨h0,h1,h2⟩:=hr';have h2' :q<=(xs.length:Int):=h2;cases loc with
   |st b=>cases ha|mp b=>exact absurd ha.1 (by simp[hE0])|nil=>
    obtain⟨ha,_⟩:=ha;subst ha;simp only[Loc.view]at hview;subst hview;have h2'' :q<=((0:Nat):Int):=by simpa using h2'
    have hb:=AV (P:=X.P) (w:=w) (isS:=true) (len:=0) (cap:=0) (ut hp hlo) (by have:=ut hq hhi;simpa[x9]using this) h0 h1 h2'' (C9 _);have ep:p=0:=l7;have eq:q=0:=l7;subst ep;subst eq;refine hK (.own bx (some (jC 0,jC 0))) (.slice none 0 0) ⟨.nil,hm,rfl,rfl,rfl⟩ ?_;simp[Instr.sliceAt,run_underlying hut,Instr.slice,hb,pR hj]
   |arr blk off len cap sz' =>
    obtain⟨_,rfl,rfl,hc,_⟩:=ha;simp only[Loc.view]at hview;subst hview;have hb:=AV (P:=X.P) (w:=w) (isS:=true) (cap:=cap) (ut hp hlo) (ut hq hhi) h0 h1 h2' hc;refine hK (.own bx (some (jC p,jC q))) _ ⟨_,hm,by unfold jC;omega,by unfold jC;omega,rfl⟩ ?_;have e1:(if cap=p.toNat then some (⟨blk,off,none⟩:Addr)else some ⟨blk,off+p.toNat*v.size,none⟩)=some (if cap=p.toNat then⟨blk,off,none⟩else⟨blk,off+p.toNat*v.size,none⟩):=by split<;>rfl
    simp[Instr.sliceAt,run_underlying hut,Instr.slice,hb,pR hj,hjs,hbq',gQ,jC,e1];by_cases ecp:cap=p.toNat<;>simp[ecp]
  split<;>try trivial
  .rename_i v xs hS;obtain⟨loc',hm',ha⟩:=R.own_arr hS;simp only at hm;rw[hm]at hm';cases hm';split<;>try trivial
   rename_i n sz p q hsz hp hq;exact key ha hsz hp hq
  .rename_i v xs hS;obtain⟨loc',hm',ha,_⟩:=R.own_frz hS;simp only at hm;rw[hm]at hm';cases hm';split<;>try trivial
   rename_i n sz p q hsz hp hq;exact key ha hsz hp hq
theorem a2a(H:FxOk X)(R:Rel X cl ch S m ok a w){t:TypeId}{x:Operand}{lo hi:Option Operand}{q:Nat}(ho:o.op= .slice t x lo hi none)
  (hA:∀bx,lo=none->hi=none->lU ⟨w.heap,ok,m⟩ (.ptr bx 0) (a.eval x)->(RG X.E (J9 q o.dst) t bx λr=>dH X.E o.dst r).post S (λ_ S' =>iK X cl ch o a w m ok S')):(aY X.E q o).post S (λ_ S' =>iK X cl ch o a w m ok S'):=by
 unfold aY;simp only[ho];refine Z9 R λv hv=>lh R _ λbs hbs=>?_;split<;>try trivial
 .split
  .exact hA _ rfl rfl hv
  refine BG H R (lv:=none) (hv:=none) hv (.inl ⟨rfl,rfl⟩) (.inl ⟨rfl,rfl⟩) λr z hr hz=>ay H R hr ?_;simp[execOp,ho,hz]
 .rename_i l c;obtain⟨y,r,he,h1,h2⟩:=hbs;simp only[iJ]at h2;subst h2;simp at he;subst he;refine BG H R (lv:=some (a.eval l)) (hv:=none) hv (.inr ⟨_,_,rfl,rfl,h1⟩) (.inl ⟨rfl,rfl⟩) λr z hr hz=>ay H R hr ?_;simp[execOp,ho,hz]
 .rename_i h c;obtain⟨y,r,he,h1,h2⟩:=hbs;simp only[iJ]at h2;subst h2;simp at he;subst he;refine BG H R (lv:=none) (hv:=some (a.eval h)) hv (.inl ⟨rfl,rfl⟩) (.inr ⟨_,_,rfl,rfl,h1⟩) λr z hr hz=>ay H R hr ?_;simp[execOp,ho,hz]
 .rename_i l h c d;obtain⟨y,r,he,h1,y',r',he',h2,h3⟩:=hbs;simp only[iJ]at h3;subst h3;subst he';simp at he;obtain⟨rfl,rfl⟩:=he;refine BG H R (lv:=some (a.eval l)) (hv:=some (a.eval h)) hv (.inr ⟨_,_,rfl,rfl,h1⟩) (.inr ⟨_,_,rfl,rfl,h2⟩) λr z hr hz=>ay H R hr ?_;simp[execOp,ho,hz]
end
end Go.GP
