import Derived.ProofKit
import Derived.Below
import Derived.Defers
import Derived.Laws.CopyRow
import Derived.Laws.BytesArg
import Derived.Laws.Cells
import Derived.Laws.Append
import Derived.Laws.Strings
import Derived.Lib.SmallJoins
set_option linter.all false
namespace Go.GP
abbrev c2f:Type:=List UInt8
abbrev c2g:Type:=List Int
abbrev c2h:Type:=List Value
abbrev c2i:Type:=List Nat
abbrev c2j:Type:=Option Bool
abbrev c2k:Type:=Option Int
variable {p:Prop}
theorem o5(h:p:=by omega):p:=h
theorem A8(h:p:=by simp):p:=h
theorem I8(h:p:=by decide):p:=h
theorem az(h:p:=by simp;omega):p:=h
theorem D8:True:=trivial
def V6:=@List.take_succ_eq_append_getElem
def Y2:=@List.take_append_of_le_length
def iW:=@Array.getElem?_setIfInBounds
def X4:=@Array.getD_eq_getD_getElem?
def H7:=@Array.getElem?_eq_some_iff
def jr:=@Array.toList_setIfInBounds
def J4:=@List.getElem?_append_right
def fG:=@Array.getElem?_append_left
def nV:=@List.findSome?_eq_none_iff
def S9:=@List.getElem?_append_left
def aW:=@List.drop_eq_getElem_cons
def jI:=@List.extract_eq_take_drop
def N7:=@Array.getElem?_eq_getElem
def au:=@List.mem_or_eq_of_mem_set
def V4:=@List.getElem?_take_of_lt
def aN:=@List.getElem?_cons_zero
def af:=@List.length_eq_zero_iff
def bK:=@Option.map_eq_some_iff
def aV:=@List.drop_eq_nil_of_le
def U2:=@List.take_of_length_le
def bW:=@List.mem_append_right
def mg:=@List.Perm.append_left
def fM:=@List.perm_append_comm
def Y1:=@Array.getElem?_toList
def fO:=@List.take_append_drop
def mD:=@List.set_append_right
def P5:=@Nat.le_of_ble_eq_true
def jd:=@Array.getElem?_modify
def fK:=@List.getElem?_eq_none
def bV:=@List.length_filter_le
def je:=@List.findSome?_append
def mi:=@List.countP_le_length
def X6:=@List.mem_append_left
def P9:=@List.mem_cons_of_mem
def F8:=@Nat.mul_le_mul_right
def mY:=@MapKept.run_checkKey
def jQ:=@Value.pointer.injEq
def iy:=@List.flatten_append
def jO:=@Array.toList_append
def Y5:=@List.getElem_of_mem
def Y4:=@Array.length_toList
def eQ:=@List.map_congr_left
def jP:=@Int.toNat_of_nonneg
def N8:=@List.length_append
def L6:=@List.getElem?_drop
def U1:=@List.getElem?_take
def dP:=@List.mem_cons_self
def dR:=@List.mem_singleton
def dh:=@Bool.false_eq_true
def fE:=@Nat.eq_zero_or_pos
def dU:=@List.zip_cons_cons
def di:=@Nat.lt_of_lt_of_le
def U6:=@List.pairwise_cons
def J6:=@List.nodup_append
def aZ:=@Bool.not_eq_true'
def G7:=@List.append_assoc
def F5:=@Option.some.injEq
def lI:=@Value.slice.injEq
def G5:=@Result.andThen_ok
def aI:=@List.ext_getElem?
def I7:=@List.getElem?_set
def X5:=@List.size_toArray
def dF:=@List.getElem?_map
def lH:=@List.zip_nil_left
def lF:=@Function.comp_def
def lC:=@Array.size_append
def eP:=@List.length_range
def lG:=@Int.toNat_natCast
def gu:=@List.any_eq_false
def lD:=@Bool.not_eq_false
def W9:=@List.mem_flatten
def o9:=@Bool.and_eq_true
def Y6:=@List.cons_append
def G8:=@List.length_cons
def jw:=@Array.toList_map
def jy:=@List.ext_getElem
def jA:=@List.range'_succ
def aT:=@List.length_take
def aU:=@List.take_length
def fB:=@List.length_drop
def iq:=@Nat.le_add_right
def ik:=@List.all_eq_true
def L8:=@List.getElem_mem
def fC:=@Option.bind_some
def jB:=@Option.getD_some
def fA:=@List.filter_cons
def xA:=@List.drop_length
def qC:=@Bool.not_eq_true
def mV:=@List.any_eq_true
def H5:=@List.mem_append
def G6:=@List.append_nil
def bi:=@Nat.le_max_left
def F6:=@List.nil_append
def E8:=@List.cons.injEq
def kw:=@Oper.upon_value
def iQ:=@Bool.eq_iff_iff
def bM:=@List.length_nil
def V9:=@List.nodup_cons
def yI:=@Nat.max_eq_left
def iT:=@Option.some.inj
def bn:=@Nat.min_eq_left
def dG:=@List.map_append
def ak:=@List.foldl_cons
def iR:=@List.length_set
def U5:=@List.length_map
def bP:=@Option.map_some
def ed:=@List.range_succ
def jZ:=@Bool.or_eq_true
def ku:=@List.mem_filter
def rf:=@List.any_append
def eU:=@List.drop_take
def dN:=@List.take_take
def V8:=@List.drop_drop
def aY:=@List.nodup_nil
def jl:=@List.drop_zero
def dM:=@List.mem_range
def C9:=@List.mem_cons
def dJ:=@Nat.add_assoc
def dI:=@List.map_cons
def eH:=@Addr.mk.injEq
def N9:=@List.cons.inj
def mF:=@Nat.lt_irrefl
def iH:=@Prod.mk.injEq
def jH:=@Bool.true_and
def pR:=@List.any_cons
def iG:=@Bool.not_true
def jG:=@Bool.false_or
def jg:=@Nat.sub_self
def jf:=@List.map_nil
def U0:=@Sem.run_pure
def E9:=@Sem.run_bind
def aj:=@Nat.add_zero
def dW:=@Addr.add_lit
def bU:=@Nat.zero_add
def qJ:=@List.mem_map
def aJ:=@Nat.le_trans
def D9:=@Nat.le_refl
def H8:=@Nat.add_mul
def bT:=@Nat.zero_le
def oH:=@Int.le_refl
def aK:=@Nat.mul_one
def ax:=@Nat.one_mul
def Z4:=@Nat.blt_eq
def iE:=@Array.ext'
def yX:=@Int.not_le
def um:=@Prod.ext
variable {i:Nat}
theorem aF{α:Type _}{l:List α}{a:α} :l[i]? =some a↔∃h:i<l.length,l[i]=a:=List.getElem?_eq_some_iff
theorem iP{α:Type _}{l:List α}(h:i<l.length):l[i]? =some l[i]:=List.getElem?_eq_getElem h
theorem bQ{n m:Nat}(h:Nat.beq n m=true):n=m:=Nat.eq_of_beq_eq_true h
theorem kW{α:Type _}{l:List α}{a:α}(h:l[i]? =some a):a∈l:=List.mem_of_getElem? h
theorem NK{α:Type _}{l:List α}{a:α} :l.getD i a=l[i]?.getD a:=List.getD_eq_getElem?_getD
universe u
set_option linter.unusedVariables false
inductive Ty where
 |bool|int (k:IntKind)|str|sl (t:Ty)|prod (a b:Ty)|unit|ent (ka va:Bool) (k v:Ty)|any (o:Option IntKind)
def tbb(a b:Bool):Bool:=bif a then b else !b
theorem a0f:∀{a b:Bool},tbb a b=true->a=b:=by decide
theorem YY:∀(a:Bool),tbb a a=true:=by decide
def Ty.beq:Ty->Ty->Bool
 | .bool,b=>match b with| .bool=>true|_=>false
 | .int k,b=>match b with| .int k' =>decide (k=k')|_=>false
 | .str,b=>match b with| .str=>true|_=>false
 | .sl t,b=>match b with| .sl u=>Ty.beq t u|_=>false
 | .prod p q,b=>match b with| .prod p' q' =>bif Ty.beq p p' then Ty.beq q q' else false|_=>false
 | .unit,b=>match b with| .unit=>true|_=>false
 | .any o,b=>match b with| .any o' =>decide (o=o')|_=>false
 | .ent x y p q,b=>match b with| .ent x' y' p' q' =>bif tbb x x' &&tbb y y' then(bif Ty.beq p p' then Ty.beq q q' else false)else false|_=>false
theorem Ty.beq_eq:∀{a b:Ty},Ty.beq a b=true->a=b
 | .bool,b,h=>by cases b<;>first|rfl|cases h
 | .int k,b,h=>by cases b<;>first|(cases h;done)|(rename_i k';have:=of_decide_eq_true (show decide (k=k')=true from h);subst this;rfl)
 | .str,b,h=>by cases b<;>first|rfl|cases h
 | .sl t,b,h=>by cases b<;>first|(cases h;done)|(rename_i u;have:=Ty.beq_eq (show Ty.beq t u=true from h);subst this;rfl)
 | .prod p q,b,h=>by
  cases b<;>try (cases h;done)
  rename_i p' q';cases hp:Ty.beq p p'
  .have h' :(bif Ty.beq p p' then Ty.beq q q' else false)=true:=h;rw[hp]at h';cases h'
  .have h' :(bif Ty.beq p p' then Ty.beq q q' else false)=true:=h;rw[hp]at h';rw[Ty.beq_eq hp,Ty.beq_eq (show Ty.beq q q' =true from h')]
 | .unit,b,h=>by cases b<;>first|rfl|cases h
 | .any o,b,h=>by cases b<;>first|(cases h;done)|(rename_i o';have:=of_decide_eq_true (show decide (o=o')=true from h);subst this;rfl)
 | .ent x y p q,b,h=>by
  cases b<;>try (cases h;done)
  rename_i x' y' p' q';have h0:(bif tbb x x' &&tbb y y' then(bif Ty.beq p p' then Ty.beq q q' else false)else false)=true:=h;cases hx:tbb x x'<;>cases hy:tbb y y'<;>rw[hx,hy]at h0<;>try (cases h0;done)
  cases hp:Ty.beq p p'<;>rw[hp]at h0
  .cases h0
  .rw[a0f hx,a0f hy,Ty.beq_eq hp,Ty.beq_eq (show Ty.beq q q' =true from h0)]
theorem Ty.beq_refl:∀(a:Ty),Ty.beq a a=true
 | .bool=>rfl| .int k=>by show decide (k=k)=true;simp| .str=>rfl| .sl t=>Ty.beq_refl t| .prod p q=>by show(bif Ty.beq p p then Ty.beq q q else false)=true;rw[Ty.beq_refl p,Ty.beq_refl q];rfl| .unit=>rfl| .any o=>by show decide (o=o)=true;simp| .ent x y p q=>by show(bif tbb x x&&tbb y y then(bif Ty.beq p p then Ty.beq q q else false)else false)=true;rw[YY,YY,Ty.beq_refl p,Ty.beq_refl q];rfl
instance:DecidableEq Ty:=λa b=>match h:Ty.beq a b with
 |true=> .isTrue (Ty.beq_eq h)|false=> .isFalse (λe=>by subst e;rw[Ty.beq_refl]at h;cases h)
@[reducible] def Ty.den:Ty->Type
 | .bool=>Bool| .int _=>Int| .str=>c2f| .sl t=>List t.den| .prod a b=>a.den×b.den| .unit=>Unit| .any _=>Unit| .ent _ _ a b=>a.den×b.den
def Ty.isEnt:Ty->Bool| .ent ..=>true|_=>false
def Ty.size:Ty->Nat
 | .bool| .int _| .str| .sl _=>1| .prod a b=>a.size+b.size| .unit=>0| .any _=>1| .ent _ _ a b=>a.size+b.size
def Ty.flat:Ty->Bool
 | .bool| .int _| .str| .unit=>true| .sl _=>false| .prod a b=>a.flat&&b.flat
 | .ent ..=>false| .any _=>false
def Ty.zero:(t:Ty)->t.den
 | .bool=>false| .int _=>(0:Int)| .str=>[]| .sl _=>[]| .prod a b=>(a.zero,b.zero)| .unit=>()| .any _=>()| .ent _ _ a b=>(a.zero,b.zero)
inductive M where
 |dat (t:Ty)|own (t:Ty)|pair (a b:M)|unit|box (m:M)
 |owns (el:M)|ownb (t:Ty)|rp (t:Ty)|fn (f:Nat) (ts:List Ty)|ifc (t:Nat) (m:M)|cell (n:Option c2j)|fr (t:Ty)|sbx (tb te:Nat)|sit|lp (t:Ty)|dv (k off sz fo:Nat)|ownr (m:M) (o:Nat)
def M.beq:M->M->Bool
 | .dat t,b=>match b with| .dat u=>Ty.beq t u|_=>false
 | .own t,b=>match b with| .own u=>Ty.beq t u|_=>false
 | .pair p q,b=>match b with| .pair p' q' =>bif M.beq p p' then M.beq q q' else false|_=>false
 | .unit,b=>match b with| .unit=>true|_=>false
 | .owns m,b=>match b with| .owns m' =>M.beq m m'|_=>false
 |_,_=>false
theorem M.beq_eq:∀{a b:M},M.beq a b=true->a=b
 | .dat t,b,h=>by cases b<;>first|(cases h;done)|(rename_i u;have:=Ty.beq_eq (show Ty.beq t u=true from h);subst this;rfl)
 | .own t,b,h=>by cases b<;>first|(cases h;done)|(rename_i u;have:=Ty.beq_eq (show Ty.beq t u=true from h);subst this;rfl)
 | .pair p q,b,h=>by
  cases b<;>try (cases h;done)
  rename_i p' q';cases hp:M.beq p p'
  .have h' :(bif M.beq p p' then M.beq q q' else false)=true:=h;rw[hp]at h';cases h'
  .have h' :(bif M.beq p p' then M.beq q q' else false)=true:=h;rw[hp]at h';rw[M.beq_eq hp,M.beq_eq (show M.beq q q' =true from h')]
 | .unit,b,h=>by cases b<;>first|rfl|cases h
 | .owns m,b,h=>by cases b<;>first|(cases h;done)|(rename_i u;have:=M.beq_eq (show M.beq m u=true from h);subst this;rfl)
 | .box _,b,h=>by cases h| .ownb _,b,h=>by cases h| .rp _,b,h=>by cases h| .fn _ _,b,h=>by cases h| .ifc _ _,b,h=>by cases h| .cell _,b,h=>by cases h| .fr _,b,h=>by cases h| .sbx _ _,b,h=>by cases h| .lp _,b,h=>by cases h| .dv ..,b,h=>by cases h| .sit,b,h=>by cases h| .ownr ..,b,h=>by cases h
@[reducible] def OI:List Ty->Type
 |[]=>Unit|[t]=>t.den|t::t' ::r=>t.den×OI (t' ::r)
@[reducible] def M.den:M->Type
 | .dat t=>t.den| .own t=>List t.den| .pair a b=>a.den×b.den| .unit=>Unit| .box m=>m.den| .owns el=>List el.den| .ownb t=>List t.den| .rp t=>t.den| .fn _ ts=>OI ts| .ifc _ m=>m.den| .cell _=>Unit| .fr t=>List t.den| .sbx _ _=>c2f| .sit=>c2f×Int| .lp t=>t.den| .dv ..=>Unit| .ownr m _=>List m.den×Int
def M.size:M->Nat
 | .dat t=>t.size| .own _=>1| .pair a b=>a.size+b.size| .unit=>0| .box _=>1| .owns _| .ownb _| .rp _| .fn _ _| .ifc _ _| .cell _| .fr _| .sbx _ _| .sit| .lp _| .dv ..| .ownr ..=>1
def M.el:M->Bool
 | .unit=>true| .dat t| .own t=> !t.isEnt| .owns m=>m.el| .pair a b=>a.el&&b.el|_=>false
def M.ty:M->Ty
 | .dat t=>t| .own t=> .sl t| .owns m=> .sl m.ty| .pair a b=> .prod a.ty b.ty|_=> .unit
theorem M.denEq:∀(m:M),m.el=true->m.den=m.ty.den
 | .dat _,_=>rfl| .own _,_=>rfl| .unit,_=>rfl| .owns m,h=>congrArg List (M.denEq m h)| .pair a b,h=>by
  have h' :a.el=true/\b.el=true:=by simpa[M.el]using h
  show(a.den×b.den)=(a.ty.den×b.ty.den);rw[M.denEq a h'.1,M.denEq b h'.2]
 | .box _,h=>by simp[M.el]at h| .ownb _,h=>by simp[M.el]at h| .rp _,h=>by simp[M.el]at h| .fn _ _,h=>by simp[M.el]at h| .ifc _ _,h=>by simp[M.el]at h| .cell _,h=>by simp[M.el]at h| .fr _,h=>by simp[M.el]at h| .sbx _ _,h=>by simp[M.el]at h| .lp _,h=>by simp[M.el]at h| .dv ..,h=>by simp[M.el]at h| .sit,h=>by simp[M.el]at h| .ownr ..,h=>by simp[M.el]at h
def M.zero:(m:M)->m.el=true->m.den
 |m,h=>cast (M.denEq m h).symm m.ty.zero
abbrev MG:=Bool×M
@[reducible] def Y7:List MG->Type
 |[]=>Unit|[m]=>m.2.den|m::m' ::r=>m.2.den×Y7 (m' ::r)
inductive V where
 |undef
 |un
 |b (x:Bool)|i (k:IntKind) (n:Int)|s (l:c2f)
 |nl
 |sl (t:Ty) (xs:List t.den)
 |own (bx:Nat) (vw:Option (Nat×Nat))
 |ptr (bx off:Nat)
 |ep (bx idx off:Nat)
 |dp (t:Ty) (x:t.den) (off:Nat)
 |agg (cs:List V)|tup (cs:List V)
 |glob (g:Nat)|fnv (f:Nat)|idl (f n:Nat)|clos (f:Nat) (caps:List ((t:Ty)×t.den))|ifc (t:Nat) (v:V)
 |bcells (cs:List V)|barr (t:Ty) (xs:List t.den)|bfrz (t:Ty) (xs:List t.den)|biter (l:c2f) (pos:Int)
 |barrs (el:M) (xs:List el.den) (hole:Option (Nat×Nat×Option Nat))|bfc (t:Ty) (x:t.den)
 |barrp (el:M) (xs:List el.den) (n:Int) (o:Nat)
 |dead|gone (t:Ty)|blen (n:Int) (sz:Nat)
 |ne (b:Bool)
 |npt|bsb (tb:Nat) (c:V)|brow (te:Nat) (xs:c2f)
variable {α:Type}{β:Type}
def l9(o:Option α)(f:α->Option β):Option β:=match o with|some x=>f x|none=>none
def l7(b:Bool)(x y:α):α:=match b with|true=>x|false=>y
def F9(a b:Int):Bool:=decide (a<b)
def U4(a b:Int):Bool:=decide (a<=b)
def x9(a b:Int):Bool:=decide (a=b)
def Ak(a b:Bool):Bool:=a==b
def E5(a:Bool):Bool:=!a
def eY(a b:Bool):Bool:=a&&b
def seq(a b:c2f):Bool:=decide (a=b)
def slt(a b:c2f):Bool:=Op.bytesLess a b
def wrap(k:IntKind)(n:Int):Int:=k.wrap n
def D7(k:IntKind)(a b:Int):Int:=k.wrap (a+b)
def O0(k:IntKind)(a b:Int):Int:=k.wrap (a -b)
def kZ(k:IntKind)(a b:Int):Int:=k.wrap (a*b)
def iO(k:IntKind)(a b:Int):Int:=k.wrap (a.tdiv b)
def qA(a b:Int):Int:=a.tmod b
def Vg(k:IntKind)(a b:Int):c2k:=if b=0 then none else some (k.wrap (a.tdiv b))
def a0H(a b:Int):c2k:=if b=0 then none else some (a.tmod b)
def a1F(k:IntKind)(a b:Int):Int:=k.wrap (BitVec.ofInt k.bits a&&& BitVec.ofInt k.bits b).toNat
def ior(k:IntKind)(a b:Int):Int:=k.wrap (BitVec.ofInt k.bits a ||| BitVec.ofInt k.bits b).toNat
def a3a(k:IntKind)(a b:Int):Int:=k.wrap (BitVec.ofInt k.bits a^^^BitVec.ofInt k.bits b).toNat
def a0F(k:IntKind)(a b:Int):Int:=k.wrap (BitVec.ofInt k.bits a&&& ~~~(BitVec.ofInt k.bits b)).toNat
def a6M(k:IntKind)(a b:Int):Int:=k.wrap (a*2^(min b.toNat k.bits))
def qB(k:IntKind)(a b:Int):Int:=a.fdiv (2^(min b.toNat k.bits))
def XO(k:IntKind)(a b:Int):c2k:=if b<0 then none else some (a6M k a b)
def a0I(k:IntKind)(a b:Int):c2k:=if b<0 then none else some (qB k a b)
def yH(a b:Int):Int:=if b<a then b else a
def ul(a b:Int):Int:=if a<b then b else a
def o8(l:List α):Int:=l.length
def bz(a b:c2f):Option c2f:=if a.length+b.length<=4611686018427387904 then some (a++b)else none
def nX(a b:Nat):Bool:=Nat.beq a b
def inb(i n:Int):Bool:=decide (0<=i/\i<n)
def J7(l:List α)(i:Int):Option α:=if 0<=i then l[i.toNat]? else none
def Ey(l:c2f)(p:Int):Int:=((Utf8.decode ⟨l.toArray⟩ p.toNat).1:Int)
def Iw(l:c2f)(p:Int):Int:=p+((Utf8.decode ⟨l.toArray⟩ p.toNat).2:Int)
def sat(l:c2f)(i:Int):c2k:=if 0<=i then(l[i.toNat]?).map (λc=>(c.toNat:Int))else none
def X0(l:List α)(i:Nat):Option α:=l[i]?
def ay(l:List α)(i:Nat)(x:α):List α:=l.set i x
def jS(l:List α)(lo hi:Int):Option (List α):=if 0<=lo/\lo<=hi/\hi<=l.length then some ((l.take hi.toNat).drop lo.toNat)else none
def jK(l:List α)(lo hi:Nat):List α:=(l.take hi).drop lo
def mM(lo hi n:Int):Bool:=decide (0<=lo/\lo<=hi/\hi<=n)
def LH(xs ys:List α):List α:=ys.take xs.length++xs.drop ys.length
def bu(xs ys:List α):Option (List α):=if xs.length+ys.length<=1073741824 then some (xs++ys)else none
def yJ(n:Int)(x:α):Option (List α):=if 0<=n/\n<=1073741824 then some (List.replicate n.toNat x)else none
def P6(i:Int):Nat:=i.toNat
def GH(i:Int):Int:=i+1
def c2d(n:Int):UInt8:=UInt8.ofNat n.toNat
def a2J(l:c2g):c2f:=l.map c2d
def Ur(l:c2f):c2g:=l.map λc=>(c.toNat:Int)
def a0R{α β:Type}(eq:α->α->Bool):List (α×β)->α->β->β
 |[],_,z=>z|p::r,k,z=>bif eq k p.1 then p.2 else a0R eq r k z
def a0S{α β:Type}(eq:α->α->Bool):List (α×β)->α->Bool
 |[],_=>false|p::r,k=>bif eq k p.1 then true else a0S eq r k
def a0U{α β:Type}(eq:α->α->Bool):List (α×β)->α->β->List (α×β)
 |[],k,x=>[(k,x)]|p::r,k,x=>bif eq k p.1 then(k,x)::r else p::a0U eq r k x
def a6Q(eq:α->α->Bool)(l:List (α×β))(k:α)(z:β):β:=a0R eq l k z
def a6R(eq:α->α->Bool)(l:List (α×β))(k:α):Bool:=a0S eq l k
def a1K(eq:α->α->Bool)(l:List (α×β))(k:α)(x:β):List (α×β):=a0U eq l k x
def keq:(t:Ty)->t.den->t.den->Bool
 | .bool=>λa b=>Ak a b
 | .int _=>λa b=>x9 a b
 | .str=>λa b=>seq a b
 | .prod p q=>λa b=>eY (keq p a.1 b.1) (keq q a.2 b.2)
 |_=>λ_ _=>true
def a6L{α:Type}(eq:α->α->Bool):List α->List α->Bool
 |[],[]=>true|a::r,b::q=>eq a b&&a6L eq r q|_,_=>false
def Rn:(t:Ty)->t.den->t.den->Bool
 | .bool=>λa b=>tbb a b
 | .int _=>λa b=>decide (a=b)
 | .str=>λa b=>decide (a=b)
 | .sl t=>λa b=>a6L (Rn t) a b
 | .prod p q=>λa b=>Rn p a.1 b.1&&Rn q a.2 b.2
 | .unit=>λ_ _=>true
 | .any _=>λ_ _=>true
 | .ent _ _ p q=>λa b=>Rn p a.1 b.1&&Rn q a.2 b.2
def deq(t:Ty)(a b:t.den):Bool:=Rn t a b
inductive Out (σ ε ρ:Type) where
 |nx (s:σ)|ex (e:ε)|rt (r:ρ)
variable {σ:Type}{ε:Type}
def U3(o:σ⊕ε)(f:σ->α)(g:ε->α):α:=match o with| .inl s=>f s| .inr e=>g e
def kK{σ ε ρ:Type}(f:σ->Option (Out σ ε ρ)):Nat->σ->Option (ε⊕ρ)
 |0,_=>none
 |n+1,s=>match f s with
  |some (.nx s')=>kK f n s'|some (.ex e)=>some (.inl e)|some (.rt r)=>some (.inr r)|none=>none
def Fb{σ ε:Type}(f:σ->Option (σ⊕ε)):Nat->σ->Option ε
 |0,_=>none
 |n+1,s=>match f s with
  |some (.inl s')=>Fb f n s'|some (.inr e)=>some e|none=>none
def mf:Nat:=18446744073709551616
variable {ρ:Type}
def O6(f:σ->Option (Out σ ε ρ))(s:σ):Option (ε⊕ρ):=kK f mf s
def dH(f:σ->Option (σ⊕ε))(s:σ):Option ε:=Fb f mf s
inductive Cmd (α:Type):Type 1 where
 |ret (x:α)
 |fail
 |get (k:Nat) (c:V->Cmd α)
 |set (k:Nat) (v:V) (c:Cmd α)
 |opt {β:Type} (o:Option β) (c:β->Cmd α)
 |br (b:Bool) (c d:Cmd α)
inductive Ent where
 |kv (k:Nat) (v:V)|mask (lo hi:Nat)
abbrev St:=List Ent
def cO:St->Nat->V
 |[],_=> .undef| .kv k v::r,n=>bif Nat.beq k n then v else cO r n| .mask lo hi::r,n=>bif Nat.ble lo n&&Nat.blt n hi then .undef else cO r n
abbrev Tr:=c2i×c2i
variable {R:Type}
def V.force(v:V)(K:V->R):R:=
 match v with
 | .undef=>K .undef| .un=>K .un| .b x=>K (.b x)
 | .i k n=>match k with
  | .i8=>K (.i .i8 n)| .i16=>K (.i .i16 n)| .i32=>K (.i .i32 n)| .i64=>K (.i .i64 n)| .u8=>K (.i .u8 n)| .u16=>K (.i .u16 n)| .u32=>K (.i .u32 n)| .u64=>K (.i .u64 n)
 | .s l=>K (.s l)| .nl=>K .nl| .ne z=>K (.ne z)| .sl t xs=>K (.sl t xs)
 | .own bx vw=>match vw with|none=>K (.own bx none)|some p=>K (.own bx (some p))
 | .ptr bx off=>K (.ptr bx off)| .ep bx idx off=>K (.ep bx idx off)| .dp t x off=>K (.dp t x off)| .agg cs=>K (.agg cs)| .tup cs=>K (.tup cs)| .glob g=>K (.glob g)| .fnv f=>K (.fnv f)| .idl f n=>K (.idl f n)| .clos f bs=>K (.clos f bs)
 | .ifc t v=>v.force λv=>K (.ifc t v)
 | .barrs t xs h=>match h with|none=>K (.barrs t xs none)|some (p1,p2,p3)=>match p3 with|none=>K (.barrs t xs (some (p1,p2,none)))|some p3=>K (.barrs t xs (some (p1,p2,some p3)))
 | .bfc t x=>K (.bfc t x)| .barrp m xs n o=>K (.barrp m xs n o)| .bcells cs=>K (.bcells cs)| .barr t xs=>K (.barr t xs)| .bfrz t xs=>K (.bfrz t xs)| .biter l p=>K (.biter l p)| .dead=>K .dead| .gone t=>K (.gone t)| .blen n sz=>K (.blen n sz)| .npt=>K .npt
 | .bsb tb c=>c.force λc=>K (.bsb tb c)| .brow te xs=>K (.brow te xs)
def NJ{R:Type} :List V->(List V->R)->R
 |[],K=>K []
 |v::r,K=>v.force λv' =>NJ r λr' =>K (v' ::r')
def V.force2(v:V)(K:V->R):R:=
 v.force λv=>match v with
  | .agg cs=>NJ cs λcs=>K (.agg cs)
  | .bcells cs=>NJ cs λcs=>K (.bcells cs)
  | .tup cs=>NJ cs λcs=>K (.tup cs)|v=>K v
def Cmd.runK :Cmd α->St->Tr->(α->St->Tr->Option R)->Option R
 | .ret x,s,t,K=>K x s t| .fail,_,_,_=>none
 | .get k c,s,t,K=>(cO s k).force λv=>(c v).runK s (k::t.1,t.2) K
 | .set k v c,s,t,K=>v.force2 λv=>c.runK (.kv k v::s) (t.1,k::t.2) K
 | .opt o c,s,t,K=>l9 o λx=>(c x).runK s t K| .br b c d,s,t,K=>l7 b (c.runK s t K) (d.runK s t K)
def Cmd.bind :Cmd α->(α->Cmd β)->Cmd β
 | .ret x,f=>f x| .fail,_=> .fail
 | .get k c,f=> .get k λv=>(c v).bind f| .set k v c,f=> .set k v (c.bind f)
 | .opt o c,f=> .opt o λx=>(c x).bind f| .br b c d,f=> .br b (c.bind f) (d.bind f)
inductive TD where
 |bool|int (k:IntKind)|str
 |sl (elem:Nat)|ptr (elem:Nat)
 |struct (fs:List (Nat×Nat))
 |arr (n elem:Nat)
 |map (key elem:Nat)
 |other
structure TI where
 size:Nat
 bytes:Nat
 td:TD
 ty:Option Ty
 zero:List V
def bf{α:Type} :List (Nat×α)->Nat->Option α
 |[],_=>none|(k,v)::r,n=>bif Nat.beq k n then some v else bf r n
structure FSpec where
 ps:List MG
 rs:List MG
 outs:List MG
 fn:Y7 ps->Option (Y7 (rs++outs))
structure Env where
 nt:Nat
 eqs:List (Nat×List Ty)
 tt:List (Nat×TI)
 gl:List (Nat×(t:Ty)×List t.den)
 fs:List (Nat×FSpec)
 om:List (Nat×M):=[]
 tk:c2i:=[]
 ms:List ((Nat×String)×Nat×Option Nat):=[]
 kp:c2i:=[]
 rc:c2i:=[]
 pl:List (Nat×Nat×Nat):=[]
abbrev U8:Nat:=1000000
abbrev CB:Nat:=1000000
abbrev JQ:Nat:=1000000000000
def Ty.castL{R:Type u}(a b:Ty)(xs:List a.den)(k:List b.den->R)(f:R):R:=if h:a=b then k (h▸xs)else f
def QU{R:Type u}(a b:Ty)(x:a.den)(k:b.den->R)(f:R):R:=if h:a=b then k (h▸x)else f
def flat:(t:Ty)->t.den->List V->List V
 | .bool,x,r=> .b x::r| .int k,n,r=> .i k n::r| .str,l,r=> .s l::r| .sl t,xs,r=> .sl t xs::r| .prod a b,x,r=>flat a x.1 (flat b x.2 r)| .unit,_,r=>r| .any _,_,r=> .undef::r| .ent _ _ a b,x,r=>flat a x.1 (flat b x.2 r)
def fV(vw:Option (Nat×Nat))(xs:List α):List α:=match vw with|none=>xs|some (lo,hi)=>jK xs lo hi
def Gm:(m:M)->m.den->List V->List V
 | .dat t,x,r=>flat t x r| .pair a b,x,r=>Gm a x.1 (Gm b x.2 r)| .unit,_,r=>r|_,_,r=> .undef::r
def UN{R:Type u}(a b:M)(xs:List a.den)(k:List b.den->R)(f:R):R:=match h:M.beq a b with
 |true=>k (M.beq_eq h▸xs)|false=>f
def ZF{R:Type u}(m:M)(t:Ty)(xs:List m.den)(k:List t.den->R)(f:R):R:=
 if h:m.el=true/\m.ty=t then k (cast (congrArg List ((M.denEq m h.1).trans (congrArg Ty.den h.2))) xs)else f
def TV{R:Type u}(m:M)(t:Ty)(xs:List t.den)(k:List m.den->R)(f:R):R:=
 if h:m.el=true/\m.ty=t then k (cast (congrArg List ((M.denEq m h.1).trans (congrArg Ty.den h.2))).symm xs)else f
def M.own0:M->Bool
 | .dat _=>true| .unit=>true| .pair a b=>a.own0&&b.own0|_=>false
def M.own1:M->Nat->Bool
 | .own _,off=>Nat.beq off 0| .pair a b,off=>bif Nat.blt off a.size then a.own1 off&&b.own0 else a.own0&&b.own1 (off -a.size)|_,_=>false
def M.owned:M->List Ty
 | .own t=>[t]| .owns m=>m.ty::m.owned| .pair a b=>a.owned++b.owned|_=>[]
def Xq(ln:Ty->Bool):List Ty->Bool|[]=>true|t::r=>bif ln t then Xq ln r else false
def jv{α:Type}(ln:Ty->Bool):(t:Ty)->List V->(t.den->List V->Cmd α)->Cmd α
 | .bool,cs,K=>match cs with| .b x::r=>K x r|_=> .fail
 | .int k,cs,K=>match cs with| .i k' n::r=>(bif decide (k=k')then K n r else Cmd.fail)|_=> .fail
 | .str,cs,K=>match cs with| .s l::r=>K l r|_=> .fail
 | .prod a b,cs,K=>jv ln a cs λx r=>jv ln b r λy r' =>K (x,y) r'| .unit,cs,K=>K () cs
 | .any none,cs,K=>match cs with|_::r=>K () r|_=> .fail
 | .any (some k),cs,K=>match cs with| .i k' _::r=>bif decide (k=k')then K () r else Cmd.fail|_=> .fail
 | .ent ..,_,_=> .fail
 | .sl t,cs,K=>match cs with
  | .nl::r=>bif t.isEnt then .fail else K [] r| .sl t' xs::r=>Ty.castL t' t xs (λys=>K ys r) Cmd.fail
  | .own bx vw::r=> .get (U8+bx) λ
   | .barr t' xs=>Ty.castL t' t xs (λys=>bif ln t then K (fV vw ys) r else Cmd.set (U8+bx) (.bfrz t ys) (K (fV vw ys) r)) Cmd.fail| .bfrz t' xs=>Ty.castL t' t xs (λys=>K (fV vw ys) r) Cmd.fail| .barrs el xs none=>ZF el t xs (λys=>bif ln t&&Xq ln el.owned then K (fV vw ys) r else Cmd.set (U8+bx) (.bfrz t ys) (K (fV vw ys) r)) Cmd.fail|_=> .fail
  |_=> .fail
def wK:Ty->Bool:=λ_=>false
def Yq(t:Ty)(v:V)(K:List t.den->Cmd α):Cmd α:=match v with
 | .nl=>bif t.isEnt then .fail else K []| .ne _=>bif t.isEnt then .fail else K []| .sl t' xs=>Ty.castL t' t xs K Cmd.fail
 | .own bx vw=> .get (U8+bx) λ
  | .barr t' xs=>Ty.castL t' t xs (λys=>K (fV vw ys)) Cmd.fail| .bfrz t' xs=>Ty.castL t' t xs (λys=>K (fV vw ys)) Cmd.fail|_=> .fail
 |_=> .fail
def rpC(t:Ty)(v:V)(K:t.den->Cmd α):Cmd α:=match v with
 | .dp t' x 0=>QU t' t x K .fail
 | .ptr bx 0=> .get (U8+bx) λ
  | .bfc t' x=>QU t' t x K .fail
  | .bcells bs=>jv wK t bs λx q=>(match q with
   |[]=> .get (U8+bx) λ
    | .bcells _=>Cmd.set (U8+bx) (.bfc t x) (K x)|_=> .fail
   |_=> .fail)
  |_=> .fail
 |_=> .fail
def lpC(ln:Ty->Bool)(t:Ty)(v:V)(K:t.den->Cmd α):Cmd α:=match v with
 | .dp t' x 0=>QU t' t x K .fail
 | .ptr bx 0=> .get (U8+bx) λ
  | .bcells bs=>bif ln t then jv ln t bs λx q=>(match q with
   |[]=> .get (U8+bx) λ
    | .bcells _=>K x|_=> .fail
   |_=> .fail)else .fail
  |_=> .fail
 |_=> .fail
def JS{α:Type} :(ts:List Ty)->List ((t:Ty)×t.den)->(OI ts->Cmd α)->Cmd α
 |[],cs,K=>match cs with|[]=>K ()|_=> .fail
 |[t],cs,K=>match cs with|[⟨t',x⟩]=>QU t' t x K .fail|_=> .fail
 |t::t' ::r,cs,K=>match cs with
  |⟨u,x⟩::cs=>QU u t x (λx=>JS (t' ::r) cs λy=>K (x,y)) .fail|[]=> .fail
def OG:(ts:List Ty)->OI ts->List ((t:Ty)×t.den)
 |[],_=>[]|[t],x=>[⟨t,x⟩]|t::t' ::r,x=>⟨t,x.1⟩::OG (t' ::r) x.2
def sbC(te:Nat)(c:V)(K:c2f->Cmd α):Cmd α:=match c with
 | .nl=>K []
 | .own b none=> .get (U8+b) λ
  | .brow te' xs=>bif Nat.beq te' te then Cmd.set (U8+b) .dead (K xs)else .fail|_=> .fail
 |_=> .fail
def exM{α:Type}(ln:Ty->Bool):(m:M)->List V->(m.den->List V->Cmd α)->Cmd α
 | .dat t,cs,K=>jv ln t cs K
 | .own t,cs,K=>match cs with
  | .nl::r=>bif t.isEnt then .fail else K [] r
  | .own bx vw::r=> .get (U8+bx) λ
   | .barr t' xs=>Ty.castL t' t xs (λys=>Cmd.set (U8+bx) .dead (K (fV vw ys) r)) Cmd.fail|_=> .fail
  |_=> .fail
 | .pair a b,cs,K=>exM wK a cs λx r=>exM wK b r λy r' =>K (x,y) r'| .unit,cs,K=>K () cs
 | .box m,cs,K=>match cs with
  | .ptr bx 0::r=> .get (U8+bx) λ
   | .bcells bs=>Cmd.set (U8+bx) .dead (exM wK m bs λx q=>match q with|[]=>K x r|_=> .fail)|_=> .fail
  |_=> .fail
 | .owns m,cs,K=>match cs with
  | .nl::r=>bif m.el then K [] r else .fail
  | .own bx none::r=> .get (U8+bx) λ
   | .barrs m' xs none=>UN m' m xs (λys=>Cmd.set (U8+bx) .dead (K ys r)) Cmd.fail| .barrp m' xs n _=>UN m' m xs (λys=> .br (U4 (o8 xs) n) (Cmd.set (U8+bx) .dead (K ys r)) .fail) Cmd.fail|_=> .fail
  |_=> .fail
 | .ownr m o,cs,K=>match cs with
  | .own bx none::r=> .get (U8+bx) λ
   | .barrp m' xs n o' =>bif Nat.beq o' o then UN m' m xs (λys=>Cmd.set (U8+bx) .dead (K (ys,n) r)) Cmd.fail else .fail| .barr t xs=>bif m.own1 o then TV m t xs (λys=>Cmd.set (U8+bx) .dead (K (ys,0) r)) .fail else .fail|_=> .fail
  |_=> .fail
 | .ownb t,cs,K=>match cs with
  | .nl::r=>bif t.isEnt then .fail else K [] r
  | .own bx none::r=> .get (U8+bx) λ
   | .barr t' xs=>Ty.castL t' t xs (λys=>Cmd.set (U8+bx) (.gone t) (K ys r)) Cmd.fail|_=> .fail
  |_=> .fail
 | .rp t,cs,K=>match cs with
  |v::r=>rpC t v λx=>K x r|_=> .fail
 | .fn f ts,cs,K=>match cs with
  | .clos g caps::r=>bif Nat.beq g f then JS ts caps λx=>K x r else .fail
  | .fnv g::r=>bif Nat.beq g f then JS ts [] λx=>K x r else .fail|_=> .fail
 | .ifc t m,cs,K=>match cs with
  | .ifc t' v::r=>bif Nat.beq t' t then exM wK m [v] λx q=>(match q with|[]=>K x r|_=> .fail)else .fail|_=> .fail
 | .cell (some none),cs,K=>match cs with
  | .nl::r=>K () r|_=> .fail
 | .cell (some (some b)),cs,K=>match cs with
  | .ne true::r=>bif b then K () r else .fail| .ne false::r=>bif b then .fail else K () r|_=> .fail
 | .cell none,cs,K=>match cs with
  |_::r=>K () r|_=> .fail
 | .fr t,cs,K=>match cs with
  | .nl::r=>bif t.isEnt then .fail else K [] r
  | .own bx none::r=> .get (U8+bx) λ
   | .barr t' xs=>Ty.castL t' t xs (λys=>Cmd.set (U8+bx) (.bfrz t ys) (K ys r)) Cmd.fail| .bfrz t' xs=>Ty.castL t' t xs (λys=>K ys r) Cmd.fail|_=> .fail
  |_=> .fail
 | .sit,cs,K=>match cs with
  | .ptr bx 0::r=> .get (U8+bx) λ
   | .biter l p=>Cmd.set (U8+bx) .dead (K (l,p) r)|_=> .fail
  |_=> .fail
 | .lp t,cs,K=>match cs with
  |v::r=>lpC ln t v λx=>K x r|_=> .fail
 | .dv ..,cs,K=>match cs with
  |_::r=>K () r|_=> .fail
 | .sbx tb te,cs,K=>match cs with
  | .ptr bx 0::r=> .get (U8+bx) λ
   | .bsb tb' c=>bif Nat.beq tb' tb then(sbC te c λys=>Cmd.set (U8+bx) .dead (K ys r))else .fail|_=> .fail
  |_=> .fail
def cellsOf(v:V):List V:=match v with| .agg cs=>cs|v=>[v]
def pz(n:Nat)(v:V)(K:Cmd α):Cmd α:=.get (U8+n) λ
 | .undef=> .set (U8+n) v K|_=> .fail
def emM{α:Type} :(m:M)->m.den->Nat->List V->(List V->Nat->Cmd α)->Cmd α
 | .dat t,x,n,r,K=>K (flat t x r) n| .own t,xs,n,r,K=>pz n (.barr t xs) (K (.own n none::r) (n+1))
 | .pair a b,x,n,r,K=>emM b x.2 n r λr' n' =>emM a x.1 n' r' K| .unit,_,n,r,K=>K r n
 | .box m,x,n,r,K=>emM m x (n+1) [] λcs n' =>pz n (.bcells cs) (K (.ptr n 0::r) n')| .owns m,xs,n,r,K=>pz n (.barrs m xs none) (.set (U8+(JQ+n)) (.blen (o8 xs) m.size) (K (.own n none::r) (n+1)))| .ownb t,xs,n,r,K=>pz n (.barr t xs) (K (.own n none::r) (n+1))| .rp t,x,n,r,K=>K (.dp t x 0::r) n| .fn f ts,x,n,r,K=>K (.clos f (OG ts x)::r) n
 | .ifc t m,x,n,r,K=>emM m x n [] λcs n' =>match cs with|[c]=>K (.ifc t c::r) n'|_=> .fail
 | .cell (some none),_,n,r,K=>K (.nl::r) n| .cell (some (some b)),_,n,r,K=>K (.ne b::r) n| .cell none,_,n,r,K=>K (.undef::r) n| .fr t,xs,n,r,K=>pz n (.bfrz t xs) (K (.own n none::r) (n+1))| .sit,x,n,r,K=>pz n (.biter x.1 x.2) (K (.ptr n 0::r) (n+1))| .lp t,x,n,r,K=>K (.dp t x 0::r) n| .dv ..,_,n,r,K=>K (.undef::r) n| .ownr m o,x,n,r,K=>pz n (.barrp m x.1 x.2 o) (K (.own n none::r) (n+1))| .sbx tb te,xs,n,r,K=>pz (n+1) (.brow te xs) (pz n (.bsb tb (.own (n+1) none)) (K (.ptr n 0::r) (n+2)))
structure Sig where
 ms:List (Nat×MG)
 als:List (Nat×Nat×Option (Nat×Nat×Nat×Nat))
@[reducible] def mP (s:Sig):Type:=Y7 (s.ms.map (·.2))
def QV(ag:Bool)(v:V)(K:List V->Cmd α):Cmd α:=match ag,v with
 |true,.agg cs=>K cs|true,_=> .fail|false,.agg _=> .fail|false,.tup _=> .fail|false,.undef=> .fail|false,.un=> .fail|false,v=>K [v]
def Di(v:V)(K:List V->Cmd α):Cmd α:=match v with
 | .agg cs=>K cs| .tup _=> .fail| .undef=> .fail| .un=> .fail|v=>K [v]
def M.isDat:M->Bool| .dat _=>true| .lp _=>true|_=>false
def Rz(ln:Ty->Bool)(m:MG)(v:V)(K:m.2.den->Cmd α):Cmd α:=
 QV m.1 v λcs=>exM ln m.2 cs λx q=>match q with|[]=>K x|_=> .fail
def Jz{α:Type}(ln:Ty->Bool):(ms:List MG)->List V->(Y7 ms->Cmd α)->Cmd α
 |[],vs,K=>match vs with|[]=>K ()|_=> .fail
 |[m],vs,K=>match vs with
  |[v]=>Rz ln m v K|_=> .fail
 |m::m' ::r,vs,K=>match vs with
  |v::vs=>bif m.2.isDat then Jz ln (m' ::r) vs λy=>Rz ln m v λx=>K (x,y)
   else Rz ln m v λx=>Jz ln (m' ::r) vs λy=>K (x,y)
  |[]=> .fail
def Wh{α:Type} :c2i->(List V->Cmd α)->Cmd α
 |[],K=>K []
 |s::r,K=>bif Nat.blt s U8 then .get s λv=>Wh r λvs=>K (v::vs)else .fail
def a8g:V->V->Bool
 | .own a none,.own b none=>Nat.beq a b|_,_=>false
def mkV(ag:Bool)(cs:List V):V:=match ag,cs with|true,cs=> .agg cs|false,[v]=>v|false,_=> .undef
def Jy{α:Type} :(ms:List MG)->Y7 ms->Nat->(List V->Nat->Cmd α)->Cmd α
 |[],_,n,K=>K [] n
 |[m],x,n,K=>emM m.2 x n [] λcs n' =>K [mkV m.1 cs] n'
 |m::m' ::r,x,n,K=>emM m.2 x.1 n [] λcs n' =>Jy (m' ::r) x.2 n' λvs n'' =>K (mkV m.1 cs::vs) n''
def Jl:c2i->List V->Cmd Unit->Cmd Unit
 |[],[],K=>K|n::ns,v::vs,K=>bif Nat.blt n U8 then .set n v (Jl ns vs K)else .fail|_,_,_=> .fail
def Zv:Value->V
 | .bool b=> .b b| .int k n=> .i k n| .string s=> .s s.data.toList| .slice none 0 0=> .nl|_=> .undef
def lQ(x:Operand)(K:V->Cmd α):Cmd α:=
 match x with
 | .tmp t=>bif Nat.blt t U8 then .get t K else .fail| .const v=>K (Zv v)| .global g=>K (.glob g)| .func f=>K (.fnv f)
def Md{α:Type} :List Operand->(List V->Cmd α)->Cmd α
 |[],K=>K []
 |x::r,K=>lQ x λv=>Md r λvs=>K (v::vs)
def Ro(n:Nat)(cs:List V):Option (List V):=match n,cs with
 |0,cs=>some cs|n+1,_::cs=>Ro n cs|_+1,[]=>none
def YX{R:Type u}(n:Nat)(cs:List V)(K:List V->R)(f:R):R:=match n,cs with
 |0,_=>K []|n+1,c::cs=>YX n cs (λr=>K (c::r)) f|_+1,[]=>f
def OD{R:Type u}(off n:Nat)(cs:List V)(K:List V->R)(f:R):R:=match Ro off cs with|some r=>YX n r K f|none=>f
def MF{R:Type u}(off:Nat)(vs cs:List V)(K:List V->R)(f:R):R:=match off,vs,cs with
 |0,[],cs=>K cs|0,v::vs,_::cs=>MF 0 vs cs (λr=>K (v::r)) f|n+1,vs,c::cs=>MF n vs cs (λr=>K (c::r)) f|_,_,[]=>f
def zX:Operand->Bool
 | .const (.int _ n)=>decide (n=0)|_=>true
def Ed:Operand->Bool
 | .const (.int _ n)=>decide (n<0)|_=>true
def eq1:V->V->c2j
 | .b x,.b y=>some (Ak x y)| .i j x,.i k y=>bif decide (j=k)then some (x9 x y)else none| .s x,.s y=>some (seq x y)|_,_=>none
def wo:List V->List V->c2j
 |[],[]=>some true
 |a::r,b::q=>match eq1 a b with
  |none=>none
  |some e=>match r,q with
   |[],[]=>some e|_,_=>(match wo r q with|some e' =>some (eY e e')|none=>none)
 |_,_=>none
def wX:List Ty->List V->Bool
 |[],[]=>true| .bool::ts,.b _::cs=>wX ts cs| .int k::ts,.i k' _::cs=>decide (k=k')&&wX ts cs| .str::ts,.s _::cs=>wX ts cs|_,_=>false
def zJ(n:Nat):c2i->Bool|[]=>false|k::r=>bif Nat.beq k n then true else zJ n r
def a3h(E:Env)(t:Nat)(op:BinOp)(b:Bool)(K:V->Cmd α):Cmd α:=
 match bf E.tt t with
 |some i=>match i.td,op with
  | .sl _,.eql=>K (.b b)| .sl _,.neq=>K (.b (E5 b))|_,_=> .fail
 |none=> .fail
def GN(E:Env)(t:Nat)(op:BinOp)(yc:Operand)(x y:V)(K:V->Cmd α):Cmd α:=
 match x,y with
 | .i k a,.i k' b=>
  match op with
  | .shl=>bif Ed yc then Cmd.opt (XO k a b) λr=>K (.i k r)else K (.i k (a6M k a b))
  | .shr=>bif Ed yc then Cmd.opt (a0I k a b) λr=>K (.i k r)else K (.i k (qB k a b))|_=>
  bif decide (k=k')then
   match op with
   | .add=>K (.i k (D7 k a b))| .sub=>K (.i k (O0 k a b))| .mul=>K (.i k (kZ k a b))
   | .quo=>bif zX yc then Cmd.opt (Vg k a b) λr=>K (.i k r)else K (.i k (iO k a b))
   | .rem=>bif zX yc then Cmd.opt (a0H a b) λr=>K (.i k r)else K (.i k (qA a b))| .and=>K (.i k (a1F k a b))| .or=>K (.i k (ior k a b))| .xor=>K (.i k (a3a k a b))| .andNot=>K (.i k (a0F k a b))| .eql=>K (.b (x9 a b))| .neq=>K (.b (E5 (x9 a b)))| .lss=>K (.b (F9 a b))| .leq=>K (.b (U4 a b))| .gtr=>K (.b (F9 b a))| .geq=>K (.b (U4 b a))|_=> .fail
  else .fail
 | .s a,.s b=>
  match op with
  | .add=>Cmd.opt (bz a b) λr=>K (.s r)| .eql=>K (.b (seq a b))| .neq=>K (.b (E5 (seq a b)))| .lss=>K (.b (slt a b))|_=> .fail
 | .b a,.b b=>
  match bf E.tt t with
  |some i=>match i.td,op with
   | .bool,.eql=>K (.b (Ak a b))| .bool,.neq=>K (.b (E5 (Ak a b)))|_,_=> .fail
  |none=> .fail
 | .agg xs,.agg ys=>
  match bf E.eqs t with
  |some sh=>bif wX sh xs&&wX sh ys then(match op,wo xs ys with
   | .eql,some e=>K (.b e)| .neq,some e=>K (.b (E5 e))
   |_,_=> .fail)else .fail
  |none=> .fail
 | .nl,.nl=>a3h E t op true K| .ne b,.nl=>a3h E t op b K| .sl u xs,.nl=>bif u.isEnt then .fail else .br (x9 (o8 xs) 0) .fail (a3h E t op false K)|_,_=> .fail
def unC(op:UnOp)(x:V)(K:V->Cmd α):Cmd α:=
 match op,x with
 | .neg,.i k a=>K (.i k (O0 k 0 a))| .xor,.i k a=>K (.i k (a3a k (bif k.signed then -1 else k.max) a))| .not,.b a=>K (.b (E5 a))|_,_=> .fail
def PG(E:Env)(t:Nat):Bool:=bif Nat.blt t E.nt then !(zJ t E.kp)else false
def bJ(E:Env)(d:Option Tmp)(v:V):Cmd Unit:=match d with|some t=>bif PG E t then .set t v (.ret ())else .fail|none=> .ret ()
def J5(q:Nat)(d:Option Tmp):Nat:=match d with|some t=>CB*q+64*t|none=>CB*q+999936
def tiC(E:Env)(t:Nat)(K:TI->Cmd α):Cmd α:=match bf E.tt t with|some i=>K i|none=> .fail
def aB:TD->Bool| .struct _| .arr _ _=>true|_=>false
def BZ(E:Env)(t:Nat)(p:V)(K:V->Cmd α):Cmd α:=
 tiC E t λi=>match p with
 | .ptr bx off=> .get (U8+bx) λ
  | .bcells cs=>OD off i.size cs (λr=>K (mkV (aB i.td) r)) Cmd.fail| .bfc u x=>OD off i.size (flat u x []) (λr=>K (mkV (aB i.td) r)) Cmd.fail|_=> .fail
 | .ep bx idx off=> .get (U8+bx) λ
  | .barr u xs=>Cmd.opt (X0 xs idx) λx=>OD off i.size (flat u x []) (λr=>K (mkV (aB i.td) r)) Cmd.fail
  | .bfrz u xs=>Cmd.opt (X0 xs idx) λx=>OD off i.size (flat u x []) (λr=>K (mkV (aB i.td) r)) Cmd.fail
  | .barrs m xs _=>Cmd.opt (X0 xs idx) λx=>OD off i.size (Gm m x []) (λr=>K (mkV (aB i.td) r)) Cmd.fail|_=> .fail
 | .dp u x off=>OD off i.size (flat u x []) (λr=>K (mkV (aB i.td) r)) Cmd.fail|_=> .fail
def PI{R:Type u} :(m:M)->Nat->m.den->(V->R)->R->R
 | .own t,off,xs,K,f=>bif Nat.beq off 0 then K (.barr t xs)else f| .owns m,off,xs,K,f=>bif Nat.beq off 0 then K (.barrs m xs none)else f| .pair a b,off,x,K,f=>bif Nat.blt off a.size then PI a off x.1 K f else PI b (off -a.size) x.2 K f|_,_,_,_,f=>f
def RX{R:Type u} :(m:M)->Nat->V->m.den->(m.den->R)->R->R
 | .own t,off,v,_,K,f=>bif Nat.beq off 0 then(match v with| .barr t' ys=>Ty.castL t' t ys K f| .nl=>bif t.isEnt then f else K []|_=>f)else f| .owns m,off,v,_,K,f=>bif Nat.beq off 0 then(match v with| .barrs m' ys none=>UN m' m ys K f| .nl=>K []|_=>f)else f| .pair a b,off,v,x,K,f=>bif Nat.blt off a.size then RX a off v x.1 (λy=>K (y,x.2)) f else RX b (off -a.size) v x.2 (λy=>K (x.1,y)) f|_,_,_,_,_,f=>f
def a1x{α:Type} :(m:M)->Nat->List V->m.den->(m.den->Cmd α)->Cmd α
 | .dat t,off,vs,x,K=>bif t.flat then MF off vs (flat t x []) (λr=>jv wK t r λy q=>match q with|[]=>K y|_=> .fail) .fail else .fail| .pair a b,off,vs,x,K=>bif Nat.blt off a.size then a1x a off vs x.1 (λy=>K (y,x.2))else a1x b (off -a.size) vs x.2 (λy=>K (x.1,y))|_,_,_,_,_=> .fail
def M.ownAt:M->Nat->Bool
 | .own _,off=>Nat.beq off 0| .owns _,off=>Nat.beq off 0| .pair a b,off=>bif Nat.blt off a.size then a.ownAt off else b.ownAt (off -a.size)|_,_=>false
def M.firstOwn(m:M):Nat->Nat->Option Nat
 |_,0=>none|off,n+1=>bif m.ownAt off then some off else m.firstOwn (off+1) n
def setCell:Nat->V->List V->List V
 |_,_,[]=>[]|0,v,_::cs=>v::cs|n+1,v,c::cs=>c::setCell n v cs
def d_(o n:Nat)(v:V):V:=match v with
 | .agg cs=> .agg (setCell o (.own n none) cs)|v=>v
def tkD(E:Env)(d:Option Nat):Bool:=match d with|some t=>PG E t&&zJ t E.tk|none=>false
def RN(h:Option (Nat×Nat×Option Nat))(idx off:Nat):Bool:=match h with|none=>true|some (i,o,_)=>bif Nat.beq o off then nX i idx else false
def a8d(E:Env)(d:Option Tmp)(nm t:Nat)(p:V)(K:V->Cmd α):Cmd α:=
 match p with
 | .ep bx idx off=> .get (U8+bx) λ
  | .barrs m xs none=>bif m.ownAt off then tiC E t λi=>(bif Nat.beq i.size 1&&!aB i.td then
     (bif zJ (match d with|some d=>d|none=>U8) E.tk then
      Cmd.opt (X0 xs idx) λx=>PI m off x (λv=>Cmd.set (U8+bx) (.barrs m xs (some (idx,off,none))) (pz nm v (Cmd.set (U8+bx) (.barrs m xs (some (idx,off,some nm))) (K (.own nm none))))) .fail
     else jv wK (.sl m.ty) [.own bx none] λ_ _=>BZ E t p K)else .fail)
    else bif tkD E d then tiC E t λi=>(match m.firstOwn off i.size with
     |none=>BZ E t p K
     |some o=>bif aB i.td&&Nat.ble (off+i.size) m.size then Cmd.opt (X0 xs idx) λx=>PI m o x (λv=>Cmd.set (U8+bx) (.barrs m xs (some (idx,o,none))) (pz nm v (Cmd.set (U8+bx) (.barrs m xs (some (idx,o,some nm))) (BZ E t p λu=>K (d_ (o -off) nm u))))) .fail else .fail)
    else BZ E t p K
  | .barrs m xs (some (i,o,some n))=>bif m.ownAt off then tiC E t λj=>(bif Nat.beq j.size 1&&!aB j.td then
     .br (RN (some (i,o,some n)) idx off) (K (.own n none)) .fail else .fail)
    else bif tkD E d then tiC E t λj=>(match m.firstOwn off j.size with
     |none=>BZ E t p K
     |some o' =>bif aB j.td&&Nat.ble (off+j.size) m.size then .br (RN (some (i,o,some n)) idx o') (BZ E t p λu=>K (d_ (o' -off) n u)) .fail else .fail)
    else BZ E t p K
  |_=>BZ E t p K
 |_=>BZ E t p K
def a2Z:V->Bool| .barr ..=>true| .barrs _ _ none=>true|_=>false
def VV(bx:Nat)(K:Cmd α):Cmd α:=.get (U8+bx) λ
 | .barrs _ _ (some (_,_,some n))=> .get (U8+n) λw=>bif a2Z w then Cmd.set (U8+n) .dead (.get (U8+bx) λ
  | .barrs m xs (some (i,o,some _))=>Cmd.opt (X0 xs i) λx=>RX m o w x (λy=>Cmd.set (U8+bx) (.barrs m (ay xs i y) none) K) .fail
  |_=> .fail)else .fail
 |_=>K
def Ny{α:Type} :List V->Cmd α->Cmd α
 |[],K=>K
 |v::r,K=>match v with
  | .own bx none=>VV bx (Ny r K)|_=>Ny r K
def EI{α:Type} :List V->Cmd α->Cmd α
 |[],K=>K
 |v::r,K=>match v with
  | .own bx none=>VV bx (EI r K)
  | .ptr bx 0=> .get (U8+bx) λ
   | .bcells cs=>Ny cs (EI r K)|_=>EI r K
  | .agg cs=>Ny cs (EI r K)|_=>EI r K
def a0x(c:Nat)(u:V)(K:Nat->Cmd α):Cmd α:=match u with
 | .own b none=>K b
 | .ptr pb 0=> .get (U8+pb) λ
  | .bcells cs=>OD c 1 cs (λr=>match r with|[.own b none]=>K b|_=> .fail) .fail|_=> .fail
 |_=> .fail
def a7P(b sz:Nat)(K:Cmd α):Cmd α:=.get (U8+b) λ
 | .barrs m _ _=>bif Nat.beq m.size sz then K else .fail| .barr t _=>bif Nat.beq t.size sz then K else .fail|_=> .fail
def a1q{α:Type} :List (Nat×Nat×Option (Nat×Nat×Nat×Nat))->Cmd α->Cmd α
 |[],K=>K
 |(n,k,none)::r,K=>bif Nat.blt n U8&&Nat.blt k U8 then .get n λv=> .get k λu=>bif a8g v u then a1q r K else .fail else .fail
 |(n,k,some (c,j,o,sz))::r,K=>bif Nat.blt n U8&&Nat.blt k U8&&Nat.blt j U8 then .get n λv=> .get k λu=> .get j λx=>(match v,x with
  | .ep b' i o',.i _ y=>a0x c u λb=>bif Nat.beq o' o&&Nat.beq b' b then a7P b sz (.br (nX i (P6 y)) (a1q r K) .fail)else .fail
  |_,_=> .fail)else .fail
def a2U(s:Sig):Cmd (mP s):=a1q s.als (Wh (s.ms.map (·.1)) λvs=>EI vs (Jz wK (s.ms.map (·.2)) vs .ret))
def Oo:List (Nat×Nat×Option (Nat×Nat×Nat×Nat))->Cmd Unit
 |[]=> .ret ()
 |(n,k,none)::r=>bif Nat.blt n U8&&Nat.blt k U8 then .get k λv=> .set n v (Oo r)else .fail
 |(n,k,some (c,j,o,sz))::r=>bif Nat.blt n U8&&Nat.blt k U8&&Nat.blt j U8 then .get k λu=> .get j λx=>(match x with
  | .i _ y=>a0x c u λb=>a7P b sz (.set n (.ep b (P6 y) o) (Oo r))
  |_=> .fail)else .fail
def a2Q(s:Sig)(x:mP s)(nb lim:Nat):Cmd Unit:=
 Jy (s.ms.map (·.2)) x nb λvs n=>bif Nat.ble n lim then Jl (s.ms.map (·.1)) vs (Oo s.als)else .fail
def Xe(bx idx off:Nat)(m:M)(xs:List m.den)(hole:Option (Nat×Nat×Option Nat))(v:V)(K:Cmd Unit):Cmd Unit:=
 .br (RN hole idx off) (Cmd.opt (X0 xs idx) λx=>RX m off v x (λy=>Cmd.set (U8+bx) (.barrs m (ay xs idx y) none) K) .fail) .fail
def a6r(E:Env)(t:Nat)(p v:V):Cmd Unit:=
 tiC E t λi=>match p with
 | .ptr bx off=> .get (U8+bx) λ
  | .bcells cs=>Di v λvs=>bif Nat.beq vs.length i.size then MF off vs cs (λr=>Cmd.set (U8+bx) (.bcells r) (.ret ())) Cmd.fail else .fail|_=> .fail
 | .ep bx idx off=> .get (U8+bx) λ
  | .barr u xs=>Cmd.opt (X0 xs idx) λx=>Di v λvs=>bif Nat.beq vs.length i.size then MF off vs (flat u x []) (λr=>
    jv wK u r λy q=>match q with
     |[]=> .get (U8+bx) λ
      | .barr u' xs' =>Ty.castL u' u xs' (λxs' =>Cmd.set (U8+bx) (.barr u (ay xs' idx y)) (.ret ())) Cmd.fail|_=> .fail
     |_=> .fail) Cmd.fail else .fail
  | .barrs m xs hole=>bif m.ownAt off&&Nat.beq i.size 1&&!aB i.td then(match v with
    | .nl=>Xe bx idx off m xs hole .nl (.ret ())
    | .own b2 none=> .get (U8+b2) λw=>bif a2Z w then Cmd.set (U8+b2) .dead (.get (U8+bx) λ
     | .barrs m xs hole=>Xe bx idx off m xs hole w (.ret ())
     |_=> .fail)else .fail
    |_=> .fail)
   else match hole with
    |none=>Di v λvs=>bif Nat.beq vs.length i.size then Cmd.opt (X0 xs idx) λx=>a1x m off vs x λy=>Cmd.set (U8+bx) (.barrs m (ay xs idx y) none) (.ret ())else .fail|some _=> .fail
  | .barrp _ _ _ o=>bif Nat.beq off o&&Nat.beq i.size 1&&!aB i.td then(match v with
    | .own b2 none=> .get (U8+b2) λw=>bif a2Z w then Cmd.set (U8+b2) .dead (.get (U8+bx) λ
     | .barrp m xs n o=> .br (nX idx (P6 n)) (Cmd.opt (X0 xs idx) λx=>RX m off w x (λy=>Cmd.set (U8+bx) (.barrp m (ay xs idx y) (GH n) o) (.ret ())) .fail) .fail
     |_=> .fail)else .fail
    |_=> .fail)else .fail
  |_=> .fail
 |_=> .fail
def szB(sz:Nat)(u:Ty):Bool:=bif u.isEnt then false else Nat.beq sz u.size
def He(E:Env)(t f:Nat):Option (Nat×Nat×Bool):=
 match bf E.tt t with
 |some i=>match i.td with
  | .struct fs=>match fs[f]? with
   |some (ft,off)=>match bf E.tt ft with|some j=>bif Nat.beq j.size 0 then none else some (off,j.size,aB j.td)|none=>none
   |none=>none
  |_=>none
 |none=>none
def XY(vw:Option (Nat×Nat)):Nat:=match vw with|none=>0|some (lo,_)=>lo
def a8E(vw:Option (Nat×Nat))(n:Nat):Nat:=match vw with|none=>n|some (lo,_)=>lo+n
theorem a6N(vw:Option (Nat×Nat))(n:Nat):a8E vw n=XY vw+n:=by cases vw<;>simp[a8E,XY]
def EL(E:Env)(t:Nat):Option (Bool×Nat×Nat):=
 match bf E.tt t with
 |some i=>match i.td with
  | .sl e=>match bf E.tt e with|some j=>some (false,0,j.size)|none=>none
  | .arr n e=>match bf E.tt e with|some j=>some (true,n,j.size)|none=>none
  |_=>none
 |none=>none
def RQ(E:Env)(t:Nat)(x ix:V)(K:V->Cmd α):Cmd α:=
 match ix,EL E t with
 | .i _ n,some (false,_,sz)=>match x with
  | .sl u xs=>bif szB sz u then Cmd.opt (J7 xs n) λy=>K (.dp u y 0)else .fail
  | .own bx vw=> .get (U8+(JQ+bx)) λ
   | .blen ln sz' =>(match vw with|none=>bif Nat.beq sz sz' then .br (inb n ln) (K (.ep bx (P6 n) 0)) .fail else .fail|_=> .fail)
   |_=> .get (U8+bx) λ
   | .barr u xs=>bif szB sz u then Cmd.opt (J7 (fV vw xs) n) λ_=>K (.ep bx (a8E vw (P6 n)) 0)else .fail
   | .bfrz u xs=>bif szB sz u then Cmd.opt (J7 (fV vw xs) n) λy=>K (.dp u y 0)else .fail| .barrs m xs _=>(match vw with|none=>bif Nat.beq sz m.size then Cmd.opt (J7 xs n) λ_=>K (.ep bx (P6 n) 0)else .fail|_=> .fail)| .barrp m xs _ _=>(match vw with|none=>bif Nat.beq sz m.size then Cmd.opt (J7 xs n) λ_=>K (.ep bx (P6 n) 0)else .fail|_=> .fail)|_=> .fail
  |_=> .fail
 | .i _ n,some (true,l,sz)=>match x with
  | .glob g=>match bf E.gl g with
   |some ⟨u,xs⟩=>bif Nat.beq sz u.size&&Nat.beq l xs.length then Cmd.opt (J7 xs n) λy=>K (.dp u y 0)else .fail|none=> .fail
  | .ptr bx off=> .br (inb n l) (K (.ptr bx (off+P6 n*sz))) .fail|_=> .fail
 |_,_=> .fail
def b2O(td:TD)(x:V)(K:V->Cmd α):Cmd α:=
 match td,x with
 | .str,.s l=>K (.i .i64 (o8 l))| .sl _,.sl t xs=>bif t.isEnt then .fail else K (.i .i64 (o8 xs))| .map ..,.sl t xs=>bif t.isEnt then K (.i .i64 (o8 xs))else .fail
 | .map ..,.own bx none=> .get (U8+bx) λ
  | .barr t xs=>bif t.isEnt then K (.i .i64 (o8 xs))else .fail| .bfrz t xs=>bif t.isEnt then K (.i .i64 (o8 xs))else .fail|_=> .fail
 | .sl _,.nl=>K (.i .i64 0)
 | .sl _,.own bx vw=> .get (U8+(JQ+bx)) λ
  | .blen ln _=>(match vw with|none=>K (.i .i64 ln)|_=> .fail)
  |_=> .get (U8+bx) λ
  | .barr t xs=>bif t.isEnt then .fail else K (.i .i64 (o8 (fV vw xs)))| .bfrz t xs=>bif t.isEnt then .fail else K (.i .i64 (o8 (fV vw xs)))| .barrs _ xs _=>(match vw with|none=>K (.i .i64 (o8 xs))|_=> .fail)| .barrp _ xs _ _=>(match vw with|none=>K (.i .i64 (o8 xs))|_=> .fail)|_=> .fail
 |_,_=> .fail
def xF(d:Int):Option V->c2k
 |none=>some d|some (.i _ n)=>some n|some _=>none
def Ot(E:Env)(t:Nat)(x:V)(lo hi:Option V)(K:V->Cmd α):Cmd α:=
 match x with
 | .s l=>tiC E t λi=>match i.td,xF 0 lo,xF (o8 l) hi with
  | .str,some a,some b=>Cmd.opt (jS l a b) λr=>K (.s r)|_,_,_=> .fail
 | .sl u l=>match EL E t,xF 0 lo,xF (o8 l) hi with
  |some (false,_,sz),some a,some b=>bif szB sz u then Cmd.opt (jS l a b) λr=>K (.sl u r)else .fail|_,_,_=> .fail
 | .own bx none=> .get (U8+bx) λ
  | .barr u xs=>match EL E t,xF 0 lo,xF (o8 xs) hi with
   |some (false,_,sz),some a,some b=>bif szB sz u then .br (mM a b (o8 xs)) (K (.own bx (some (P6 a,P6 b)))) .fail else .fail|_,_,_=> .fail
  | .bfrz u xs=>match EL E t,xF 0 lo,xF (o8 xs) hi with
   |some (false,_,sz),some a,some b=>bif szB sz u then .br (mM a b (o8 xs)) (K (.own bx (some (P6 a,P6 b)))) .fail else .fail|_,_,_=> .fail
  |_=> .fail
 |_=> .fail
def YZ{α:Type}(u:Ty):Nat->List V->(List u.den->Cmd α)->Cmd α
 |0,cs,K=>match cs with|[]=>K []|_=> .fail
 |n+1,cs,K=>jv wK u cs λx r=>YZ u n r λxs=>K (x::xs)
def TG(E:Env)(nm t bx:Nat)(K:V->Cmd Unit):Cmd Unit:=tiC E t λi=>match i.td with
 | .arr n e=>tiC E e λj=>(match j.ty with
  |some u=>bif u.flat then .get (U8+bx) λ
   | .bcells cs=>YZ u n cs λxs=>Cmd.set (U8+bx) .dead (pz nm (.barr u xs) (K (.own nm none)))|_=> .fail
   else .fail
  |none=> .fail)
 |_=> .fail
def yS(E:Env)(t:Nat):Option (Nat×Ty):=
 match bf E.tt t with
 |some i=>match i.td with
  | .sl e=>match bf E.tt e with
   |some j=>match j.ty with|some u=>bif (Nat.beq u.size j.size&&Nat.ble j.bytes 65536&&!u.isEnt)then some (e,u)else none|none=>none
   |none=>none
  |_=>none
 |none=>none
def Qq(nm:Nat)(u:Ty)(x:V)(ys:List u.den)(K:V->Cmd Unit):Cmd Unit:=
 match x with
 | .nl=>Cmd.opt (bu [] ys) λzs=>pz nm (.barr u zs) (K (.own nm none))
 | .own bx vw=> .get (U8+bx) λ
  | .barr u' xs=>Ty.castL u' u xs (λxs=>Cmd.opt (bu (fV vw xs) ys) λzs=>Cmd.set (U8+bx) .dead (pz nm (.barr u zs) (K (.own nm none)))) Cmd.fail|_=> .fail
 |_=> .fail
def a8b(E:Env)(t:Nat)(x y:V)(K:V->Cmd Unit):Cmd Unit:=
 match yS E t with
 |none=> .fail
 |some (_,u)=>match bf E.om t with
  |none=>Yq u y λys=>(match x with
   | .own bx none=> .get (U8+bx) λ
    | .barr u' xs=>Ty.castL u' u xs (λxs=>Cmd.set (U8+bx) (.barr u (LH xs ys)) (K (.i .i64 (yH (o8 xs) (o8 ys))))) Cmd.fail|_=> .fail
   |_=> .fail)
  |some _=> .fail
def a0s(E:Env)(nm:Nat)(t:Nat)(x:V)(l:c2f)(K:V->Cmd Unit):Cmd Unit:=
 match yS E t with
 |some (_,.int .u8)=>(match bf E.om t with|none=>Qq nm (.int .u8) x (Ur l) K|some _=> .fail)|_=> .fail
def a2L(E:Env)(nm:Nat)(t:Nat)(l:c2f)(K:V->Cmd Unit):Cmd Unit:=
 match yS E t with
 |some (e,.int .u8)=>tiC E e λk=>(match k.td with
  | .int .u8=>pz nm (.barr (.int .u8) (Ur l)) (K (.own nm none))
  |_=> .fail)
 |_=> .fail
def a0r(E:Env)(nm:Nat)(t:Nat)(x y:V)(K:V->Cmd Unit):Cmd Unit:=
 match yS E t with
 |none=> .fail
 |some (_,u)=>match bf E.om t with
  |none=>Yq u y λys=>Qq nm u x ys K
  |some m=>bif Nat.beq m.size u.size then exM wK (.owns m) [y] λys _=>exM wK (.owns m) [x] λxs _=>Cmd.opt (bu xs ys) λzs=>pz nm (.barrs m zs none) (K (.own nm none))else .fail
def uV{α:Type}(u:Ty):List (Nat×V)->Nat->Nat->(List u.den->Cmd α)->Cmd α
 |[],_,0,K=>K []
 |(i,v)::r,n,m+1,K=>bif Nat.beq i n then Di v λcs=>jv wK u cs λx q=>match q with|[]=>uV u r (n+1) m λxs=>K (x::xs)|_=> .fail else .fail
 |_,_,_,_=> .fail
def qO{α:Type}(m:M):List (Nat×V)->Nat->Nat->(List m.den->Cmd α)->Cmd α
 |[],_,0,K=>K []
 |(i,v)::r,n,k+1,K=>bif Nat.beq i n then Di v λcs=>exM wK m cs λx q=>match q with|[]=>qO m r (n+1) k λxs=>K (x::xs)|_=> .fail else .fail
 |_,_,_,_=> .fail
def a0q(E:Env):List (Nat×Nat)->Bool
 |[]=>true
 |(t,_)::r=>match bf E.tt t with|some _=>a0q E r|none=>false
def yP{α:Type}(E:Env)(t:Nat):List (Nat×V)->List V->(List V->Cmd α)->Cmd α
 |[],cs,K=>K cs
 |(f,v)::r,cs,K=>match He E t f with
  |some (off,n,_)=>Di v λvs=>bif Nat.beq vs.length n then MF off vs cs (λcs' =>yP E t r cs' K) .fail else .fail|none=> .fail
def GM{α:Type}(sz:Nat):List (Nat×V)->List V->(List V->Cmd α)->Cmd α
 |[],cs,K=>K cs
 |(i,v)::r,cs,K=>Di v λvs=>bif Nat.beq vs.length sz then MF (i*sz) vs cs (λcs' =>GM sz r cs' K) .fail else .fail
def X7{α:Type} :List MG->List V->List V->Cmd α->Cmd α
 |(_,.box _)::ms,.ptr bx _::vs,.agg cs::os,K=> .get (U8+bx) λ
  | .dead=>Cmd.set (U8+bx) (.bcells cs) (X7 ms vs os K)|_=> .fail
 |(_,.box _)::_,_,_,_=> .fail
 |(_,.ifc _ (.box _))::ms,.ifc _ (.ptr bx _)::vs,.agg cs::os,K=> .get (U8+bx) λ
  | .dead=>Cmd.set (U8+bx) (.bcells cs) (X7 ms vs os K)|_=> .fail
 |(_,.ifc _ (.box _))::_,_,_,_=> .fail
 |(_,.ownb _)::ms,.own bx none::vs,.own nm none::os,K=> .get (U8+nm) λ
  | .barr u xs=>Cmd.set (U8+nm) .dead (.get (U8+bx) λ
   | .gone t=>Ty.castL u t xs (λxs=>Cmd.set (U8+bx) (.barr t xs) (X7 ms vs os K)) .fail
   |_=> .fail)
  |_=> .fail
 |(_,.ownb _)::ms,.nl::vs,.own nm none::os,K=>Cmd.set (U8+nm) .dead (X7 ms vs os K)|(_,.ownb _)::_,_,_,_=> .fail
 |(_,.sbx _ _)::ms,.ptr bx _::vs,.ptr nm _::os,K=> .get (U8+nm) λ
  | .bsb tb c=>Cmd.set (U8+nm) .dead (.get (U8+bx) λ
   | .dead=>Cmd.set (U8+bx) (.bsb tb c) (X7 ms vs os K)
   |_=> .fail)
  |_=> .fail
 |(_,.sbx _ _)::_,_,_,_=> .fail|(_,.sit)::_,_,_,_=> .fail|_::ms,_::vs,os,K=>X7 ms vs os K|[],[],[],K=>K|_,_,_,_=> .fail
def Ty.occ(t:Ty):Ty->Bool
 | .sl u=>decide (t=u) || Ty.occ t u| .prod a b=>Ty.occ t a || Ty.occ t b| .ent _ _ a b=>Ty.occ t a || Ty.occ t b|_=>false
def PD(t:Ty):List Ty->Bool|[]=>false|u::r=>decide (t=u) || Ty.occ t u || PD t r
def M.occ(t:Ty):M->Bool
 | .dat u=>Ty.occ t u| .own u=>Ty.occ t u| .pair a b=>a.occ t || b.occ t| .unit=>false| .box m=>m.occ t| .owns m=>m.occ t| .ownb u=>Ty.occ t u| .rp u=>decide (t=u) || Ty.occ t u| .fn _ ts=>PD t ts| .ifc _ m=>m.occ t| .cell _=>false| .fr u=>decide (t=u) || Ty.occ t u| .sbx _ _=>false| .sit=>false| .lp u=>decide (t=u) || Ty.occ t u| .dv ..=>false| .ownr m _=>m.occ t
def Hz(t:Ty):List MG->Bool|[]=>false|m::r=>m.2.occ t || Hz t r
def Wj(s:FSpec):Ty->Bool:=λt=> !(Hz t s.rs || Hz t s.outs)
def FT:Nat->List V->Option (List V×List V)
 |0,vs=>some ([],vs)
 |n+1,v::vs=>match FT n vs with|some (a,b)=>some (v::a,b)|none=>none
 |_+1,[]=>none
def Dh:List V->Bool|[]=>false| .tup _::_=>true|_::r=>Dh r
def a7n:List V->V|[v]=>v|vs=> .tup vs
def JZ:List MG->List V->Bool
 |(_,.fn g _)::ms,.clos f _::vs=>Nat.beq f g&&JZ ms vs|(_,.fn g _)::ms,.fnv f::vs=>Nat.beq f g&&JZ ms vs|(_,.ifc t _)::ms,.ifc t' _::vs=>Nat.beq t t' &&JZ ms vs|(_,.dv _ _ _ fo)::ms,v::vs=>(match v with| .ep _ _ o=>Nat.beq o fo|_=>false)&&JZ ms vs|_::ms,_::vs=>JZ ms vs|_,_=>true
def Yr:List (Nat×FSpec)->Nat->List V->Option FSpec
 |[],_,_=>none|(g,s)::r,f,vs=>bif Nat.beq g f&&JZ s.ps vs then some s else Yr r f vs
def a0L(sz fo:Nat)(c:V)(K:V->Cmd α):Cmd α:=match c with
 | .sl u xs=>bif szB sz u then Cmd.opt (J7 xs (O0 .i64 (o8 xs) 1)) λy=>K (.dp u y fo)else .fail
 | .own bx none=> .get (U8+(JQ+bx)) λ
  | .blen ln sz' =>bif Nat.beq sz sz' then .br (inb (O0 .i64 ln 1) ln) (K (.ep bx (P6 (O0 .i64 ln 1)) fo)) .fail else .fail
  |_=> .get (U8+bx) λ
   | .barr u xs=>bif szB sz u then Cmd.opt (J7 xs (O0 .i64 (o8 xs) 1)) λ_=>K (.ep bx (P6 (O0 .i64 (o8 xs) 1)) fo)else .fail
   | .bfrz u xs=>bif szB sz u then Cmd.opt (J7 xs (O0 .i64 (o8 xs) 1)) λy=>K (.dp u y fo)else .fail
   | .barrs m xs _=>bif Nat.beq sz m.size then Cmd.opt (J7 xs (O0 .i64 (o8 xs) 1)) λ_=>K (.ep bx (P6 (O0 .i64 (o8 xs) 1)) fo)else .fail|_=> .fail
 |_=> .fail
def Yp(off sz fo:Nat)(v:V)(K:V->Cmd α):Cmd α:=match v with
 | .ptr bx o=> .get (U8+bx) λ
  | .bcells cs=>OD (o+off) 1 cs (λr=>match r with|[c]=>a0L sz fo c K|_=> .fail) .fail|_=> .fail
 | .dp u x o=>OD (o+off) 1 (flat u x []) (λr=>match r with|[c]=>a0L sz fo c K|_=> .fail) .fail|_=> .fail
def b2N(a b:V)(K:Cmd α):Cmd α:=match a,b with
 | .ep n i o,.ep n' i' o' =>bif Nat.beq n n' &&Nat.beq o o' then .br (nX i i') K .fail else .fail|_,_=> .fail
def a6W:List V->Nat->V
 |[],_=> .un|v::_,0=>v|_::r,n+1=>a6W r n
def dvC{α:Type}(all:List V):List MG->List V->Cmd α->Cmd α
 |(_,.dv k off sz fo)::ms,v::vs,K=>Yp off sz fo (a6W all k) λr=>b2N r v (dvC all ms vs K)|_::ms,_::vs,K=>dvC all ms vs K|[],[],K=>K|_,_,_=> .fail
def UM(E:Env)(q:Nat)(d:Option Tmp)(f:Nat)(vs:List V):Cmd Unit:=
 match Yr E.fs f vs with
 |none=> .fail|some s=>dvC vs s.ps vs<|
  Jz (Wj s) s.ps vs λx=>Cmd.opt (s.fn x) λr=>
   Jy (s.rs++s.outs) r (J5 q d) λws n' =>bif Nat.ble n' (J5 q d+64)then(match FT s.rs.length ws with
    |some (a,o)=>bif Dh a then .fail else X7 s.ps vs o (bJ E d (a7n a))
    |none=> .fail)else .fail
def qG{α:Type} :List MG->List V->(List ((t:Ty)×t.den)->Cmd α)->Cmd α
 |(_,.rp t)::ms,v::vs,K=>rpC t v λx=>qG ms vs λcs=>K (⟨t,x⟩::cs)|[],[],K=>K []|_,_,_=> .fail
def b2M(c:(t:Ty)×t.den):V:=.dp c.1 c.2 0
def Sz:List ((Nat×String)×Nat×Option Nat)->Nat->String->Option (Nat×Option Nat)
 |[],_,_=>none|((t,n),r)::l,u,m=>bif Nat.beq t u&&(n==m)then some r else Sz l u m
def Ty.leaves:Ty->List Ty
 | .prod a b=>a.leaves++b.leaves| .unit=>[]|t=>[t]
def Ol:List Ty->List Ty->Bool
 |[],[]=>true|a::r,b::q=>bif Ty.beq a b then Ol r q else false|_,_=>false
def XQ(E:Env)(ke:Nat)(td:TD)(k:Ty):Bool:=
 match td,k with
 | .bool,.bool=>true| .int i,.int j=>decide (i=j)| .str,.str=>true| .struct _,k=>bif k.flat then(match bf E.eqs ke with|some sh=>Ol sh k.leaves|none=>false)else false|_,_=>false
structure MT where
 ke:Nat
 el:Nat
 ka:Bool
 va:Bool
 k:Ty
 v:Ty
abbrev MT.ent(m:MT):Ty:=.ent m.ka m.va m.k m.v
def LM(E:Env)(t:Nat):Option MT:=
 match bf E.tt t with
 |some i=>match i.td with
  | .map ke el=>match bf E.tt ke,bf E.tt el with
   |some a,some b=>(match a.ty,b.ty with
    |some k,some v=>bif XQ E ke a.td k&&k.flat then some ⟨ke,el,aB a.td,aB b.td,k,v⟩else none
    |_,_=>none)
   |_,_=>none
  |_=>none
 |none=>none
def a2M(ag:Bool)(t:Ty)(v:V)(K:t.den->Cmd α):Cmd α:=
 QV ag v λcs=>jv wK t cs λx q=>match q with|[]=>K x|_=> .fail
def a3z(u:Ty)(v:V)(K:List u.den->Cmd α):Cmd α:=
 match v with
 | .sl t xs=>Ty.castL t u xs K .fail
 | .own bx none=> .get (U8+bx) λ
  | .barr t xs=>Ty.castL t u xs K .fail| .bfrz t xs=>Ty.castL t u xs K .fail|_=> .fail
 |_=> .fail
def Hu(E:Env)(nm t:Nat)(K:V->Cmd Unit):Cmd Unit:=
 match LM E t with
 |some m=>pz nm (.barr m.ent []) (K (.own nm none))|none=> .fail
def a0O(E:Env)(t:Nat)(ok:Bool)(x ix:V)(K:V->Cmd Unit):Cmd Unit:=
 match LM E t with
 |some m=>a2M m.ka m.k ix λkey=>a3z m.ent x λes=>
   bif ok then K (.tup [mkV m.va (flat m.v (a6Q (keq m.k) es key m.v.zero) []),.b (a6R (keq m.k) es key)])
   else K (mkV m.va (flat m.v (a6Q (keq m.k) es key m.v.zero) []))
 |none=> .fail
def Xk(E:Env)(t:Nat)(x ix y:V):Cmd Unit:=
 match LM E t with
 |some m=>a2M m.ka m.k ix λkey=>a2M m.va m.v y λz=>match x with
  | .own bx none=> .get (U8+bx) λ
   | .barr u xs=>Ty.castL u m.ent xs (λes=>Cmd.set (U8+bx) (.barr m.ent (a1K (keq m.k) es key z)) (.ret ())) .fail|_=> .fail
  |_=> .fail
 |none=> .fail
def Pz:M->List V->Bool
 | .dat _,_=>true| .unit,_=>true
 | .own t,cs=>match cs with| .nl::_=> !t.isEnt|_=>false
 | .owns _,cs=>match cs with| .nl::_=>true|_=>false
 | .pair a b,cs=>match Ro a.size cs with|some r=>bif Pz a cs then Pz b r else false|none=>false
 |_,_=>false
def a1m(E:Env)(t:Nat)(m:M):Bool:=
 match yS E t with
 |some (e,_)=>match bf E.tt e with|some j=>bif Nat.beq j.zero.length j.size then Pz m j.zero else false|none=>false
 |none=>false
def TE:Operand->Operand->Bool
 | .tmp a,.tmp b=>Nat.beq a b|_,_=>false
def b2L(t:Nat)(zs:List V):V:=match zs with
 |[.npt,.nl]=> .bsb t .nl|zs=> .bcells zs
def aG(E:Env)(q:Nat)(o:Oper):Cmd Unit:=
 match o.op with
 | .move x| .assign x=>lQ x λv=>bJ E o.dst v
 | .pick c a b=>lQ c λ
  | .b t=>bif t then lQ a λva=>bJ E o.dst va else lQ b λvb=>bJ E o.dst vb|_=> .fail
 | .alloc t=>tiC E t λi=>bif Nat.beq i.zero.length i.size then pz (J5 q o.dst) (b2L t i.zero) (bJ E o.dst (.ptr (J5 q o.dst) 0))else .fail
 | .box _ x=>lQ x λv=>Di v λcs=>pz (J5 q o.dst) (.bcells cs) (bJ E o.dst (.ptr (J5 q o.dst) 0))
 | .build t ps=>tiC E t λi=>match i.td with
  | .struct fs=>bif a0q E fs&&Nat.beq i.zero.length i.size then(Md (ps.toList.map (·.2)) λvs=>
    yP E t ((ps.toList.map (·.1)).zip vs) i.zero (λcs=>bJ E o.dst (.agg cs)))else .fail
  | .arr _ e=>tiC E e λj=>bif Nat.beq i.zero.length i.size then(Md (ps.toList.map (·.2)) λvs=>
    GM j.size ((ps.toList.map (·.1)).zip vs) i.zero (λcs=>bJ E o.dst (.agg cs)))else .fail
  |_=> .fail
 | .buildSlice t n ps=>match yS E t with
  |some (_,u)=>bif Nat.ble (n*u.size) 16777216 then(Md (ps.toList.map (·.2)) λvs=>match bf E.om t with
    |none=>uV u ((ps.toList.map (·.1)).zip vs) 0 n λxs=>pz (J5 q o.dst) (.barr u xs) (bJ E o.dst (.own (J5 q o.dst) none))
    |some m=>bif Nat.beq m.size u.size&&m.el then qO m ((ps.toList.map (·.1)).zip vs) 0 n λxs=>pz (J5 q o.dst) (.barrs m xs none) (bJ E o.dst (.own (J5 q o.dst) none))else .fail)else .fail
  |none=> .fail
 | .load t x=>lQ x λp=>a8d E o.dst (J5 q o.dst) t p λv=>bJ E o.dst v
 | .store t x y=>match o.dst with|none=>lQ x λp=>lQ y λv=>a6r E t p v|some _=> .fail
 | .binOp op t x y _=>lQ x λa=>lQ y λb=>GN E t op y a b λv=>bJ E o.dst v
 | .unOp op _ x=>lQ x λa=>unC op a λv=>bJ E o.dst v
 | .convert src t x=>lQ x λa=>tiC E src λj=>tiC E t λi=>match a,i.td with
  | .i _ n,.int k=>bJ E o.dst (.i k (wrap k n))| .s l,.str=>bJ E o.dst (.s l)| .s l,.sl _=>(match j.td with| .str=>a2L E (J5 q o.dst) t l λv=>bJ E o.dst v|_=> .fail)
  |_,.str=>(match j.td with
   | .sl e=>tiC E e λk=>(match k.td with
    | .int .u8=>Yq (.int .u8) a λxs=>bJ E o.dst (.s (a2J xs))
    |_=> .fail)
   |_=> .fail)
  |_,_=> .fail
 | .makeSlice t l c=>match bf E.om t with
  |some m=>(match yS E t with
   |some (_,u)=>lQ l λ
    | .i _ n=>bif TE l c&&Nat.beq m.size u.size&&a1m E t m then(if h:m.el=true/\m.ty=u then Cmd.opt (yJ n (m.zero h.1)) λxs=>pz (J5 q o.dst) (.barrs m xs none) (.set (U8+(JQ+J5 q o.dst)) (.blen (o8 xs) m.size) (bJ E o.dst (.own (J5 q o.dst) none)))else .fail)else .fail|_=> .fail
   |none=> .fail)
  |none=>match yS E t with
  |some (_,u)=>lQ l λ
   | .i _ n=>bif TE l c then
     Cmd.opt (yJ n u.zero) λxs=>pz (J5 q o.dst) (.barr u xs) (bJ E o.dst (.own (J5 q o.dst) none))
    else lQ c λ
     | .i _ k=>Cmd.br (mM n k 1073741824) (Cmd.opt (yJ n u.zero) λxs=>pz (J5 q o.dst) (.barr u xs) (bJ E o.dst (.own (J5 q o.dst) none))) .fail|_=> .fail
   |_=> .fail
  |none=> .fail
 | .slice t x lo hi none=>lQ x λv=>Md (lo.toList++hi.toList) λbs=>
   match lo,hi,bs with
   |none,none,[]=>(match v with
    | .ptr bx 0=>TG E (J5 q o.dst) t bx λr=>bJ E o.dst r
    |_=>Ot E t v none none λr=>bJ E o.dst r)
   |some _,none,[a]=>Ot E t v (some a) none λr=>bJ E o.dst r
   |none,some _,[b]=>Ot E t v none (some b) λr=>bJ E o.dst r
   |some _,some _,[a,b]=>Ot E t v (some a) (some b) λr=>bJ E o.dst r|_,_,_=> .fail
 | .fieldAddr t x f=>lQ x λp=>match He E t f with
  |some (off,_,_)=>match p with
   | .ptr bx o' =>bJ E o.dst (.ptr bx (o' +off))| .ep bx ix o' =>bJ E o.dst (.ep bx ix (o' +off))| .dp u y o' =>bJ E o.dst (.dp u y (o' +off))|_=> .fail
  |none=> .fail
 | .field t x f=>lQ x λp=>match He E t f with
  |some (off,n,ag)=>QV true p λps=>OD off n ps (λcs=>bJ E o.dst (mkV ag cs)) Cmd.fail|none=> .fail
 | .indexAddr t x ix=>lQ x λv=>lQ ix λn=>RQ E t v n λr=>bJ E o.dst r
 | .index t x ix=>lQ x λv=>lQ ix λn=>tiC E t λi=>match i.td,v,n with
  | .str,.s l,.i _ k=>Cmd.opt (sat l k) λc=>bJ E o.dst (.i .u8 c)|_,_,_=> .fail
 | .extract x n=>lQ x λ
  | .tup vs=>match vs[n]? with|some v=>bJ E o.dst v|none=> .fail
  |_=> .fail
 | .nilCheck x=>lQ x λv=>match v with
  | .ptr ..| .ep ..| .dp ..| .glob _=>bJ E o.dst v|_=> .fail
 | .call c=>Md c.args.toList λvs=>match c.callee with
  | .builtin .len=>(match c.argTypes.toList,vs with
   |t::_,[x]=>tiC E t λi=>b2O i.td x λv=>bJ E o.dst v
   |_,_=> .fail)
  | .builtin .append=>(match c.argTypes.toList,vs with
   |[t,t'],[x,y]=>bif Nat.beq t t' then a0r E (J5 q o.dst) t x y λv=>bJ E o.dst v else(match y with
    | .s l=>tiC E t' λi=>(match i.td with| .str=>a0s E (J5 q o.dst) t x l λv=>bJ E o.dst v|_=> .fail)
    |_=> .fail)
   |_,_=> .fail)
  | .builtin .copy=>(match c.argTypes.toList,vs with
   |[t,t'],[x,y]=>bif Nat.beq t t' then a8b E t x y λv=>bJ E o.dst v else .fail
   |_,_=> .fail)
  | .builtin .min=>(match vs with|[.i k a,.i k' b]=>bif decide (k=k')then bJ E o.dst (.i k (yH a b))else .fail|_=> .fail)| .builtin .max=>(match vs with|[.i k a,.i k' b]=>bif decide (k=k')then bJ E o.dst (.i k (ul a b))else .fail|_=> .fail)
  | .value (.func f)=>(match bf E.pl f with
   |some (off,sz)=>bif Nat.beq sz 0 then .fail else(match vs with|[v]=>Yp off sz 0 v λr=>bJ E o.dst r|_=> .fail)
   |none=>UM E q o.dst f vs)
  | .value x=>lQ x λ
   | .clos f caps=>UM E q o.dst f (vs++caps.map b2M)|_=> .fail
  | .invoke x n=>lQ x λ
   | .ifc t v=>(match Sz E.ms t n with
    |some (f,none)=>UM E q o.dst f (v::vs)
    |some (f,some e)=>BZ E e v λr=>UM E q o.dst f (r::vs)
    |none=> .fail)
   |_=> .fail
  |_=> .fail
 | .makeFunc (.func f) first caps=>bif Nat.beq first.size 0 then(match bf E.pl f with
  |some (n,z)=>bif Nat.beq z 0&&Nat.beq caps.size n then bJ E o.dst (.idl f n)else .fail
  |none=>(match bf E.fs f with
   |some s=>Md caps.toList λvs=>qG (s.ps.drop (s.ps.length -vs.length)) vs λcs=>bJ E o.dst (.clos f cs)
   |none=> .fail))else .fail
 | .defer c=>bif Nat.beq c.args.size 0 then(match o.dst,c.callee with
  |none,.value x=>lQ x λ
   | .idl f n=>(match bf E.pl f with
    |some (k,z)=>bif Nat.beq z 0&&Nat.beq n k then bJ E none .undef else .fail
    |none=> .fail)
   |_=> .fail
  |_,_=> .fail)else .fail
 | .makeInterface t x=>tiC E t λi=>(match i.td with
  | .bool| .int _| .str| .ptr _=>lQ x λv=>(match v with
   | .b ..| .i ..| .s ..| .ptr ..=>bJ E o.dst (.ifc t v)
   |_=> .fail)
  |_=> .fail)
 | .typeAssert x _ t ok=>tiC E t λi=>(match i.td with
  | .other=> .fail
  |_=>lQ x λ
   | .ifc t' v=>bif Nat.beq t' t then bJ E o.dst (bif ok then .tup [v,.b true]else v)else .fail
   |_=> .fail)
 | .makeMap t r=>(match r with
  |none=>Hu E (J5 q o.dst) t λv=>bJ E o.dst v
  |some h=>lQ h λ
   | .i _ _=>Hu E (J5 q o.dst) t λv=>bJ E o.dst v
   |_=> .fail)
 | .range t x=>lQ x λv=>tiC E t λi=>match i.td,v with
  | .str,.s l=>pz (J5 q o.dst) (.biter l 0) (bJ E o.dst (.ptr (J5 q o.dst) 0))|_,_=> .fail
 | .next x isS=>bif isS then(lQ x λ
   | .ptr bx 0=> .get (U8+bx) λ
    | .biter l p=> .br (F9 p (o8 l)) (Cmd.set (U8+bx) (.biter l (Iw l p)) (bJ E o.dst (.tup [.b true,.i .i64 p,.i .i32 (Ey l p)]))) (bJ E o.dst (.tup [.b false]))|_=> .fail
   |_=> .fail)else .fail
 | .lookup t x ix ok=>lQ x λm=>lQ ix λk=>a0O E t ok m k λv=>bJ E o.dst v
 | .mapUpdate t x ix y| .insert t x ix y=>match o.dst with|none=>lQ x λm=>lQ ix λk=>lQ y λv=>Xk E t m k v|some _=> .fail
 |_=> .fail
def kP(E:Env)(q:Nat)(ops:List Oper)(o:Oper):Cmd Unit:=
 match o.guard with
 |none=>aG E q o
 |some (j,want)=>match ops[j]? with
  |some p=>match p.dst with
   |some t=>bif Nat.blt t U8 then(.get t λ
    | .b y=>bif (bif want then y else !y)then aG E q o else bJ E o.dst .un| .un=>bJ E o.dst .un
    |_=> .fail)else .fail
   |none=> .fail
  |none=> .fail
def Qx(t:Nat)(s:St)(K:St->Option R):Option R:=
 (cO s t).force λ
  | .b y=>l7 y (K (.kv t (.b true)::s)) (K (.kv t (.b false)::s))| .un=>K s|_=>none
def a7Z(ops:List Oper)(o:Oper):Option Nat:=
 match o.guard with
 |some (j,_)=>match ops[j]? with|some p=>p.dst|none=>none
 |none=>match o.op with| .pick (.tmp t) _ _=>some t|_=>none
abbrev Trs:=List Tr
def KH{R:Type}(E:Env)(q:Nat)(all:List Oper):List Oper->St->Trs->(St->Trs->Option R)->Option R
 |[],s,t,K=>K s t
 |o::r,s,t,K=>match a7Z all o with
  |none=>(kP E q all o).runK s ([],[]) λ_ s' tr=>KH E q all r s' (tr::t) K
  |some p=>Qx p s λs=>(kP E q all o).runK s ([],[]) λ_ s' tr=>KH E q all r s' (tr::t) K
def Io:c2i->c2i->Bool
 |[],[]=>true|a::r,b::q=>bif Nat.beq a b then Io r q else false|_,_=>false
def lg(o:Oper):Bool:=match o.op with| .call ..=>true|_=>false
def We(E:Env)(o:Oper):Bool:=!lg o&&(match o.dst with|some d=>zJ d E.rc|none=>false)
def a2S(E:Env)(all:List Oper)(i:Nat):Bool:=match all[i]? with|some o=>We E o|none=>false
def VQ(all:List Oper)(i:Nat):Bool:=match all[i]? with|some o=>lg o|none=>false
def a6B(a b:V)(K:Option R):Option R:=
 a.force λa=>b.force λb=>match a with
  | .i k n=>(match b with| .i k' n' =>bif decide (k=k')then l7 (x9 n n') K none else none|_=>none)| .sl t xs=>(match b with| .sl u ys=>Ty.castL u t ys (λys=>l7 (deq (.sl t) xs ys) K none) none|_=>none)| .b x=>(match b with| .b y=>l7 (Ak x y) K none|_=>none)| .s x=>(match b with| .s y=>l7 (seq x y) K none|_=>none)|_=>none
abbrev a1o:=List (Oper×Tr×V)
def Vy{R:Type}(E:Env)(q:Nat)(all:List Oper)(s:St):a1o->Option R->Option R
 |[],K=>K
 |(o,tr,v)::p,K=>(kP E q all o).runK s ([],[]) λ_ s2 tr2=>match o.dst with
  |some d=>bif Io tr.1 tr2.1&&Io tr.2 tr2.2&&Io tr2.2 [d]then a6B v (cO s2 d) (Vy E q all s p K)else none|none=>none
def SS(E:Env)(o:Oper)(s:St)(tr:Tr)(p:a1o):a1o:=
 bif We E o then(match o.dst with|some d=>(o,tr,cO s d)::p|none=>p)else p
def wS{R:Type}(E:Env)(q:Nat)(all:List Oper):List Oper->St->Trs->a1o->(St->Trs->Option R)->Option R
 |[],s,t,_,K=>K s t
 |o::r,s,t,p,K=>match a7Z all o with
  |none=>(kP E q all o).runK s ([],[]) λ_ s' tr=>bif lg o then Vy E q all s' p (wS E q all r s' (tr::t) p K)else wS E q all r s' (tr::t) (SS E o s' tr p) K
  |some g=>Qx g s λs=>(kP E q all o).runK s ([],[]) λ_ s' tr=>bif lg o then Vy E q all s' p (wS E q all r s' (tr::t) p K)else wS E q all r s' (tr::t) (SS E o s' tr p) K
def Qe(a b:c2i):Bool:=match a with|[]=>true|k::r=>bif zJ k b then false else Qe r b
def ZX(ordered:Bool)(x y:Tr):Bool:=bif ordered then true else(Qe x.2 y.1&&Qe x.2 y.2&&Qe x.1 y.2)
def Qv(mask:Nat)(y:Tr):Trs->Nat->Bool
 |[],_=>true|x::r,i=>ZX (Nat.testBit mask (i -1)) x y&&Qv mask y r (i -1)
def SN:c2i->Trs->Bool
 |m::ms,y::r=>Qv m y r r.length&&SN ms r|[],[]=>true|_,_=>false
def a0T(mask:Nat)(x:Tr):List (Nat×Tr)->Bool
 |[]=>true|(m,z)::r=>(Nat.testBit mask m || Qe x.1 z.2)&&a0T mask x r
def a0W(ordered ex:Bool)(mask:Nat)(x y:Tr)(mids:List (Nat×Tr)):Bool:=
 bif ordered then true else(Qe x.2 y.1&&Qe x.2 y.2&&(bif Qe x.1 y.2 then true else(ex&&Qe x.2 x.1&&a0T mask x mids)))
def LW(E:Env)(all:List Oper)(mask:Nat)(y:Tr)(cy:Bool):Trs->Nat->List (Nat×Tr)->Bool
 |[],_,_=>true|x::r,i,mids=>a0W (Nat.testBit mask (i -1)) (cy&&a2S E all (i -1)) mask x y mids&&LW E all mask y cy r (i -1) ((i -1,x)::mids)
def LY(E:Env)(all:List Oper):c2i->Trs->Bool
 |m::ms,y::r=>LW E all m y (VQ all r.length) r r.length []&&LY E all ms r|[],[]=>true|_,_=>false
inductive Flow (ρ:Type) where
 |nm|ex (id:Nat)|rt (r:ρ)
def Jw(acc:c2i)(n:Nat):List Edge->Nat->Option Nat
 |[],m=>some m
 |e::r,m=>match e.ground with
  | .textOnly _=>Jw acc n r m| .gcOnly _=>Jw acc n r m|_=>bif Nat.blt e.on n then Jw acc n r (m ||| 2^e.on ||| acc.getD (n -1 -e.on) 0)else none
def Wy:List Oper->Nat->c2i->Option c2i
 |[],_,acc=>some acc
 |o::r,n,acc=>match Jw acc n o.after.toList 0 with
  |some m=>Wy r (n+1) (m::acc)|none=>none
def KE(md:Region.Mode)(done:c2i):List Edge->Bool
 |[]=>true|e::r=>bif (!Region.binds md e || zJ e.on done)then KE md done r else false
def qX(md:Region.Mode)(done:c2i):List Oper->Nat->Option Nat
 |[],_=>none|o::r,n=>bif zJ n done then qX md done r (n+1)else bif KE md done o.after.toList then some n else qX md done r (n+1)
def a0p:Nat->c2i->Bool
 |0,_=>true|n+1,d=>zJ n d&&a0p n d
def Xh(md:Region.Mode)(ops:List Oper):Nat->c2i->Bool
 |0,d=>a0p ops.length d
 |k+1,done=>match qX md done ops 0 with|some n=>Xh md ops k (n::done)|none=>false
def NW:List Edge->Bool
 |[]=>true
 |e::r=>match e.ground with| .textOnly _=>false| .gcOnly _=>false|_=>NW r
def Bd:List Oper->Bool|[]=>true|o::r=>bif NW o.after.toList then Bd r else false
def a2O(ops:List Oper)(t:Trs):Bool:=
 match Wy ops 0 []with
 |some ms=>bif SN ms t then(bif Bd ops then true else Xh .text ops ops.length []&&Xh .gc ops ops.length [])else false|none=>false
def a0C(E:Env)(ops:List Oper)(t:Trs):Bool:=
 match Wy ops 0 []with
 |some ms=>bif LY E ops ms t then(bif Bd ops then true else Xh .text ops ops.length []&&Xh .gc ops ops.length [])else false|none=>false
abbrev Rgs:=List (Nat×Nat)
inductive Ann where
 |leaf
 |seq (a b:Ann)|cond (a b:Ann)|blk (a:Ann)
 |loop (rs:Rgs) (hd:Sig) (xid:Nat) (xs:Sig) (body:Ann)
 |loopR (rs:Rgs) (hd:Sig) (xid:Nat) (xs:Sig) (body:Ann)
 |join (rs:Rgs) (nm:Sig) (inner:Ann)
 |joinR (rs:Rgs) (nm:Sig) (inner:Ann)
structure Ret where
 rs:List (ResultVar×MG)
 outs:List (Nat×MG)
@[reducible] def Ret.den (r:Ret):Type:=Y7 (r.rs.map (·.2)++r.outs.map (·.2))
def Oi{α:Type}(E:Env):List ResultVar->(List V->Cmd α)->Cmd α
 |[],K=>K []| .tmp t::r,K=>bif Nat.blt t U8 then(.get t λv=>Oi E r λvs=>K (v::vs))else .fail| .cell a t::r,K=>bif Nat.blt a U8 then(.get a λp=>BZ E t p λv=>Oi E r λvs=>K (v::vs))else .fail
def NU{α:Type} :c2i->(List V->Cmd α)->Cmd α
 |[],K=>K []
 |n::r,K=>bif Nat.blt n U8 then .get n λv=>(match v with
  | .ptr bx 0=> .get (U8+bx) λ
   | .bcells cs=>Cmd.set (U8+bx) .dead (NU r λvs=>K (.agg cs::vs))|_=> .fail
  | .ifc _ u=>(match u with
   | .ptr bx 0=> .get (U8+bx) λ
    | .bcells cs=>Cmd.set (U8+bx) .dead (NU r λvs=>K (.agg cs::vs))|_=> .fail
   |_=> .fail)
  | .own bx none=>NU r λvs=>K (.own bx none::vs)
  |_=> .fail)else .fail
def a7p(E:Env)(r:Ret):Cmd r.den:=
 Oi E (r.rs.map (·.1)) λvs=>NU (r.outs.map (·.1)) λws=>EI (vs++ws) (Jz wK (r.rs.map (·.2)++r.outs.map (·.2)) (vs++ws) .ret)
def Ann.l:Ann->Ann| .seq a _=>a| .cond a _=>a| .blk a=>a|_=> .leaf
def Ann.r:Ann->Ann| .seq _ b=>b| .cond _ b=>b|_=> .leaf
def uZ:Code->Nat
 | .region ..=>2| .seq x y=>1+uZ x+uZ y| .cond _ x y=>1+uZ x+uZ y| .block _ x=>1+uZ x| .loop x=>3+uZ x|_=>1
abbrev Den(ρ:Type):=Nat->Ann->St->Rgs->(R:Type)->(Flow ρ->St->Rgs->Option R)->Option R
def a1G(lo hi:Nat):Rgs->Bool|[]=>false|(a,b)::r=>bif Nat.ble a lo&&Nat.ble hi b then true else a1G lo hi r
def Ri(lim:Nat)(rs:Rgs):Rgs->Bool|[]=>true|(a,b)::w=>bif Nat.ble lim a || a1G a b rs then Ri lim rs w else false
def LC(ks:c2i)(w:Rgs):Rgs:=match ks with|[]=>w|k::r=>(k,k+1)::LC r w
def AV(rs:Rgs)(s:St):St:=match rs with|[]=>s|(a,b)::r=> .mask a b::AV r s
def JA(q:Nat)(sg:Sig)(rs:Rgs)(s:St)(w:Rgs)(K:mP sg->Option R):Option R:=
 (a2U sg).runK s ([],[]) λx _ tr=>bif Ri (U8+CB*q) rs (LC tr.2 w)then K x else none
def enter(q:Nat)(sg:Sig)(rs:Rgs)(s:St)(x:mP sg)(K:St->Rgs->Option R):Option R:=
 (a2Q sg x (CB*q) (CB*q+CB)).runK (AV rs s) ([],[]) λ_ s' tr=>K s' (LC tr.2 rs)
def QM(a b:Rgs):Rgs:=match a with|[]=>b|x::r=>x::QM r b
def Gz(core:Den ρ):Den ρ:=λq a s w R K=>
 match a with
 | .join rs nm a=>l9 (core (q+1) a s [] (mP nm) λfl s' w' =>match fl with
   | .nm=>JA q nm rs s' w' some
   |_=>none) λx=>enter q nm rs s x λs' w' =>K .nm s' (QM w' w)
 | .joinR rs nm a=>l9 (core (q+1) a s [] (mP nm⊕ρ) λfl s' w' =>match fl with
   | .nm=>JA q nm rs s' w' λx=>some (Sum.inl x)| .rt r=>some (Sum.inr r)
   |_=>none) λo=>U3 o (λx=>enter q nm rs s x λs' w' =>K .nm s' (QM w' w)) (λr=>K (.rt r) [] [])
 |a=>core (q+1) a s w R K
def a4q(core:Den ρ)(q:Nat)(rs:Rgs)(hd:Sig)(xid:Nat)(xs:Sig)(a:Ann)(s:St)(x:mP hd):Option (mP hd⊕mP xs):=
 enter q hd rs s x λs w=>core (q+2) a s w (mP hd⊕mP xs) λfl s' w' =>match fl with
  | .nm=>JA q hd rs s' w' λx=>some (Sum.inl x)
  | .ex id=>bif Nat.beq id xid then JA q xs rs s' w' λy=>some (Sum.inr y)else none| .rt _=>none
def a4r(core:Den ρ)(q:Nat)(rs:Rgs)(hd:Sig)(xid:Nat)(xs:Sig)(a:Ann)(s:St)(x:mP hd):Option (Out (mP hd) (mP xs) ρ):=
 enter q hd rs s x λs w=>core (q+2) a s w (Out (mP hd) (mP xs) ρ) λfl s' w' =>match fl with
  | .nm=>JA q hd rs s' w' λx=>some (.nx x)
  | .ex id=>bif Nat.beq id xid then JA q xs rs s' w' λy=>some (.ex y)else none| .rt r=>some (.rt r)
def XZ(core:Den ρ):Den ρ:=λq a s w R K=>
 match a with
 | .loop rs hd xid xs a=>JA q hd rs s [] λx0=>
  l9 (dH (λx=>a4q core q rs hd xid xs a s x) x0) λy=>enter (q+1) xs rs s y λs' w' =>K (.ex xid) s' (QM w' w)
 | .loopR rs hd xid xs a=>JA q hd rs s [] λx0=>
  l9 (O6 (λx=>a4r core q rs hd xid xs a s x) x0) λo=>U3 o (λy=>enter (q+1) xs rs s y λs' w' =>K (.ex xid) s' (QM w' w)) (λr=>K (.rt r) [] [])
 |_=>none
def zi(t:Trs)(w:Rgs):Rgs:=match t with|[]=>w|x::r=>LC x.2 (zi r w)
def WF(E:Env)(q:Nat)(ops:Array Oper)(draw:Bool)(s:St)(w:Rgs)(K:St->Rgs->Option R):Option R:=
 match E.rc with
 |[]=>KH E q ops.toList ops.toList s [] λs' t=>
  bif draw then(bif a2O ops.toList t then K s' (zi t w)else none)else K s' (zi t w)
 |_::_=>wS E q ops.toList ops.toList s [] [] λs' t=>
  bif draw then(bif a0C E ops.toList t then K s' (zi t w)else none)else K s' (zi t w)
def den(E:Env)(rt:Ret):Code->Den rt.den
 | .skip=>Gz λ_ _ s w _ K=>K .nm s w
 | .label _=>Gz λ_ _ s w _ K=>K .nm s w
 | .region _ ops draw=>Gz λq _ s w _ K=>WF E q ops draw s w λs' w' =>K .nm s' w'
 | .seq x y=>Gz λq a s w R K=>den E rt x q a.l s w R λfl s' w' =>match fl with
   | .nm=>den E rt y (q+uZ x) a.r s' w' R K| .ex id=>K (.ex id) s' w'| .rt r=>K (.rt r) s' w'
 | .cond c x y=>Gz λq a s w R K=>(lQ c λv=>Cmd.ret v:Cmd V).runK s ([],[]) λv s' _=>match v with
   | .b t=>l7 t (den E rt x q a.l s' w R K) (den E rt y (q+uZ x) a.r s' w R K)|_=>none
 | .block id x=>Gz λq a s w R K=>den E rt x q a.l s w R λfl s' w' =>match fl with
   | .nm=>K .nm s' w'| .ex j=>bif Nat.beq j id then K .nm s' w' else K (.ex j) s' w'| .rt r=>K (.rt r) s' w'
 | .loop x=>Gz (XZ λq a s w R K=>den E rt x q a s w R K)
 | .exit id=>Gz λ_ _ s w _ K=>K (.ex id) s w
 | .ret=>Gz λ_ _ s _ _ K=>(a7p E rt).runK s ([],[]) λr _ _=>K (.rt r) [] []
 |_=>λ_ _ _ _ _ _=>none
def ji:List MG->Nat->c2i
 |[],_=>[]|(_,.box _)::ms,n=>n::ji ms (n+1)|(_,.ifc _ (.box _))::ms,n=>n::ji ms (n+1)|(_,.ownb _)::ms,n=>n::ji ms (n+1)|_::ms,n=>ji ms (n+1)
def a6t:c2i->c2i->Bool
 |[],_=>true|a::r,b=>bif zJ a b then a6t r b else false
def a6S:List MG->Bool
 |[]=>true|(_,.sbx _ _)::_=>false|(_,.sit)::_=>false|_::r=>a6S r
def Zx:List MG->Nat->Cmd Unit->Cmd Unit
 |[],_,K=>K
 |(_,.dv k off sz fo)::ms,n,K=>bif Nat.blt k U8&&Nat.blt n U8 then .get k λv=>Yp off sz fo v λr=> .set n r (Zx ms (n+1) K)else .fail|_::ms,n,K=>Zx ms (n+1) K
def a1y(E:Env)(ps:List MG)(rt:Ret)(body:Code)(a:Ann)(x:Y7 ps):Option rt.den:=
 bif Nat.ble ps.length E.nt&&Io (rt.outs.map (·.1)) (ji ps 0)&&a6t (rt.outs.map (·.1)) E.kp&&a6S ps then
 (Jy ps x 0 λvs n=>bif Nat.ble n CB then Jl (List.range vs.length) vs (Zx ps 0 (.ret ()))else .fail).runK [] ([],[]) λ_ s _=>
  den E rt body 1 a s [] rt.den λfl s' _=>match fl with
   | .rt r=>some r
   | .nm=>(a7p E rt).runK s' ([],[]) λr _ _=>some r| .ex _=>none
 else none
end Go.GP
namespace Go.GP
open RowKit
def bD(h:Array Obj)(blk off n:Nat):Option c2h:=
 match h[blk]? with
 |some (.cells c _ _)=>if off+n<=c.size then some ((c.toList.drop off).take n)else none|_=>none
variable {h:Array Obj}{h':Array Obj}{blk:Nat}
theorem nO(e:h'[blk]? =h[blk]?)(off n:Nat):bD h' blk off n=bD h blk off n:=by simp[bD,e]
variable {n:Nat}{off:Nat}{es:c2h}
theorem jT(e:bD h blk off n=some es):es.length=n:=by
 unfold bD at e;split at e
 .split at e
  .cases e;simp;omega
  .cases e
 .cases e
theorem fJ{c:Array Value}{T:TypeId}{f:Nat×Nat}(hb:h[blk]? =some (.cells c T f))(off n:Nat)(hn:off+n<=c.size):
  bD h blk off n=some ((c.toList.drop off).take n):=by simp[bD,hb,hn]
theorem lY(e:bD h blk off n=some es):
  ∃c T f,h[blk]? =some (.cells c T f)/\off+n<=c.size/\es=(c.toList.drop off).take n:=by
 unfold bD at e;split at e
 .rename_i c T f hb;split at e
  .cases e;exact⟨c,T,f,hb,by assumption,rfl⟩
  .cases e
 .cases e
theorem lM(e:bD h blk off n=some es)(a k:Nat)(hk:a+k<=n):
  bD h blk (off+a) k=some ((es.drop a).take k):=by
 obtain⟨c,T,f,hb,hn,rfl⟩:=lY e;rw[fJ hb _ _ o5];congr 1;rw[eU,dN,V8];congr 1;omega
def oC(ag:Bool)(v:Value):c2h:=match ag with
 |true=>v.cells.toList|false=>[v]
def gok(ag:Bool)(v:Value):Prop:=match ag with
 |true=>∃arr,v= .agg arr|false=>v.oneCell' =true
def vZ(t:Ty)(e:MapEntry):c2h:=match t with
 | .ent ka va _ _=>oC ka e.key++oC va e.val|_=>[]
def Le(t:Ty)(e:MapEntry):Prop:=match t with
 | .ent ka va k v=>gok ka e.key/\gok va e.val/\(oC ka e.key).length=k.size|_=>False
def b2J:Option IntKind->Value->Prop
 |none,_=>True|some k,v=>∃n,v= .int k n
def iY(h:Array Obj)(ok:Nat->Ty->Prop):(t:Ty)->t.den->c2h->Prop
 | .ent _ _ a b,x,cs=>∃c d,cs=c++d/\iY h ok a x.1 c/\iY h ok b x.2 d| .bool,x,cs=>cs=[.bool x]| .int k,n,cs=>cs=[.int k n]| .str,l,cs=>cs=[.string ⟨l.toArray⟩]| .prod a b,x,cs=>∃c d,cs=c++d/\iY h ok a x.1 c/\iY h ok b x.2 d| .unit,_,cs=>cs=[]| .any o,_,cs=>∃v,cs=[v]/\v.oneCell' =true/\b2J o v
 | .sl t,xs,cs=>(t.isEnt=false/\∃a cap,cs=[.slice a xs.length cap]/\xs.length<=cap/\
   ∀i x,xs[i]? =some x->∃blk off es,a=some ⟨blk,off,none⟩/\ok blk t/\bD h blk (off+i*t.size) t.size=some es/\iY h ok t x es)\/
   (t.isEnt=true/\∃mv,cs=[.map mv]/\(mv=none->xs=[])/\∀blk,mv=some blk->ok blk t/\∃(es:Array MapEntry) (ck:Nat),h[blk]? =some (.map es ck)/\es.size=(xs:List t.den).length/\
    ∀(i:Nat) (x:t.den),(xs:List t.den)[i]? =some x->∃e:MapEntry,es[i]? =some e/\Le t e/\iY h ok t x (vZ t e))
variable {t:Ty}{xs:List t.den}{ok:Nat->Ty->Prop}
theorem vz{cs:c2h}(ht:t.isEnt=false):iY h ok (.sl t) xs cs↔∃a cap,cs=[.slice a xs.length cap]/\xs.length<=cap/\
   ∀i x,xs[i]? =some x->∃blk off es,a=some ⟨blk,off,none⟩/\ok blk t/\bD h blk (off+i*t.size) t.size=some es/\iY h ok t x es:=by
 constructor
 .rintro(h|h)
  .exact h.2
  .rw[ht]at h;cases h.1
 .exact λh=> .inl ⟨ht,h⟩
theorem m_{cs:c2h}(ht:t.isEnt=true):iY h ok (.sl t) xs cs↔∃mv,cs=[.map mv]/\(mv=none->xs=[])/\∀blk,mv=some blk->ok blk t/\∃(es:Array MapEntry) (ck:Nat),h[blk]? =some (.map es ck)/\es.size=(xs:List t.den).length/\
    ∀(i:Nat) (x:t.den),(xs:List t.den)[i]? =some x->∃e:MapEntry,es[i]? =some e/\Le t e/\iY h ok t x (vZ t e):=by
 constructor
 .rintro(h|h)
  .rw[ht]at h;cases h.1
  .exact h.2
 .exact λh=> .inr ⟨ht,h⟩
theorem bY{h:Array Obj}{ok:Nat->Ty->Prop} :∀{t:Ty} {x:t.den} {cs:c2h},iY h ok t x cs->cs.length=t.size
 | .bool,_,_,e=>by simp[iY]at e;simp[e,Ty.size]| .int _,_,_,e=>by simp[iY]at e;simp[e,Ty.size]| .str,_,_,e=>by simp[iY]at e;simp[e,Ty.size]| .unit,_,_,e=>by simp[iY]at e;simp[e,Ty.size]| .any _,_,_,e=>by obtain⟨v,rfl,_⟩:=e;rfl
 | .prod a b,_,_,e=>by obtain⟨c,d,rfl,h1,h2⟩:=e;simp[bY h1,bY h2,Ty.size]
 | .ent _ _ a b,_,_,e=>by obtain⟨c,d,rfl,h1,h2⟩:=e;simp[bY h1,bY h2,Ty.size]
 | .sl t,_,_,e=>by rcases e with⟨_,a,cap,rfl,_⟩|⟨_,mv,rfl,_⟩<;>simp[Ty.size]
theorem bZ{h h' :Array Obj}{ok ok' :Nat->Ty->Prop}(hok:∀b t,ok b t->ok' b t)(hh:∀b t,ok b t->h'[b]? =h[b]?):
  ∀{t:Ty} {x:t.den} {cs:c2h},iY h ok t x cs->iY h' ok' t x cs
 | .bool,_,_,e=>e| .int _,_,_,e=>e| .str,_,_,e=>e| .unit,_,_,e=>e| .any _,_,_,e=>e| .prod a b,_,_,e=>by obtain⟨c,d,rfl,h1,h2⟩:=e;exact⟨c,d,rfl,bZ hok hh h1,bZ hok hh h2⟩
 | .ent _ _ a b,_,_,e=>by obtain⟨c,d,rfl,h1,h2⟩:=e;exact⟨c,d,rfl,bZ hok hh h1,bZ hok hh h2⟩
 | .sl t,xs,_,e=>by
  rcases e with⟨ht,a,cap,rfl,hc,hx⟩|⟨ht,mv,rfl,hn,hx⟩
  .refine .inl ⟨ht,a,cap,rfl,hc,λi x hi=>?_⟩;obtain⟨blk,off,es,ha,hb,he,hr⟩:=hx i x hi;exact⟨blk,off,es,ha,hok _ _ hb,by rw[nO (hh _ _ hb)];exact he,bZ hok hh hr⟩
  .refine .inr ⟨ht,mv,rfl,hn,λblk hb=>?_⟩;obtain⟨ho,es,ck,he,hs,hi⟩:=hx blk hb;refine⟨hok _ _ ho,es,ck,by rw[hh _ _ ho];exact he,hs,λi x hx=>?_⟩;obtain⟨e,h1,h2,h3⟩:=hi i x hx;exact⟨e,h1,h2,bZ hok hh h3⟩
theorem wR{h h' :Array Obj}{ok ok' :Nat->Ty->Prop} :∀{t:Ty} {x:t.den} {cs:c2h},t.flat=true->iY h ok t x cs->iY h' ok' t x cs
 | .bool,_,_,_,e=>e| .int _,_,_,_,e=>e| .str,_,_,_,e=>e| .unit,_,_,_,e=>e| .prod a b,_,_,f,e=>by simp[Ty.flat]at f;obtain⟨c,d,rfl,h1,h2⟩:=e;exact⟨c,d,rfl,wR f.1 h1,wR f.2 h2⟩
 | .sl t,xs,_,f,e=>by simp[Ty.flat]at f| .ent ..,xs,_,f,e=>by simp[Ty.flat]at f| .any _,xs,_,f,e=>by simp[Ty.flat]at f
theorem rH{h:Array Obj}{ok:Nat->Ty->Prop} :∀{t:Ty} {x:t.den} {cs:c2h},iY h ok t x cs->∀v∈cs,v.oneCell' =true
 | .bool,_,_,e=>by simp[iY]at e;subst e;simp[Value.oneCell']| .int _,_,_,e=>by simp[iY]at e;subst e;simp[Value.oneCell']| .str,_,_,e=>by simp[iY]at e;subst e;simp[Value.oneCell']| .unit,_,_,e=>by simp[iY]at e;subst e;simp| .any _,_,_,e=>by obtain⟨v,rfl,h,_⟩:=e;simp[h]
 | .prod a b,_,_,e=>by
  obtain⟨c,d,rfl,h1,h2⟩:=e;intro v hv;rcases H5.1 hv with hv|hv
  .exact rH h1 v hv
  .exact rH h2 v hv
 | .ent _ _ a b,_,_,e=>by
  obtain⟨c,d,rfl,h1,h2⟩:=e;intro v hv;rcases H5.1 hv with hv|hv
  .exact rH h1 v hv
  .exact rH h2 v hv
 | .sl t,xs,_,e=>by rcases e with⟨_,a,cap,rfl,_⟩|⟨_,mv,rfl,_⟩<;>simp[Value.oneCell']
theorem sZ{h:Array Obj}{ok ok' :Nat->Ty->Prop} :∀{t:Ty} {x:t.den} {cs:c2h},(∀b u,ok b u->Ty.occ u t=true->ok' b u)->iY h ok t x cs->iY h ok' t x cs
 | .bool,_,_,_,e=>e| .int _,_,_,_,e=>e| .str,_,_,_,e=>e| .unit,_,_,_,e=>e| .any _,_,_,_,e=>e| .prod a b,_,_,f,e=>by obtain⟨c,d,rfl,h1,h2⟩:=e;exact⟨c,d,rfl,sZ (λb u h k=>f b u h (by simp[Ty.occ,k])) h1,sZ (λb u h k=>f b u h (by simp[Ty.occ,k])) h2⟩
 | .ent _ _ a b,_,_,f,e=>by obtain⟨c,d,rfl,h1,h2⟩:=e;exact⟨c,d,rfl,sZ (λb u h k=>f b u h (by simp[Ty.occ,k])) h1,sZ (λb u h k=>f b u h (by simp[Ty.occ,k])) h2⟩
 | .sl t,xs,_,f,e=>by
  rcases e with⟨ht,a,cap,rfl,hc,hx⟩|⟨ht,mv,rfl,hn,hx⟩
  .refine .inl ⟨ht,a,cap,rfl,hc,λi x hi=>?_⟩;obtain⟨blk,off,es,ha,hb,he,hr⟩:=hx i x hi;exact⟨blk,off,es,ha,f _ _ hb (by simp[Ty.occ]),he,sZ (λb u h k=>f b u h (by simp[Ty.occ,k])) hr⟩
  .refine .inr ⟨ht,mv,rfl,hn,λblk hb=>?_⟩;obtain⟨ho,es,ck,he,hs,hi⟩:=hx blk hb;refine⟨f _ _ ho (by simp[Ty.occ]),es,ck,he,hs,λi x hx=>?_⟩;obtain⟨e,h1,h2,h3⟩:=hi i x hx;exact⟨e,h1,h2,sZ (λb u h k=>f b u h (by simp[Ty.occ,k])) h3⟩
inductive Loc where
 |nil|arr (blk off len cap sz:Nat)|st (blk:Nat)|mp (blk:Nat)
structure Mp where
 loc:Nat->Option Loc
 kid:Nat->c2i
instance:CoeFun Mp (λ_=>Nat->Option Loc):=⟨Mp.loc⟩
def nom:Mp:=⟨λ_=>none,λ_=>[]⟩
structure Cx where
 h:Array Obj
 ok:Nat->Ty->Prop
 m:Mp
def Loc.view:Loc->Option (Nat×Nat)->Value->Prop
 | .nil,none,v=>v= .slice none 0 0| .nil,some (lo,hi),v=>lo=0/\hi=0/\v= .slice none 0 0| .arr blk off len cap _,none,v=>v= .slice (some ⟨blk,off,none⟩) len cap| .arr blk off len cap sz,some (lo,hi),v=>lo<=hi/\hi<=len/\v= .slice (some (if cap=lo then⟨blk,off,none⟩else⟨blk,off+lo*sz,none⟩)) (hi -lo) (cap -lo)| .st _,_,_=>False| .mp b,none,v=>v= .map (some b)| .mp _,some _,_=>False
def Loc.blks:Loc->c2i
 | .nil=>[]| .arr b _ _ _ _=>[b]| .st b=>[b]| .mp b=>[b]
def VY(h:Array Obj)(ok:Nat->Ty->Prop)(t:Ty)(x:t.den)(o:Nat)(v:Value):Prop:=
 ∃blk off es,v= .pointer (some ⟨blk,off+o,none⟩)/\ok blk t/\bD h blk off t.size=some es/\iY h ok t x es
def Am(h:Array Obj)(ok:Nat->Ty->Prop):List ((t:Ty)×t.den)->c2h->Prop
 |[],vs=>vs=[]|c::cs,vs=>∃v r,vs=v::r/\VY h ok c.1 c.2 0 v/\Am h ok cs r
def pW(C:Cx):V->Value->Prop
 | .undef,_=>True| .un,v=>v=Go.undef| .b x,v=>v= .bool x| .i k n,v=>v= .int k n| .s l,v=>v= .string ⟨l.toArray⟩| .nl,v=>v= .slice none 0 0| .npt,v=>v= .pointer none| .ne b,v=>∃a c,v= .slice a 0 c/\a.isNone=b| .sl t xs,v=>iY C.h C.ok (.sl t) xs [v]| .own bx vw,v=>∃loc,C.m bx=some loc/\loc.view vw v| .ptr bx o,v=>∃blk,C.m bx=some (.st blk)/\v= .pointer (some ⟨blk,o,none⟩)| .ep bx ix o,v=>∃blk off len cap sz,C.m bx=some (.arr blk off len cap sz)/\ix<len/\v= .pointer (some ⟨blk,off+ix*sz+o,none⟩)| .dp t x o,v=>VY C.h C.ok t x o v| .glob g,v=>v= .pointer (some ⟨g,0,none⟩)| .fnv f,v=>v= .func (.func f) #[] #[]| .idl f n,v=>∃cap:Array Value,v= .func (.func f) #[] cap/\cap.size=n| .clos f caps,v=>∃vs,v= .func (.func f) #[] vs/\Am C.h C.ok caps vs.toList| .ifc t c,v=>∃u,v= .iface t u/\u.oneCell' =true/\pW C c u|_,_=>False
def dD(C:Cx):List V->c2h->Prop
 |[],vs=>vs=[]|c::cs,vs=>∃v r,vs=v::r/\pW C c v/\v.oneCell' =true/\dD C cs r
def Tj(C:Cx):V->Value->Prop
 | .agg cs,v=>∃arr,v= .agg arr/\dD C cs arr.toList|c,v=>pW C c v
def WJ(C:Cx):List V->c2h->Prop
 |[],vs=>vs=[]|c::cs,vs=>∃v r,vs=v::r/\Tj C c v/\WJ C cs r
def iI(C:Cx):V->Value->Prop
 | .tup cs,v=>∃arr,v= .tuple arr/\WJ C cs arr.toList|c,v=>Tj C c v
def fzo(t:Ty)(n:Nat)(f:Nat×Nat):Prop:=f=(0,0)\/(t= .int .u8/\f=(n,n+1))
theorem fzo.of{f:Nat×Nat}(h:fzo t n f):f=(0,0)\/f=(n,n+1):=h.elim .inl λh=> .inr h.2
def arrOk(C:Cx)(t:Ty)(xs:List t.den):Loc->Prop
 | .nil=>xs=[]/\t.isEnt=false| .arr blk off len cap sz=>t.isEnt=false/\sz=t.size/\len=xs.length/\len<=cap/\∃c T f,C.h[blk]? =some (.cells c T f)/\fzo t c.size f/\off+cap*sz<=c.size/\
   ∀i x,xs[i]? =some x->∃es,bD C.h blk (off+i*sz) sz=some es/\iY C.h C.ok t x es
 | .st _=>False| .mp blk=>t.isEnt=true/\∃(es:Array MapEntry) (ck:Nat),C.h[blk]? =some (.map es ck)/\es.size=xs.length/\
   ∀(i:Nat) (x:t.den),(xs:List t.den)[i]? =some x->∃e:MapEntry,es[i]? =some e/\Le t e/\iY C.h C.ok t x (vZ t e)
def pK{α:Type}(h:Array Obj)(sz:Nat)(R:Nat->α->c2h->c2i->Prop)(xs:List α)(Os:List c2i):Loc->Prop
 | .nil=>xs=[]/\Os=[]| .arr blk off len cap sz' =>sz' =sz/\len=xs.length/\len<=cap/\Os.length=xs.length/\∃c T,h[blk]? =some (.cells c T (0,0))/\off+cap*sz<=c.size/\
   ∀i x,xs[i]? =some x->∃es O,Os[i]? =some O/\bD h blk (off+i*sz) sz=some es/\R i x es O
 | .st _=>False| .mp _=>False
def oZ(h:Array Obj)(te:Nat)(xs:c2f):Loc->Prop
 | .nil=>xs=[]
 | .arr g off len cap sz=>off=0/\sz=1/\len=xs.length/\len<=cap/\cap<=maxLen/\∃cur fz,h[g]? =some (.cells cur te fz)/\fz.2<=len/\cur.size=cap/\cur.toList.take len=xs.map λc=>Value.int .u8 (c.toNat:Int)| .st _=>False| .mp _=>False
variable {l:Loc}
theorem rJ{te:Nat}{xs:c2f}(hh:∀b∈l.blks,h'[b]? =h[b]?)(hr:oZ h te xs l):oZ h' te xs l:=by
 cases l with
 |nil=>exact hr|st b=>exact hr|mp b=>exact hr|arr g off len cap sz=>obtain⟨h1,h2,h3,h4,h5,cur,fz,h6,h7⟩:=hr;exact⟨h1,h2,h3,h4,h5,cur,fz,by rw[hh g (by simp[Loc.blks])];exact h6,h7⟩
def qy(o n i:Nat):Option Nat:=if n<=i then some o else none
def jm(h:Array Obj)(ok:Nat->Ty->Prop):(m:M)->Option Nat->m.den->c2h->c2i->Prop
 | .dat t,_,x,cs,O=>iY h ok t x cs/\O=[]| .own t,ho,xs,cs,O=>∃v,cs=[v]/\v.oneCell' =true/\(match ho with|some 0=>O=[]|_=>∃l,l.view none v/\arrOk ⟨h,ok,nom⟩ t xs l/\O=l.blks)| .pair a b,ho,x,cs,O=>∃c d O1 O2,cs=c++d/\O=O1++O2/\jm h ok a (match ho with|some o=>if o<a.size then some o else none|none=>none) x.1 c O1/\
   jm h ok b (match ho with|some o=>if o<a.size then none else some (o -a.size)|none=>none) x.2 d O2
 | .unit,_,_,cs,O=>cs=[]/\O=[]| .box m,_,x,cs,O=>∃blk arr T O',cs=[.pointer (some ⟨blk,0,none⟩)]/\h[blk]? =some (.cells arr T (0,0))/\jm h ok m none x arr.toList O' /\O=blk::O'| .owns m,ho,xs,cs,O=>∃v,cs=[v]/\v.oneCell' =true/\(match ho with|some 0=>O=[]|_=>m.el=true/\∃l Os,l.view none v/\pK h m.size (λ_ x es O=>jm h ok m none x es O) xs Os l/\O=l.blks++Os.flatten)| .ownb t,_,xs,cs,O=>∃l v,cs=[v]/\l.view none v/\arrOk ⟨h,ok,nom⟩ t xs l/\O=l.blks| .rp t,_,x,cs,O=>∃v,cs=[v]/\VY h ok t x 0 v/\O=[]| .fn f ts,_,x,cs,O=>∃vs,cs=[.func (.func f) #[] vs]/\Am h ok (OG ts x) vs.toList/\O=[]| .ifc t m,_,x,cs,O=>∃u,cs=[.iface t u]/\jm h ok m none x [u] O| .lp t,_,x,cs,O=>∃v,cs=[v]/\VY h ok t x 0 v/\O=[]| .dv ..,_,x,cs,O=>∃v,cs=[v]/\v.oneCell' =true/\O=[]| .ownr m o,_,x,cs,O=>∃v,cs=[v]/\v.oneCell' =true/\m.el=true/\0<=x.2/\∃l Os,l.view none v/\pK h m.size (λi y es O=>jm h ok m (qy o x.2.toNat i) y es O) x.1 Os l/\O=l.blks++Os.flatten| .cell b,_,x,cs,O=>∃v,cs=[v]/\v.oneCell' =true/\(b=some none->v= .slice none 0 0)/\(∀b',b=some (some b')->∃a c,v= .slice a 0 c/\a.isNone=b')/\O=[]| .fr t,_,xs,cs,O=>∃l v,cs=[v]/\l.view none v/\arrOk ⟨h,ok,nom⟩ t xs l/\(∀b∈l.blks,ok b t)/\O=[]| .sit,_,x,cs,O=>∃blk s q,cs=[.pointer (some ⟨blk,0,none⟩)]/\h[blk]? =some (.stringIter s q)/\s.data.toList=x.1/\x.2=((q:Nat):Int)/\O=[blk]| .sbx tb te,_,xs,cs,O=>∃blk a v l,cs=[.pointer (some ⟨blk,0,none⟩)]/\h[blk]? =some (.cells #[a,v] tb (0,0))/\(a= .pointer none\/a= .pointer (some ⟨blk,0,none⟩))/\l.view none v/\oZ h te xs l/\O=blk::l.blks
def Uo(hole:Option (Nat×Nat×Option Nat))(i:Nat):Option Nat:=match hole with|some (j,o,_)=>if i=j then some o else none|none=>none
def RP(C:Cx)(sz:Nat)(l:Loc):Option (Nat×Nat×Option Nat)->Prop
 |none=>True|some (_,_,none)=>True|some (i,o,some n)=>∃blk off len cap u l',l= .arr blk off len cap sz/\bD C.h blk (off+i*sz+o) 1=some [u]/\C.m n=some l' /\l'.view none u
def a0v(C:Cx)(m:M)(xs:List m.den)(hole:Option (Nat×Nat×Option Nat))(Os:List c2i)(l:Loc):Prop:=
 pK C.h m.size (λi x es O=>jm C.h C.ok m (Uo hole i) x es O) xs Os l/\RP C m.size l hole
def xY(C:Cx)(n:Nat):V->Prop
 | .bcells cs=>∃blk arr T,C.m n=some (.st blk)/\C.h[blk]? =some (.cells arr T (0,0))/\dD C cs arr.toList| .biter l p=>∃blk s q,C.m n=some (.st blk)/\C.h[blk]? =some (.stringIter s q)/\s.data.toList=l/\p=((q:Nat):Int)| .bsb tb c=>∃blk a v,C.m n=some (.st blk)/\C.h[blk]? =some (.cells #[a,v] tb (0,0))/\(a= .pointer none\/a= .pointer (some ⟨blk,0,none⟩))/\pW C c v| .brow te xs=>∃loc,C.m n=some loc/\oZ C.h te xs loc| .barr t xs=>∃loc,C.m n=some loc/\arrOk C t xs loc| .bfrz t xs=>∃loc,C.m n=some loc/\arrOk C t xs loc/\(∀blk,blk∈loc.blks->C.ok blk t)| .barrs m xs hole=>m.el=true/\∃loc Os,C.m n=some loc/\a0v C m xs hole Os loc/\C.m.kid n=Os.flatten| .barrp m xs k o=>m.el=true/\0<=k/\∃loc Os,C.m n=some loc/\pK C.h m.size (λi x es O=>jm C.h C.ok m (qy o k.toNat i) x es O) xs Os loc/\C.m.kid n=Os.flatten| .bfc t x=>∃blk es,C.m n=some (.st blk)/\C.ok blk t/\bD C.h blk 0 t.size=some es/\iY C.h C.ok t x es| .gone t=>∃l,C.m n=some l/\∀blk off len cap sz,l= .arr blk off len cap sz->sz=t.size| .blen ln sz=>∃k l,n=JQ+k/\C.m k=some l/\(match l with| .arr _ _ len _ sz' =>ln=(len:Int)/\sz=sz'| .nil=>ln=0| .st _=>False| .mp _=>False)|_=>True
def L9(m:Mp)(n:Nat):V->c2i
 | .bcells _=>match m n with|some (.st blk)=>[blk]|_=>[]
 | .biter _ _=>match m n with|some (.st blk)=>[blk]|_=>[]
 | .bsb _ _=>match m n with|some (.st blk)=>[blk]|_=>[]
 | .brow _ _=>match m n with|some (.arr blk _ _ _ _)=>[blk]|_=>[]
 | .barr _ _=>match m n with|some (.arr blk _ _ _ _)=>[blk]|some (.mp blk)=>[blk]|_=>[]
 | .barrs _ _ _=>(match m n with|some (.arr blk _ _ _ _)=>[blk]|_=>[])++m.kid n| .barrp _ _ _ _=>(match m n with|some (.arr blk _ _ _ _)=>[blk]|_=>[])++m.kid n|_=>[]
def a7e:V->List Ty
 | .barr t _=>[t]| .barrs m _ _=>m.ty::m.owned|_=>[]
def a3x(v:V)(t:Ty):Prop:=match v with
 | .bcells _=>True|v=>t∈a7e v
structure Cx.le (C D:Cx):Prop where
 ok:∀b t,C.ok b t->D.ok b t
 h:∀b t,C.ok b t->D.h[b]? =C.h[b]?
 m:∀n l,C.m n=some l->D.m n=some l
theorem Cx.le.refl(C:Cx):C.le C:=⟨λ_ _ h=>h,λ_ _ _=>rfl,λ_ _ h=>h⟩
theorem Cx.le.trans{A B C:Cx}(h:A.le B)(k:B.le C):A.le C:=
 ⟨λb t x=>k.ok _ _ (h.ok _ _ x),λb t x=>(k.h _ _ (h.ok _ _ x)).trans (h.h _ _ x),λn l x=>k.m _ _ (h.m _ _ x)⟩
variable {v:Value}{ok':Nat->Ty->Prop}
theorem zU(hok:∀b t,ok b t->ok' b t)(hh:∀b t,ok b t->h'[b]? =h[b]?){x:t.den}{o:Nat}(hr:VY h ok t x o v):VY h' ok' t x o v:=by obtain⟨b,o',es,hv,hb,hc,hp⟩:=hr;exact⟨b,o',es,hv,hok _ _ hb,by rw[nO (hh _ _ hb)];exact hc,bZ hok hh hp⟩
theorem GU{h h' :Array Obj}{ok ok' :Nat->Ty->Prop}(hok:∀b t,ok b t->ok' b t)(hh:∀b t,ok b t->h'[b]? =h[b]?):∀{cs:List ((t:Ty)×t.den)} {vs:c2h},Am h ok cs vs->Am h' ok' cs vs
 |[],_,hr=>hr|_::_,_,⟨v,r,e,h1,h2⟩=>⟨v,r,e,zU hok hh h1,GU hok hh h2⟩
variable {C:Cx}{D:Cx}
theorem WI(h:C.le D):∀{c:V} {v:Value},pW C c v->pW D c v:=by
 intro c;induction c using V.rec (motive_2:=λ_=>True)<;>try trivial
 all_goals
  intro v hr;simp only[pW]at hr ⊢
  try exact hr
 case sl t xs=>exact bZ h.ok h.h hr
 case own bx vw=>obtain⟨l,hm,hv⟩:=hr;exact⟨l,h.m _ _ hm,hv⟩
 case ptr bx o=>obtain⟨b,hm,hv⟩:=hr;exact⟨b,h.m _ _ hm,hv⟩
 case ep bx ix o=>obtain⟨b,o',l,c,s,hm,hv⟩:=hr;exact⟨b,o',l,c,s,h.m _ _ hm,hv⟩
 case dp t x o=>exact zU h.ok h.h hr
 case clos f caps=>obtain⟨vs,e,hc⟩:=hr;exact⟨vs,e,GU h.ok h.h hc⟩
 case ifc t c ih=>obtain⟨u,e,h1,hc⟩:=hr;exact⟨u,e,h1,ih hc⟩
theorem CE{C D:Cx}(h:C.le D):∀{cs:List V} {vs:c2h},dD C cs vs->dD D cs vs
 |[],_,hr=>hr|_::_,_,⟨v,r,e,h1,h2,h3⟩=>⟨v,r,e,WI h h1,h2,CE h h3⟩
theorem a1b(h:C.le D){c:V}(hr:Tj C c v):Tj D c v:=by
 cases c<;>simp only[Tj]at hr ⊢<;>try exact WI h hr
 case agg cs=>obtain⟨arr,e,hl⟩:=hr;exact⟨arr,e,CE h hl⟩
theorem a1c{C D:Cx}(h:C.le D):∀{cs:List V} {vs:c2h},WJ C cs vs->WJ D cs vs
 |[],_,hr=>hr|_::_,_,⟨v,r,e,h1,h3⟩=>⟨v,r,e,a1b h h1,a1c h h3⟩
theorem FC(h:C.le D){c:V}(hr:iI C c v):iI D c v:=by
 cases c<;>simp only[iI]at hr ⊢<;>try exact a1b h hr
 case tup cs=>obtain⟨arr,e,hl⟩:=hr;exact⟨arr,e,a1c h hl⟩
theorem kT{m m' :Mp}(hok:∀b t,ok b t->ok' b t)(hh:∀b t,ok b t->h'[b]? =h[b]?)
  (hb:∀b∈l.blks,h'[b]? =h[b]?) (hr:arrOk ⟨h,ok,m⟩ t xs l):arrOk ⟨h',ok',m'⟩ t xs l:=by
 cases l with
 |nil=>exact hr|st b=>exact hr|mp blk=>have e:=hb blk (by simp[Loc.blks]);obtain⟨h1,es,ck,h2,h3,h4⟩:=hr;refine⟨h1,es,ck,by show h'[blk]? =_;rw[e];exact h2,h3,λi x hi=>?_⟩;obtain⟨en,a1,a2,a3⟩:=h4 i x hi;exact⟨en,a1,a2,bZ hok hh a3⟩
 |arr blk off len cap sz=>have e:=hb blk (by simp[Loc.blks]);obtain⟨h0,h1,h2,h3,c,T,f,h4,hz,h5,h6⟩:=hr;refine⟨h0,h1,h2,h3,c,T,f,by show h'[blk]? =_;rw[e];exact h4,hz,h5,λi x hi=>?_⟩;obtain⟨es,he,hp⟩:=h6 i x hi;exact⟨es,by show bD h' _ _ _=_;rw[nO e];exact he,bZ hok hh hp⟩
theorem Xr(h:C.le D)(hb:∀b∈l.blks,D.h[b]? =C.h[b]?)(hr:arrOk C t xs l):arrOk D t xs l:=
 kT h.ok h.h hb hr
theorem pF{α:Type}{sz:Nat}{R R' :Nat->α->c2h->c2i->Prop}{xs:List α}{Os:List c2i}(hb:∀b∈l.blks,h'[b]? =h[b]?)
  (hR:∀i x es O,O∈Os->R i x es O->R' i x es O) (hr:pK h sz R xs Os l):pK h' sz R' xs Os l:=by
 cases l with
 |nil=>exact hr|st b=>exact hr|mp b=>exact hr|arr blk off len cap sz=>have e:=hb blk (by simp[Loc.blks]);obtain⟨h1,h2,h3,h7,c,T,h4,h5,h6⟩:=hr;refine⟨h1,h2,h3,h7,c,T,by rw[e];exact h4,h5,λi x hi=>?_⟩;obtain⟨es,O,hO,he,hp⟩:=h6 i x hi;exact⟨es,O,hO,by rw[nO e];exact he,hR _ _ _ _ (kW hO) hp⟩
theorem eF{h h' :Array Obj}{ok ok' :Nat->Ty->Prop}(hok:∀b t,ok b t->ok' b t)(hh:∀b t,ok b t->h'[b]? =h[b]?):
  ∀{m:M} {ho:Option Nat} {x:m.den} {cs:c2h} {O:c2i},(∀b∈O,h'[b]? =h[b]?)->jm h ok m ho x cs O->jm h' ok' m ho x cs O
 | .dat t,_,_,_,_,_,e=>⟨bZ hok hh e.1,e.2⟩| .own t,ho,_,_,O,hb,⟨v,e,h1,ha⟩=>by
  refine⟨v,e,h1,?_⟩;split at ha
  .exact ha
  .obtain⟨l,hv,ha,ho⟩:=ha;exact⟨l,hv,kT hok hh (by subst ho;exact hb) ha,ho⟩
 | .pair a b,_,_,_,_,hb,⟨c,d,O1,O2,e,eo,h1,h2⟩=>by subst eo;exact⟨c,d,O1,O2,e,rfl,eF hok hh (λb h=>hb b (by simp[h])) h1,eF hok hh (λb h=>hb b (by simp[h])) h2⟩| .unit,_,_,_,_,_,e=>e| .box m,_,_,_,_,hb,⟨blk,arr,T,O',e,hh',hr,eo⟩=>by subst eo;exact⟨blk,arr,T,O',e,by rw[hb blk A8];exact hh',eF hok hh (λb h=>hb b (by simp[h])) hr,rfl⟩| .owns m,ho,_,_,O,hb,⟨v,e,h1,ha⟩=>by
  refine⟨v,e,h1,?_⟩;split at ha
  .exact ha
  .obtain⟨he,l,Os,hv,ha,ho⟩:=ha;subst ho;exact⟨he,l,Os,hv,pF (λb h=>hb b (by simp[h])) (λi x es O hO hr=>eF hok hh (λb h=>hb b (by simp only[H5,W9];exact .inr ⟨O,hO,h⟩)) hr) ha,rfl⟩
 | .ownb t,_,_,_,_,hb,⟨l,v,e,hv,ha,ho⟩=>⟨l,v,e,hv,kT hok hh (by subst ho;exact hb) ha,ho⟩| .rp t,_,_,_,_,_,⟨v,e,h1,h2⟩=>⟨v,e,zU hok hh h1,h2⟩| .fn f ts,_,_,_,_,_,⟨vs,e,h1,h2⟩=>⟨vs,e,GU hok hh h1,h2⟩| .lp t,_,_,_,_,_,⟨v,e,h1,h2⟩=>⟨v,e,zU hok hh h1,h2⟩| .dv ..,_,_,_,_,_,h=>h| .ownr md o,_,x,_,O,hb,⟨v,e,h1,he,h0,l,Os,hv,ha,ho⟩=>by
  subst ho;exact⟨v,e,h1,he,h0,l,Os,hv,pF (λb h=>hb b (by simp[h])) (λi x es O hO hr=>eF hok hh (λb h=>hb b (by simp only[H5,W9];exact .inr ⟨O,hO,h⟩)) hr) ha,rfl⟩
 | .ifc t m,_,_,_,_,hb,⟨u,e,h1⟩=>⟨u,e,eF hok hh hb h1⟩| .cell b,_,_,_,_,_,h=>h| .fr t,_,_,_,_,_,⟨l,v,e,hv,ha,hk,ho⟩=>⟨l,v,e,hv,kT hok hh (λb h=>hh _ _ (hk b h)) ha,λb h=>hok _ _ (hk b h),ho⟩| .sit,_,_,_,_,hb,⟨blk,s,q,e,hh',h2,h3,eo⟩=>by subst eo;exact⟨blk,s,q,e,by rw[hb blk A8];exact hh',h2,h3,rfl⟩| .sbx tb te,_,_,_,_,hb,⟨blk,a,v,l,e,hh',h2,h3,h4,eo⟩=>by subst eo;exact⟨blk,a,v,l,e,by rw[hb blk A8];exact hh',h2,h3,rJ (λb h=>hb b (by simp[h])) h4,rfl⟩
theorem Qy(h:C.le D){v:V}(hk:D.m.kid n=C.m.kid n)(hb:∀b∈L9 C.m n v,D.h[b]? =C.h[b]?)(hr:xY C n v):xY D n v:=by
 cases v<;>simp only[xY]at hr ⊢
 case bcells cs=>obtain⟨blk,arr,T,hm,hh,hl⟩:=hr;exact⟨blk,arr,T,h.m _ _ hm,by rw[hb blk (by simp[L9,hm])];exact hh,CE h hl⟩
 case biter l p=>obtain⟨blk,s,q,hm,hh,h2,h3⟩:=hr;exact⟨blk,s,q,h.m _ _ hm,by rw[hb blk (by simp[L9,hm])];exact hh,h2,h3⟩
 case bsb tb c=>obtain⟨blk,a,v,hm,hh,h2,h3⟩:=hr;exact⟨blk,a,v,h.m _ _ hm,by rw[hb blk (by simp[L9,hm])];exact hh,h2,WI h h3⟩
 case brow te xs=>
  obtain⟨l,hm,ha⟩:=hr;refine⟨l,h.m _ _ hm,rJ (λb hbl=>hb b ?_) ha⟩;cases l<;>simp[Loc.blks]at hbl
  .subst hbl;simp[L9,hm]
  .cases ha
  .cases ha
 case barr t xs=>
  obtain⟨l,hm,ha⟩:=hr;refine⟨l,h.m _ _ hm,Xr h ?_ ha⟩;intro b hbl;refine hb b ?_;cases l<;>simp[Loc.blks]at hbl
  .subst hbl;simp[L9,hm]
  .cases ha
  .subst hbl;simp[L9,hm]
 case bfrz t xs=>obtain⟨l,hm,ha,hok⟩:=hr;refine⟨l,h.m _ _ hm,Xr h ?_ ha,λblk e=>h.ok _ _ (hok _ e)⟩;intro b hbl;exact h.h _ _ (hok _ hbl)
 case barrp m xs k o=>
  obtain⟨he,h0,l,Os,hm,ha,ho⟩:=hr;refine⟨he,h0,l,Os,h.m _ _ hm,pF ?_ ?_ ha,hk.trans ho⟩
  .intro b hbl;refine hb b ?_;cases l<;>simp[Loc.blks]at hbl
   .subst hbl;simp[L9,hm]
   .cases ha
   .cases ha
  .intro i x es O hO hr;refine eF h.ok h.h (λb hbO=>hb b ?_) hr;simp only[L9,H5];right;rw[ho];exact W9.2 ⟨O,hO,hbO⟩
 case barrs m xs hole=>
  obtain⟨he,l,Os,hm,ha,ho⟩:=hr;obtain⟨ha,hh⟩:=ha;refine⟨he,l,Os,h.m _ _ hm,⟨pF ?_ ?_ ha,?_⟩,hk.trans ho⟩
  .intro b hbl;refine hb b ?_;cases l<;>simp[Loc.blks]at hbl
   .subst hbl;simp[L9,hm]
   .cases ha
   .cases ha
  .intro i x es O hO hr;refine eF h.ok h.h (λb hbO=>hb b ?_) hr;simp only[L9,H5];right;rw[ho];exact W9.2 ⟨O,hO,hbO⟩
  .rcases hole with _|⟨i,o,_|k⟩
   .trivial
   .trivial
   .obtain⟨blk,off,len,cap,u,l',rfl,h1,h2,h3⟩:=hh;exact⟨blk,off,len,cap,u,l',rfl,by rw[nO (hb blk (by simp[L9,hm]))];exact h1,h.m _ _ h2,h3⟩
 case bfc t x=>obtain⟨blk,es,hm,hok,he,hr⟩:=hr;exact⟨blk,es,h.m _ _ hm,h.ok _ _ hok,by rw[nO (h.h _ _ hok)];exact he,bZ h.ok h.h hr⟩
 case gone t=>obtain⟨l,hm,hs⟩:=hr;exact⟨l,h.m _ _ hm,hs⟩
 case blen ln sz=>obtain⟨k,l,e,hm,hs⟩:=hr;exact⟨k,l,e,h.m _ _ hm,hs⟩
theorem gZ{C:Cx} :∀{cs:List V} {vs:c2h},dD C cs vs->cs.length=vs.length
 |[],_,h=>by simp[dD]at h;simp[h]|_::_,_,⟨v,r,e,_,_,h3⟩=>by subst e;simp[gZ h3]
theorem rE{C:Cx} :∀{a:List V} {va:c2h} {b:List V} {vb:c2h},dD C a va->dD C b vb->dD C (a++b) (va++vb)
 |[],_,_,_,h,k=>by simp[dD]at h;subst h;exact k|_::_,_,_,_,⟨v,r,e,h1,h2,h3⟩,k=>by subst e;exact⟨v,r++_,rfl,h1,h2,rE h3 k⟩
theorem MJ{C:Cx} :∀{cs:List V} {vs:c2h},dD C cs vs->∀v∈vs,v.oneCell' =true
 |[],_,h=>by simp[dD]at h;simp[h]|_::_,_,⟨v,r,e,_,h2,h3⟩=>by
  subst e;intro u hu;rcases C9.1 hu with rfl|hu
  .exact h2
  .exact MJ h3 u hu
theorem nC{C:Cx} :∀(n:Nat) {cs:List V} {vs:c2h},dD C cs vs->dD C (cs.drop n) (vs.drop n)
 |0,_,_,h=>by simpa using h|n+1,[],_,h=>by simp[dD]at h;subst h;simp[dD]|n+1,_::_,_,⟨v,r,e,_,_,h3⟩=>by subst e;simpa using nC n h3
theorem oQ{C:Cx} :∀(n:Nat) {cs:List V} {vs:c2h},dD C cs vs->dD C (cs.take n) (vs.take n)
 |0,_,_,h=>by simp[dD]|n+1,[],_,h=>by simp[dD]at h;subst h;simp[dD]|n+1,_::_,_,⟨v,r,e,h1,h2,h3⟩=>by subst e;exact⟨v,r.take n,A8,h1,h2,oQ n h3⟩
theorem jq:∀(t:Ty) (x:t.den) (r:List V),flat t x r=flat t x []++r
 | .bool,_,_=>rfl| .int _,_,_=>rfl| .str,_,_=>rfl| .sl _,_,_=>rfl| .unit,_,_=>rfl| .any _,_,_=>rfl| .prod a b,x,r=>by simp only[flat];rw[jq a x.1 (flat b x.2 r),jq b x.2 r,jq a x.1 (flat b x.2 [])];simp| .ent _ _ a b,x,r=>by simp only[flat];rw[jq a x.1 (flat b x.2 r),jq b x.2 r,jq a x.1 (flat b x.2 [])];simp
theorem lT{C:Cx} :∀{t:Ty} {x:t.den} {cs:c2h},iY C.h C.ok t x cs->dD C (flat t x []) cs
 | .bool,x,_,h=>by simp[iY]at h;subst h;exact⟨_,_,rfl,rfl,rfl,rfl⟩| .int _,x,_,h=>by simp[iY]at h;subst h;exact⟨_,_,rfl,rfl,rfl,rfl⟩| .str,x,_,h=>by simp[iY]at h;subst h;exact⟨_,_,rfl,rfl,rfl,rfl⟩| .unit,_,_,h=>by simp[iY]at h;subst h;rfl| .any _,_,_,h=>by obtain⟨v,rfl,h1,_⟩:=h;exact⟨v,[],rfl,trivial,h1,rfl⟩
 | .sl t,xs,_,h=>by have h' :=h;rcases h with⟨_,a,cap,rfl,_⟩|⟨_,mv,rfl,_⟩<;>exact⟨_,_,rfl,h',rfl,rfl⟩
 | .ent _ _ a b,x,_,h=>by obtain⟨c,d,rfl,h1,h2⟩:=h;simp only[flat];rw[jq a];exact rE (lT h1) (lT h2)
 | .prod a b,x,_,h=>by obtain⟨c,d,rfl,h1,h2⟩:=h;simp only[flat];rw[jq a];exact rE (lT h1) (lT h2)
theorem jY:∀(t:Ty) (x:t.den),(flat t x []).length=t.size
 | .bool,_=>rfl| .int _,_=>rfl| .str,_=>rfl| .sl _,_=>rfl| .unit,_=>rfl| .any _,_=>rfl| .prod a b,x=>by simp only[flat,Ty.size];rw[jq a,N8,jY a x.1,jY b x.2]| .ent _ _ a b,x=>by simp only[flat,Ty.size];rw[jq a,N8,jY a x.1,jY b x.2]
theorem kY{vw:Option (Nat×Nat)}(ha:arrOk C t xs l)(hv:l.view vw v)
  (hok:∀b t,C.ok b t->ok' b t) (hb:∀blk,blk∈l.blks->ok' blk t):iY C.h ok' (.sl t) (fV vw xs) [v]:=by
 cases l with
 |st b=>cases ha|mp b=>
  obtain⟨h0,es,ck,h1,h2,h3⟩:=ha;cases vw with
  |some p=>cases hv|none=>simp only[Loc.view]at hv;subst hv;refine .inr ⟨h0,some b,rfl,(λh=>nomatch h),λblk e=>?_⟩;cases e;refine⟨hb b (by simp[Loc.blks]),es,ck,h1,h2,λi x hi=>?_⟩;obtain⟨en,a1,a2,a3⟩:=h3 i x hi;exact⟨en,a1,a2,bZ hok (λ_ _ _=>rfl) a3⟩
 |nil=>
  obtain⟨ha,h0⟩:=ha;subst ha;cases vw with
  |none=>simp only[Loc.view]at hv;subst hv;exact .inl ⟨h0,none,0,rfl,D9 _,λi x hi=>by simp[fV]at hi⟩|some p=>obtain⟨lo,hi⟩:=p;obtain⟨rfl,rfl,rfl⟩:=hv;exact .inl ⟨h0,none,0,by simp[fV,jK],by simp[fV,jK],λi x hi=>by simp[fV,jK]at hi⟩
 |arr blk off len cap sz=>
  obtain⟨h0,rfl,rfl,hc,c,T,f,hh,hz,hs,hx⟩:=ha;have hbk:=hb blk (by simp[Loc.blks]);cases vw with
  |none=>simp only[Loc.view]at hv;subst hv;refine .inl ⟨h0,_,cap,rfl,hc,λi x hi=>?_⟩;obtain⟨es,he,hr⟩:=hx i x hi;exact⟨blk,off,es,rfl,hbk,he,bZ hok (λ_ _ _=>rfl) hr⟩
  |some p=>
   obtain⟨lo,hi⟩:=p;obtain⟨h1,h2,rfl⟩:=hv;have hl:(fV (some (lo,hi)) xs).length=hi -lo:=by simp[fV,jK];omega
   refine .inl ⟨h0,_,cap -lo,by rw[hl],by rw[hl];omega,λi x hix=>?_⟩;have hi' :i<hi -lo:=by rw[←hl];exact(aF.1 hix).1
   have hx' :xs[lo+i]? =some x:=by
    simp only[fV,jK,L6,U1]at hix;split at hix
    .exact hix
    .cases hix
   obtain⟨es,he,hr⟩:=hx _ x hx';have hne:cap≠lo:=o5;refine⟨blk,off+lo*t.size,es,by simp[hne],hbk,?_,bZ hok (λ_ _ _=>rfl) hr⟩;rw[←he];congr 1;rw[H8];omega
end Go.GP
namespace Go.GP
abbrev Sm:=Nat->V
def upd(S:Sm)(k:Nat)(v:V):Sm:=λn=>if n=k then v else S n
@[simp] theorem gG (S:Sm) (k:Nat) (v:V):upd S k v k=v:=by simp[upd]
theorem aA(S:Sm){k n:Nat}(v:V)(h:n≠k):upd S k v n=S n:=by simp[upd,h]
variable {α:Type}
def Cmd.eval :Cmd α->Sm->Tr->Option (α×Sm×Tr)
 | .ret x,S,t=>some (x,S,t)| .fail,_,_=>none| .get k c,S,t=>(c (S k)).eval S (k::t.1,t.2)| .set k v c,S,t=>c.eval (upd S k v) (t.1,k::t.2)
 | .opt o c,S,t=>match o with|some x=>(c x).eval S t|none=>none
 | .br b c d,S,t=>if b=true then c.eval S t else d.eval S t
def Cmd.post :Cmd α->Sm->(α->Sm->Prop)->Prop
 | .ret x,S,Q=>Q x S| .fail,_,_=>True| .get k c,S,Q=>(c (S k)).post S Q| .set k v c,S,Q=>c.post (upd S k v) Q| .opt o c,S,Q=>∀x,o=some x->(c x).post S Q| .br b c d,S,Q=>(b=true->c.post S Q)/\(b=false->d.post S Q)
theorem oM{α:Type}{Q:α->Sm->Prop} :∀{c:Cmd α} {S S' :Sm} {t t' :Tr} {x:α},c.post S Q->c.eval S t=some (x,S',t')->Q x S'
 | .ret x,_,_,_,_,_,h,e=>by simp[Cmd.eval]at e;obtain⟨rfl,rfl,rfl⟩:=e;exact h
 | .fail,_,_,_,_,_,h,e=>by simp[Cmd.eval]at e| .get k c,_,_,_,_,_,h,e=>oM (c:=c _) h e| .set k v c,_,_,_,_,_,h,e=>oM (c:=c) h e| .opt o c,_,_,_,_,_,h,e=>by
  cases o with
  |none=>simp[Cmd.eval]at e|some x=>exact oM (c:=c x) (h x rfl) e
 | .br b c d,_,_,_,_,_,h,e=>by
  cases b
  .exact oM (c:=d) (h.2 rfl) (by simpa[Cmd.eval]using e)
  .exact oM (c:=c) (h.1 rfl) (by simpa[Cmd.eval]using e)
theorem xW{α:Type}{Q Q' :α->Sm->Prop}(hq:∀x S,Q x S->Q' x S):∀{c:Cmd α} {S:Sm},c.post S Q->c.post S Q'
 | .ret x,_,h=>hq _ _ h| .fail,_,_=>trivial| .get k c,_,h=>xW hq (c:=c _) h| .set k v c,_,h=>xW hq (c:=c) h
 | .opt o c,_,h=>λx e=>xW hq (c:=c x) (h x e)| .br b c d,_,h=>⟨λe=>xW hq (c:=c) (h.1 e),λe=>xW hq (c:=d) (h.2 e)⟩
theorem Ea{R:Type} :∀(v:V) (K:V->R),v.force K=K v:=by
 intro v;induction v using V.rec (motive_2:=λ_=>True)<;>try trivial
 all_goals intro K
 all_goals try rfl
 case i k n=>cases k<;>rfl
 case own bx vw=>cases vw<;>rfl
 case barrs m xs h=>rcases h with _|⟨p,q,_|r⟩<;>rfl
 case ifc t v ih=>simp only[V.force];rw[ih]
 case bsb tb c ih=>simp only[V.force];rw[ih]
theorem Va{R:Type} :∀(l:List V) (K:List V->R),NJ l K=K l
 |[],_=>rfl|v::r,K=>by simp[NJ,Ea,Va r]
theorem a1C{R:Type}(v:V)(K:V->R):v.force2 K=K v:=by unfold V.force2;rw[Ea];cases v<;>simp[Va]
theorem a0N(k:Nat)(v:V)(s:St):cO (.kv k v::s)=upd (cO s) k v:=by
 funext n;simp only[cO,upd];by_cases h:n=k
 .subst h;simp
 .have:Nat.beq k n=false:=by
   cases hb:Nat.beq k n with
   |false=>rfl|true=>exact absurd (bQ hb).symm h
  simp[h,this]
theorem Ba{α β:Type}{o:Option α}{f:α->Option β}{r:β}(h:l9 o f=some r):∃x,o=some x/\f x=some r:=by
 cases o with
 |none=>simp[l9]at h|some x=>exact⟨x,rfl,h⟩
theorem lU{α R:Type} :∀{c:Cmd α} {s:St} {t:Tr} {K:α->St->Tr->Option R} {r:R},c.runK s t K=some r->
  ∃x s' t',c.eval (cO s) t=some (x,cO s',t')/\K x s' t' =some r
 | .ret x,s,t,K,r,h=>⟨x,s,t,rfl,h⟩| .fail,_,_,_,_,h=>by simp[Cmd.runK]at h| .get k c,s,t,K,r,h=>by simp only[Cmd.runK,Ea]at h;exact lU (c:=c _) h| .set k v c,s,t,K,r,h=>by simp only[Cmd.runK,a1C]at h;obtain⟨x,s',t',e,hk⟩:=lU (c:=c) h;exact⟨x,s',t',by simpa[Cmd.eval,a0N]using e,hk⟩
 | .opt o c,s,t,K,r,h=>by simp only[Cmd.runK]at h;obtain⟨y,rfl,h⟩:=Ba h;exact lU (c:=c y) h
 | .br b c d,s,t,K,r,h=>by
  simp only[Cmd.runK]at h;cases b
  .obtain⟨x,s',t',e,hk⟩:=lU (c:=d) (show d.runK s t K=some r from h);exact⟨x,s',t',by simpa[Cmd.eval]using e,hk⟩
  .obtain⟨x,s',t',e,hk⟩:=lU (c:=c) (show c.runK s t K=some r from h);exact⟨x,s',t',by simpa[Cmd.eval]using e,hk⟩
theorem xJ{α:Type} :∀{c:Cmd α} {S S' :Sm} {t t' :Tr} {x:α},c.eval S t=some (x,S',t')->(∀k∈t.1,k∈t'.1)/\(∀k∈t.2,k∈t'.2)
 | .ret x,_,_,_,_,_,e=>by simp[Cmd.eval]at e;obtain⟨rfl,rfl,rfl⟩:=e;exact⟨λ_ h=>h,λ_ h=>h⟩
 | .fail,_,_,_,_,_,e=>by simp[Cmd.eval]at e| .get k c,_,_,_,_,_,e=>by have h:=xJ (c:=c _) e;exact⟨λn hn=>h.1 n (by simp[hn]),h.2⟩| .set k v c,_,_,_,_,_,e=>by have h:=xJ (c:=c) e;exact⟨h.1,λn hn=>h.2 n (by simp[hn])⟩| .opt o c,_,_,_,_,_,e=>by
  cases o with
  |none=>simp[Cmd.eval]at e|some x=>exact xJ (c:=c x) e
 | .br b c d,_,_,_,_,_,e=>by
  cases b
  .exact xJ (c:=d) (by simpa[Cmd.eval]using e)
  .exact xJ (c:=c) (by simpa[Cmd.eval]using e)
theorem uX{α:Type} :∀{c:Cmd α} {S S' :Sm} {t t' :Tr} {x:α},c.eval S t=some (x,S',t')->∀T:Sm,(∀k∈t'.1,T k=S k)->
  ∃T',c.eval T t=some (x,T',t')/\(∀k,T k=S k->T' k=S' k)/\(∀k,k∉t'.2->T' k=T k)/\(∀k,k∈t'.2->k∉t.2->T' k=S' k)
 | .ret x,_,_,_,_,_,e,T,hT=>by simp[Cmd.eval]at e;obtain⟨rfl,rfl,rfl⟩:=e;exact⟨T,rfl,λk h=>h,λ_ _=>rfl,λk h1 h2=>absurd h1 h2⟩
 | .fail,_,_,_,_,_,e,_,_=>by simp[Cmd.eval]at e| .get k c,S,_,t,t',_,e,T,hT=>by have hk:T k=S k:=hT k ((xJ (c:=c _) e).1 k A8);obtain⟨T',h1,h2,h3,h4⟩:=uX (c:=c _) e T hT;exact⟨T',by simpa[Cmd.eval,hk]using h1,h2,h3,h4⟩
 | .set k v c,S,_,t,t',_,e,T,hT=>by
  obtain⟨T',h1,h2,h3,h4⟩:=uX (c:=c) e (upd T k v) (λn hn=>by
   by_cases h:n=k
   .subst h;simp
   .rw[aA _ _ h,aA _ _ h];exact hT n hn)
  have hkin:k∈t'.2:=(xJ (c:=c) e).2 k A8;refine⟨T',h1,λn hn=>h2 n ?_,λn hn=>?_,λn hn hn' =>?_⟩
  .by_cases h:n=k
   .subst h;simp
   .rw[aA _ _ h,aA _ _ h];exact hn
  .have:n≠k:=λh=>hn (h▸hkin);rw[h3 n hn,aA _ _ this]
  .by_cases h:n=k
   .subst h;exact h2 n A8
   .exact h4 n hn (by simp[h,hn'])
 | .opt o c,_,_,_,_,_,e,T,hT=>by
  cases o with
  |none=>simp[Cmd.eval]at e|some x=>exact uX (c:=c x) e T hT
 | .br b c d,_,_,_,_,_,e,T,hT=>by
  cases b
  .obtain⟨T',h1,h2⟩:=uX (c:=d) (by simpa[Cmd.eval]using e) T hT;exact⟨T',by simpa[Cmd.eval]using h1,h2⟩
  .obtain⟨T',h1,h2⟩:=uX (c:=c) (by simpa[Cmd.eval]using e) T hT;exact⟨T',by simpa[Cmd.eval]using h1,h2⟩
theorem EQ{c:Cmd α}{S S' :Sm}{t t' :Tr}{x:α}(e:c.eval S t=some (x,S',t'))(k:Nat)(h:k∉t'.2):S' k=S k:=by obtain⟨T',h1,_,h3,_⟩:=uX e S (λ_ _=>rfl);rw[e]at h1;simp at h1;rw[h1];exact h3 k h
section draws
variable {n:Nat} {c:Nat->Cmd Unit} {S:Nat->Sm} {T:Nat->Tr}
def SD(S:Nat->Sm)(T:Nat->Tr)(D:c2i):Nat->Sm
 |0=>S 0
 |m+1=>λk=>if m∈D/\k∈(T m).2 then S (m+1) k else SD S T D m k
theorem IM(hs:∀i,i<n->(c i).eval (S i) ([],[])=some ((),S (i+1),T i))(D:c2i)(k:Nat):
  ∀m,m<=n->(∀j,j<m->k∈(T j).2->j∈D)->SD S T D m k=S m k
 |0,_,_=>rfl|m+1,hm,h=>by
  have ih:=IM hs D k m o5 (λj hj=>h j o5);simp only[SD];by_cases hk:k∈(T m).2
  .rw[if_pos ⟨h m o5 hk,hk⟩]
  .rw[if_neg (λx=>hk x.2),ih,EQ (hs m o5) k hk]
theorem QG(D:c2i)(k i:Nat):∀m,i<=m->(∀j,i<=j->j<m->k∈(T j).2->j∉D)->SD S T D m k=SD S T D i k
 |m,hm,h=>by
  induction m with
  |zero=>have:i=0:=o5;subst this;rfl|succ m ih=>
   by_cases e:i=m+1
   .subst e;rfl
   .simp only[SD];rw[if_neg (λx=>h m o5 o5 x.2 x.1)];exact ih o5 (λj h1 h2=>h j h1 o5)
theorem a0n(D:c2i)(i k:Nat)(hk:k∉(T i).2):∀m,SD S T (i::D) m k=SD S T D m k
 |0=>rfl|m+1=>by
  simp only[SD,a0n D i k hk m];by_cases e:m=i
  .subst e;simp[hk]
  .simp[C9,e]
theorem a2B(hs:∀i,i<n->(c i).eval (S i) ([],[])=some ((),S (i+1),T i)){D:c2i}(hD:∀i,i<n->i∈D):SD S T D n=S n:=by funext k;exact IM hs D k n o5 (λj hj _=>hD j hj)
theorem a8w(n:Nat):SD S T [] n=S 0:=by
 induction n with
 |zero=>rfl|succ m ih=>funext k;simp[SD,ih]
end draws
end Go.GP
namespace Go.GP
def Xo(P:Program)(d:Deferred):Prop:=∃fv cap f args,d.target= .fn fv cap/\(∀w:World,(invoke d.target d.args).run P w= .ok (.enter f args) w)/\
 ∀w,CallsD P f args .returning w λe u' w' =>(∃v,e= .returned v)/\u' = .returning/\w' =w
def b2y(P:Program)(f n:Nat):Prop:=∀cap:Array Value,cap.size=n->Xo P { target:=.fn (.func f) cap,args:=#[] }
theorem Ho{P:Program}{fn:Func}{tmps:Array Value}{R:Ending->World->Prop}{w:World}(h:∃v,(results fn tmps).run P w= .ok v w/\R (.returned v) w):∀(ds:List Deferred),(∀d∈ds,Xo P d)->Leaves P fn tmps R ds .returning w
 |[],_=>h
 |d::ds,hd=>by obtain⟨fv,cap,f,args,ht,hi,hc⟩:=hd d A8;refine⟨A8,fv,cap,f,args,ht,hi w,(hc w).mono ?_⟩;rintro e u' w' ⟨⟨v,rfl⟩,rfl,rfl⟩;exact Ho h ds λx hx=>hd x (by simp[hx])
structure Fx where
 P:Program
 E:Env
 w0:World
 O:c2i
 ok0:Nat->Ty->Prop
 tm0:Array Value
structure Frame' (w0 w:World) (O:c2i):Prop where
 os:w.os=w0.os
 tape:w.tape=w0.tape
 output:w.output=w0.output
 size:w0.heap.size<=w.heap.size
 block:∀b,b<w0.heap.size->b∉O->w.heap[b]? =w0.heap[b]?
theorem Frame'.refl(w:World)(O:c2i):Frame' w w O:=⟨rfl,rfl,rfl,D9 _,λ_ _ _=>rfl⟩
def a7V(h:Array Obj)(g n:Nat):Prop:=∃c T f,h[g]? =some (.cells c T f)/\c.size=n
def DF(C:Cx)(g:Nat)(t:Ty)(xs:List t.den):Prop:=
 C.ok g t/\a7V C.h g (xs.length*t.size)/\∀i x,xs[i]? =some x->∃es,bD C.h g (i*t.size) t.size=some es/\iY C.h C.ok t x es
theorem DF.le{C D:Cx}(h:C.le D){g:Nat}{t:Ty}{xs:List t.den}(k:DF C g t xs):DF D g t xs:=by obtain⟨h1,h3,h2⟩:=k;refine⟨h.ok _ _ h1,by unfold a7V at h3 ⊢;rw[h.h _ _ h1];exact h3,λi x hi=>?_⟩;obtain⟨es,he,hr⟩:=h2 i x hi;exact⟨es,by rw[nO (h.h _ _ h1)];exact he,bZ h.ok h.h hr⟩
structure Rel (X:Fx) (cl ch:Nat) (S:Sm) (m:Mp) (ok:Nat->Ty->Prop) (a:Act) (w:World):Prop where
 size:a.tmps.size=X.E.nt
 nodef:∀d∈a.defers,Xo X.P d
 slot:∀n,n<U8->iI ⟨w.heap,ok,m⟩ (S n) (a.tmps.getD n Go.undef)
 box:∀n,xY ⟨w.heap,ok,m⟩ n (S (U8+n))
 inj:∀n n' b,b∈L9 m n (S (U8+n))->b∈L9 m n' (S (U8+n'))->n=n'
 nd:∀n,(L9 m n (S (U8+n))).Nodup
 sep:∀n b,b∈L9 m n (S (U8+n))->(∀t,¬ok b t)/\b<w.heap.size/\(X.w0.heap.size<=b\/b∈X.O)
 okLt:∀b t,ok b t->b<w.heap.size
 okIn:∀b t,X.ok0 b t->ok b t
 okOut:∀b t,ok b t->X.ok0 b t\/X.w0.heap.size<=b\/b∈X.O
 frame:Frame' X.w0 w X.O
 fresh:∀n,cl<=n->S (U8+n)= .undef->m n=none
 strict:∀n,ch<=n->m n=none
 gl:∀g u,bf X.E.gl g=some u->DF ⟨w.heap,ok,m⟩ g u.1 u.2
 kept:∀n∈X.E.kp,a.tmps.getD n Go.undef=X.tm0.getD n Go.undef
def jo(m:Mp)(n:Nat)(l:Loc)(ks:c2i):Mp:=⟨λk=>if k=n then some l else m k,λk=>if k=n then ks else m.kid k⟩
@[simp] theorem X8 (m:Mp) (n:Nat) (l:Loc) (ks:c2i):jo m n l ks n=some l:=by simp[jo]
variable {n:Nat}{k:Nat}
theorem fU(m:Mp)(l:Loc)(ks:c2i)(h:k≠n):jo m n l ks k=m k:=by simp[jo,h]
@[simp] theorem c1B (m:Mp) (n:Nat) (l:Loc) (ks:c2i):(jo m n l ks).kid n=ks:=by simp[jo]
theorem OJ(m:Mp)(l:Loc)(ks:c2i)(h:k≠n):(jo m n l ks).kid k=m.kid k:=by simp[jo,h]
def wW(m:Mp)(n:Nat)(ks:c2i):Mp:=⟨m.loc,λk=>if k=n then ks else m.kid k⟩
@[simp] theorem c0c (m:Mp) (n k:Nat) (ks:c2i):wW m n ks k=m k:=rfl
@[simp] theorem b9Z (m:Mp) (n:Nat) (ks:c2i):(wW m n ks).kid n=ks:=by simp[wW]
theorem VD(m:Mp)(ks:c2i)(h:k≠n):(wW m n ks).kid k=m.kid k:=by simp[wW,h]
theorem tu(m:Mp)(n:Nat):wW m n (m.kid n)=m:=by
 cases m with|mk l k=>
 simp only[wW,Mp.mk.injEq,true_and];funext j;split
 .rename_i e;rw[e]
 .rfl
variable {v:V}
theorem Fh{m m' :Mp}(h:m' n=m n)(k:m'.kid n=m.kid n):L9 m' n v=L9 m n v:=by cases v<;>simp only[L9,h,k]
variable {d:Nat}
theorem Un{tmps:Array Value}(h:d<tmps.size)(x e:Value):(tmps.setIfInBounds d x).getD d e=x:=by simp[Array.getD,h]
theorem Hg{tmps:Array Value}(h:n≠d)(x e:Value):(tmps.setIfInBounds d x).getD n e=tmps.getD n e:=by simp only[X4];rw[iW];simp[Ne.symm h]
structure Tk (X:Fx) (S:Sm) (m:Mp) (ok:Nat->Ty->Prop) (w:World) (T:c2i):Prop where
 nodup:T.Nodup
 free:∀b∈T,(∀t,¬ok b t)/\b<w.heap.size/\(X.w0.heap.size<=b\/b∈X.O)/\∀n,b∉L9 m n (S (U8+n))
theorem Tk.nil{X:Fx}{S:Sm}{m:Mp}{ok:Nat->Ty->Prop}{w:World} :Tk X S m ok w []:=⟨aY,λb h=>by cases h⟩
def okW(ok:Nat->Ty->Prop)(bs:c2i)(Ts:List Ty):Nat->Ty->Prop:=λb t=>ok b t\/(b∈bs/\t∈Ts)
variable {w':World}{bs:c2i}
section
variable {X:Fx} {cl ch:Nat} {S:Sm} {m:Mp} {ok:Nat->Ty->Prop} {a:Act} {w:World} {T:c2i}
theorem Tk.perm{T T' :c2i}(h:Tk X S m ok w T)(p:T.Perm T'):Tk X S m ok w T' :=
 ⟨p.nodup_iff.1 h.nodup,λb hb=>h.free b (p.mem_iff.2 hb)⟩
theorem Tk.left{T T' :c2i}(h:Tk X S m ok w (T++T')):Tk X S m ok w T:=
 ⟨(J6.1 h.nodup).1,λb hb=>h.free b (X6 _ hb)⟩
theorem Su{n:Nat} :∀{l:c2i},zJ n l=false->n∉l
 |[],_,h=>by cases h|k::r,hb,h=>by
  unfold zJ at hb;cases hk:Nat.beq k n<;>rw[hk]at hb
  .rcases C9.1 h with e|h
   .subst e;rw[show Nat.beq n n=true from Nat.beq_refl n]at hk;cases hk
   .exact Su hb h
  .cases hb
theorem Vo{n:Nat} :∀{l:c2i},zJ n l=true->n∈l
 |[],h=>by cases h|k::r,hb=>by
  unfold zJ at hb;cases hk:Nat.beq k n<;>rw[hk]at hb
  .exact P9 _ (Vo hb)
  .have:=bQ hk;subst this;exact dP
theorem vg{E:Env}{t:Nat}(h:PG E t=true):t<E.nt/\t∉E.kp:=by
 unfold PG at h;cases hb:Nat.blt t E.nt<;>rw[hb]at h
 .cases h
 .simp only[cond_true,aZ]at h;exact⟨by rw[Z4]at hb;exact hb,Su h⟩
theorem Rel.put(R:Rel X cl ch S m ok a w)(hnt:X.E.nt<=U8){x:Value}(hd:PG X.E d=true)(hv:iI ⟨w.heap,ok,m⟩ v x):
  Rel X cl ch (upd S d v) m ok (a.put (some d) x) w:=by
 obtain⟨hd,hkp⟩:=vg hd;have hb:∀n,upd S d v (U8+n)=S (U8+n):=λn=>aA _ _ o5;have hkept:∀n∈X.E.kp,(a.put (some d) x).tmps.getD n Go.undef=X.tm0.getD n Go.undef:=λn hn=>by have e:n≠d:=λe=>hkp (e▸hn);simp only[Act.put];rw[Hg e];exact R.kept n hn
 refine { R with size:=(by simp[Act.put,R.size]),nodef:=(by simpa[Act.put]using R.nodef),slot:=λn hn=>?_,box:=λn=>(by rw[hb];exact R.box n),inj:=λn n' b=>(by rw[hb,hb];exact R.inj n n' b),nd:=λn=>(by rw[hb];exact R.nd n),sep:=λn b=>(by rw[hb];exact R.sep n b),fresh:=λn h1 h2=>R.fresh n h1 (by rwa[hb]at h2),kept:=hkept };by_cases e:n=d
 .subst e;simp only[gG,Act.put];rw[Un (by rw[R.size];exact hd)];exact hv
 .rw[aA _ _ e];simp only[Act.put];rw[Hg e];exact R.slot n hn
theorem Rel.slotV(R:Rel X cl ch S m ok a w)(hd:d<U8)(hv:iI ⟨w.heap,ok,m⟩ v (a.tmps.getD d Go.undef)):
  Rel X cl ch (upd S d v) m ok a w:=by
 have hb:∀n,upd S d v (U8+n)=S (U8+n):=λn=>aA _ _ o5;refine { R with slot:=λn hn=>?_,box:=λn=>(by rw[hb];exact R.box n),inj:=λn n' b=>(by rw[hb,hb];exact R.inj n n' b),nd:=λn=>(by rw[hb];exact R.nd n),sep:=λn b=>(by rw[hb];exact R.sep n b),fresh:=λn h1 h2=>R.fresh n h1 (by rwa[hb]at h2) };by_cases e:n=d
 .subst e;simp only[gG];exact hv
 .rw[aA _ _ e];exact R.slot n hn
theorem Rel.world(R:Rel X cl ch S m ok a w){ok' :Nat->Ty->Prop}(hos:w'.os=w.os)(htp:w'.tape=w.tape)(hout:w'.output=w.output)(hsz:w.heap.size<=w'.heap.size)
  (hkeep:∀b,b<w.heap.size->((∃t,ok b t)\/(∃n,b∈L9 m n (S (U8+n)))\/¬(X.w0.heap.size<=b\/b∈X.O))->w'.heap[b]? =w.heap[b]?)
  (hok:∀b t,ok b t->ok' b t) (hok' :∀b t,ok' b t->b<w'.heap.size/\(ok b t\/((X.w0.heap.size<=b\/b∈X.O)/\∀n,b∉L9 m n (S (U8+n))))):
  Rel X cl ch S m ok' a w' :=by
 have hle:Cx.le ⟨w.heap,ok,m⟩ ⟨w'.heap,ok',m⟩:=⟨hok,λb t hb=>hkeep b (R.okLt b t hb) (.inl ⟨t,hb⟩),λ_ _ h=>h⟩;refine { kept:=R.kept,size:=R.size,nodef:=R.nodef,inj:=R.inj,nd:=R.nd,fresh:=R.fresh,strict:=R.strict,slot:=λn hn=>FC hle (R.slot n hn),box:=λn=>Qy hle rfl (λb hb=>hkeep b (R.sep n b hb).2.1 (.inr (.inl ⟨n,hb⟩))) (R.box n),sep:=λn b hb=>?_,okLt:=λb t hb=>(hok' b t hb).1,okIn:=λb t hb=>hok b t (R.okIn b t hb),okOut:=λb t hb=>?_,frame:=?_,gl:=λg u hg=>DF.le hle (R.gl g u hg) }
 .obtain⟨h1,h2,h3⟩:=R.sep n b hb;refine⟨λt h=>?_,o5,h3⟩;rcases(hok' b t h).2 with h|⟨_,h⟩
  .exact h1 t h
  .exact h n hb
 .rcases(hok' b t hb).2 with h|⟨h,_⟩
  .exact R.okOut b t h
  .exact .inr h
 .obtain⟨f1,f2,f3,f4,f5⟩:=R.frame;refine⟨hos.trans f1,htp.trans f2,hout.trans f3,o5,λb hb hO=>?_⟩;rw[hkeep b o5 (.inr (.inr (by simp[hO];omega)))];exact f5 b hb hO
theorem Rel.same(R:Rel X cl ch S m ok a w)(hos:w'.os=w.os)(htp:w'.tape=w.tape)(hout:w'.output=w.output)(hh:w'.heap=w.heap):Rel X cl ch S m ok a w' :=by refine R.world hos htp hout (by rw[hh];exact D9 _) (λb _ _=>by rw[hh]) (λ_ _ h=>h) (λb t h=>⟨by rw[hh];exact R.okLt b t h,.inl h⟩)
theorem vP{n k b:Nat}(hv:L9 m n v=[])(h:b∈L9 m k (upd S (U8+n) v (U8+k))):k≠n/\b∈L9 m k (S (U8+k)):=by
 by_cases e:k=n
 .subst e;rw[gG,hv]at h;cases h
 .rw[aA _ _ o5]at h;exact⟨e,h⟩
theorem Rel.killV(R:Rel X cl ch S m ok a w)(n:Nat)(hv:v≠.undef)(hw:L9 m n v=[])(hB:xY ⟨w.heap,ok,m⟩ n v):Rel X cl ch (upd S (U8+n) v) m ok a w:=by
 have ho:∀k b,b∈L9 m k (upd S (U8+n) v (U8+k))->k≠n/\b∈L9 m k (S (U8+k)):=λk b h=>vP hw h;refine { R with slot:=λk hk=>(by rw[aA _ _ o5];exact R.slot k hk),box:=λk=>?_,inj:=λk k' b h h' =>R.inj k k' b (ho _ _ h).2 (ho _ _ h').2,nd:=λk=>?_,sep:=λk b h=>R.sep k b (ho _ _ h).2,fresh:=λk h1 h2=>?_ }
 .by_cases e:k=n
  .subst e;rw[gG];exact hB
  .rw[aA _ _ o5];exact R.box k
 .by_cases e:k=n
  .subst e;rw[gG,hw];exact aY
  .rw[aA _ _ o5];exact R.nd k
 .by_cases e:k=n
  .subst e;rw[gG]at h2;exact absurd h2 hv
  .rw[aA _ _ o5]at h2;exact R.fresh k h1 h2
theorem Rel.kill(R:Rel X cl ch S m ok a w)(n:Nat):Rel X cl ch (upd S (U8+n) .dead) m ok a w:=R.killV n A8 rfl trivial
theorem Tk.killV(R:Rel X cl ch S m ok a w)(h:Tk X S m ok w T)(n:Nat)(hw:L9 m n v=[])(hbs:∀b,b∈bs->b∈L9 m n (S (U8+n)))(hnd:bs.Nodup):
  Tk X (upd S (U8+n) v) m ok w (T++bs):=by
 refine⟨J6.2 ⟨h.nodup,hnd,λx hx y hy e=>?_⟩,λb hb=>?_⟩
 .subst e;exact(h.free x hx).2.2.2 n (hbs x hy)
 .rcases H5.1 hb with hb|hb
  .obtain⟨h1,h2,h3,h4⟩:=h.free b hb;exact⟨h1,h2,h3,λk e=>h4 k (vP hw e).2⟩
  .obtain⟨h1,h2,h3⟩:=R.sep n b (hbs b hb);exact⟨h1,h2,h3,λk e=>(vP hw e).1 (R.inj k n b (vP hw e).2 (hbs b hb))⟩
theorem Rel.mark(R:Rel X cl ch S m ok a w){md:M}{xs:List md.den}(hS:S (U8+n)= .barrs md xs none):Rel X cl ch (upd S (U8+(JQ+n)) (.blen (o8 xs) md.size)) m ok a w:=by
 refine R.killV (JQ+n) A8 rfl ?_;have hb:=R.box n;rw[hS]at hb;obtain⟨_,l,Os,hm,⟨ha,hho⟩,_⟩:=hb;refine⟨n,l,rfl,hm,?_⟩;cases l with
 |nil=>obtain⟨rfl,_⟩:=ha;rfl
 |st b=>cases ha|mp b=>cases ha|arr blk off len cap sz=>exact⟨by rw[ha.2.1];rfl,ha.1.symm⟩
theorem Tk.kill(R:Rel X cl ch S m ok a w)(h:Tk X S m ok w T)(n:Nat)(hbs:∀b,b∈bs->b∈L9 m n (S (U8+n)))(hnd:bs.Nodup):
  Tk X (upd S (U8+n) .dead) m ok w (T++bs):=h.killV R n rfl hbs hnd
theorem Rel.lay(R:Rel X cl ch S m ok a w){l:Loc}{ks:c2i}(hn:S (U8+n)= .undef)(hcl:cl<=n)(hch:n<ch)(hv:v≠.undef)
  (hos:w'.os=w.os) (htp:w'.tape=w.tape) (hout:w'.output=w.output) (hsz:w.heap.size<=w'.heap.size)
  (hkeep:∀b,b<w.heap.size->b∉L9 (jo m n l ks) n v->w'.heap[b]? =w.heap[b]?)
  (hnd:(L9 (jo m n l ks) n v).Nodup)
  (hfree:∀b∈L9 (jo m n l ks) n v,(∀t,¬ok b t)/\b<w'.heap.size/\(X.w0.heap.size<=b\/b∈X.O)/\∀k,b∉L9 m k (S (U8+k)))
  (hB:xY ⟨w'.heap,ok,jo m n l ks⟩ n v):Rel X cl ch (upd S (U8+n) v) (jo m n l ks) ok a w' :=by
 have hm:m n=none:=R.fresh n hcl hn;have hR:Rel X cl ch S m ok a w' :=by
  refine R.world hos htp hout hsz (λb hb h=>?_) (λ_ _ h=>h) (λb t h=>⟨by have:=R.okLt b t h;omega,.inl h⟩);refine hkeep b hb (λe=>?_);obtain⟨h1,h2,h3,h4⟩:=hfree b e;rcases h with⟨t,h⟩|⟨k,h⟩|h
  .exact h1 t h
  .exact h4 k h
  .exact h h3
 have hle:Cx.le ⟨w'.heap,ok,m⟩ ⟨w'.heap,ok,jo m n l ks⟩:=⟨λ_ _ h=>h,λ_ _ _=>rfl,λk x h=>by
  by_cases e:k=n
  .subst e;simp[hm]at h
  .show jo m n l ks k=some x;rw[fU _ _ _ e];exact h⟩
 have hob:∀k,k≠n->L9 (jo m n l ks) k (upd S (U8+n) v (U8+k))=L9 m k (S (U8+k)):=λk e=>by rw[aA _ _ o5];exact Fh (fU _ _ _ e) (OJ _ _ _ e)
 have hobn:L9 (jo m n l ks) n (upd S (U8+n) v (U8+n))=L9 (jo m n l ks) n v:=by rw[gG]
 refine { kept:=hR.kept,size:=hR.size,nodef:=hR.nodef,okLt:=hR.okLt,okIn:=hR.okIn,okOut:=hR.okOut,frame:=hR.frame,slot:=λk hk=>(by rw[aA _ _ o5];exact FC hle (hR.slot k hk)),box:=λk=>?_,inj:=λk k' b h h' =>?_,nd:=λk=>?_,sep:=λk b h=>?_,fresh:=λk h1 h2=>?_,strict:=λk h=>?_,gl:=λg u hg=>DF.le hle (hR.gl g u hg) }
 .by_cases e:k=n
  .subst e;rw[gG];exact hB
  .rw[aA _ _ o5];refine Qy hle (OJ _ _ _ e) (λb hb=>rfl) (hR.box k)
 .by_cases e:k=n
  .by_cases e' :k' =n
   .rw[e,e']
   .subst e;rw[hobn]at h;rw[hob k' e']at h';exact absurd h' ((hfree b h).2.2.2 k')
  .by_cases e' :k' =n
   .subst e';rw[hobn]at h';rw[hob k e]at h;exact absurd h ((hfree b h').2.2.2 k)
   .rw[hob k e]at h;rw[hob k' e']at h';exact R.inj k k' b h h'
 .by_cases e:k=n
  .subst e;rw[hobn];exact hnd
  .rw[hob k e];exact R.nd k
 .by_cases e:k=n
  .subst e;rw[hobn]at h;obtain⟨h1,h2,h3,_⟩:=hfree b h;exact⟨h1,h2,h3⟩
  .rw[hob k e]at h;exact hR.sep k b h
 .by_cases e:k=n
  .subst e;rw[gG]at h2;exact absurd h2 hv
  .rw[aA _ _ o5]at h2;rw[fU _ _ _ e];exact R.fresh k h1 h2
 .have e:k≠n:=o5;rw[fU _ _ _ e];exact R.strict k h
theorem Rel.modK(R:Rel X cl ch S m ok a w)(hT:Tk X S m ok w T){ks:c2i}(hv:v≠.undef)
  (hnd:(L9 (wW m n ks) n v).Nodup) (hsub:∀b∈L9 (wW m n ks) n v,b∈L9 m n (S (U8+n))\/b∈T)
  (hos:w'.os=w.os) (htp:w'.tape=w.tape) (hout:w'.output=w.output) (hsz:w'.heap.size=w.heap.size)
  (hkeep:∀b,b∉L9 m n (S (U8+n))->w'.heap[b]? =w.heap[b]?) (hB:xY ⟨w'.heap,ok,wW m n ks⟩ n v)
  {T' :c2i} (hnd' :T'.Nodup) (hT' :∀b∈T',(b∈L9 m n (S (U8+n))\/b∈T)/\b∉L9 (wW m n ks) n v):
  Rel X cl ch (upd S (U8+n) v) (wW m n ks) ok a w' /\Tk X (upd S (U8+n) v) (wW m n ks) ok w' T' :=by
 have hsep:∀b,b∈L9 m n (S (U8+n))\/b∈T->(∀t,¬ok b t)/\b<w.heap.size/\(X.w0.heap.size<=b\/b∈X.O)/\∀k,k≠n->b∉L9 m k (S (U8+k)):=λb h=>by
  rcases h with h|h
  .obtain⟨h1,h2,h3⟩:=R.sep n b h;exact⟨h1,h2,h3,λk e h' =>e (R.inj k n b h' h)⟩
  .obtain⟨h1,h2,h3,h4⟩:=hT.free b h;exact⟨h1,h2,h3,λk _=>h4 k⟩
 have hle:Cx.le ⟨w.heap,ok,m⟩ ⟨w'.heap,ok,wW m n ks⟩:=⟨λ_ _ h=>h,λb t hb=>hkeep b (λe=>(R.sep n b e).1 t hb),λ_ _ h=>h⟩;have hob:∀k,k≠n->L9 (wW m n ks) k (upd S (U8+n) v (U8+k))=L9 m k (S (U8+k)):=λk e=>by rw[aA _ _ o5];exact Fh rfl (VD _ _ e)
 have hobn:L9 (wW m n ks) n (upd S (U8+n) v (U8+n))=L9 (wW m n ks) n v:=by rw[gG]
 refine⟨?_,hnd',λb hb=>?_⟩
 .refine { kept:=R.kept,size:=R.size,nodef:=R.nodef,okLt:=λb t hb=>(by rw[hsz];exact R.okLt b t hb),okIn:=R.okIn,okOut:=R.okOut,strict:=R.strict,slot:=λk hk=>(by rw[aA _ _ o5];exact FC hle (R.slot k hk)),box:=λk=>?_,inj:=λk k' b h h' =>?_,nd:=λk=>?_,sep:=λk b h=>?_,fresh:=λk h1 h2=>?_,frame:=?_,gl:=λg u hg=>DF.le hle (R.gl g u hg) }
  .by_cases e:k=n
   .subst e;rw[gG];exact hB
   .rw[aA _ _ o5];refine Qy hle (VD _ _ e) (λb hb=>hkeep b (λe' =>e (R.inj k n b hb e'))) (R.box k)
  .by_cases e:k=n
   .by_cases e' :k' =n
    .rw[e,e']
    .subst e;rw[hobn]at h;rw[hob k' e']at h';exact absurd h' ((hsep b (hsub b h)).2.2.2 k' e')
   .by_cases e' :k' =n
    .subst e';rw[hobn]at h';rw[hob k e]at h;exact absurd h ((hsep b (hsub b h')).2.2.2 k e)
    .rw[hob k e]at h;rw[hob k' e']at h';exact R.inj k k' b h h'
  .by_cases e:k=n
   .subst e;rw[hobn];exact hnd
   .rw[hob k e];exact R.nd k
  .by_cases e:k=n
   .subst e;rw[hobn]at h;obtain⟨h1,h2,h3,_⟩:=hsep b (hsub b h);exact⟨h1,by rw[hsz];exact h2,h3⟩
   .rw[hob k e]at h;obtain⟨h1,h2,h3⟩:=R.sep k b h;exact⟨h1,by rw[hsz];exact h2,h3⟩
  .obtain⟨f1,f2,f3,f4,f5⟩:=R.frame;refine⟨hos.trans f1,htp.trans f2,hout.trans f3,by rw[hsz];exact f4,λb hb hO=>?_⟩;rw[hkeep b (λe=>?_)]
   .exact f5 b hb hO
   .rcases(R.sep n b e).2.2 with h|h
    .omega
    .exact hO h
  .by_cases e:k=n
   .subst e;rw[gG]at h2;exact absurd h2 hv
   .rw[aA _ _ o5]at h2;exact R.fresh k h1 h2
 .obtain⟨h0,h0'⟩:=hT' b hb;obtain⟨h1,h2,h3,h4⟩:=hsep b h0;refine⟨h1,by rw[hsz];exact h2,h3,λk h=>?_⟩;by_cases e:k=n
  .subst e;rw[hobn]at h;exact h0' h
  .rw[hob k e]at h;exact h4 k e h
theorem Rel.mod(R:Rel X cl ch S m ok a w)(ho:L9 m n v=L9 m n (S (U8+n)))(hv:v≠.undef)
  (hos:w'.os=w.os) (htp:w'.tape=w.tape) (hout:w'.output=w.output) (hsz:w'.heap.size=w.heap.size)
  (hkeep:∀b,b∉L9 m n (S (U8+n))->w'.heap[b]? =w.heap[b]?) (hB:xY ⟨w'.heap,ok,m⟩ n v):Rel X cl ch (upd S (U8+n) v) m ok a w' :=by
 have h:=R.modK (T:=[]) Tk.nil (n:=n) (v:=v) (ks:=m.kid n) (w' :=w') (T' :=[]) hv (by rw[tu,ho];exact R.nd n) (by rw[tu,ho];exact λb h=> .inl h) hos htp hout hsz hkeep (by rw[tu];exact hB) aY (λb h=>by cases h);rw[tu]at h;exact h.1
theorem Rel.widen(R:Rel X cl ch S m ok a w)(hv:v≠.undef)(ho:L9 m n v=[]){Ts:List Ty}(hbs:∀b∈bs,b∈L9 m n (S (U8+n)))
  (hB:xY ⟨w.heap,okW ok bs Ts,m⟩ n v):Rel X cl ch (upd S (U8+n) v) m (okW ok bs Ts) a w:=by
 have hmono:∀b t,ok b t->okW ok bs Ts b t:=λb t h=> .inl h;have hob:∀k b,b∈L9 m k (upd S (U8+n) v (U8+k))->k≠n/\b∈L9 m k (S (U8+k)):=λk b h=>vP ho h;have hle:Cx.le ⟨w.heap,ok,m⟩ ⟨w.heap,okW ok bs Ts,m⟩:=⟨hmono,λ_ _ _=>rfl,λ_ _ h=>h⟩;refine { kept:=R.kept,size:=R.size,nodef:=R.nodef,strict:=R.strict,frame:=R.frame,okIn:=λb t h=>hmono b t (R.okIn b t h),slot:=λk hk=>(by rw[aA _ _ o5];exact FC hle (R.slot k hk)),box:=λk=>?_,inj:=λk k' b h h' =>R.inj k k' b (hob _ _ h).2 (hob _ _ h').2,nd:=λk=>?_,sep:=λk b h=>?_,okLt:=λb t h=>?_,okOut:=λb t h=>?_,fresh:=λk h1 h2=>?_,gl:=λg u hg=>DF.le hle (R.gl g u hg) }
 .by_cases e:k=n
  .subst e;rw[gG];exact hB
  .rw[aA _ _ o5];exact Qy hle rfl (λb hb=>rfl) (R.box k)
 .by_cases e:k=n
  .subst e;rw[gG,ho];exact aY
  .rw[aA _ _ o5];exact R.nd k
 .obtain⟨e,h⟩:=hob k b h;obtain⟨h1,h2,h3⟩:=R.sep k b h;refine⟨λt h' =>?_,h2,h3⟩;rcases h' with h'|⟨h',_⟩
  .exact h1 t h'
  .exact e (R.inj k n b h (hbs b h'))
 .rcases h with h|⟨h,_⟩
  .exact R.okLt b t h
  .exact(R.sep n b (hbs b h)).2.1
 .rcases h with h|⟨h,_⟩
  .exact R.okOut b t h
  .exact .inr (R.sep n b (hbs b h)).2.2
 .by_cases e:k=n
  .subst e;rw[gG]at h2;exact absurd h2 hv
  .rw[aA _ _ o5]at h2;exact R.fresh k h1 h2
theorem Tk.widen(h:Tk X S m ok w T)(ho:L9 m n v=[]){Ts:List Ty}(hbs:∀b∈bs,b∈L9 m n (S (U8+n))):
  Tk X (upd S (U8+n) v) m (okW ok bs Ts) w T:=by
 refine⟨h.nodup,λb hb=>?_⟩;obtain⟨h1,h2,h3,h4⟩:=h.free b hb;refine⟨λt e=>?_,h2,h3,λk e=>h4 k (vP ho e).2⟩;rcases e with e|⟨e,_⟩
 .exact h1 t e
 .exact h4 n (hbs b e)
theorem Rel.backV(R:Rel X cl ch S m ok a w){O1 B:c2i}(hv:v≠.undef)(hT:Tk X S m ok w (O1++B))(ho:L9 m n v=O1)(hB:xY ⟨w.heap,ok,m⟩ n v):
  Rel X cl ch (upd S (U8+n) v) m ok a w/\Tk X (upd S (U8+n) v) m ok w B:=by
 have hnd:=J6.1 hT.nodup;have h:=R.modK hT (n:=n) (v:=v) (ks:=m.kid n) (w' :=w) (T' :=B) hv (by rw[tu,ho];exact hnd.1) (by rw[tu,ho];exact λb h=> .inr (by simp[h])) rfl rfl rfl rfl (λ_ _=>rfl) (by rw[tu];exact hB) hnd.2.1
  (λb hb=>⟨.inr (by simp[hb]),by rw[tu,ho];exact λh=>hnd.2.2 b h b hb rfl⟩)
 rw[tu]at h;exact h
end
end Go.GP
namespace Go.GP
def FX:Loc->Option (Nat×Nat)->Loc
 | .arr blk off len cap sz,some (lo,hi)=>if cap=lo then .arr blk off 0 0 sz else .arr blk (off+lo*sz) (hi -lo) (cap -lo) sz|l,_=>l
variable {t:Ty}{v:Value}{l:Loc}{xs:List t.den}
theorem EF{C:Cx}{vw:Option (Nat×Nat)}(ha:arrOk C t xs l)(hv:l.view vw v):
  arrOk C t (fV vw xs) (FX l vw)/\(FX l vw).view none v/\(FX l vw).blks=l.blks:=by
 cases l with
 |st b=>cases ha|mp b=>
  cases vw with
  |none=>exact⟨ha,hv,rfl⟩|some p=>cases hv
 |nil=>
  obtain⟨ha,h0⟩:=ha;subst ha;cases vw with
  |none=>exact⟨⟨rfl,h0⟩,hv,rfl⟩|some p=>obtain⟨lo,hi⟩:=p;obtain⟨rfl,rfl,rfl⟩:=hv;exact⟨⟨rfl,h0⟩,rfl,rfl⟩
 |arr blk off len cap sz=>
  cases vw with
  |none=>exact⟨ha,hv,rfl⟩|some p=>
   obtain⟨lo,hi⟩:=p;obtain⟨h0,rfl,rfl,hc,c,T,f,hh,hz,hs,hx⟩:=ha;obtain⟨h1,h2,rfl⟩:=hv;have hl:(fV (some (lo,hi)) xs).length=hi -lo:=by simp[fV,jK];omega
   by_cases e:cap=lo
   .subst e;have e2:hi=cap:=o5;subst e2;simp only[FX,if_true,Loc.view,jg];refine⟨⟨h0,rfl,by rw[hl];omega,D9 _,c,T,f,hh,hz,?_,λi x hi=>?_⟩,trivial,rfl⟩
    .have:=bT (hi*t.size);omega
    .have:i<0:=by
      have:=(aF.1 hi).1;rw[hl]at this;omega
     omega
   .simp only[FX,e,if_false,Loc.view];refine⟨⟨h0,rfl,by rw[hl],o5,c,T,f,hh,hz,?_,λi x hix=>?_⟩,trivial,rfl⟩
    .have:off+lo*t.size+(cap -lo)*t.size=off+cap*t.size:=by
      rw[dJ,←H8];congr 2;omega
     rw[this];exact hs
    .have hi' :i<hi -lo:=by rw[←hl];exact(aF.1 hix).1
     have hx' :xs[lo+i]? =some x:=by
      simp only[fV,jK,L6,U1]at hix;split at hix
      .exact hix
      .cases hix
     obtain⟨es,he,hr⟩:=hx _ x hx';refine⟨es,?_,hr⟩;rw[←he];congr 1;rw[H8];omega
def Ob(ag:Bool)(v:Value)(cs:c2h):Prop:=match ag with
 |true=>∃arr,v= .agg arr/\arr.toList=cs|false=>cs=[v]
def oU(h:Array Obj)(ok:Nat->Ty->Prop):(ms:List MG)->Y7 ms->c2h->c2i->Prop
 |[],_,vs,O=>vs=[]/\O=[]|[m],x,vs,O=>∃v cs,vs=[v]/\Ob m.1 v cs/\jm h ok m.2 none x cs O|m::m' ::r,x,vs,O=>∃v cs vs' O1 O2,vs=v::vs' /\O=O1++O2/\Ob m.1 v cs/\jm h ok m.2 none x.1 cs O1/\oU h ok (m' ::r) x.2 vs' O2
theorem iC{vw:Option (Nat×Nat)}(h:l.view vw v):v.oneCell' =true:=by
 cases l<;>rcases vw with _|⟨lo,hi⟩<;>simp only[Loc.view]at h
 .subst h;rfl
 .obtain⟨_,_,rfl⟩:=h;rfl
 .subst h;rfl
 .obtain⟨_,_,rfl⟩:=h;rfl
 .subst h;rfl
variable {h:Array Obj}{o:Nat}
theorem GX{ok:Nat->Ty->Prop}{x:t.den}(k:VY h ok t x o v):v.oneCell' =true:=by obtain⟨_,_,_,rfl,_⟩:=k;rfl
variable {α:Type}{ok':Nat->Ty->Prop}{cs:c2h}{O:c2i}{m:M}{sz:Nat}{mp:Mp}{R:Nat->α->c2h->c2i->Prop}{Os:List c2i}
section
variable {h:Array Obj} {ok:Nat->Ty->Prop}
theorem rF :jm h ok (.own t) none xs cs O↔∃l v,cs=[v]/\l.view none v/\arrOk ⟨h,ok,nom⟩ t xs l/\O=l.blks:=by
 constructor
 .rintro⟨v,e,_,l,hv,ha,ho⟩;exact⟨l,v,e,hv,ha,ho⟩
 .rintro⟨l,v,e,hv,ha,ho⟩;exact⟨v,e,iC hv,l,hv,ha,ho⟩
theorem sW{xs:List m.den} :jm h ok (.owns m) none xs cs O↔m.el=true/\∃l v Os,cs=[v]/\l.view none v/\
  pK h m.size (λ_ x es O=>jm h ok m none x es O) xs Os l/\O=l.blks++Os.flatten:=by
 constructor
 .rintro⟨v,e,_,he,l,Os,hv,ha,ho⟩;exact⟨he,l,v,Os,e,hv,ha,ho⟩
 .rintro⟨he,l,v,Os,e,hv,ha,ho⟩;exact⟨v,e,iC hv,he,l,Os,hv,ha,ho⟩
theorem a2d{a b:M}{x:a.den×b.den} :jm h ok (.pair a b) none x cs O↔∃c d O1 O2,cs=c++d/\O=O1++O2/\jm h ok a none x.1 c O1/\jm h ok b none x.2 d O2:=Iff.rfl
theorem kD:∀{m:M} {ho:Option Nat} {x:m.den} {cs:c2h} {O:c2i},jm h ok m ho x cs O->∀v∈cs,v.oneCell' =true
 | .dat t,_,_,_,_,e=>rH e.1| .own t,_,_,_,_,⟨v,e,hv,_⟩=>by subst e;simp[hv]| .owns t,_,_,_,_,⟨v,e,hv,_⟩=>by subst e;simp[hv]| .ownb t,_,_,_,_,⟨l,v,e,hv,_⟩=>by subst e;simp[iC hv]| .pair a b,_,_,_,_,⟨c,d,_,_,e,_,h1,h2⟩=>by
  subst e;intro v hv;rcases H5.1 hv with hv|hv
  .exact kD h1 v hv
  .exact kD h2 v hv
 | .unit,_,_,_,_,⟨e,_⟩=>by subst e;simp| .box m,_,_,_,_,⟨_,_,_,_,e,_⟩=>by subst e;simp[Value.oneCell']| .rp t,_,_,_,_,⟨v,e,hv,_⟩=>by subst e;simp[GX hv]| .fn f ts,_,_,_,_,⟨vs,e,_⟩=>by subst e;simp[Value.oneCell']| .ifc t m,_,_,_,_,⟨u,e,_⟩=>by subst e;simp[Value.oneCell']| .cell _,_,_,_,_,⟨v,e,h,_⟩=>by subst e;simp[h]| .fr t,_,_,_,_,⟨l,v,e,hv,_⟩=>by subst e;simp[iC hv]| .lp t,_,_,_,_,⟨v,e,hv,_⟩=>by subst e;simp[GX hv]| .dv ..,_,_,_,_,⟨v,e,h,_⟩=>by subst e;simp[h]| .ownr ..,_,_,_,_,⟨v,e,h,_⟩=>by subst e;simp[h]| .sit,_,_,_,_,⟨blk,a,v,e,_⟩=>by subst e;simp[Value.oneCell']| .sbx tb te,_,_,_,_,⟨blk,a,v,l,e,_⟩=>by subst e;simp[Value.oneCell']
theorem DR{α β α' β' :Type}(ea:α=α')(eb:β=β')(e:(α×β)=(α' ×β'))(x:α×β):cast e x=(cast ea x.1,cast eb x.2):=by subst ea;subst eb;rfl
theorem M.ty_size:∀{m:M},m.el=true->m.ty.size=m.size
 | .dat _,_=>rfl| .own _,_=>rfl| .owns _,_=>rfl| .unit,_=>rfl| .pair a b,h=>by
  have h' :a.el=true/\b.el=true:=by simpa[M.el]using h
  simp[M.ty,Ty.size,M.size,M.ty_size h'.1,M.ty_size h'.2]
 | .box _,h=>by simp[M.el]at h| .ownb _,h=>by simp[M.el]at h| .rp _,h=>by simp[M.el]at h| .fn _ _,h=>by simp[M.el]at h| .ifc _ _,h=>by simp[M.el]at h| .cell _,h=>by simp[M.el]at h| .fr _,h=>by simp[M.el]at h| .sbx _ _,h=>by simp[M.el]at h| .lp _,h=>by simp[M.el]at h| .dv ..,h=>by simp[M.el]at h| .ownr ..,h=>by simp[M.el]at h| .sit,h=>by simp[M.el]at h
theorem ae:∀{m:M} {ho:Option Nat} {x:m.den} {cs:c2h} {O:c2i},jm h ok m ho x cs O->cs.length=m.size
 | .dat t,_,_,_,_,e=>bY e.1| .own t,_,_,_,_,⟨v,e,hv,_⟩=>by subst e;rfl| .owns t,_,_,_,_,⟨v,e,hv,_⟩=>by subst e;rfl| .ownb t,_,_,_,_,⟨l,v,e,hv,_⟩=>by subst e;rfl| .pair a b,_,_,_,_,⟨c,d,_,_,e,_,h1,h2⟩=>by subst e;simp[ae h1,ae h2,M.size]| .unit,_,_,_,_,⟨e,_⟩=>by subst e;rfl| .box m,_,_,_,_,⟨_,_,_,_,e,_⟩=>by subst e;rfl| .rp t,_,_,_,_,⟨v,e,hv,_⟩=>by subst e;rfl| .fn f ts,_,_,_,_,⟨vs,e,_⟩=>by subst e;rfl| .ifc t m,_,_,_,_,⟨u,e,_⟩=>by subst e;rfl| .cell _,_,_,_,_,⟨v,e,_⟩=>by subst e;rfl| .fr t,_,_,_,_,⟨l,v,e,hv,_⟩=>by subst e;rfl| .lp t,_,_,_,_,⟨v,e,_⟩=>by subst e;rfl| .dv ..,_,_,_,_,⟨v,e,_⟩=>by subst e;rfl| .ownr ..,_,_,_,_,⟨v,e,_⟩=>by subst e;rfl| .sit,_,_,_,_,⟨blk,a,v,e,_⟩=>by subst e;rfl| .sbx tb te,_,_,_,_,⟨blk,a,v,l,e,_⟩=>by subst e;rfl
theorem Xt(h0:t.isEnt=false)(e:α=t.den)(e' :List α=List t.den)(hs:t.size=sz){xs:List α}
  (hR:∀i x es O,O∈Os->R i x es O->iY h ok' t (cast e x) es) (ha:pK h sz R xs Os l):arrOk ⟨h,ok',mp⟩ t (cast e' xs) l:=by
 subst e;simp only[cast_eq]at hR ⊢;cases l with
 |nil=>exact⟨ha.1,h0⟩|st b=>exact ha|mp b=>exact ha.elim|arr blk off len cap sz' =>obtain⟨h1,h2,h3,h7,c,T,h4,h5,h6⟩:=ha;refine⟨h0,by rw[hs];exact h1,h2,h3,c,T,_,h4,.inl rfl,by rw[h1];exact h5,λi x hi=>?_⟩;obtain⟨es,O,hO,hc,hr⟩:=h6 i x hi;exact⟨es,by rw[h1];exact hc,hR i x es O (kW hO) hr⟩
theorem M.ty_ent:∀{m:M},m.el=true->m.ty.isEnt=false
 | .dat t,h=>by simpa[M.el,M.ty]using h| .own _,_=>rfl| .owns _,_=>rfl| .unit,_=>rfl| .pair _ _,_=>rfl| .box _,h=>by simp[M.el]at h| .ownb _,h=>by simp[M.el]at h| .rp _,h=>by simp[M.el]at h| .fn _ _,h=>by simp[M.el]at h| .ifc _ _,h=>by simp[M.el]at h| .cell _,h=>by simp[M.el]at h| .fr _,h=>by simp[M.el]at h| .sbx _ _,h=>by simp[M.el]at h| .lp _,h=>by simp[M.el]at h| .dv ..,h=>by simp[M.el]at h| .ownr ..,h=>by simp[M.el]at h| .sit,h=>by simp[M.el]at h
theorem ML{ok' :Nat->Ty->Prop}(hok:∀b t,ok b t->ok' b t):∀{m:M} (he:m.el=true) {x:m.den} {cs:c2h} {O:c2i},(∀b∈O,∀t∈m.owned,ok' b t)->jm h ok m none x cs O->iY h ok' m.ty (cast (M.denEq m he) x) cs
 | .dat t,_,_,_,_,_,e=>bZ hok (λ_ _ _=>rfl) e.1| .unit,_,_,_,_,_,e=>e.1| .own t,he,xs,_,_,hO,e=>by obtain⟨l,v,rfl,hv,ha,rfl⟩:=rF.1 e;exact kY (C:=⟨h,ok,nom⟩) (vw:=none) ha hv hok (λblk hb=>hO blk hb t (by simp[M.owned]))
 | .pair a b,he,x,_,_,hO,e=>by
  obtain⟨c,d,O1,O2,rfl,rfl,h1,h2⟩:=e;have h' :a.el=true/\b.el=true:=by simpa[M.el]using he
  have e:cast (M.denEq (.pair a b) he) x=(cast (M.denEq a h'.1) x.1,cast (M.denEq b h'.2) x.2):=DR _ _ _ _;refine⟨c,d,rfl,?_,?_⟩
  .rw[e];exact ML hok h'.1 (λb hb t ht=>hO b (by simp[hb]) t (by simp[M.owned,ht])) h1
  .rw[e];exact ML hok h'.2 (λb hb t ht=>hO b (by simp[hb]) t (by simp[M.owned,ht])) h2
 | .owns m,he,xs,_,_,hO,e=>by
  obtain⟨_,l,v,Os,rfl,hv,ha,rfl⟩:=sW.1 e;have he' :m.el=true:=he;have hA:arrOk ⟨h,ok',nom⟩ m.ty (cast (congrArg List (M.denEq m he')) xs) l:=Xt (M.ty_ent he') (M.denEq m he') _ (M.ty_size he') (λi x es O hOi hr=>ML hok he' (λb hb t ht=>hO b (by simp only[H5,W9];exact .inr ⟨O,hOi,hb⟩) t (by simp[M.owned,ht])) hr) ha
  exact kY (C:=⟨h,ok',nom⟩) (t:=m.ty) (vw:=none) hA hv (λ_ _ h=>h) (λblk hb=>hO blk (by simp[hb]) m.ty (by simp[M.owned]))
 | .box _,h,_,_,_,_,_=>by simp[M.el]at h| .ownb _,h,_,_,_,_,_=>by simp[M.el]at h| .rp _,h,_,_,_,_,_=>by simp[M.el]at h| .fn _ _,h,_,_,_,_,_=>by simp[M.el]at h| .ifc _ _,h,_,_,_,_,_=>by simp[M.el]at h| .cell _,h,_,_,_,_,_=>by simp[M.el]at h| .fr _,h,_,_,_,_,_=>by simp[M.el]at h| .sbx _ _,h,_,_,_,_,_=>by simp[M.el]at h| .lp _,h,_,_,_,_,_=>by simp[M.el]at h| .dv ..,h,_,_,_,_,_=>by simp[M.el]at h| .ownr ..,h,_,_,_,_,_=>by simp[M.el]at h| .sit,h,_,_,_,_,_=>by simp[M.el]at h
theorem Jg:∀{m:M} (he:m.el=true) (h0:m.own0=true) {x:m.ty.den} {cs:c2h},iY h ok m.ty x cs->jm h ok m none (cast (M.denEq m he).symm x) cs []
 | .dat t,_,_,_,_,e=>⟨e,rfl⟩| .unit,_,_,_,_,e=>⟨e,rfl⟩| .pair a b,he,h0,x,_,e=>by
  obtain⟨c,d,rfl,h1,h2⟩:=e;have h' :a.el=true/\b.el=true:=by simpa[M.el]using he
  have h0' :a.own0=true/\b.own0=true:=by simpa[M.own0]using h0
  have e:cast (M.denEq (.pair a b) he).symm x=(cast (M.denEq a h'.1).symm x.1,cast (M.denEq b h'.2).symm x.2):=DR _ _ _ _;refine⟨c,d,[],[],rfl,rfl,?_,?_⟩
  .rw[e];exact Jg h'.1 h0'.1 h1
  .rw[e];exact Jg h'.2 h0'.2 h2
 | .own _,_,h0,_,_,_=>by simp[M.own0]at h0| .owns _,_,h0,_,_,_=>by simp[M.own0]at h0| .box _,h,_,_,_,_=>by simp[M.el]at h| .ownb _,h,_,_,_,_=>by simp[M.el]at h| .rp _,h,_,_,_,_=>by simp[M.el]at h| .fn _ _,h,_,_,_,_=>by simp[M.el]at h| .ifc _ _,h,_,_,_,_=>by simp[M.el]at h| .cell _,h,_,_,_,_=>by simp[M.el]at h| .fr _,h,_,_,_,_=>by simp[M.el]at h| .sbx _ _,h,_,_,_,_=>by simp[M.el]at h| .lp _,h,_,_,_,_=>by simp[M.el]at h| .dv ..,h,_,_,_,_=>by simp[M.el]at h| .ownr ..,h,_,_,_,_=>by simp[M.el]at h| .sit,h,_,_,_,_=>by simp[M.el]at h
theorem Tq:∀{m:M} (he:m.el=true) {o:Nat} (h1:m.own1 o=true) {x:m.ty.den} {cs:c2h},iY h ok m.ty x cs->jm h ok m (some o) (cast (M.denEq m he).symm x) cs []
 | .own t,_,o,h1,x,_,e=>by have h1:o=0:=bQ h1;subst h1;rcases e with⟨_,a,cap,rfl,_⟩|⟨_,mv,rfl,_⟩<;>exact⟨_,rfl,rfl,rfl⟩
 | .pair a b,he,o,h1,x,_,e=>by
  obtain⟨c,d,rfl,r1,r2⟩:=e;have h' :a.el=true/\b.el=true:=by simpa[M.el]using he
  have e:cast (M.denEq (.pair a b) he).symm x=(cast (M.denEq a h'.1).symm x.1,cast (M.denEq b h'.2).symm x.2):=DR _ _ _ _;refine⟨c,d,[],[],rfl,rfl,?_,?_⟩<;>rw[e]<;>by_cases hlt:o<a.size
  .have hb:Nat.blt o a.size=true:=by rw[Z4];exact hlt
   simp only[M.own1,hb,cond_true,o9]at h1;simp only[hlt,if_true];exact Tq h'.1 h1.1 r1
  .have hb:Nat.blt o a.size=false:=by cases hc:Nat.blt o a.size<;>first|rfl|(rw[Z4]at hc;exact absurd hc hlt)
   simp only[M.own1,hb,cond_false,o9]at h1;simp only[hlt,if_false];exact Jg h'.1 h1.1 r1
  .have hb:Nat.blt o a.size=true:=by rw[Z4];exact hlt
   simp only[M.own1,hb,cond_true,o9]at h1;simp only[hlt,if_true];exact Jg h'.2 h1.2 r2
  .have hb:Nat.blt o a.size=false:=by cases hc:Nat.blt o a.size<;>first|rfl|(rw[Z4]at hc;exact absurd hc hlt)
   simp only[M.own1,hb,cond_false,o9]at h1;simp only[hlt,if_false];exact Tq h'.2 h1.2 r2
 | .dat _,_,_,h1,_,_,_=>by simp[M.own1]at h1| .unit,_,_,h1,_,_,_=>by simp[M.own1]at h1| .owns _,_,_,h1,_,_,_=>by simp[M.own1]at h1| .box _,h,_,_,_,_,_=>by simp[M.el]at h| .ownb _,h,_,_,_,_,_=>by simp[M.el]at h| .rp _,h,_,_,_,_,_=>by simp[M.el]at h| .fn _ _,h,_,_,_,_,_=>by simp[M.el]at h| .ifc _ _,h,_,_,_,_,_=>by simp[M.el]at h| .cell _,h,_,_,_,_,_=>by simp[M.el]at h| .fr _,h,_,_,_,_,_=>by simp[M.el]at h| .sbx _ _,h,_,_,_,_,_=>by simp[M.el]at h| .lp _,h,_,_,_,_,_=>by simp[M.el]at h| .dv ..,h,_,_,_,_,_=>by simp[M.el]at h| .ownr ..,h,_,_,_,_,_=>by simp[M.el]at h| .sit,h,_,_,_,_,_=>by simp[M.el]at h
theorem a7d(h:m.own1 o=true):m.ty≠.int .u8:=by cases m<;>first|(simp[M.own1]at h;done)|(simp[M.ty];done)
theorem Xu(e:t.den=α)(e' :List t.den=List α)(hs:t.size=sz)(hu:t≠.int .u8)(hE:t.isEnt=false)
  (hR:∀i x es,iY h ok t x es->R i (cast e x) es []) (ha:arrOk ⟨h,ok,mp⟩ t xs l):pK h sz R (cast e' xs) (List.replicate xs.length []) l:=by
 subst e;simp only[cast_eq]at hR ⊢;cases l with
 |nil=>obtain⟨rfl,_⟩:=ha;exact⟨rfl,rfl⟩
 |st b=>exact ha|mp b=>rw[ha.1]at hE;cases hE|arr blk off len cap sz' =>obtain⟨h0,h1,h2,h3,c,T,f,h4,hz,h5,h6⟩:=ha;have hf:f=(0,0):=hz.elim id (λh=>absurd h.1 hu);subst hf;refine⟨h1.trans hs,h2,h3,A8,c,T,h4,by rw[←hs,←h1];exact h5,λi x hi=>?_⟩;obtain⟨es,hc,hr⟩:=h6 i x hi;refine⟨es,[],?_,by rw[←hs,←h1];exact hc,hR i x es hr⟩;rw[List.getElem?_replicate,if_pos (aF.1 hi).1]
theorem Zk{R R' :Nat->α->c2h->c2i->Prop}{xs:List α}
  (hR:∀i x es O,i<xs.length->R i x es O->R' i x es O) (hr:pK h sz R xs Os l):pK h sz R' xs Os l:=by
 cases l with
 |nil=>exact hr|st b=>exact hr|mp b=>exact hr|arr blk off len cap sz=>obtain⟨h1,h2,h3,h7,c,T,h4,h5,h6⟩:=hr;refine⟨h1,h2,h3,h7,c,T,h4,h5,λi x hi=>?_⟩;obtain⟨es,O,hO,he,hp⟩:=h6 i x hi;exact⟨es,O,hO,he,hR _ _ _ _ (aF.1 hi).1 hp⟩
theorem XK{o n i k:Nat}(h:i<k)(hn:k<=n):qy o n i=none:=by unfold qy;rw[if_neg o5]
theorem Js(he:m.el=true)(hok:∀b t,ok b t->ok' b t){xs:List m.den}(hO:∀b∈Os.flatten,∀t∈m.owned,ok' b t)
  (ha:pK h m.size (λ_ x es O=>jm h ok m none x es O) xs Os l):arrOk ⟨h,ok',mp⟩ m.ty (cast (congrArg List (M.denEq m he)) xs) l:=
 Xt (M.ty_ent he) (M.denEq m he) _ (M.ty_size he) (λi x es O hOi hr=>ML hok he (λb hb t ht=>hO b (W9.2 ⟨O,hOi,hb⟩) t ht) hr) ha
end
theorem PP{h h' :Array Obj}{ok ok' :Nat->Ty->Prop}(hok:∀b t,ok b t->ok' b t)(hh:∀b t,ok b t->h'[b]? =h[b]?):
  ∀{ms:List MG} {x:Y7 ms} {vs:c2h} {O:c2i},(∀b∈O,h'[b]? =h[b]?)->oU h ok ms x vs O->oU h' ok' ms x vs O
 |[],_,_,_,_,e=>e|[m],_,_,_,hb,⟨v,cs,e,hg,hr⟩=>⟨v,cs,e,hg,eF hok hh hb hr⟩|m::m' ::r,_,_,_,hb,⟨v,cs,vs',O1,O2,e,eo,hg,h1,h2⟩=>by subst eo;exact⟨v,cs,vs',O1,O2,e,rfl,hg,eF hok hh (λb h=>hb b (by simp[h])) h1,PP hok hh (λb h=>hb b (by simp[h])) h2⟩
variable {Q:α->Sm->Prop}{c:V}{p:M}
section
variable {X:Fx} {cl ch:Nat} {S:Sm} {m:Mp} {ok:Nat->Ty->Prop} {a:Act} {w:World} {T:c2i}
theorem dw{p q:Ty}{xs:List p.den}{k:List q.den->Cmd α}{S:Sm}
  (h:∀e:p=q,(k (e▸xs)).post S Q):(Ty.castL p q xs k .fail).post S Q:=by
 unfold Ty.castL;split
 .rename_i e;exact h e
 .trivial
theorem V7{b:Bool}{c:Cmd α}{S:Sm}(h:b=true->c.post S Q):(bif b then c else Cmd.fail).post S Q:=by
 cases b
 .trivial
 .exact h rfl
theorem Ap{p q:Ty}{x:p.den}{k:q.den->Cmd α}{S:Sm}
  (h:∀e:p=q,(k (e▸x)).post S Q):(QU p q x k .fail).post S Q:=by
 unfold QU;split
 .rename_i e;exact h e
 .trivial
theorem EH{p q:M}{xs:List p.den}{k:List q.den->Cmd α}{S:Sm}
  (h:∀e:p=q,(k (e▸xs)).post S Q):(UN p q xs k .fail).post S Q:=by
 unfold UN;split
 .rename_i e;exact h (M.beq_eq e)
 .trivial
theorem UF{k:List p.den->Cmd α}{S:Sm}
  (h:∀(e:p.el=true) (e' :p.ty=t),(k (cast (congrArg List ((M.denEq p e).trans (congrArg Ty.den e'))).symm xs)).post S Q):(TV p t xs k .fail).post S Q:=by
 unfold TV;split
 .rename_i e;exact h e.1 e.2
 .trivial
theorem XE{xs:List p.den}{k:List t.den->Cmd α}{S:Sm}
  (h:∀(e:p.el=true) (e' :p.ty=t),(k (e' ▸cast (congrArg List (M.denEq p e)) xs)).post S Q):(ZF p t xs k .fail).post S Q:=by
 unfold ZF;split
 .rename_i e;obtain⟨e,rfl⟩:=e;exact h e rfl
 .trivial
theorem FB{ok ok' :Nat->Ty->Prop}{m:Mp}(k:∀b t,ok b t->ok' b t){cs:List V}{vs:c2h}(hr:dD ⟨h,ok,m⟩ cs vs):dD ⟨h,ok',m⟩ cs vs:=
 CE (C:=⟨h,ok,m⟩) (D:=⟨h,ok',m⟩) ⟨k,λ_ _ _=>rfl,λ_ _ h=>h⟩ hr
theorem Jh{ok ok' :Nat->Ty->Prop}{m:Mp}(k:∀b t,ok b t->ok' b t)(hr:iI ⟨h,ok,m⟩ c v):iI ⟨h,ok',m⟩ c v:=
 FC (C:=⟨h,ok,m⟩) (D:=⟨h,ok',m⟩) ⟨k,λ_ _ _=>rfl,λ_ _ h=>h⟩ hr
theorem Bc{bs:c2i}{Ts:List Ty} :∀b t,ok b t->okW ok bs Ts b t:=λ_ _ h=> .inl h
def okL(ln:Ty->Bool)(S:Sm)(m:Mp)(ok:Nat->Ty->Prop):Nat->Ty->Prop:=λb t=>ok b t\/(ln t=true/\∃n,b∈L9 m n (S (U8+n))/\a3x (S (U8+n)) t)
theorem ZW:okL wK S m ok=ok:=by funext b t;simp[okL,wK]
theorem Vq{ln:Ty->Bool}{n:Nat}{v:V}(hv:L9 m n v=[]){Ts:List Ty}{bs:c2i}(hbs:L9 m n (S (U8+n)) ⊆ bs)(hTs:∀t,a3x (S (U8+n)) t->t∈Ts):
  ∀b t,okL ln S m ok b t->okL ln (upd S (U8+n) v) m (okW ok bs Ts) b t:=by
 intro b t h;rcases h with h|⟨hl,k,hk,ht⟩
 .exact .inl (.inl h)
 .by_cases e:k=n
  .subst e;exact .inl (.inr ⟨hbs hk,hTs _ ht⟩)
  .exact .inr ⟨hl,k,by rw[aA _ _ o5];exact⟨hk,ht⟩⟩
def ah(S S' :Sm):Prop:=∀n,n<U8->S' n=S n
theorem ah.refl(S:Sm):ah S S:=λ_ _=>rfl
theorem ah.trans{A B C:Sm}(h:ah A B)(k:ah B C):ah A C:=λn hn=>(k n hn).trans (h n hn)
theorem ah.box(S:Sm)(n:Nat)(v:V):ah S (upd S (U8+n) v):=λk hk=>aA _ _ o5
theorem UI{ln:Ty->Bool} :∀{ts:List Ty},Xq ln ts=true->∀t∈ts,ln t=true
 |[],_,_,h=>by cases h|u::r,e,t,h=>by
  unfold Xq at e;cases hl:ln u with
  |false=>rw[hl]at e;cases e|true=>
   rw[hl]at e;rcases C9.1 h with rfl|h
   .exact hl
   .exact UI e t h
theorem yR{α:Type}{Q:α->Sm->Prop}(ln:Ty->Bool):∀(t:Ty) {cs:List V} {K:t.den->List V->Cmd α} {S:Sm} {ok:Nat->Ty->Prop} {vs:c2h} (R:Rel X cl ch S m ok a w) (hT:Tk X S m ok w T)
  (hL:dD ⟨w.heap,ok,m⟩ cs vs)
  (hK:∀S' ok' x r us us',Rel X cl ch S' m ok' a w->Tk X S' m ok' w T->(∀b t,ok b t->ok' b t)->(∀b t,okL ln S m ok b t->okL ln S' m ok' b t)->ah S S' ->vs=us++us' ->iY w.heap (okL ln S' m ok') t x us->dD ⟨w.heap,ok',m⟩ r us' ->(K x r).post S' Q),
  (jv ln t cs K).post S Q
 | .bool,cs,K,S,ok,vs,R,hT,hL,hK=>by
  unfold jv;split
  .obtain⟨v,r,rfl,h1,_,h3⟩:=hL;exact hK _ _ _ _ [v] r R hT (λ_ _ h=>h) (λ_ _ h=>h) (ah.refl _) rfl (by simp only[pW]at h1;simp[iY,h1]) h3
  .trivial
 | .int k,cs,K,S,ok,vs,R,hT,hL,hK=>by
  unfold jv;split
  .rename_i k' n r0;obtain⟨v,r,rfl,h1,_,h3⟩:=hL;by_cases e:k=k'
   .subst e;simp only[decide_true,cond_true];exact hK _ _ _ _ [v] r R hT (λ_ _ h=>h) (λ_ _ h=>h) (ah.refl _) rfl (by simp only[pW]at h1;simp[iY,h1]) h3
   .simp only[e,decide_false,cond_false];trivial
  .trivial
 | .str,cs,K,S,ok,vs,R,hT,hL,hK=>by
  unfold jv;split
  .obtain⟨v,r,rfl,h1,_,h3⟩:=hL;exact hK _ _ _ _ [v] r R hT (λ_ _ h=>h) (λ_ _ h=>h) (ah.refl _) rfl (by simp only[pW]at h1;simp[iY,h1]) h3
  .trivial
 | .unit,cs,K,S,ok,vs,R,hT,hL,hK=>by unfold jv;exact hK _ _ _ _ [] vs R hT (λ_ _ h=>h) (λ_ _ h=>h) (ah.refl _) rfl rfl hL| .any none,cs,K,S,ok,vs,R,hT,hL,hK=>by
  unfold jv;split
  .obtain⟨v,r,rfl,h1,h2,h3⟩:=hL;exact hK _ _ _ _ [v] r R hT (λ_ _ h=>h) (λ_ _ h=>h) (ah.refl _) rfl ⟨v,rfl,h2,trivial⟩ h3
  .trivial
 | .any (some k),cs,K,S,ok,vs,R,hT,hL,hK=>by
  unfold jv;split
  .rename_i k' n r0;obtain⟨v,r,rfl,h1,h2,h3⟩:=hL;by_cases e:k=k'
   .subst e;simp only[decide_true,cond_true];exact hK _ _ _ _ [v] r R hT (λ_ _ h=>h) (λ_ _ h=>h) (ah.refl _) rfl ⟨v,rfl,h2,n,h1⟩ h3
   .simp only[e,decide_false,cond_false];trivial
  .trivial
 | .prod p q,cs,K,S,ok,vs,R,hT,hL,hK=>by unfold jv;refine yR ln p R hT hL λS1 ok1 x r us us' R1 T1 k1 g1 s1 e1 h1 l1=>?_;refine yR ln q R1 T1 l1 λS2 ok2 y r' vs2 vs2' R2 T2 k2 g2 s2 e2 h2 l2=>?_;subst e1;subst e2;exact hK _ _ _ _ (us++vs2) vs2' R2 T2 (λb t h=>k2 b t (k1 b t h)) (λb t h=>g2 b t (g1 b t h)) (s1.trans s2) A8 ⟨us,vs2,rfl,bZ g2 (λ_ _ _=>rfl) h1,h2⟩ l2| .ent ..,cs,K,S,ok,vs,R,hT,hL,hK=>by unfold jv;trivial| .sl t,cs,K,S,ok,vs,R,hT,hL,hK=>by
  unfold jv;split
  .obtain⟨v,r,rfl,h1,_,h3⟩:=hL;simp only[pW]at h1;subst h1;cases ht:t.isEnt
   .exact hK _ _ _ _ [_] r R hT (λ_ _ h=>h) (λ_ _ h=>h) (ah.refl _) rfl (.inl ⟨ht,none,0,rfl,D9 _,λi x hi=>by simp at hi⟩) h3
   .trivial
  .rename_i t' xs r0;obtain⟨v,r,rfl,h1,_,h3⟩:=hL;refine dw λe=>?_;subst e;exact hK _ _ _ _ [v] r R hT (λ_ _ h=>h) (λ_ _ h=>h) (ah.refl _) rfl (bZ (λ_ _ h=> .inl h) (λ_ _ _=>rfl) h1) h3
  .rename_i bx vw r0;obtain⟨v,r,rfl,h1,_,h3⟩:=hL;obtain⟨l,hm,hv⟩:=h1;show Cmd.post (match S (U8+bx)with| .barr t' xs=>_| .bfrz t' xs=>_| .barrs el xs none=>_|_=>_) S Q;have hb:=R.box bx;split
   .rename_i t' xs hS;rw[hS]at hb;obtain⟨l',hm',ha⟩:=hb;simp only at hm hm';rw[hm]at hm';cases hm';refine dw λe=>?_;subst e;have hob:L9 m bx (S (U8+bx))=l.blks:=by
     rw[hS];cases l<;>first|(simp[L9,hm,Loc.blks];done)|cases ha
    cases hl:ln t'
    .simp only[cond_false];show Cmd.post _ (upd S (U8+bx) (.bfrz t' xs)) Q;have hbs:∀b∈l.blks,b∈L9 m bx (S (U8+bx)):=λb h=>by rw[hob];exact h
     refine hK _ (okW ok l.blks [t']) _ _ [v] r (R.widen A8 rfl hbs ?_) (hT.widen rfl hbs) Bc (Vq rfl (by rw[hob];exact λ_ h=>h) (by rw[hS];exact λ_ h=>h)) (ah.box _ _ _) rfl ?_ (FB Bc h3)
     .exact⟨l,hm,kT Bc (λ_ _ _=>rfl) (λ_ _=>rfl) ha,λblk hb=> .inr ⟨hb,A8⟩⟩
     .exact kY (C:=⟨w.heap,ok,m⟩) ha hv (λb t h=> .inl (.inl h)) (λblk hb=> .inl (.inr ⟨hb,A8⟩))
    .simp only[cond_true];refine hK _ _ _ _ [v] r R hT (λ_ _ h=>h) (λ_ _ h=>h) (ah.refl _) rfl ?_ h3;refine kY (C:=⟨w.heap,ok,m⟩) ha hv (λb t h=> .inl h) (λblk hb=> .inr ⟨hl,bx,?_,by rw[hS];simp[a3x,a7e]⟩);rw[hob];exact hb
   .rename_i t' xs hS;rw[hS]at hb;obtain⟨l',hm',ha,hok⟩:=hb;simp only at hm hm';rw[hm]at hm';cases hm';refine dw λe=>?_;subst e;exact hK _ _ _ _ [v] r R hT (λ_ _ h=>h) (λ_ _ h=>h) (ah.refl _) rfl (kY (C:=⟨w.heap,ok,m⟩) ha hv (λ_ _ h=> .inl h) (λblk e=> .inl (hok _ e))) h3
   .rename_i md xs hS;rw[hS]at hb;obtain⟨hel,l',Os,hm',⟨ha,hho⟩,hk⟩:=hb;simp only at hm hm' hk;rw[hm]at hm';cases hm';refine XE λe e' =>?_;subst e';have hob:L9 m bx (S (U8+bx))=l.blks++Os.flatten:=by
     rw[hS];simp only[L9];rw[hk];cases l<;>first|(simp[hm,Loc.blks];done)|cases ha
    simp only;cases hl:(ln md.ty&&Xq ln md.owned)
    .simp only[cond_false];show Cmd.post _ (upd S (U8+bx) (.bfrz md.ty _)) Q;have hbs:∀b∈l.blks++Os.flatten,b∈L9 m bx (S (U8+bx)):=λb h=>by rw[hob];exact h
     have ha' :arrOk ⟨w.heap,okW ok (l.blks++Os.flatten) (md.ty::md.owned),m⟩ md.ty (cast (congrArg List (M.denEq md e)) xs) l:=
      Js e Bc (λb hb t ht=> .inr ⟨by simp[hb],by simp[ht]⟩) ha
     refine hK _ (okW ok (l.blks++Os.flatten) (md.ty::md.owned)) _ _ [v] r (R.widen A8 rfl hbs ?_) (hT.widen rfl hbs) Bc (Vq rfl (by rw[hob];exact λ_ h=>h) (by rw[hS];exact λ_ h=>h)) (ah.box _ _ _) rfl ?_ (FB Bc h3)
     .exact⟨l,hm,ha',λblk hb=> .inr ⟨by simp[hb],A8⟩⟩
     .exact kY (C:=⟨w.heap,okW ok (l.blks++Os.flatten) (md.ty::md.owned),m⟩) ha' hv (λb t h=> .inl h) (λblk hb=> .inl (.inr ⟨by simp[hb],A8⟩))
    .simp only[cond_true];simp only[o9]at hl;have ha' :arrOk ⟨w.heap,okL ln S m ok,m⟩ md.ty (cast (congrArg List (M.denEq md e)) xs) l:=
      Js e (λb t h=> .inl h) (λb hb t ht=> .inr ⟨UI hl.2 t ht,bx,by rw[hob];simp[hb],by rw[hS];simp[a3x,a7e,ht]⟩) ha
     refine hK _ _ _ _ [v] r R hT (λ_ _ h=>h) (λ_ _ h=>h) (ah.refl _) rfl ?_ h3;refine kY (C:=⟨w.heap,okL ln S m ok,m⟩) ha' hv (λb t h=>h) (λblk hb=> .inr ⟨hl.1,bx,?_,by rw[hS];simp[a3x,a7e]⟩);rw[hob];simp[hb]
   .trivial
  .trivial
theorem Ad(t:Ty){cs:List V}{K:t.den->List V->Cmd α}{S:Sm}{ok:Nat->Ty->Prop}{vs:c2h}(R:Rel X cl ch S m ok a w)(hT:Tk X S m ok w T)
  (hL:dD ⟨w.heap,ok,m⟩ cs vs)
  (hK:∀S' ok' x r us us',Rel X cl ch S' m ok' a w->Tk X S' m ok' w T->(∀b t,ok b t->ok' b t)->ah S S' ->vs=us++us' ->iY w.heap ok' t x us->dD ⟨w.heap,ok',m⟩ r us' ->(K x r).post S' Q):
  (jv wK t cs K).post S Q:=
 yR wK t R hT hL λS' ok' x r us us' R' T' k g s e h l=>hK S' ok' x r us us' R' T' k s e (by rw[ZW]at h;exact h) l
theorem Loc.blks_nodup(l:Loc):l.blks.Nodup:=by cases l<;>simp[Loc.blks]
theorem YA(t:Ty){K:t.den->Cmd α}{S:Sm}{ok:Nat->Ty->Prop}(R:Rel X cl ch S m ok a w)(hT:Tk X S m ok w T)
  (hv:pW ⟨w.heap,ok,m⟩ c v)
  (hK:∀S' ok' x,Rel X cl ch S' m ok' a w->Tk X S' m ok' w T->(∀b t,ok b t->ok' b t)->ah S S' ->VY w.heap ok' t x 0 v->(K x).post S' Q):(rpC t c K).post S Q:=by
 unfold rpC;split
 .refine Ap λe=>?_;subst e;exact hK _ _ _ R hT (λ_ _ h=>h) (ah.refl _) hv
 .rename_i bx;obtain⟨blk,hm,rfl⟩:=hv;show Cmd.post (match S (U8+bx)with| .bfc t' x=>_| .bcells bs=>_|_=>_) S Q;have hb:=R.box bx;split
  .rename_i t' x hS;rw[hS]at hb;obtain⟨blk',es,hm',hok,hc,hr⟩:=hb;simp only at hm hm';rw[hm]at hm';cases hm';refine Ap λe=>?_;subst e;exact hK _ _ _ R hT (λ_ _ h=>h) (ah.refl _) ⟨blk,0,es,rfl,hok,hc,hr⟩
  .rename_i bs hS;rw[hS]at hb;obtain⟨blk',arr,Ty',hm',hh,hl⟩:=hb;simp only at hm hm';rw[hm]at hm';cases hm';refine Ad t R hT hl λS1 ok1 x q us us' R1 T1 k1 s1 e1 h1 l1=>?_;cases q with
   |cons c q=>trivial|nil=>
    simp only[dD]at l1;subst l1;simp only[G6]at e1;show Cmd.post (match S1 (U8+bx)with| .bcells _=>_|_=>_) S1 Q;split
    .rename_i bs' hS';show Cmd.post _ (upd S1 (U8+bx) (.bfc t x)) Q;have hbs:∀b∈[blk],b∈L9 m bx (S1 (U8+bx)):=λb h=>by rw[hS'];simp at h;subst h;simp[L9,hm]
     have hce:bD w.heap blk 0 t.size=some us:=by rw[fJ hh 0 t.size (by have:=bY h1;rw[←e1]at this;simp at this;omega)];rw[e1,←bY h1];simp
     have hr:=bZ (Bc (bs:=[blk]) (Ts:=[t])) (λ_ _ _=>rfl) h1;refine hK _ (okW ok1 [blk] [t]) _ (R1.widen A8 rfl hbs ?_) (T1.widen rfl hbs) (λb t h=> .inl (k1 b t h)) (s1.trans (ah.box _ _ _)) ?_
     .exact⟨blk,us,hm,.inr ⟨A8,A8⟩,hce,hr⟩
     .exact⟨blk,0,us,rfl,.inr ⟨A8,A8⟩,hce,hr⟩
    .trivial
  .trivial
 .trivial
theorem Ya(ln:Ty->Bool)(t:Ty){K:t.den->Cmd α}{S:Sm}{ok:Nat->Ty->Prop}(R:Rel X cl ch S m ok a w)(hT:Tk X S m ok w T)
  (hv:pW ⟨w.heap,ok,m⟩ c v)
  (hK:∀S' ok' x,Rel X cl ch S' m ok' a w->Tk X S' m ok' w T->(∀b t,ok b t->ok' b t)->(∀b t,okL ln S m ok b t->okL ln S' m ok' b t)->ah S S' ->VY w.heap (okL ln S' m ok') t x 0 v->(K x).post S' Q):(lpC ln t c K).post S Q:=by
 unfold lpC;split
 .refine Ap λe=>?_;subst e;exact hK _ _ _ R hT (λ_ _ h=>h) (λ_ _ h=>h) (ah.refl _) (zU (λ_ _ h=> .inl h) (λ_ _ _=>rfl) hv)
 .rename_i bx;obtain⟨blk,hm,rfl⟩:=hv;show Cmd.post (match S (U8+bx)with| .bcells bs=>_|_=>_) S Q;have hb:=R.box bx;split
  .rename_i bs hS;rw[hS]at hb;obtain⟨blk',arr,Ty',hm',hh,hl⟩:=hb;simp only at hm hm';rw[hm]at hm';cases hm';cases hlt:ln t
   .trivial
   simp only[cond_true];refine yR ln t R hT hl λS1 ok1 x q us us' R1 T1 k1 g1 s1 e1 h1 l1=>?_;cases q with
   |cons c q=>trivial|nil=>
    simp only[dD]at l1;subst l1;simp only[G6]at e1;show Cmd.post (match S1 (U8+bx)with| .bcells _=>_|_=>_) S1 Q;split
    .rename_i bs' hS';have hce:bD w.heap blk 0 t.size=some us:=by
      rw[fJ hh 0 t.size (by have:=bY h1;rw[←e1]at this;simp at this;omega)];rw[e1,←bY h1];simp
     exact hK _ _ _ R1 T1 k1 g1 s1 ⟨blk,0,us,rfl,.inr ⟨hlt,bx,by rw[hS'];simp[L9,hm],by rw[hS'];trivial⟩,hce,h1⟩
    .trivial
  .trivial
 .trivial
theorem GV{α:Type}{Q:α->Sm->Prop}{h:Array Obj}{ok:Nat->Ty->Prop} :∀(ts:List Ty) {cs:List ((t:Ty)×t.den)} {vs:c2h} {K:OI ts->Cmd α} {S:Sm}
  (hc:Am h ok cs vs) (hK:∀x,Am h ok (OG ts x) vs->(K x).post S Q),(JS ts cs K).post S Q
 |[],cs,vs,K,S,hc,hK=>by
  unfold JS;split
  .exact hK _ hc
  .trivial
 |[t],cs,vs,K,S,hc,hK=>by
  unfold JS;split
  .refine Ap λe=>?_;subst e;exact hK _ hc
  .trivial
 |t::t' ::r,cs,vs,K,S,hc,hK=>by
  unfold JS;split
  .obtain⟨v,vs',rfl,h1,h2⟩:=hc;refine Ap λe=>?_;subst e;exact GV (t' ::r) h2 λy hy=>hK _ ⟨v,vs',rfl,h1,hy⟩
  .trivial
theorem a4Y{te:Nat}{K:c2f->Cmd α}{S:Sm}{ok:Nat->Ty->Prop}{T:c2i}(R:Rel X cl ch S m ok a w)(hT:Tk X S m ok w T)(hv:pW ⟨w.heap,ok,m⟩ c v)
  (hK:∀S' ys l,Rel X cl ch S' m ok a w->Tk X S' m ok w (T++l.blks)->ah S S' ->(∀n,(∀t xs,S (U8+n)≠.brow t xs)->S' (U8+n)=S (U8+n))->l.view none v->oZ w.heap te ys l->(K ys).post S' Q):(sbC te c K).post S Q:=by
 unfold sbC;split
 .exact hK S [] .nil R (by simpa[Loc.blks]using hT) (ah.refl _) (λ_ _=>rfl) hv rfl
 .rename_i b;obtain⟨l,hm,hvw⟩:=hv;show Cmd.post (match S (U8+b)with| .brow te' xs=>_|_=>_) S Q;have hb:=R.box b;split
  .rename_i t' xs hS;rw[hS]at hb;obtain⟨l',hm',ha⟩:=hb;simp only at hm hm';rw[hm]at hm';cases hm';cases he:Nat.beq t' te
   .trivial
   have e:=bQ he;subst e;show Cmd.post _ (upd S (U8+b) .dead) Q;refine hK _ xs l (R.kill b) (hT.kill R b (λb' hb' =>?_) (Loc.blks_nodup l)) (ah.box _ _ _) (λn hn=>?_) hvw ha
   .cases l with
    |nil=>simp[Loc.blks]at hb'|st _=>cases ha|arr blk off len cap sz=>simp[Loc.blks]at hb';subst hb';simp[L9,hS,hm]|mp blk=>cases ha
   .by_cases en:n=b
    .subst en;exact absurd hS (hn _ _)
    .rw[aA _ _ o5]
  .trivial
 .trivial
theorem AO{α:Type}{Q:α->Sm->Prop} :∀(md:M) {cs:List V} {K:md.den->List V->Cmd α} {S:Sm} {ok:Nat->Ty->Prop} {vs:c2h} {T:c2i} (R:Rel X cl ch S m ok a w) (hT:Tk X S m ok w T)
  (hL:dD ⟨w.heap,ok,m⟩ cs vs)
  (hK:∀S' ok' x r us us' O,Rel X cl ch S' m ok' a w->Tk X S' m ok' w (T++O)->(∀b t,ok b t->ok' b t)->ah S S' ->vs=us++us' ->jm w.heap ok' md none x us O->dD ⟨w.heap,ok',m⟩ r us' ->(K x r).post S' Q),
  (exM wK md cs K).post S Q
 | .dat t,cs,K,S,ok,vs,T,R,hT,hL,hK=>by unfold exM;exact Ad t R hT hL λS' ok' x r us us' R' T' k s e h l=>hK S' ok' x r us us' [] R' (by simpa using T') k s e ⟨h,rfl⟩ l| .own t,cs,K,S,ok,vs,T,R,hT,hL,hK=>by
  unfold exM;split
  .obtain⟨v,r,rfl,h1,_,h3⟩:=hL;simp only[pW]at h1;subst h1;cases ht:t.isEnt
   .exact hK _ _ _ _ [_] r [] R (by simpa using hT) (λ_ _ h=>h) (ah.refl _) rfl (rF.2 ⟨.nil,_,rfl,rfl,⟨rfl,ht⟩,rfl⟩) h3
   .trivial
  .rename_i bx vw r0;obtain⟨v,r,rfl,h1,_,h3⟩:=hL;obtain⟨l,hm,hv⟩:=h1;show Cmd.post (match S (U8+bx)with| .barr t' xs=>_|_=>_) S Q;have hb:=R.box bx;split
   .rename_i t' xs hS;rw[hS]at hb;obtain⟨l',hm',ha⟩:=hb;simp only at hm hm';rw[hm]at hm';cases hm';refine dw λe=>?_;subst e;obtain⟨a1,a2,a3⟩:=EF (C:=⟨w.heap,ok,m⟩) ha hv;show Cmd.post _ (upd S (U8+bx) .dead) Q;refine hK _ ok _ _ [v] r (FX l vw).blks (R.kill bx) ?_ (λ_ _ h=>h) (ah.box _ _ _) rfl (rF.2 ⟨_,v,rfl,a2,kT (λ_ _ h=>h) (λ_ _ _=>rfl) (λ_ _=>rfl) a1,rfl⟩) h3;rw[a3];refine hT.kill R bx (λb hb=>?_) (Loc.blks_nodup l);cases l with
    |nil=>simp[Loc.blks]at hb|st _=>cases ha|arr blk off len cap sz=>simp[Loc.blks]at hb;subst hb;simp[L9,hS,hm]|mp blk=>simp[Loc.blks]at hb;subst hb;simp[L9,hS,hm]
   .trivial
  .trivial
 | .ownb t,cs,K,S,ok,vs,T,R,hT,hL,hK=>by
  unfold exM;split
  .obtain⟨v,r,rfl,h1,_,h3⟩:=hL;simp only[pW]at h1;subst h1;cases ht:t.isEnt
   .exact hK _ _ _ _ [_] r [] R (by simpa using hT) (λ_ _ h=>h) (ah.refl _) rfl ⟨.nil,_,rfl,rfl,⟨rfl,ht⟩,rfl⟩ h3
   .trivial
  .rename_i bx r0;obtain⟨v,r,rfl,h1,_,h3⟩:=hL;obtain⟨l,hm,hv⟩:=h1;show Cmd.post (match S (U8+bx)with| .barr t' xs=>_|_=>_) S Q;have hb:=R.box bx;split
   .rename_i t' xs hS;rw[hS]at hb;obtain⟨l',hm',ha⟩:=hb;simp only at hm hm';rw[hm]at hm';cases hm';refine dw λe=>?_;subst e;show Cmd.post _ (upd S (U8+bx) (.gone t')) Q;refine hK _ ok _ _ [v] r l.blks (R.killV bx A8 rfl ⟨l,hm,λblk off len cap sz e=>by subst e;exact ha.2.1⟩) ?_ (λ_ _ h=>h) (ah.box _ _ _) rfl ⟨l,v,rfl,hv,kT (λ_ _ h=>h) (λ_ _ _=>rfl) (λ_ _=>rfl) ha,rfl⟩ h3;refine hT.killV R bx rfl (λb hb=>?_) (Loc.blks_nodup l);cases l with
    |nil=>simp[Loc.blks]at hb|st _=>cases ha|arr blk off len cap sz=>simp[Loc.blks]at hb;subst hb;simp[L9,hS,hm]|mp blk=>simp[Loc.blks]at hb;subst hb;simp[L9,hS,hm]
   .trivial
  .trivial
 | .owns md,cs,K,S,ok,vs,T,R,hT,hL,hK=>by
  unfold exM;split
  .obtain⟨v,r,rfl,h1,_,h3⟩:=hL;simp only[pW]at h1;subst h1;refine V7 λhe=>?_;exact hK _ _ _ _ [_] r [] R (by simpa using hT) (λ_ _ h=>h) (ah.refl _) rfl (sW.2 ⟨he,.nil,_,[],rfl,rfl,⟨rfl,rfl⟩,rfl⟩) h3
  .rename_i bx r0;obtain⟨v,r,rfl,h1,_,h3⟩:=hL;obtain⟨l,hm,hv⟩:=h1;show Cmd.post (match S (U8+bx)with| .barrs m' xs none=>_| .barrp m' xs n _=>_|_=>_) S Q;have hb:=R.box bx;split
   .rename_i md' xs hS;rw[hS]at hb;obtain⟨hel,l',Os,hm',⟨ha,hho⟩,hk⟩:=hb;simp only at hm hm' hk;rw[hm]at hm';cases hm';refine EH λe=>?_;subst e;have hob:L9 m bx (S (U8+bx))=l.blks++Os.flatten:=by
     rw[hS];simp only[L9];rw[hk];cases l<;>first|(simp[hm,Loc.blks];done)|cases ha
    show Cmd.post _ (upd S (U8+bx) .dead) Q;refine hK _ ok _ _ [v] r (l.blks++Os.flatten) (R.kill bx) ?_ (λ_ _ h=>h) (ah.box _ _ _) rfl (sW.2 ⟨hel,l,v,Os,rfl,hv,ha,rfl⟩) h3;refine hT.kill R bx (λb hb=>by rw[hob];exact hb) (by rw[←hob];exact R.nd bx)
   .rename_i md' xs n o hS;rw[hS]at hb;obtain⟨hel,h0,l',Os,hm',ha,hk⟩:=hb;simp only at hm hm' hk;rw[hm]at hm';cases hm';refine EH λe=>⟨λhn=>?_,λ_=>trivial⟩;subst e;have hob:L9 m bx (S (U8+bx))=l.blks++Os.flatten:=by
     rw[hS];simp only[L9];rw[hk];cases l<;>first|(simp[hm,Loc.blks];done)|cases ha
    have hn' :(xs.length:Int)<=n:=of_decide_eq_true hn;have ha' :pK w.heap md'.size (λ_ x es O=>jm w.heap ok md' none x es O) xs Os l:=Zk (λi x es O hi hr=>by simp only at hr;rw[XK hi (show xs.length<=n.toNat by omega)]at hr;exact hr) ha
    show Cmd.post _ (upd S (U8+bx) .dead) Q;refine hK _ ok _ _ [v] r (l.blks++Os.flatten) (R.kill bx) ?_ (λ_ _ h=>h) (ah.box _ _ _) rfl (sW.2 ⟨hel,l,v,Os,rfl,hv,ha',rfl⟩) h3;refine hT.kill R bx (λb hb=>by rw[hob];exact hb) (by rw[←hob];exact R.nd bx)
   .trivial
  .trivial
 | .ownr md o,cs,K,S,ok,vs,T,R,hT,hL,hK=>by
  unfold exM;split
  .rename_i bx r0;obtain⟨v,r,rfl,h1,_,h3⟩:=hL;obtain⟨l,hm,hv⟩:=h1;show Cmd.post (match S (U8+bx)with| .barrp m' xs n o' =>_| .barr t xs=>_|_=>_) S Q;have hb:=R.box bx;split
   .rename_i md' xs n o' hS;rw[hS]at hb;obtain⟨hel,h0,l',Os,hm',ha,hk⟩:=hb;simp only at hm hm' hk;rw[hm]at hm';cases hm';refine V7 λho=>EH λe=>?_;have ho:=bQ ho;subst ho;subst e;have hob:L9 m bx (S (U8+bx))=l.blks++Os.flatten:=by
     rw[hS];simp only[L9];rw[hk];cases l<;>first|(simp[hm,Loc.blks];done)|cases ha
    show Cmd.post _ (upd S (U8+bx) .dead) Q;refine hK _ ok _ _ [v] r (l.blks++Os.flatten) (R.kill bx) ?_ (λ_ _ h=>h) (ah.box _ _ _) rfl ⟨v,rfl,iC hv,hel,h0,l,Os,hv,ha,rfl⟩ h3;refine hT.kill R bx (λb hb=>by rw[hob];exact hb) (by rw[←hob];exact R.nd bx)
   .rename_i t xs hS;rw[hS]at hb;obtain⟨l',hm',ha⟩:=hb;simp only at hm hm';rw[hm]at hm';cases hm';refine V7 λho1=>UF λe e' =>?_;subst e';have hob:L9 m bx (S (U8+bx))=l.blks:=by
     rw[hS];cases l<;>first|(simp[L9,hm,Loc.blks];done)|cases ha
    have ha2:=Xu (R:=λi y es O=>jm w.heap ok md (qy o (0:Int).toNat i) y es O) (M.denEq md e).symm (congrArg List (M.denEq md e)).symm (M.ty_size e) (a7d ho1) (M.ty_ent e)
     (λi x es hr=>by
       have:qy o (0:Int).toNat i=some o:=by simp[qy]
       rw[this];exact Tq e ho1 hr) ha
    show Cmd.post _ (upd S (U8+bx) .dead) Q;refine hK _ ok _ _ [v] r l.blks (R.kill bx) ?_ (λ_ _ h=>h) (ah.box _ _ _) rfl ⟨v,rfl,iC hv,e,oH 0,l,_,hv,ha2,A8⟩ h3;exact hT.kill R bx (λb hb=>by rw[hob];exact hb) (Loc.blks_nodup l)
   .trivial
  .trivial
 | .unit,cs,K,S,ok,vs,T,R,hT,hL,hK=>by unfold exM;exact hK _ _ _ _ [] vs [] R (by simpa using hT) (λ_ _ h=>h) (ah.refl _) rfl ⟨rfl,rfl⟩ hL
 | .pair p q,cs,K,S,ok,vs,T,R,hT,hL,hK=>by unfold exM;refine AO p R hT hL λS1 ok1 x r us us' O1 R1 T1 k1 s1 e1 h1 l1=>?_;refine AO q R1 T1 l1 λS2 ok2 y r' vs2 vs2' O2 R2 T2 k2 s2 e2 h2 l2=>?_;subst e1;subst e2;exact hK _ _ _ _ (us++vs2) vs2' (O1++O2) R2 (by simpa using T2) (λb t h=>k2 b t (k1 b t h)) (s1.trans s2) A8 ⟨us,vs2,O1,O2,rfl,rfl,eF k2 (λ_ _ _=>rfl) (λ_ _=>rfl) h1,h2⟩ l2| .box md,cs,K,S,ok,vs,T,R,hT,hL,hK=>by
  unfold exM;split
  .rename_i bx r0;obtain⟨v,r,rfl,h1,_,h3⟩:=hL;obtain⟨blk,hm,hv⟩:=h1;show Cmd.post (match S (U8+bx)with| .bcells bs=>_|_=>_) S Q;have hb:=R.box bx;split
   .rename_i bs hS;rw[hS]at hb;obtain⟨blk',arr,Ty',hm',hh,hl⟩:=hb;simp only at hm hm' hv;rw[hm]at hm';cases hm';subst hv;show Cmd.post _ (upd S (U8+bx) .dead) Q;have hT1:Tk X (upd S (U8+bx) .dead) m ok w (T++[blk]):=hT.kill R bx (λb hb=>by simp at hb;subst hb;simp[L9,hS,hm]) A8;refine AO md (R.kill bx) hT1 hl λS1 ok1 x q us us' O R1 T1 k1 s1 e1 h1 l1=>?_;cases q with
    |nil=>simp only[dD]at l1;subst l1;simp only[G6]at e1;refine hK _ _ _ _ [_] r (blk::O) R1 (by simpa using T1) k1 ((ah.box _ _ _).trans s1) rfl ⟨blk,arr,Ty',O,rfl,hh,by rw[e1];exact h1,rfl⟩ (FB k1 h3)|cons c q=>trivial
   .trivial
  .trivial
 | .rp t,cs,K,S,ok,vs,T,R,hT,hL,hK=>by
  unfold exM;split
  .obtain⟨v,r,rfl,h1,_,h3⟩:=hL;refine YA t R hT h1 λS1 ok1 x R1 T1 k1 s1 h1=>?_;exact hK _ _ _ _ [v] r [] R1 (by simpa using T1) k1 s1 rfl ⟨v,rfl,h1,rfl⟩ (FB k1 h3)
  .trivial
 | .fn f ts,cs,K,S,ok,vs,T,R,hT,hL,hK=>by
  unfold exM;split
  .rename_i g caps r0;obtain⟨v,r,rfl,⟨us,rfl,hc⟩,_,h3⟩:=hL;cases hb:Nat.beq g f
   .trivial
   .simp only[cond_true];have e:=bQ hb;subst e;exact GV ts hc λx hx=>hK _ _ _ _ [_] r [] R (by simpa using hT) (λ_ _ h=>h) (ah.refl _) rfl ⟨us,rfl,hx,rfl⟩ h3
  .rename_i g r0;obtain⟨v,r,rfl,h1,_,h3⟩:=hL;have h1:v= .func (.func g) #[] #[]:=h1;subst h1;cases hb:Nat.beq g f
   .trivial
   .simp only[cond_true];have e:=bQ hb;subst e;exact GV (cs:=[]) (vs:=[]) ts rfl λx hx=>hK _ _ _ _ [_] r [] R (by simpa using hT) (λ_ _ h=>h) (ah.refl _) rfl ⟨#[],rfl,hx,rfl⟩ h3
  .trivial
 | .ifc t md,cs,K,S,ok,vs,T,R,hT,hL,hK=>by
  unfold exM;split
  .rename_i t' c r0;obtain⟨v,r,rfl,⟨u,rfl,hu,hc⟩,_,h3⟩:=hL;cases hb:Nat.beq t' t
   .trivial
   .simp only[cond_true];have e:=bQ hb;subst e;refine AO md (vs:=[u]) R hT ⟨u,[],rfl,hc,hu,rfl⟩ λS1 ok1 x q us us' O R1 T1 k1 s1 e1 h1 l1=>?_;cases q with
    |cons c q=>trivial|nil=>simp only[dD]at l1;subst l1;simp only[G6]at e1;subst e1;exact hK _ _ _ _ [_] r O R1 T1 k1 s1 rfl ⟨u,rfl,h1⟩ (FB k1 h3)
  .trivial
 | .cell (some none),cs,K,S,ok,vs,T,R,hT,hL,hK=>by
  unfold exM;split
  .obtain⟨v,r,rfl,h1,h2,h3⟩:=hL;exact hK _ _ _ _ [v] r [] R (by simpa using hT) (λ_ _ h=>h) (ah.refl _) rfl ⟨v,rfl,h2,λ_=>h1,(λ_ h=>nomatch h),rfl⟩ h3
  .trivial
 | .cell (some (some b)),cs,K,S,ok,vs,T,R,hT,hL,hK=>by
  unfold exM;split
  .obtain⟨v,r,rfl,h1,h2,h3⟩:=hL;cases b
   .trivial
   .exact hK _ _ _ _ [v] r [] R (by simpa using hT) (λ_ _ h=>h) (ah.refl _) rfl ⟨v,rfl,h2,(λh=>nomatch h),(λb' h=>by cases h;exact h1),rfl⟩ h3
  .obtain⟨v,r,rfl,h1,h2,h3⟩:=hL;cases b
   .exact hK _ _ _ _ [v] r [] R (by simpa using hT) (λ_ _ h=>h) (ah.refl _) rfl ⟨v,rfl,h2,(λh=>nomatch h),(λb' h=>by cases h;exact h1),rfl⟩ h3
   .trivial
  .trivial
 | .cell none,cs,K,S,ok,vs,T,R,hT,hL,hK=>by
  unfold exM;split
  .obtain⟨v,r,rfl,h1,h2,h3⟩:=hL;exact hK _ _ _ _ [v] r [] R (by simpa using hT) (λ_ _ h=>h) (ah.refl _) rfl ⟨v,rfl,h2,(λh=>nomatch h),(λ_ h=>nomatch h),rfl⟩ h3
  .trivial
 | .fr t,cs,K,S,ok,vs,T,R,hT,hL,hK=>by
  unfold exM;split
  .obtain⟨v,r,rfl,h1,_,h3⟩:=hL;simp only[pW]at h1;subst h1;cases ht:t.isEnt
   .exact hK _ _ _ _ [_] r [] R (by simpa using hT) (λ_ _ h=>h) (ah.refl _) rfl ⟨.nil,_,rfl,rfl,⟨rfl,ht⟩,(λb h=>by cases h),rfl⟩ h3
   .trivial
  .rename_i bx r0;obtain⟨v,r,rfl,h1,_,h3⟩:=hL;obtain⟨l,hm,hv⟩:=h1;show Cmd.post (match S (U8+bx)with| .barr t' xs=>_| .bfrz t' xs=>_|_=>_) S Q;have hb:=R.box bx;split
   .rename_i t' xs hS;rw[hS]at hb;obtain⟨l',hm',ha⟩:=hb;simp only at hm hm';rw[hm]at hm';cases hm';refine dw λe=>?_;subst e;have hob:L9 m bx (S (U8+bx))=l.blks:=by
     rw[hS];cases l<;>first|(simp[L9,hm,Loc.blks];done)|cases ha
    show Cmd.post _ (upd S (U8+bx) (.bfrz t' xs)) Q;have hbs:∀b∈l.blks,b∈L9 m bx (S (U8+bx)):=λb h=>by rw[hob];exact h
    have ha' :arrOk ⟨w.heap,okW ok l.blks [t'],nom⟩ t' xs l:=kT (m:=m) Bc (λ_ _ _=>rfl) (λ_ _=>rfl) ha;exact hK _ (okW ok l.blks [t']) _ _ [v] r [] (R.widen A8 rfl hbs ⟨l,hm,kT Bc (λ_ _ _=>rfl) (λ_ _=>rfl) ha,λblk hb=> .inr ⟨hb,A8⟩⟩) (by simpa using hT.widen rfl hbs) Bc (ah.box _ _ _) rfl ⟨l,v,rfl,hv,ha',λb hb=> .inr ⟨hb,A8⟩,rfl⟩ (FB Bc h3)
   .rename_i t' xs hS;rw[hS]at hb;obtain⟨l',hm',ha,hk⟩:=hb;simp only at hm hm';rw[hm]at hm';cases hm';refine dw λe=>?_;subst e;exact hK _ ok _ _ [v] r [] R (by simpa using hT) (λ_ _ h=>h) (ah.refl _) rfl ⟨l,v,rfl,hv,kT (m:=m) (λ_ _ h=>h) (λ_ _ _=>rfl) (λ_ _=>rfl) ha,hk,rfl⟩ h3
   .trivial
  .trivial
 | .lp t,cs,K,S,ok,vs,T,R,hT,hL,hK=>by
  unfold exM;split
  .obtain⟨v,r,rfl,h1,_,h3⟩:=hL;refine Ya wK t R hT h1 λS1 ok1 x R1 T1 k1 g1 s1 h1=>?_;rw[ZW]at h1;exact hK _ _ _ _ [v] r [] R1 (by simpa using T1) k1 s1 rfl ⟨v,rfl,h1,rfl⟩ (FB k1 h3)
  .trivial
 | .dv ..,cs,K,S,ok,vs,T,R,hT,hL,hK=>by
  unfold exM;split
  .obtain⟨v,r,rfl,h1,h2,h3⟩:=hL;exact hK _ _ _ _ [v] r [] R (by simpa using hT) (λ_ _ h=>h) (ah.refl _) rfl ⟨v,rfl,h2,rfl⟩ h3
  .trivial
 | .sit,cs,K,S,ok,vs,T,R,hT,hL,hK=>by
  unfold exM;split
  .rename_i bx r0;obtain⟨v,r,rfl,h1,_,h3⟩:=hL;obtain⟨blk,hm,rfl⟩:=h1;have hb:=R.box bx;show Cmd.post (match S (U8+bx)with| .biter l p=>_|_=>_) S Q;split
   .rename_i l p hS;rw[hS]at hb;obtain⟨blk',s,q,hm',hh,g1,g2⟩:=hb;simp only at hm hm';rw[hm]at hm';cases hm';show Cmd.post _ (upd S (U8+bx) .dead) Q;have T2:=hT.kill R bx (bs:=[blk]) (λb hb=>by rw[hS];simpa[L9,hm]using hb) A8;exact hK _ ok (l,p) _ _ r [blk] (R.kill bx) T2 (λ_ _ h=>h) (ah.box _ _ _) rfl ⟨blk,s,q,rfl,hh,g1,g2,rfl⟩ h3
   .trivial
  .trivial
 | .sbx tb te,cs,K,S,ok,vs,T,R,hT,hL,hK=>by
  unfold exM;split
  .rename_i bx r0;obtain⟨v,r,rfl,h1,_,h3⟩:=hL;obtain⟨blk,hm,rfl⟩:=h1;have hb:=R.box bx;show Cmd.post (match S (U8+bx)with| .bsb tb' c=>_|_=>_) S Q;split
   .rename_i tb' c hS;rw[hS]at hb;obtain⟨blk',a0,v0,hm',hh,hs,g2⟩:=hb;simp only at hm hm';rw[hm]at hm';cases hm';cases he:Nat.beq tb' tb
    .trivial
    have e:=bQ he;subst e;simp only[cond_true];refine a4Y R hT g2 λS1 ys l R1 T1 s1 n1 hv1 ha1=>?_;show Cmd.post _ (upd S1 (U8+bx) .dead) Q;have T2:=T1.kill R1 bx (bs:=[blk]) (λb hb=>by rw[n1 bx (λ_ _=>by rw[hS];simp),hS];simpa[L9,hm]using hb) A8;refine hK _ ok ys _ _ r (blk::l.blks) (R1.kill bx) (T2.perm ?_) (λ_ _ h=>h) (s1.trans (ah.box _ _ _)) rfl ⟨blk,a0,v0,l,rfl,hh,hs,hv1,ha1,rfl⟩ h3;rw[G7];exact mg _ fM
   .trivial
  .trivial
end
end Go.GP
namespace Go.GP
def dX(C:Cx):List V->c2h->Prop
 |[],vs=>vs=[]|c::cs,vs=>∃v r,vs=v::r/\iI C c v/\dX C cs r
theorem Ig{h:Array Obj}{ok ok' :Nat->Ty->Prop}{m:Mp}(k:∀b t,ok b t->ok' b t):∀{cs:List V} {vs:c2h},dX ⟨h,ok,m⟩ cs vs->dX ⟨h,ok',m⟩ cs vs
 |[],_,e=>e|_::_,_,⟨v,r,e,h1,h2⟩=>⟨v,r,e,Jh k h1,Ig k h2⟩
theorem WL{h:Array Obj}{ok:Nat->Ty->Prop}{m m' :Mp}(k:∀n l,m n=some l->m' n=some l):∀{cs:List V} {vs:c2h},dX ⟨h,ok,m⟩ cs vs->dX ⟨h,ok,m'⟩ cs vs
 |[],_,e=>e|_::_,_,⟨v,r,e,h1,h2⟩=>⟨v,r,e,FC (C:=⟨h,ok,m⟩) (D:=⟨h,ok,m'⟩) ⟨λ_ _ h=>h,λ_ _ _=>rfl,k⟩ h1,WL k h2⟩
theorem xZ{h:Array Obj}{ok:Nat->Ty->Prop}{m m' :Mp}(k:∀n l,m n=some l->m' n=some l){cs:List V}{vs:c2h}(hr:dD ⟨h,ok,m⟩ cs vs):dD ⟨h,ok,m'⟩ cs vs:=
 CE (C:=⟨h,ok,m⟩) (D:=⟨h,ok,m'⟩) ⟨λ_ _ h=>h,λ_ _ _=>rfl,k⟩ hr
variable {C:Cx}
theorem Yv{c:V}{v:Value}(h1:c≠.undef)(h2:c≠.un)(h:pW C c v):v.oneCell' =true:=by
 cases c<;>simp only[pW]at h<;>try (subst h;rfl)
 case ne=>obtain⟨_,_,rfl,_⟩:=h;rfl
 .exact absurd rfl h1
 .exact absurd rfl h2
 .rcases h with⟨_,a,cap,e,_⟩|⟨_,mv,e,_⟩<;>(simp at e;subst e;rfl)
 .obtain⟨l,_,hv⟩:=h;exact iC hv
 .obtain⟨b,_,rfl⟩:=h;rfl
 .obtain⟨_,_,_,_,_,_,_,rfl⟩:=h;rfl
 .exact GX h
 all_goals first|exact h.elim|(obtain⟨_,rfl,_⟩:=h;rfl)|(obtain⟨_,_,rfl⟩:=h;rfl)
theorem zM{c:V}{v:Value}(h:pW C c v):iI C c v:=by
 cases c<;>simp only[pW]at h<;>try exact h
 all_goals exact h.elim
variable {α:Type}{v:V}{Q:α->Sm->Prop}{x:Value}{ln:Ty->Bool}
section
variable {X:Fx} {cl ch:Nat} {S:Sm} {m:Mp} {ok:Nat->Ty->Prop} {a:Act} {w:World} {T:c2i}
theorem yB{ag:Bool}{K:List V->Cmd α}{S:Sm}(hv:iI C v x)
  (hK:∀cs us,Ob ag x us->dD C cs us->(K cs).post S Q):(QV ag v K).post S Q:=by
 unfold QV;split<;>try trivial
 .obtain⟨arr,rfl,hl⟩:=hv;exact hK _ _ ⟨arr,rfl,rfl⟩ hl
 .rename_i h1 h2 h3 h4;have hc:pW C v x:=by cases v<;>first|exact hv|exact absurd rfl (h1 _)|exact absurd rfl (h2 _)
  exact hK [v] [x] rfl ⟨x,[],rfl,hc,Yv (λe=>h3 e) (λe=>h4 e) hc,rfl⟩
theorem pG{K:List V->Cmd α}{S:Sm}(hv:iI C v x)
  (hK:∀cs,dD C cs x.cells.toList->(K cs).post S Q):(Di v K).post S Q:=by
 unfold Di;split<;>try trivial
 .obtain⟨arr,rfl,hl⟩:=hv;exact hK _ hl
 .rename_i h1 h2 h3 h4;have hc:pW C v x:=by cases v<;>first|exact hv|exact absurd rfl (h1 _)|exact absurd rfl (h2 _)
  have h1' :=Yv (λe=>h3 e) (λe=>h4 e) hc;have e:x.cells.toList=[x]:=by cases x<;>simp[Value.cells]<;>simp[Value.oneCell']at h1'
  refine hK [v] ?_;rw[e];exact⟨x,[],rfl,hc,h1',rfl⟩
theorem XG{md:MG}{K:md.2.den->Cmd α}(R:Rel X cl ch S m ok a w)(hT:Tk X S m ok w T)(hv:iI ⟨w.heap,ok,m⟩ v x)
  (hK:∀S' ok' y cs O,Rel X cl ch S' m ok' a w->Tk X S' m ok' w (T++O)->(∀b t,ok b t->ok' b t)->ah S S' ->Ob md.1 x cs->jm w.heap ok' md.2 none y cs O->(K y).post S' Q):
  (Rz wK md v K).post S Q:=by
 refine yB hv λcs us hg hl=>?_;refine AO md.2 R hT hl λS1 ok1 y r us1 us' O R1 T1 k1 s1 e1 h1 l1=>?_;cases r with
 |cons c q=>trivial|nil=>simp only[dD]at l1;subst l1;simp only[G6]at e1;subst e1;exact hK _ _ _ _ _ R1 T1 k1 s1 hg h1
theorem a2T{md:M}(hd:md.isDat=false)(cs:List V)(K:md.den->List V->Cmd α):exM ln md cs K=exM wK md cs K:=by cases md<;>first|rfl|(simp[M.isDat]at hd;done)|(rename_i b;cases b<;>first|rfl|(rename_i b;cases b<;>rfl))
theorem UV{md:MG}(hd:md.2.isDat=true){K:md.2.den->Cmd α}(R:Rel X cl ch S m ok a w)(hT:Tk X S m ok w T)(hv:iI ⟨w.heap,ok,m⟩ v x)
  (hK:∀S' ok' y cs,Rel X cl ch S' m ok' a w->Tk X S' m ok' w T->(∀b t,ok b t->ok' b t)->(∀b t,okL ln S m ok b t->okL ln S' m ok' b t)->ah S S' ->Ob md.1 x cs->jm w.heap (okL ln S' m ok') md.2 none y cs []->(K y).post S' Q):
  (Rz ln md v K).post S Q:=by
 obtain⟨ag,mm⟩:=md;cases mm<;>simp[M.isDat]at hd
 case dat t=>
  refine yB hv λcs us hg hl=>?_;dsimp only;unfold exM;refine yR ln _ R hT hl λS1 ok1 y r us1 us' R1 T1 k1 g1 s1 e1 h1 l1=>?_;cases r with
  |cons c q=>trivial|nil=>simp only[dD]at l1;subst l1;simp only[G6]at e1;subst e1;exact hK _ _ _ _ R1 T1 k1 g1 s1 hg ⟨h1,rfl⟩
 case lp t=>
  refine yB hv λcs us hg hl=>?_;dsimp only;unfold exM;cases cs with
  |nil=>trivial|cons c q=>
   obtain⟨u,r',rfl,h1,h2,h3⟩:=hl;refine Ya ln t R hT h1 λS1 ok1 y R1 T1 k1 g1 s1 d1=>?_;cases q with
   |cons c q=>trivial|nil=>simp only[dD]at h3;subst h3;exact hK _ _ _ _ R1 T1 k1 g1 s1 hg ⟨u,rfl,d1,rfl⟩
theorem a8J :∀b t,ok b t->okL ln S m ok b t:=λ_ _ h=> .inl h
theorem ES{α:Type}{Q:α->Sm->Prop}{ln:Ty->Bool} :∀(ms:List MG) {vs:List V} {xs:c2h} {K:Y7 ms->Cmd α} {S:Sm} {ok:Nat->Ty->Prop} {T:c2i} (R:Rel X cl ch S m ok a w) (hT:Tk X S m ok w T)
  (hv:dX ⟨w.heap,ok,m⟩ vs xs)
  (hK:∀S' ok' y O,Rel X cl ch S' m ok' a w->Tk X S' m ok' w (T++O)->(∀b t,ok b t->ok' b t)->ah S S' ->oU w.heap (okL ln S' m ok') ms y xs O->(K y).post S' Q),
  (Jz ln ms vs K).post S Q
 |[],vs,xs,K,S,ok,T,R,hT,hv,hK=>by
  unfold Jz;split
  .simp only[dX]at hv;subst hv;exact hK _ _ _ [] R (by simpa using hT) (λ_ _ h=>h) (ah.refl _) ⟨rfl,rfl⟩
  .trivial
 |[md],vs,xs,K,S,ok,T,R,hT,hv,hK=>by
  unfold Jz;split
  .obtain⟨x,r,rfl,h1,h2⟩:=hv;simp only[dX]at h2;subst h2;cases hd:md.2.isDat
   .unfold Rz;simp only[a2T hd];exact XG R hT h1 λS' ok' y cs O R' T' k s g h=>hK _ _ _ O R' T' k s ⟨x,cs,rfl,g,eF a8J (λ_ _ _=>rfl) (λ_ _=>rfl) h⟩
   .exact UV hd R hT h1 λS' ok' y cs R' T' k g s hg h=>hK _ _ _ [] R' (by simpa using T') k s ⟨x,cs,rfl,hg,h⟩
  .trivial
 |md::md' ::r,vs,xs,K,S,ok,T,R,hT,hv,hK=>by
  unfold Jz;split
  .obtain⟨x,xr,rfl,h1,h2⟩:=hv;cases hd:md.2.isDat
   .simp only[cond_false];unfold Rz;simp only[a2T hd];refine XG R hT h1 λS1 ok1 y cs O R1 T1 k1 s1 g1 h1' =>?_;refine ES (md' ::r) R1 T1 (Ig k1 h2) λS2 ok2 z O2 R2 T2 k2 s2 h2' =>?_;exact hK _ _ _ (O++O2) R2 (by simpa using T2) (λb t h=>k2 b t (k1 b t h)) (s1.trans s2) ⟨x,cs,xr,O,O2,rfl,rfl,g1,eF (λb t h=> .inl (k2 b t h)) (λ_ _ _=>rfl) (λ_ _=>rfl) h1',h2'⟩
   .simp only[cond_true];refine ES (md' ::r) R hT h2 λS2 ok2 z O2 R2 T2 k2 s2 h2' =>?_;refine UV hd R2 T2 (Jh k2 h1) λS1 ok1 y cs R1 T1 k1 g1 s1 hg h1' =>?_;exact hK _ _ _ ([]++O2) R1 (by simpa using T1) (λb t h=>k1 b t (k2 b t h)) (s2.trans s1) ⟨x,cs,xr,[],O2,rfl,rfl,hg,h1',PP g1 (λ_ _ _=>rfl) (λ_ _=>rfl) h2'⟩
  .trivial
theorem XF(ms:List MG){vs:List V}{xs:c2h}{K:Y7 ms->Cmd α}{S:Sm}{ok:Nat->Ty->Prop}{T:c2i}(R:Rel X cl ch S m ok a w)(hT:Tk X S m ok w T)
  (hv:dX ⟨w.heap,ok,m⟩ vs xs)
  (hK:∀S' ok' y O,Rel X cl ch S' m ok' a w->Tk X S' m ok' w (T++O)->(∀b t,ok b t->ok' b t)->ah S S' ->oU w.heap ok' ms y xs O->(K y).post S' Q):
  (Jz wK ms vs K).post S Q:=
 ES ms R hT hv λS' ok' y O R' T' k s h=>hK S' ok' y O R' T' k s (by rw[ZW]at h;exact h)
theorem Ph{α:Type}{Q:α->Sm->Prop}{tmps:Array Value}{C:Cx} :∀(ns:c2i) {K:List V->Cmd α} {S:Sm} (hs:∀n,n<U8->iI C (S n) (tmps.getD n Go.undef))
  (hK:∀vs,dX C vs (ns.map λn=>tmps.getD n Go.undef)->(K vs).post S Q),(Wh ns K).post S Q
 |[],K,S,hs,hK=>hK [] rfl|n::ns,K,S,hs,hK=>by
  unfold Wh;cases hb:Nat.blt n U8
  .trivial
  .simp only[cond_true];show Cmd.post _ S Q;refine Ph ns hs λvs hvs=>?_;exact hK _ ⟨_,_,rfl,hs n (by rw[Z4]at hb;exact hb),hvs⟩
def atV(h:Array Obj)(c:Nat)(u v:Value):Prop:=u=v\/∃b arr T f,u= .pointer (some ⟨b,0,none⟩)/\h[b]? =some (.cells arr T f)/\arr.toList[c]? =some v
def alR(h:Array Obj)(tmps:Array Value)(p:Nat×Nat×Option (Nat×Nat×Nat×Nat)):Prop:=match p with
 |(n,k,none)=>tmps.getD n Go.undef=tmps.getD k Go.undef|(n,k,some (c,j,o,sz))=>∃blk off len cap q y,atV h c (tmps.getD k Go.undef) (.slice (some ⟨blk,off,none⟩) len cap)/\tmps.getD j Go.undef= .int q y/\y.toNat<len/\tmps.getD n Go.undef= .pointer (some ⟨blk,off+y.toNat*sz+o,none⟩)
def Zg(h:Array Obj)(ok:Nat->Ty->Prop)(sg:Sig)(x:mP sg)(tmps:Array Value)(O:c2i):Prop:=
 oU h ok (sg.ms.map (·.2)) x ((sg.ms.map (·.1)).map λn=>tmps.getD n Go.undef) O/\∀p∈sg.als,alR h tmps p
theorem a4X{v u:V}{x y:Value}(h:a8g v u=true)(hv:iI C v x)(hu:iI C u y):x=y:=by
 cases v<;>try (cases h;done)
 case own a vw=>
 cases u<;>try (cases vw<;>cases h;done)
 case own b vu=>
 cases vw<;>cases vu<;>try (cases h;done)
 have:=bQ (show Nat.beq a b=true from h);subst this;obtain⟨l,hm,h1⟩:=hv;obtain⟨l',hm',h2⟩:=hu;rw[hm]at hm';cases hm';cases l with
 |nil=>exact(show x=_ from h1).trans (show y=_ from h2).symm|st b=>cases h1|mp b=>exact(show x=_ from h1).trans (show y=_ from h2).symm|arr blk off len cap sz=>exact(show x=_ from h1).trans (show y=_ from h2).symm
theorem Rel.chmono(R:Rel X cl ch S m ok a w){ch' :Nat}(h:ch<=ch'):Rel X cl ch' S m ok a w:={ R with strict:=λn hn=>R.strict n o5 }
theorem kL{n:Nat}{K:Cmd α}(hK:S (U8+n)= .undef->K.post (upd S (U8+n) v) Q):(pz n v K).post S Q:=by
 unfold pz;show Cmd.post (match S (U8+n)with| .undef=>_|_=>_) S Q;split
 .rename_i h;exact hK h
 .trivial
theorem Rel.adopt(R:Rel X cl ch S m ok a w){n:Nat}{l:Loc}{ks:c2i}{O:c2i}(hn:S (U8+n)= .undef)(hcl:cl<=n)(hv:v≠.undef)
  (hT:Tk X S m ok w (O++T)) (ho:∀b∈L9 (jo m n l ks) n v,b∈O) (hnd:(L9 (jo m n l ks) n v).Nodup) (hB:xY ⟨w.heap,ok,jo m n l ks⟩ n v):
  Rel X cl (max ch (n+1)) (upd S (U8+n) v) (jo m n l ks) ok a w/\Tk X (upd S (U8+n) v) (jo m n l ks) ok w T/\(∀k l',m k=some l' ->jo m n l ks k=some l'):=by
 have hm:m n=none:=R.fresh n hcl hn;refine⟨(R.chmono (bi ch (n+1))).lay hn hcl o5 hv rfl rfl rfl (D9 _) (λ_ _ _=>rfl) hnd (λb hb=>hT.free b (by simp[ho b hb])) hB,⟨?_,λb hb=>?_⟩,λk l' h=>?_⟩
 .exact(J6.1 hT.nodup).2.1
 .obtain⟨h1,h2,h3,h4⟩:=hT.free b (by simp[hb]);refine⟨h1,h2,h3,λk e=>?_⟩;by_cases ek:k=n
  .subst ek;rw[gG]at e;exact(J6.1 hT.nodup).2.2 b (ho b e) b hb rfl
  .rw[aA _ _ o5]at e;refine h4 k ?_;rw[←Fh (m:=m) (fU m l ks ek) (OJ m l ks ek)];exact e
 .by_cases ek:k=n
  .subst ek;simp[hm]at h
  .rw[fU _ _ _ ek];exact h
theorem Aj{h:Array Obj}{ok:Nat->Ty->Prop}{m m' :Mp}{t:Ty}{xs:List t.den}{l:Loc}(hr:arrOk ⟨h,ok,m⟩ t xs l):arrOk ⟨h,ok,m'⟩ t xs l:=by cases l<;>exact hr
theorem a2j{S:Sm}{k:Nat}{c:Cmd α}(h:c.post (upd S k v) Q):(Cmd.set k v c).post S Q:=h
theorem DW{α:Type}{Q:α->Sm->Prop} :∀(md:M) {x:md.den} {n:Nat} {r:List V} {K:List V->Nat->Cmd α} {S:Sm} {m:Mp} {ch:Nat} {us us' :c2h} {O T:c2i}
  (R:Rel X cl ch S m ok a w) (hcl:cl<=n) (hT:Tk X S m ok w (O++T)) (h:jm w.heap ok md none x us O) (hL:dD ⟨w.heap,ok,m⟩ r us')
  (hK:∀S' m' cs n' ch',Rel X cl ch' S' m' ok a w->ch' <=max ch n' ->Tk X S' m' ok w T->(∀k l,m k=some l->m' k=some l)->ah S S' ->dD ⟨w.heap,ok,m'⟩ cs (us++us')->n<=n' ->(K cs n').post S' Q),
  (emM md x n r K).post S Q
 | .dat t,x,n,r,K,S,m,ch,us,us',O,T,R,hcl,hT,h,hL,hK=>by unfold emM;obtain⟨hr,rfl⟩:=h;refine hK S m _ n ch R (bi _ _) (by simpa using hT) (λ_ _ h=>h) (ah.refl _) ?_ (D9 _);rw[jq];exact rE (lT (C:=⟨w.heap,ok,m⟩) hr) hL
 | .own t,x,n,r,K,S,m,ch,us,us',O,T,R,hcl,hT,h,hL,hK=>by
  unfold emM;obtain⟨l,v,rfl,hv,ha,rfl⟩:=rF.1 h;refine kL λhn=>?_;have hob:L9 (jo m n l []) n (.barr t x)=l.blks:=by cases l<;>first|(simp[L9,Loc.blks];done)|cases ha
  obtain⟨R',T',k'⟩:=R.adopt (l:=l) (ks:=[]) (v:=.barr t x) hn hcl A8 hT (λb hb=>by rw[hob]at hb;exact hb) (by rw[hob];exact Loc.blks_nodup l) ⟨l,X8 _ _ _ _,Aj ha⟩;exact hK _ _ _ _ _ R' o5 T' k' (ah.box _ _ _) ⟨v,us',rfl,⟨l,X8 _ _ _ _,hv⟩,iC hv,xZ k' hL⟩ o5
 | .ownb t,x,n,r,K,S,m,ch,us,us',O,T,R,hcl,hT,h,hL,hK=>by
  unfold emM;obtain⟨l,v,rfl,hv,ha,rfl⟩:=h;refine kL λhn=>?_;have hob:L9 (jo m n l []) n (.barr t x)=l.blks:=by cases l<;>first|(simp[L9,Loc.blks];done)|cases ha
  obtain⟨R',T',k'⟩:=R.adopt (l:=l) (ks:=[]) (v:=.barr t x) hn hcl A8 hT (λb hb=>by rw[hob]at hb;exact hb) (by rw[hob];exact Loc.blks_nodup l) ⟨l,X8 _ _ _ _,Aj ha⟩;exact hK _ _ _ _ _ R' o5 T' k' (ah.box _ _ _) ⟨v,us',rfl,⟨l,X8 _ _ _ _,hv⟩,iC hv,xZ k' hL⟩ o5
 | .owns md,x,n,r,K,S,m,ch,us,us',O,T,R,hcl,hT,h,hL,hK=>by
  unfold emM;obtain⟨hw,l,v,Os,rfl,hv,ha,rfl⟩:=sW.1 h;refine kL λhn=>?_;have hob:L9 (jo m n l Os.flatten) n (.barrs md x none)=l.blks++Os.flatten:=by cases l<;>first|(simp[L9,Loc.blks];done)|cases ha
  obtain⟨R',T',k'⟩:=R.adopt (l:=l) (ks:=Os.flatten) (v:=.barrs md x none) hn hcl A8 hT (λb hb=>by rw[hob]at hb;exact hb) (by rw[hob];exact(J6.1 hT.nodup).1)
   ⟨hw,l,Os,X8 _ _ _ _,⟨ha,trivial⟩,A8⟩
  refine a2j ?_;have T2:=T'.killV R' (JQ+n) (v:=.blen (o8 x) md.size) rfl (bs:=[]) (λb h=>by cases h) aY;rw[G6]at T2;exact hK _ _ _ _ _ (R'.mark (gG _ _ _)) o5 T2 k' ((ah.box _ _ _).trans (ah.box _ _ _)) ⟨v,us',rfl,⟨l,X8 _ _ _ _,hv⟩,iC hv,xZ k' hL⟩ o5
 | .pair p q,x,n,r,K,S,m,ch,us,us',O,T,R,hcl,hT,h,hL,hK=>by
  unfold emM;obtain⟨c,d,O1,O2,rfl,rfl,h1,h2⟩:=a2d.1 h;have hT1:Tk X S m ok w (O2++(O1++T)):=hT.perm (by rw[G7];exact(List.perm_append_comm_assoc _ _ _))
  refine DW q R hcl hT1 h2 hL λS1 m1 cs1 n1 ch1 R1 c1 T1 k1 s1 l1 e1=>?_;refine DW p R1 o5 T1 h1 l1 λS2 m2 cs2 n2 ch2 R2 c2 T2 k2 s2 l2 e2=>?_;exact hK _ _ _ _ _ R2 o5 T2 (λk l h=>k2 k l (k1 k l h)) (s1.trans s2) (by simpa using l2) o5
 | .unit,x,n,r,K,S,m,ch,us,us',O,T,R,hcl,hT,h,hL,hK=>by unfold emM;obtain⟨rfl,rfl⟩:=h;exact hK S m _ n ch R (bi _ _) (by simpa using hT) (λ_ _ h=>h) (ah.refl _) (by simpa using hL) (D9 _)
 | .box md,x,n,r,K,S,m,ch,us,us',O,T,R,hcl,hT,h,hL,hK=>by
  unfold emM;obtain⟨blk,arr,Tt,O',rfl,hh,hr,rfl⟩:=h;have hT1:Tk X S m ok w (O' ++([blk]++T)):=hT.perm (by simpa using List.perm_middle.symm);refine DW md (r:=[]) (us' :=[]) R o5 hT1 hr rfl λS1 m1 cs1 n1 ch1 R1 c1 T1 k1 s1 l1 e1=>?_;refine kL λhn=>?_;obtain⟨R',T',k'⟩:=R1.adopt (l:=.st blk) (ks:=[]) (v:=.bcells cs1) hn hcl A8 T1 (λb hb=>by
   simp only[L9,X8]at hb;simp at hb;simp[hb]) (by simp[L9]) ⟨blk,arr,Tt,X8 _ _ _ _,hh,xZ (λk l (h:m1 k=some l)=>by
    by_cases ek:k=n
    .subst ek;have:=R1.fresh k hcl hn;rw[this]at h;cases h
    .rw[fU _ _ _ ek];exact h) (by simpa using l1)⟩
  refine hK _ _ _ _ _ R' o5 T' (λk l h=>k' k l (k1 k l h)) (s1.trans (ah.box _ _ _)) ⟨_,us',rfl,⟨blk,X8 _ _ _ _,rfl⟩,rfl,xZ k' (xZ k1 hL)⟩ o5
 | .rp t,x,n,r,K,S,m,ch,us,us',O,T,R,hcl,hT,h,hL,hK=>by unfold emM;obtain⟨v,rfl,hv,rfl⟩:=h;exact hK S m _ n ch R (bi _ _) (by simpa using hT) (λ_ _ h=>h) (ah.refl _) ⟨v,us',rfl,hv,GX hv,hL⟩ (D9 _)
 | .fn f ts,x,n,r,K,S,m,ch,us,us',O,T,R,hcl,hT,h,hL,hK=>by unfold emM;obtain⟨vs,rfl,hv,rfl⟩:=h;exact hK S m _ n ch R (bi _ _) (by simpa using hT) (λ_ _ h=>h) (ah.refl _) ⟨_,us',rfl,⟨vs,rfl,hv⟩,rfl,hL⟩ (D9 _)
 | .ifc t md,x,n,r,K,S,m,ch,us,us',O,T,R,hcl,hT,h,hL,hK=>by
  unfold emM;obtain⟨u,rfl,h1⟩:=h;refine DW md (r:=[]) (us' :=[]) R hcl hT h1 rfl λS1 m1 cs1 n1 ch1 R1 c1 T1 k1 s1 l1 e1=>?_;split
  .rename_i c;obtain⟨v',r',e,h1',h2',h3'⟩:=l1;simp only[G6,Y6,F6,E8]at e;obtain⟨rfl,rfl⟩:=e;exact hK _ _ _ _ _ R1 c1 T1 k1 s1 ⟨_,us',rfl,⟨u,rfl,h2',h1'⟩,rfl,xZ k1 hL⟩ e1
  .trivial
 | .cell (some none),x,n,r,K,S,m,ch,us,us',O,T,R,hcl,hT,h,hL,hK=>by unfold emM;obtain⟨v,rfl,hv,h2,h4,rfl⟩:=h;exact hK S m _ n ch R (bi _ _) (by simpa using hT) (λ_ _ h=>h) (ah.refl _) ⟨v,us',rfl,h2 rfl,hv,hL⟩ (D9 _)
 | .cell (some (some b)),x,n,r,K,S,m,ch,us,us',O,T,R,hcl,hT,h,hL,hK=>by unfold emM;obtain⟨v,rfl,hv,h2,h4,rfl⟩:=h;exact hK S m _ n ch R (bi _ _) (by simpa using hT) (λ_ _ h=>h) (ah.refl _) ⟨v,us',rfl,h4 _ rfl,hv,hL⟩ (D9 _)
 | .cell none,x,n,r,K,S,m,ch,us,us',O,T,R,hcl,hT,h,hL,hK=>by unfold emM;obtain⟨v,rfl,hv,h2,h4,rfl⟩:=h;exact hK S m _ n ch R (bi _ _) (by simpa using hT) (λ_ _ h=>h) (ah.refl _) ⟨v,us',rfl,trivial,hv,hL⟩ (D9 _)
 | .lp t,x,n,r,K,S,m,ch,us,us',O,T,R,hcl,hT,h,hL,hK=>by unfold emM;obtain⟨v,rfl,hv,rfl⟩:=h;exact hK S m _ n ch R (bi _ _) (by simpa using hT) (λ_ _ h=>h) (ah.refl _) ⟨v,us',rfl,hv,GX hv,hL⟩ (D9 _)
 | .dv ..,x,n,r,K,S,m,ch,us,us',O,T,R,hcl,hT,h,hL,hK=>by unfold emM;obtain⟨v,rfl,hv,rfl⟩:=h;exact hK S m _ n ch R (bi _ _) (by simpa using hT) (λ_ _ h=>h) (ah.refl _) ⟨v,us',rfl,trivial,hv,hL⟩ (D9 _)
 | .ownr md o,x,n,r,K,S,m,ch,us,us',O,T,R,hcl,hT,h,hL,hK=>by
  unfold emM;obtain⟨v,rfl,hv1,hw,h0,l,Os,hv,ha,rfl⟩:=h;refine kL λhn=>?_;have hob:L9 (jo m n l Os.flatten) n (.barrp md x.1 x.2 o)=l.blks++Os.flatten:=by cases l<;>first|(simp[L9,Loc.blks];done)|cases ha
  obtain⟨R',T',k'⟩:=R.adopt (l:=l) (ks:=Os.flatten) (v:=.barrp md x.1 x.2 o) hn hcl A8 hT (λb hb=>by rw[hob]at hb;exact hb) (by rw[hob];exact(J6.1 hT.nodup).1)
   ⟨hw,h0,l,Os,X8 _ _ _ _,ha,A8⟩
  exact hK _ _ _ _ _ R' o5 T' k' (ah.box _ _ _) ⟨v,us',rfl,⟨l,X8 _ _ _ _,hv⟩,iC hv,xZ k' hL⟩ o5
 | .sit,x,n,r,K,S,m,ch,us,us',O,T,R,hcl,hT,h,hL,hK=>by
  unfold emM;obtain⟨blk,s,q,rfl,hh,h2,h3,rfl⟩:=h;refine kL λhn=>?_;obtain⟨R2,T2,k2⟩:=R.adopt (n:=n) (l:=.st blk) (ks:=[]) (v:=.biter x.1 x.2) hn hcl A8 hT (λb hb=>by simp only[L9,X8]at hb;simp at hb;simp[hb]) (by simp[L9]) ⟨blk,s,q,X8 _ _ _ _,hh,h2,h3⟩
  exact hK _ _ _ _ _ R2 o5 T2 k2 (ah.box _ _ _) ⟨_,us',rfl,⟨blk,X8 _ _ _ _,rfl⟩,rfl,xZ k2 hL⟩ o5
 | .sbx tb te,x,n,r,K,S,m,ch,us,us',O,T,R,hcl,hT,h,hL,hK=>by
  unfold emM;obtain⟨blk,a0,v,l,rfl,hh,hs,hv,ha,rfl⟩:=h;have hT1:Tk X S m ok w (l.blks++([blk]++T)):=hT.perm (by simpa using List.perm_middle.symm);refine kL λhn1=>?_;have hob:L9 (jo m (n+1) l []) (n+1) (.brow te x)=l.blks:=by cases l<;>first|(simp[L9,Loc.blks];done)|cases ha
  obtain⟨R1,T1,k1⟩:=R.adopt (n:=n+1) (l:=l) (ks:=[]) (v:=.brow te x) hn1 o5 A8 hT1 (λb hb=>by rw[hob]at hb;exact hb) (by rw[hob];exact Loc.blks_nodup l) ⟨l,X8 _ _ _ _,ha⟩;refine kL λhn=>?_;obtain⟨R2,T2,k2⟩:=R1.adopt (n:=n) (l:=.st blk) (ks:=[]) (v:=.bsb tb (.own (n+1) none)) hn hcl A8 T1 (λb hb=>by simp only[L9,X8]at hb;simp at hb;simp[hb]) (by simp[L9]) ⟨blk,a0,v,X8 _ _ _ _,hh,hs,⟨l,(by rw[fU _ _ _ o5];exact X8 _ _ _ _),hv⟩⟩
  refine hK _ _ _ _ _ R2 o5 T2 (λk l h=>k2 k l (k1 k l h)) ((ah.box _ _ _).trans (ah.box _ _ _)) ⟨_,us',rfl,⟨blk,X8 _ _ _ _,rfl⟩,rfl,xZ k2 (xZ k1 hL)⟩ o5
 | .fr t,x,n,r,K,S,m,ch,us,us',O,T,R,hcl,hT,h,hL,hK=>by unfold emM;obtain⟨l,v,rfl,hv,ha,hk,rfl⟩:=h;refine kL λhn=>?_;obtain⟨R',T',k'⟩:=R.adopt (l:=l) (ks:=[]) (v:=.bfrz t x) hn hcl A8 hT (λb hb=>by cases hb) aY ⟨l,X8 _ _ _ _,Aj ha,hk⟩;exact hK _ _ _ _ _ R' o5 T' k' (ah.box _ _ _) ⟨v,us',rfl,⟨l,X8 _ _ _ _,hv⟩,iC hv,xZ k' hL⟩ o5
theorem MM{ag:Bool}{cs:List V}{us:c2h}(hg:Ob ag x us)(hl:dD C cs us):iI C (mkV ag cs) x:=by
 cases ag
 .simp only[Ob]at hg;subst hg;cases cs with
  |nil=>simp[dD]at hl|cons c r=>
   obtain⟨v,r',e,h1,h2,h3⟩:=hl;simp at e;obtain⟨rfl,rfl⟩:=e;cases r with
   |nil=>exact zM h1|cons d r=>obtain⟨_,_,e,_⟩:=h3;cases e
 .obtain⟨arr,rfl,rfl⟩:=hg;exact⟨arr,rfl,hl⟩
theorem EO{α:Type}{Q:α->Sm->Prop} :∀(ms:List MG) {x:Y7 ms} {n:Nat} {K:List V->Nat->Cmd α} {S:Sm} {m:Mp} {ch:Nat} {xs:c2h} {O T:c2i}
  (R:Rel X cl ch S m ok a w) (hcl:cl<=n) (hT:Tk X S m ok w (O++T)) (h:oU w.heap ok ms x xs O)
  (hK:∀S' m' vs n' ch',Rel X cl ch' S' m' ok a w->ch' <=max ch n' ->Tk X S' m' ok w T->(∀k l,m k=some l->m' k=some l)->ah S S' ->dX ⟨w.heap,ok,m'⟩ vs xs->n<=n' ->(K vs n').post S' Q),
  (Jy ms x n K).post S Q
 |[],x,n,K,S,m,ch,xs,O,T,R,hcl,hT,h,hK=>by unfold Jy;obtain⟨rfl,rfl⟩:=h;exact hK S m [] n ch R (bi _ _) (by simpa using hT) (λ_ _ h=>h) (ah.refl _) rfl (D9 _)
 |[md],x,n,K,S,m,ch,xs,O,T,R,hcl,hT,h,hK=>by unfold Jy;obtain⟨v,cs,rfl,hg,hr⟩:=h;refine DW md.2 (us' :=[]) R hcl hT hr rfl λS1 m1 cs1 n1 ch1 R1 c1 T1 k1 s1 l1 e1=>?_;exact hK _ _ _ _ _ R1 c1 T1 k1 s1 ⟨v,[],rfl,MM hg (by simpa using l1),rfl⟩ e1
 |md::md' ::r,x,n,K,S,m,ch,xs,O,T,R,hcl,hT,h,hK=>by unfold Jy;obtain⟨v,cs,vs',O1,O2,rfl,rfl,hg,h1,h2⟩:=h;refine DW md.2 (us' :=[]) R hcl (by simpa using hT) h1 rfl λS1 m1 cs1 n1 ch1 R1 c1 T1 k1 s1 l1 e1=>?_;refine EO (md' ::r) R1 o5 T1 h2 λS2 m2 vs2 n2 ch2 R2 c2 T2 k2 s2 l2 e2=>?_;exact hK _ _ _ _ _ R2 o5 T2 (λk l h=>k2 k l (k1 k l h)) (s1.trans s2) ⟨v,vs',rfl,MM hg (xZ k2 (by simpa using l1)),l2⟩ o5
theorem FP{Q:Unit->Sm->Prop} :∀(ns:c2i) {vs:List V} {S:Sm} {K:Cmd Unit} (R:Rel X cl ch S m ok a w) (hv:dX ⟨w.heap,ok,m⟩ vs (ns.map λn=>a.tmps.getD n Go.undef))
  (hK:∀S',Rel X cl ch S' m ok a w->K.post S' Q),(Jl ns vs K).post S Q
 |[],vs,S,K,R,hv,hK=>by
  simp only[jf]at hv;cases vs with
  |nil=>exact hK S R|cons _ _=>obtain⟨_,_,e,_⟩:=hv;cases e
 |n::ns,vs,S,K,R,hv,hK=>by
  cases vs with
  |nil=>trivial
  |cons v vs=>obtain⟨x,r,e,h1,h2⟩:=hv;simp only[dI,E8]at e;obtain⟨rfl,rfl⟩:=e;unfold Jl;refine V7 λhb=>?_;show Cmd.post _ (upd S n v) Q;exact FP ns (R.slotV (by rw[Z4]at hb;exact hb) h1) h2 hK
end
end Go.GP
namespace Go.GP
def a6y(P:Program)(t:TypeId):TD->Prop
 | .bool=>P.underlying t=some .bool| .int k=>P.underlying t=some (.int k)| .str=>P.underlying t=some .string| .sl e=>P.underlying t=some (.slice e)| .ptr e=>P.underlying t=some (.pointer e)| .struct fs=>∃fields,P.underlying t=some (.struct fields)/\fields.toList.map (λf=>(f.type,f.offset))=fs| .arr n e=>P.underlying t=some (.array n e)| .map k e=>P.underlying t=some (.map k e)| .other=>∃d,P.underlying t=some d/\(match d with| .struct _| .array _ _=>False|_=>True)
structure TiOk (P:Program) (t:TypeId) (i:TI):Prop where
 info:∃inf,P.info? t=some inf/\inf.size=i.size/\inf.bytes=i.bytes/\
  (i.zero.length=i.size->∃z,inf.zero=some z/\dD ⟨#[],λ_ _=>False,nom⟩ i.zero z.cells.toList)/\
  (∀u,i.ty=some u->u.size=i.size/\∃z,inf.zero=some z/\iY #[] (λ_ _=>False) u u.zero z.cells.toList)
 td:a6y P t i.td
 one:aB i.td=false->i.size=1
 agg:∀inf z,P.info? t=some inf->inf.zero=some z->(aB i.td=true->∃arr,z= .agg arr)/\(aB i.td=false->z.oneCell' =true)
def Zf(n:Nat)(v:Value)(rs:c2h):Prop:=rs.length=n/\v=(match rs with|[x]=>x|l=> .tuple l.toArray)
def tN(h:Array Obj):List MG->c2h->c2h->c2i->Prop
 |[],[],os,B=>os=[]/\B=[]|(_,.box _)::ms,v::vs,os,B=>∃b arr T os' B',v= .pointer (some ⟨b,0,none⟩)/\h[b]? =some (.cells arr T (0,0))/\os= .agg arr::os' /\B=b::B' /\tN h ms vs os' B'|(_,.ifc _ (.box _))::ms,v::vs,os,B=>∃t b arr T os' B',v= .iface t (.pointer (some ⟨b,0,none⟩))/\h[b]? =some (.cells arr T (0,0))/\os= .agg arr::os' /\B=b::B' /\tN h ms vs os' B'|(_,.ownb _)::ms,v::vs,os,B=>∃os',os=v::os' /\tN h ms vs os' B|(_,.sbx _ _)::ms,v::vs,os,B=>∃os',os=v::os' /\tN h ms vs os' B|_::ms,_::vs,os,B=>tN h ms vs os B|_,_,_,_=>False
def Nl(h:Array Obj)(x:Value)(off sz fo:Nat)(y:Value):Prop:=∃blk o b bo n c,x= .pointer (some ⟨blk,o,none⟩)/\bD h blk (o+off) 1=some [.slice (some ⟨b,bo,none⟩) n c]/\
 0<=O0 .i64 (n:Int) 1/\O0 .i64 (n:Int) 1<(n:Int)/\y= .pointer (some ⟨b,bo+(O0 .i64 (n:Int) 1).toNat*sz+fo,none⟩)
theorem Nl.det{h:Array Obj}{x y z:Value}{off sz fo:Nat}(h1:Nl h x off sz fo y)(h2:Nl h x off sz fo z):y=z:=by obtain⟨blk,o,b,bo,n,c,rfl,e,_,_,rfl⟩:=h1;obtain⟨blk',o',b',bo',n',c',e1,e',_,_,rfl⟩:=h2;simp only[jQ,F5,eH,and_true]at e1;obtain⟨rfl,rfl⟩:=e1;rw[e]at e';simp only[F5,E8,lI,eH,and_true]at e';obtain⟨⟨rfl,rfl⟩,rfl,rfl⟩:=e';rfl
def a1n(h:Array Obj)(all:c2h):List MG->c2h->Prop
 |(_,.dv k off sz fo)::ms,v::vs=>(∃p,all[k]? =some p/\Nl h p off sz fo v)/\a1n h all ms vs|_::ms,_::vs=>a1n h all ms vs|_,_=>True
def a0m(P:Program)(f:FuncId)(off sz:Nat):Prop:=(∃fn,P.funcs[f]? =some fn/\fn.body.isSome=true/\(fn.name== "runtime.NumGoroutine")=false)/\
 ∀(w:World) (x y:Value),Nl w.heap x off sz 0 y->Calls P f #[x] w λe w' =>e= .returned y/\∃n,w' =w.drewN n
def PlP(P:Program)(f:FuncId)(off sz:Nat):Prop:=match sz with|0=>b2y P f off|_+1=>a0m P f off sz
theorem PlP.snd{P:Program}{f:FuncId}{off sz:Nat}(h:PlP P f off sz)(hz:Nat.beq sz 0=false):a0m P f off sz:=by
 cases sz with
 |zero=>cases hz|succ n=>exact h
def aQ(P:Program)(gl:List (Nat×(t:Ty)×List t.den))(f:FuncId)(s:FSpec):Prop:=
 ∀(w:World) (ok:Nat->Ty->Prop) (O:c2i) (vals:c2h) (x:Y7 s.ps) (r:Y7 (s.rs++s.outs)),
  (∀b t,ok b t->b<w.heap.size)->O.Nodup->(∀b∈O,(∀t,¬ok b t)/\b<w.heap.size)->(∀g u,bf gl g=some u->DF ⟨w.heap,ok,nom⟩ g u.1 u.2)->
  oU w.heap ok s.ps x vals O->a1n w.heap vals s.ps vals->s.fn x=some r->
  Calls P f vals.toArray w λe w' =>∃v ok' O' rs os B,e= .returned v/\Frame' w w' O/\(∀b t,ok b t->ok' b t)/\(∀b t,ok' b t->b<w'.heap.size/\(ok b t\/w.heap.size<=b\/b∈O))/\
   (O' ++B).Nodup/\(∀b∈O' ++B,(∀t,¬ok' b t)/\b<w'.heap.size/\(w.heap.size<=b\/b∈O))/\
   Zf s.rs.length v rs/\tN w'.heap s.ps vals os B/\oU w'.heap ok' (s.rs++s.outs) r (rs++os) O'
def gI:List Ty->c2h->Prop
 |[],vs=>vs=[]| .bool::ts,vs=>∃b r,vs= .bool b::r/\gI ts r| .int k::ts,vs=>∃b r,vs= .int k b::r/\gI ts r| .str::ts,vs=>∃b r,vs= .string b::r/\gI ts r|_::_,_=>False
def a2x(P:Program)(t:TypeId)(sh:List Ty):Prop:=
 ∀(w:World) (C:Cx) (cs ds:List V) (xs ys:Array Value) (e:Bool) (op:BinOp) (x y:Operand),wX sh cs=true->wX sh ds=true->dD C cs xs.toList->dD C ds ys.toList->wo cs ds=some e->
  (op= .eql\/op= .neq)->(do eqGuard op t x y (.agg xs) (.agg ys);binOp op t (.agg xs) (.agg ys):Sem Value).run P w= .ok (.bool (if op= .eql then e else !e)) w
def Xp(P:Program)(t:TypeId)(sh:List Ty):Prop:=
 (∃fs,P.underlying t=some (.struct fs))/\∀(w:World) (xs:Array Value),gI sh xs.toList->(∀em,(Instr.checkKey em 10000 t (.agg xs)).run P w= .ok () w)/\
  ∀ys:Array Value,gI sh ys.toList->∃r,(Op.equal t (.agg xs) (.agg ys)).run P w= .ok r w/\(r=true↔xs.toList=ys.toList)
def IJ(P:Program)(t:TypeId)(sh:List Ty):Prop:=a2x P t sh/\Xp P t sh
def Ah(P:Program)(t:Nat)(n:String)(f:Nat)(d:Option Nat):Prop:=
 ∀(v:Value) (w:World),match d with
  |none=>(method (P.types.size+Made.depth) t v n).run P w= .ok (f,v) w
  |some e=>∀ad,v= .pointer (some ad)->(method (P.types.size+Made.depth) t v n).run P w=((loadVar e ad).run P w).andThen λu w' => .ok (f,u) w'
structure FxOk (X:Fx):Prop where
 nt:64*X.E.nt<=999936
 tt:∀t i,bf X.E.tt t=some i->TiOk X.P t i
 fs:∀p∈X.E.fs,aQ X.P X.E.gl p.1 p.2
 eqs:∀t sh,bf X.E.eqs t=some sh->IJ X.P t sh
 ms:∀p∈X.E.ms,Ah X.P p.1.1 p.1.2 p.2.1 p.2.2
 fn:∀p∈X.E.fs,∃fn,X.P.funcs[p.1]? =some fn/\fn.body.isSome=true/\(fn.name== "runtime.NumGoroutine")=false
 pl:∀p∈X.E.pl,PlP X.P p.1 p.2.1 p.2.2
theorem FxOk.ntB{X:Fx}(H:FxOk X):X.E.nt<=U8:=by have:=H.nt;show X.E.nt<=1000000;omega
def eX(X:Fx)(cl ch:Nat)(o:Oper)(a:Act)(w:World)(m:Mp)(ok:Nat->Ty->Prop)(S' :Sm):Prop:=
 ∀(next:Act->World->Prop) (Q:Exit->Act->World->Prop),
  (∀m' ok' a' w',Rel X cl ch S' m' ok' a' w' ->(∀k l,m k=some l->m' k=some l)->(∀b t,ok b t->ok' b t)->next a' w')->o.wp X.P a w next Q
theorem Ep{α:Type}{ι:Sort _}{Q:ι->α->Sm->Prop} :∀{c:Cmd α} {S:Sm},(∀i,c.post S (Q i))->c.post S (λx S' =>∀i,Q i x S')
 | .ret x,S,h=>λi=>h i| .fail,S,h=>trivial| .get k c,S,h=>Ep (c:=c (S k)) h| .set k v c,S,h=>Ep (c:=c) h
 | .opt o c,S,h=>λx e=>Ep (c:=c x) λi=>h i x e| .br b c d,S,h=>⟨λe=>Ep (c:=c) λi=>(h i).1 e,λe=>Ep (c:=d) λi=>(h i).2 e⟩
variable {x:Operand}{k:IntKind}{y:Operand}{α:Type}{Q:α->Sm->Prop}{C:Cx}{v:Value}{op:BinOp}{t:TypeId}{yt:TypeId}
section
variable {X:Fx} {cl ch:Nat} {S:Sm} {m:Mp} {ok:Nat->Ty->Prop} {a:Act} {w:World} {o:Oper}
theorem aS{b:Bool}{c:Cmd α}{S:Sm}(h:b=true->c.post S Q):(bif b then c else Cmd.fail).post S Q:=by
 cases b
 .trivial
 .exact h rfl
theorem EG{a b:Nat}(h:Nat.blt a b=true):a<b:=by rw[Z4]at h;exact h
theorem mX(H:FxOk X){S:Sm}{m0 m:Mp}{ok0 ok:Nat->Ty->Prop}{w0 w:World}{a:Act}(R:Rel X cl ch S m ok a w)(hm:∀k l,m0 k=some l->m k=some l)(hok:∀b t,ok0 b t->ok b t)
  {v:V} {x:Value} (hv:iI ⟨w.heap,ok,m⟩ v x) (run:(execOp a.eval o).run X.P w0= .ok (.value x) w):
  (bJ X.E o.dst v).post S (λ_ S' =>eX X cl ch o a w0 m0 ok0 S'):=by
 unfold bJ;cases hd:o.dst with
 |none=>
  intro next Q hn
  unfold Oper.wp;rw[run,kw,hd];exact hn m ok a w R hm hok
 |some d=>
  refine aS λhb=>?_;intro next Q hn
  unfold Oper.wp;rw[run,kw,hd];exact hn m ok _ w (R.put H.ntB hb hv) hm hok
theorem Zw(C:Cx)(v:Value):iI C (Zv v) v:=by unfold Zv;split<;>first|exact rfl|trivial
theorem Y9(R:Rel X cl ch S m ok a w){K:V->Cmd α}(hK:∀v,iI ⟨w.heap,ok,m⟩ v (a.eval x)->(K v).post S Q):(lQ x K).post S Q:=by
 unfold lQ;cases x with
 |tmp t=>exact aS λhb=>hK (S t) (R.slot t (EG hb))|const v=>exact hK _ (Zw _ v)|global g=>exact hK _ rfl|func f=>exact hK _ rfl
theorem jh{α:Type}{Q:α->Sm->Prop}(R:Rel X cl ch S m ok a w):∀(xs:List Operand) {K:List V->Cmd α} (hK:∀vs,dX ⟨w.heap,ok,m⟩ vs (xs.map a.eval)->(K vs).post S Q),(Md xs K).post S Q
 |[],K,hK=>hK [] rfl
 |x::r,K,hK=>by unfold Md;refine Y9 R λv hv=>?_;exact jh R r λvs hvs=>hK _ ⟨_,_,rfl,hv,hvs⟩
theorem Z5(H:FxOk X)(R:Rel X cl ch S m ok a w){v:V}{x:Value}(hv:iI ⟨w.heap,ok,m⟩ v x)(run:(execOp a.eval o).run X.P w= .ok (.value x) w):
  (bJ X.E o.dst v).post S (λ_ S' =>eX X cl ch o a w m ok S'):=mX H R (λ_ _ h=>h) (λ_ _ h=>h) hv run
theorem Oc{x:Bool}(h:iI C (.b x) v):v= .bool x:=h
theorem oV{n:Int}(h:iI C (.i k n) v):v= .int k n:=h
theorem Ie{l:c2f}(h:iI C (.s l) v):v= .string ⟨l.toArray⟩:=h
theorem a0X(H:FxOk X)(R:Rel X cl ch S m ok a w)(ho:o.op= .move x\/o.op= .assign x):(lQ x λv=>bJ X.E o.dst v).post S (λ_ S' =>eX X cl ch o a w m ok S'):=by refine Y9 R λv hv=>Z5 H R hv ?_;rcases ho with ho|ho<;>simp[execOp,ho]
theorem a7b(H:FxOk X)(R:Rel X cl ch S m ok a w){c x y:Operand}{q:Nat}(ho:o.op= .pick c x y):(aG X.E q o).post S (λ_ S' =>eX X cl ch o a w m ok S'):=by
 unfold aG;simp only[ho];refine Y9 R λv hv=>?_;split<;>try trivial
 rename_i t;have hc:=Oc hv;cases t
 .simp only[cond_false];refine Y9 R λv hv=>Z5 H R hv ?_;simp[execOp,ho,hc,asBool]
 .simp only[cond_true];refine Y9 R λv hv=>Z5 H R hv ?_;simp[execOp,ho,hc,asBool]
theorem bF{α β:Type}{Q:α->Sm->Prop}{x:Option β}{c:β->Cmd α}{S:Sm}(h:∀y,x=some y->(c y).post S Q):(Cmd.opt x c).post S Q:=h
theorem a1l{yc:Operand}{a:Act}{b:Int}(h:zX yc=false)(he:a.eval yc= .int k b):b≠0:=by
 unfold zX at h;split at h
 .simp[Act.eval]at he;obtain⟨_,rfl⟩:=he;simpa using h
 .simp at h
theorem a3g{yc:Operand}{a:Act}{b:Int}(h:Ed yc=false)(he:a.eval yc= .int k b):¬b<0:=by
 unfold Ed at h;split at h
 .simp[Act.eval]at he;obtain⟨_,rfl⟩:=he;simpa using h
 .simp at h
theorem a1T(H:FxOk X)(R:Rel X cl ch S m ok a w)(ho:o.op= .binOp op t x y yt){k k' :IntKind}{p q:Int}
  (hx:a.eval x= .int k p) (hy:a.eval y= .int k' q):(GN X.E t op y (.i k p) (.i k' q) λv=>bJ X.E o.dst v).post S (λ_ S' =>eX X cl ch o a w m ok S'):=by
 have run:∀v,(binOp op t (.int k p) (.int k' q)).run X.P w= .ok v w->(execOp a.eval o).run X.P w= .ok (.value v) w:=λv h=>by simp[execOp,ho,hx,hy,eqGuard_at_int,h]
 have fin:∀(v:V) (u:Value),iI ⟨w.heap,ok,m⟩ v u->(binOp op t (.int k p) (.int k' q)).run X.P w= .ok u w->(bJ X.E o.dst v).post S (λ_ S' =>eX X cl ch o a w m ok S'):=
  λv u hv h=>Z5 H R hv (run u h)
 unfold GN;cases op<;>simp only[]
 case shl=>
  cases hn:Ed y
  .simp only[cond_false];have h0:=a3g hn hy;exact fin _ _ rfl (by simp[binOp,Op.shift,h0,a6M])
  .simp only[cond_true];refine bF λr hr=>?_;unfold XO at hr;split at hr
   .cases hr
   .rename_i h0;cases hr;exact fin _ _ rfl (by simp[binOp,Op.shift,h0,a6M])
 case shr=>
  cases hn:Ed y
  .simp only[cond_false];have h0:=a3g hn hy;exact fin _ _ rfl (by simp[binOp,Op.shift,h0,qB])
  .simp only[cond_true];refine bF λr hr=>?_;unfold a0I at hr;split at hr
   .cases hr
   .rename_i h0;cases hr;exact fin _ _ rfl (by simp[binOp,Op.shift,h0,qB])
 all_goals
  refine aS λhk=>?_;have hk' :k=k' :=of_decide_eq_true hk;subst hk'
 case quo=>
  cases hz:zX y
  .simp only[cond_false];have h0:=a1l hz hy;exact fin _ _ rfl (by simp[binOp,Op.intDiv,h0,iO])
  .simp only[cond_true];refine bF λr hr=>?_;unfold Vg at hr;split at hr
   .cases hr
   .rename_i h0;cases hr;exact fin _ _ rfl (by simp[binOp,Op.intDiv,h0])
 case rem=>
  cases hz:zX y
  .simp only[cond_false];have h0:=a1l hz hy;exact fin _ _ rfl (by simp[binOp,Op.intDiv,h0,qA])
  .simp only[cond_true];refine bF λr hr=>?_;unfold a0H at hr;split at hr
   .cases hr
   .rename_i h0;cases hr;exact fin _ _ rfl (by simp[binOp,Op.intDiv,h0])
 case add=>exact fin _ _ rfl (by simp[binOp,Op.intArith,D7])
 case sub=>exact fin _ _ rfl (by simp[binOp,Op.intArith,O0])
 case mul=>exact fin _ _ rfl (by simp[binOp,Op.intArith,kZ])
 case and=>exact fin _ _ rfl (by simp[binOp,Op.intBits,a1F])
 case or=>exact fin _ _ rfl (by simp[binOp,Op.intBits,ior])
 case xor=>exact fin _ _ rfl (by simp[binOp,Op.intBits,a3a])
 case andNot=>exact fin _ _ rfl (by simp[binOp,Op.intBits,a0F])
 case eql=>exact fin _ _ rfl (by simp[binOp,Op.intCmp,x9];rfl)
 case neq=>exact fin _ _ rfl (by simp[binOp,Op.intCmp,x9,E5];rfl)
 case lss=>exact fin _ _ rfl (by simp[binOp,Op.intCmp,F9])
 case leq=>exact fin _ _ rfl (by simp[binOp,Op.intCmp,U4])
 case gtr=>exact fin _ _ rfl (by simp[binOp,Op.intCmp,F9])
 case geq=>exact fin _ _ rfl (by simp[binOp,Op.intCmp,U4])
theorem a1U(H:FxOk X)(R:Rel X cl ch S m ok a w)(ho:o.op= .binOp op t x y yt){p q:c2f}
  (hx:a.eval x= .string ⟨p.toArray⟩) (hy:a.eval y= .string ⟨q.toArray⟩):(GN X.E t op y (.s p) (.s q) λv=>bJ X.E o.dst v).post S (λ_ S' =>eX X cl ch o a w m ok S'):=by
 have run:∀v,(Op.stringOp op ⟨p.toArray⟩ ⟨q.toArray⟩).run X.P w= .ok v w->(execOp a.eval o).run X.P w= .ok (.value v) w:=λv h=>by simp[execOp,ho,hx,hy,eqGuard_at_string,binOp,h]
 have fin:∀(v:V) (u:Value),iI ⟨w.heap,ok,m⟩ v u->(Op.stringOp op ⟨p.toArray⟩ ⟨q.toArray⟩).run X.P w= .ok u w->(bJ X.E o.dst v).post S (λ_ S' =>eX X cl ch o a w m ok S'):=
  λv u hv h=>Z5 H R hv (run u h)
 unfold GN;cases op<;>simp only[]<;>try trivial
 case add=>
  refine bF λr hr=>?_;unfold bz at hr;split at hr
  .rename_i hle;cases hr;have e:(⟨p.toArray⟩:ByteArray)++⟨q.toArray⟩=⟨(p++q).toArray⟩:=by
    apply ByteArray.ext;apply iE;simp[ByteArray.data_append]
   refine fin _ (.string ⟨(p++q).toArray⟩) rfl ?_;have hs:¬((9223372036854775807:Int)<(p.length:Int)+(q.length:Int)):=o5;simp[Op.stringOp,e,ByteArray.size,hs]
  .cases hr
 case eql=>exact fin _ _ rfl (by simp only[Op.stringOp,ByteArray.toList_mk,seq,U0];rw[show(p==q)=decide (p=q) by rw[iQ];simp])
 case neq=>exact fin _ _ rfl (by simp only[Op.stringOp,ByteArray.toList_mk,seq,E5,U0];rw[show(p==q)=decide (p=q) by rw[iQ];simp])
 case lss=>exact fin _ _ rfl (by simp[Op.stringOp,ByteArray.toList_mk,slt])
theorem ZY(H:FxOk X)(R:Rel X cl ch S m ok a w)(ho:o.op= .binOp op t x y yt){p q:Bool}
  (hx:a.eval x= .bool p) (hy:a.eval y= .bool q):(GN X.E t op y (.b p) (.b q) λv=>bJ X.E o.dst v).post S (λ_ S' =>eX X cl ch o a w m ok S'):=by
 unfold GN;cases hi:bf X.E.tt t with
 |none=>trivial|some i=>
 have ht' :=(H.tt t i hi).td;simp only[];cases hd:i.td<;>try trivial
 rw[hd]at ht';have ht:X.P.underlying t=some .bool:=ht';have he' :∀d,(Op.equalIn (d+1) t (.bool p) (.bool q)).run X.P w= .ok (p==q) w:=λd=>by simp[Op.equalIn,run_underlying ht]
 have he:(Op.equal t (.bool p) (.bool q)).run X.P w= .ok (p==q) w:=he' 9999;have run:∀v,(binOp op t (.bool p) (.bool q)).run X.P w= .ok v w->(execOp a.eval o).run X.P w= .ok (.value v) w:=λv h=>by simp[execOp,ho,hx,hy,eqGuard_at_bool,h]
 have fin:∀(v:V) (u:Value),iI ⟨w.heap,ok,m⟩ v u->(binOp op t (.bool p) (.bool q)).run X.P w= .ok u w->(bJ X.E o.dst v).post S (λ_ S' =>eX X cl ch o a w m ok S'):=
  λv u hv h=>Z5 H R hv (run u h)
 cases op<;>try trivial
 case eql=>exact fin _ _ rfl (by simp[binOp,he,Ak])
 case neq=>exact fin _ _ rfl (by simp[binOp,he,Ak,E5])
end
end Go.GP
namespace Go.GP
variable {x:Operand}{t:TypeId}{q:Nat}
section
variable {X:Fx} {cl ch:Nat} {S:Sm} {m:Mp} {ok:Nat->Ty->Prop} {a:Act} {w:World} {o:Oper}
theorem gB{α:Type}{Q:α->Sm->Prop}(H:FxOk X){t:Nat}{K:TI->Cmd α}(hK:∀i,TiOk X.P t i->(K i).post S Q):(tiC X.E t K).post S Q:=by
 unfold tiC;cases hi:bf X.E.tt t with
 |none=>trivial|some i=>exact hK i (H.tt t i hi)
theorem a2p{P:Program} :∀{d:TD},a6y P t d->∃e,P.underlying t=some e
 | .bool,h=>⟨_,h⟩| .int _,h=>⟨_,h⟩| .str,h=>⟨_,h⟩| .sl _,h=>⟨_,h⟩| .ptr _,h=>⟨_,h⟩| .struct _,⟨_,h,_⟩=>⟨_,h⟩| .arr _ _,h=>⟨_,h⟩| .map _ _,h=>⟨_,h⟩| .other,⟨_,h,_⟩=>⟨_,h⟩
theorem Wv(H:FxOk X)(R:Rel X cl ch S m ok a w){op:BinOp}{x y:Operand}{yt:TypeId}(ho:o.op= .binOp op t x y yt){ad:Option Addr}{n c:Nat}
  (hx:a.eval x= .slice ad n c) (hy:a.eval y= .slice none 0 0):(a3h X.E t op ad.isNone λv=>bJ X.E o.dst v).post S (λ_ S' =>eX X cl ch o a w m ok S'):=by
 unfold a3h;cases hi:bf X.E.tt t with
 |none=>trivial|some i=>
 have ht' :=(H.tt t i hi).td;simp only[];cases hd:i.td<;>try trivial
 rename_i e;rw[hd]at ht';have ht:X.P.underlying t=some (.slice e):=ht';have he' :∀d,(Op.equalIn (d+1) t (.slice ad n c) (.slice none 0 0)).run X.P w= .ok ad.isNone w:=λd=>by cases ad<;>simp[Op.equalIn,run_underlying ht]
 have he:(Op.equal t (.slice ad n c) (.slice none 0 0)).run X.P w= .ok ad.isNone w:=he' 9999;have run:∀v,(binOp op t (.slice ad n c) (.slice none 0 0)).run X.P w= .ok v w->(execOp a.eval o).run X.P w= .ok (.value v) w:=λv h=>by simp[execOp,ho,hx,hy,eqGuard_at_slice,h]
 cases op<;>try trivial
 case eql=>exact Z5 H R (v:=.b ad.isNone) (x:=.bool ad.isNone) rfl (run _ (by simp[binOp,he]))
 case neq=>exact Z5 H R (v:=.b (E5 ad.isNone)) (x:=.bool (!ad.isNone)) rfl (run _ (by simp[binOp,he]))
theorem a3o(H:FxOk X)(R:Rel X cl ch S m ok a w){op:BinOp}{x y:Operand}{yt:TypeId}(ho:o.op= .binOp op t x y yt):
  (aG X.E q o).post S (λ_ S' =>eX X cl ch o a w m ok S'):=by
 unfold aG;simp only[ho];refine Y9 R λu hu=>Y9 R λv hv=>?_;cases u<;>try (unfold GN;trivial)
 case b p=>
  cases v<;>try (unfold GN;trivial)
  exact ZY H R ho (Oc hu) (Oc hv)
 case i k p=>
  cases v<;>try (unfold GN;trivial)
  exact a1T H R ho (oV hu) (oV hv)
 case s p=>
  cases v<;>try (unfold GN;trivial)
  exact a1U H R ho (Ie hu) (Ie hv)
 case nl=>
  cases v<;>try (unfold GN;trivial)
  exact Wv H R ho (ad:=none) (show a.eval x= .slice none 0 0 from hu) hv
 case ne=>
  cases v<;>try (unfold GN;trivial)
  obtain⟨ad,c,hx,hb⟩:=hu;subst hb;exact Wv H R ho (ad:=ad) hx hv
 case sl t' xs=>
  cases v<;>try (unfold GN;trivial)
  unfold GN;simp only[];cases ht:t'.isEnt
  .simp only[cond_false];obtain⟨ad,c,hx,hle,hx'⟩:=(vz ht).1 (show iY w.heap ok (.sl t') xs [a.eval x]from hu);cases xs with
   |nil=>exact⟨λ_=>trivial,λh=>by simp[x9,o8]at h⟩|cons z zs=>obtain⟨blk,off,es,rfl,_⟩:=hx' 0 z rfl;exact⟨λ_=>trivial,λ_=>Wv H R ho (ad:=some _) (by simpa using hx) hv⟩
  .trivial
 case agg cs=>
  cases v<;>try (unfold GN;trivial)
  case agg ds=>
  obtain⟨xs,hx,hl⟩:=hu;obtain⟨ys,hy,hl'⟩:=hv;unfold GN;simp only[];cases hq:bf X.E.eqs t with
  |none=>trivial|some sh=>
  simp only[];refine aS λhm=>?_;simp only[o9]at hm;have hE:=(H.eqs t sh hq).1;cases he:wo cs ds with
  |none=>cases op<;>trivial|some e=>
   cases op<;>try trivial
   case eql=>refine Z5 H R (v:=.b e) (x:=.bool e) rfl ?_;have h:=hE w _ cs ds xs ys e .eql x y hm.1 hm.2 hl hl' he (.inl rfl);simp only[execOp,ho,hx,hy];rw[E9,h];rfl
   case neq=>refine Z5 H R (v:=.b (E5 e)) (x:=.bool (!e)) rfl ?_;have h:=hE w _ cs ds xs ys e .neq x y hm.1 hm.2 hl hl' he (.inr rfl);simp only[execOp,ho,hx,hy];rw[E9,h];rfl
theorem a7c(H:FxOk X)(R:Rel X cl ch S m ok a w){op:UnOp}(ho:o.op= .unOp op t x):
  (aG X.E q o).post S (λ_ S' =>eX X cl ch o a w m ok S'):=by
 unfold aG;simp only[ho];refine Y9 R λu hu=>?_;cases u<;>cases op<;>try (unfold unC;trivial)
 case b.not p=>exact Z5 H R (v:=.b (E5 p)) (x:=.bool (!p)) rfl (by simp[execOp,ho,Oc hu,Op.unary])
 case i.neg k p=>exact Z5 H R (v:=.i k (O0 k 0 p)) (x:=.int k (k.wrap (0 -p))) rfl (by simp[execOp,ho,oV hu,Op.unary,Op.intArith])
 case i.xor k p=>exact Z5 H R (v:=.i k (a3a k (bif k.signed then -1 else k.max) p)) rfl (by simp only[execOp,ho,oV hu,Op.unary,Op.intBits,a3a];cases k.signed<;>simp)
theorem a3A{α:Type}{Q:α->Sm->Prop}(R:Rel X cl ch S m ok a w){u:Ty}{y:V}{vy:Value}{K:List u.den->Cmd α}(hy:iI ⟨w.heap,ok,m⟩ y vy)
  (hK:∀xs,iY w.heap (λ_ _=>True) (.sl u) xs [vy]->(K xs).post S Q):(Yq u y K).post S Q:=by
 unfold Yq;split<;>try trivial
 .have hv:vy= .slice none 0 0:=hy;subst hv;cases ht:u.isEnt
  .exact hK [] (.inl ⟨ht,none,0,rfl,D9 _,λi x hi=>by simp at hi⟩)
  .trivial
 .obtain⟨ad,c,rfl,_⟩:=(show ∃a c,vy=Value.slice a 0 c/\a.isNone=_ from hy);cases ht:u.isEnt
  .exact hK [] (.inl ⟨ht,ad,c,rfl,bT _,λi x hi=>by simp at hi⟩)
  .trivial
 .refine dw λe=>?_;subst e;exact hK _ (bZ (λ_ _ _=>trivial) (λ_ _ _=>rfl) (show iY w.heap ok (.sl _) _ [vy]from hy))
 .rename_i bx vw;obtain⟨l,hm,hv⟩:=hy;show Cmd.post (match S (U8+bx)with| .barr t' xs=>_| .bfrz t' xs=>_|_=>_) S Q;have hb:=R.box bx;split<;>try trivial
  .rename_i t' xs hS;rw[hS]at hb;obtain⟨l',hm',ha⟩:=hb;simp only at hm hm';rw[hm]at hm';cases hm';refine dw λe=>?_;subst e;exact hK _ (kY (C:=⟨w.heap,ok,m⟩) ha hv (λ_ _ _=>trivial) (λ_ _=>trivial))
  .rename_i t' xs hS;rw[hS]at hb;obtain⟨l',hm',ha,hok⟩:=hb;simp only at hm hm';rw[hm]at hm';cases hm';refine dw λe=>?_;subst e;exact hK _ (kY (C:=⟨w.heap,ok,m⟩) ha hv (λ_ _ _=>trivial) (λ_ _=>trivial))
theorem Yk(H:FxOk X)(R:Rel X cl ch S m ok a w){src t:TypeId}(ho:o.op= .convert src t x)
  (hB:∀l,a.eval x= .string ⟨l.toArray⟩->X.P.underlying src=some .string->(a2L X.E (J5 q o.dst) t l λv=>bJ X.E o.dst v).post S (λ_ S' =>eX X cl ch o a w m ok S')):
  (aG X.E q o).post S (λ_ S' =>eX X cl ch o a w m ok S'):=by
 unfold aG;simp only[ho];refine Y9 R λu hu=>gB H λj hj=>gB H λi hi=>?_;obtain⟨e,he⟩:=a2p hj.td;have hd:=hi.td;split<;>try trivial
 .rename_i k' n k htd;rw[htd]at hd;exact Z5 H R (v:=.i k (wrap k n)) (x:=.int k (k.wrap n)) rfl (by simp[execOp,ho,oV hu,convert,run_underlying he,run_underlying (show X.P.underlying t=some (.int k)from hd),Conv.intToInt])
 .rename_i l htd;rw[htd]at hd;refine Z5 H R (v:=.s l) (x:=.string ⟨l.toArray⟩) rfl ?_;simp only[execOp,ho,Ie hu,convert,E9,run_underlying he,run_underlying (show X.P.underlying t=some .string from hd),G5];cases e<;>simp
 .split<;>try trivial
  rename_i l _ _ _ hjd;have hjs:=hj.td;rw[hjd]at hjs;exact hB l (Ie hu) hjs
 .rename_i hns htd;rw[htd]at hd;split<;>try trivial
  rename_i el hjd;have hjs:=hj.td;rw[hjd]at hjs;refine gB H λk hk=>?_;have hkd:=hk.td;split<;>try trivial
  rename_i hke;rw[hke]at hkd;refine a3A R hu λxs hr=>?_;obtain⟨ad,cap,hv,hcap,hcells⟩:=(vz rfl).1 hr;have hv:=(N9 hv).1;refine Z5 H R (v:=.s (a2J xs)) (x:=.string ⟨(a2J xs).toArray⟩) rfl ?_;have hh:(convert src t (a.eval x)).run X.P w= .ok (.string ⟨(a2J xs).toArray⟩) w:=by
   rw[hv];cases xs with
   |nil=>
    have:=run_convert_bytes_nil (P:=X.P) w src el hjs hkd 0 cap t hd;cases ad with
    |none=>exact this|some ad=>obtain⟨b,o,s⟩:=ad;rw[run_convert_bytes_string w src t el _ _ cap hjs hkd hd];simp[Conv.bytesToString,a2J];rfl
   |cons y ys=>
    obtain⟨blk,off,es,rfl,_,_,_⟩:=hcells 0 y rfl;have:=run_convert_bytes_arg (P:=X.P) w src el hjs hkd blk off (y::ys).length cap (y::ys) rfl (λi hi=>?_) t hd
    .exact this
    .obtain⟨blk2,off2,es2,e2,_,hc,hr2⟩:=hcells i _ (iP hi);simp only[F5,eH]at e2;obtain⟨rfl,rfl,_⟩:=e2;obtain⟨c,T,f,hb,hn,rfl⟩:=lY hc;have hr3:((c.toList.drop (off+i*1)).take 1)=[.int .u8 (y::ys)[i]]:=hr2;have h5:=congrArg (λl=>l[0]?) hr3;simp only[V4 (show 0<1 by omega),L6,aj,aK,aN,Y1]at h5;simp only[World.cell?,hb,h5,Option.isSome_none];simp[List.getD,iP hi]
  simp only[execOp,ho];rw[E9,hh];rfl
theorem a_(H:FxOk X)(R:Rel X cl ch S m ok a w){n:Nat}(ho:o.op= .extract x n):
  (aG X.E q o).post S (λ_ S' =>eX X cl ch o a w m ok S'):=by
 unfold aG;simp only[ho];refine Y9 R λu hu=>?_;cases u<;>try trivial
 case tup vs=>
 obtain⟨arr,hx,hl⟩:=hu;have key:∀(vs:List V) (us:c2h) (n:Nat) (v:V),WJ ⟨w.heap,ok,m⟩ vs us->vs[n]? =some v->∃u,us[n]? =some u/\iI ⟨w.heap,ok,m⟩ v u:=by
  intro vs;induction vs with
  |nil=>intro us n v _ h;simp at h|cons c cs ih=>
   rintro us n v ⟨u,r,rfl,h1,h2⟩ h;cases n with
   |zero=>simp at h;subst h;refine⟨u,rfl,?_⟩;cases c<;>first|exact h1|exact h1.elim
   |succ n=>simpa using ih r n v h2 (by simpa using h)
 simp only[];split
 .rename_i v hv;obtain⟨u,hu,hr⟩:=key vs arr.toList n v hl hv;refine Z5 H R hr ?_;have:arr[n]? =some u:=by simpa using hu
  simp[execOp,ho,hx,Instr.extract,this]
 .trivial
theorem a3t(H:FxOk X)(R:Rel X cl ch S m ok a w){x ix:Operand}(ho:o.op= .index t x ix):
  (aG X.E q o).post S (λ_ S' =>eX X cl ch o a w m ok S'):=by
 unfold aG;simp only[ho];refine Y9 R λu hu=>Y9 R λv hv=>gB H λi hi=>?_;have hd:=hi.td;split<;>try trivial
 rename_i l k n htd;rw[htd]at hd;refine bF λc hc=>?_;unfold sat at hc;split at hc
 .rename_i h0;cases hl:l[n.toNat]? with
  |none=>simp[hl]at hc|some b=>
   simp[hl]at hc;subst hc;refine Z5 H R (v:=.i .u8 b.toNat) (x:=.int .u8 b.toNat) rfl ?_;have e:(⟨l.toArray⟩:ByteArray)[n.toNat]? =some b:=by
    obtain⟨h1,h2⟩:=aF.1 hl;have hs:n.toNat<(⟨l.toArray⟩:ByteArray).size:=by simpa[ByteArray.size]using h1
    show decidableGetElem? _ _=_;unfold decidableGetElem?;rw[dif_pos hs,←h2];rfl
   simp[execOp,ho,Ie hu,oV hv,Instr.index,asIntOf,run_underlying (show X.P.underlying t=some .string from hd),h0,e]
 .cases hc
theorem Ym(H:FxOk X)(R:Rel X cl ch S m ok a w)(ho:o.op= .nilCheck x):
  (aG X.E q o).post S (λ_ S' =>eX X cl ch o a w m ok S'):=by
 unfold aG;simp only[ho];refine Y9 R λu hu=>?_;cases u<;>try trivial
 case ptr bx f=>obtain⟨b,h1,h2⟩:=hu;exact Z5 H R (v:=.ptr bx f) ⟨b,h1,h2⟩ (by simp[execOp,ho,h2])
 case ep bx ix f=>obtain⟨_,_,_,_,_,h1,h2,h3⟩:=hu;exact Z5 H R (v:=.ep bx ix f) ⟨_,_,_,_,_,h1,h2,h3⟩ (by simp[execOp,ho,h3])
 case dp u y f=>obtain⟨_,_,_,h1,h2⟩:=hu;exact Z5 H R (v:=.dp u y f) ⟨_,_,_,h1,h2⟩ (by simp[execOp,ho,h1])
 case glob g=>exact Z5 H R (v:=.glob g) hu (by have hu:a.eval x=_:=hu;simp[execOp,ho,hu])
end
end Go.GP
namespace Go.GP
variable {n:Nat}{off:Nat}{blk:Nat}{es:c2h}
theorem qg{w:World}(e:bD w.heap blk off n=some es){j:Nat}{v:Value}(h:es[j]? =some v):w.cell? ⟨blk,off+j,none⟩=some v:=by
 obtain⟨c,T,f,hb,hn,rfl⟩:=lY e;rw[cell_of_row w blk (off+j) c T f hb];have hj:j<n:=by have:=(aF.1 h).1;simp at this;omega
 rw[U1,if_pos hj,L6]at h;simpa using h
variable {t:TypeId}{P:Program}
theorem Ac{d:TD}(h:a6y P t d)(w:World):(isAgg t).run P w= .ok (aB d) w:=by
 unfold isAgg;cases d<;>simp only[a6y]at h
 case struct fs=>obtain⟨fields,hu,_⟩:=h;rw[E9,run_underlying hu];rfl
 case other=>obtain⟨e,hu,hn⟩:=h;rw[E9,run_underlying hu];cases e<;>first|rfl|exact hn.elim
 all_goals (rw[E9,run_underlying h];rfl)
variable {i:TI}
theorem mO(h:TiOk P t i)(w:World):(sizeOf t).run P w= .ok i.size w:=by obtain⟨inf,h1,h2,_⟩:=h.info;simp[sizeOf,typeInfo,h1,h2]
def Nh(ag:Bool)(es:c2h):Value:=match ag with|true=> .agg es.toArray|false=>es.headD Go.undef
theorem nN(hi:TiOk P t i)(w:World)(e:bD w.heap blk off i.size=some es):
  (loadVar t ⟨blk,off,none⟩).run P w= .ok (Nh (aB i.td) es) w:=by
 have hl:=jT e;unfold loadVar;rw[E9,Ac hi.td];simp only[G5];cases ha:aB i.td
 .have h1:=hi.one ha;rw[h1]at hl;obtain⟨v,rfl⟩:∃v,es=[v]:=by
   cases es with
   |nil=>simp at hl
   |cons v r=>cases r with
    |nil=>exact⟨v,rfl⟩|cons _ _=>simp at hl
  have hc:=qg e (j:=0) (v:=v) rfl;simp only[aj]at hc;simp[hc,Nh]
 .have hc:=run_loadCells_list (P:=P) w ⟨blk,off,none⟩ es (λj v h=>by rw[dW];exact qg e h);rw[hl]at hc;simp[mO hi,hc,Nh]
variable {C:Cx}{cs:List V}
theorem yf{ag:Bool}(h:dD C cs es)(h1:ag=false->es.length=1):iI C (mkV ag cs) (Nh ag es):=by
 refine MM (us:=es) ?_ h;cases ag
 .have:=h1 rfl;obtain⟨v,rfl⟩:∃v,es=[v]:=by
   cases es with
   |nil=>simp at this
   |cons v r=>cases r with
    |nil=>exact⟨v,rfl⟩|cons _ _=>simp at this
  rfl
 .exact⟨es.toArray,rfl,A8⟩
theorem Rt:∀(n:Nat) (cs r:List V),Ro n cs=some r->n<=cs.length/\r=cs.drop n
 |0,cs,r,h=>by simp[Ro]at h;simp[h]|n+1,[],r,h=>by simp[Ro]at h|n+1,c::cs,r,h=>by obtain⟨h1,h2⟩:=Rt n cs r (by simpa[Ro]using h);exact⟨by simp;omega,by simpa using h2⟩
theorem TQ{α:Type}{Q:α->Sm->Prop}{S:Sm} :∀(n:Nat) (cs:List V) {K:List V->Cmd α} (hK:n<=cs.length->(K (cs.take n)).post S Q),(YX n cs K .fail).post S Q
 |0,cs,K,hK=>by simpa[YX]using hK (bT _)|n+1,[],K,hK=>trivial
 |n+1,c::cs,K,hK=>by unfold YX;exact TQ n cs λh=>by simpa using hK az
variable {α:Type}{Q:α->Sm->Prop}
theorem tC{S:Sm}{K:List V->Cmd α}(hK:off+n<=cs.length->(K ((cs.drop off).take n)).post S Q):(OD off n cs K .fail).post S Q:=by
 unfold OD;split
 .rename_i r hr;obtain⟨h1,rfl⟩:=Rt _ _ _ hr;refine TQ n _ λh=>hK ?_;simp at h;omega
 .trivial
def Z8(off:Nat)(vs cs:List α):List α:=cs.take off++vs++cs.drop (off+vs.length)
theorem xX{α:Type}{Q:α->Sm->Prop}{S:Sm} :∀(off:Nat) (vs cs:List V) {K:List V->Cmd α} (hK:off+vs.length<=cs.length->(K (Z8 off vs cs)).post S Q),(MF off vs cs K .fail).post S Q
 |0,[],cs,K,hK=>by have:=hK A8;cases cs<;>simpa[MF,Z8]using this|0,v::vs,[],K,hK=>by simp[MF];trivial
 |0,v::vs,c::cs,K,hK=>by unfold MF;exact xX 0 vs cs λh=>by simpa[Z8]using hK (by simp at h ⊢;omega)|n+1,vs,[],K,hK=>by cases vs<;>simp[MF]<;>trivial|n+1,vs,c::cs,K,hK=>by
  have e:MF (n+1) vs (c::cs) K Cmd.fail=MF n vs cs (λr=>K (c::r)) Cmd.fail:=by cases vs<;>rfl
  rw[e];refine xX n vs cs λh=>?_;have:=hK az;have e2:n+1+vs.length=(n+vs.length)+1:=o5;simpa[Z8,e2]using this
theorem yM{vs cs:List V}{us xs:c2h}(hv:dD C vs us)(hc:dD C cs xs):dD C (Z8 off vs cs) (Z8 off us xs):=by unfold Z8;rw[←gZ hv];exact rE (rE (oQ off hc) hv) (nC _ hc)
theorem tq{P:Program}(g o:Nat)(t:TypeId):∀(vs:c2h) (i:Nat) (cur:Array Value) (f:Nat×Nat) (w:World),w.heap[g]? =some (.cells cur t f)->(f=(0,0)\/f=(cur.size,cur.size+1))->o+i+vs.length<=cur.size->(∀v∈vs,v.oneCell' =true)->
  (storeCells ⟨g,o,none⟩ vs i).run P w= .ok () (w.setRow g (cur.toList.take (o+i)++vs++cur.toList.drop (o+i+vs.length)).toArray)
 |[],i,cur,f,w,hg,_,_,_=>by simp only[storeCells,G6,bM,aj,fO,Array.toArray_toList];rw[setRow_self w g cur t f hg];rfl|v::rest,i,cur,f,w,hg,hf,hl,h1=>by
  have hi:o+i<cur.size:=by simp at hl;omega
  have hadd:(⟨g,o,none⟩:Addr).add i=⟨g,o+i,none⟩:=by unfold Addr.add;split<;>simp_all
  have hcell:w.cell? ⟨g,o+i,none⟩=some cur[o+i]:=by simp[World.cell?,hg,hi]
  have hfro:w.frozen? ⟨g,o+i,none⟩=false:=by rcases hf with rfl|rfl<;>simp[World.frozen?,hg];omega
  have hst:(store ((⟨g,o,none⟩:Addr).add i) v).run P w= .ok () (w.setRow g (cur.setIfInBounds (o+i) v)):=by rw[hadd,run_store P w _ v _ (h1 v A8),hcell];simp[hfro,setCell_eq_setRow w g (o+i) cur t f v hg]
  have ih:=tq (P:=P) g o t rest (i+1) (cur.setIfInBounds (o+i) v) f (w.setRow g (cur.setIfInBounds (o+i) v)) (setRow_heap w g cur _ t _ hg) (by simpa using hf) (by simp at hl ⊢;omega) (λx hx=>h1 x (by simp[hx]));simp only[storeCells,E9,hst,G5,ih,setRow_setRow];congr 3;have e:=list_seg_step cur.toList (o+i) v rest (by simp at hl ⊢;omega);simpa[jr,dJ]using e
theorem wU(hi:TiOk P t i)(w:World){c:Array Value}{T:TypeId}{f:Nat×Nat}(hb:w.heap[blk]? =some (.cells c T f))(hf:f=(0,0)\/f=(c.size,c.size+1)){v:Value}
  (hs:v.cells.size=i.size) (ho:off+i.size<=c.size) (h1:∀u∈v.cells.toList,u.oneCell' =true):
  (storeVar t ⟨blk,off,none⟩ v).run P w= .ok () (w.setRow blk (Z8 off v.cells.toList c.toList).toArray):=by
 have h:=tq (P:=P) blk off T v.cells.toList 0 c f w hb hf az h1;simp only[aj]at h;unfold storeVar;simp[mO hi,hs,h,Z8]
variable {v:V}{l:Loc}{obj:Obj}{q:Nat}{ks:c2i}
section
variable {X:Fx} {cl ch:Nat} {S:Sm} {m:Mp} {ok:Nat->Ty->Prop} {a:Act} {w:World} {o:Oper}
theorem Rel.own_cells(R:Rel X cl ch S m ok a w)(h:S (U8+n)= .bcells cs):∃blk arr T,m n=some (.st blk)/\w.heap[blk]? =some (.cells arr T (0,0))/\dD ⟨w.heap,ok,m⟩ cs arr.toList:=by have:=R.box n;rw[h]at this;exact this
theorem Rel.own_arr(R:Rel X cl ch S m ok a w){t:Ty}{xs:List t.den}(h:S (U8+n)= .barr t xs):∃l,m n=some l/\arrOk ⟨w.heap,ok,m⟩ t xs l:=by have:=R.box n;rw[h]at this;exact this
theorem Rel.own_frz(R:Rel X cl ch S m ok a w){t:Ty}{xs:List t.den}(h:S (U8+n)= .bfrz t xs):∃l,m n=some l/\arrOk ⟨w.heap,ok,m⟩ t xs l/\(∀blk,blk∈l.blks->ok blk t):=by have:=R.box n;rw[h]at this;exact this
theorem Rel.own_barrs(R:Rel X cl ch S m ok a w){md:M}{xs:List md.den}{hole:Option (Nat×Nat×Option Nat)}(h:S (U8+n)= .barrs md xs hole):md.el=true/\∃l Os,m n=some l/\a0v ⟨w.heap,ok,m⟩ md xs hole Os l/\m.kid n=Os.flatten:=by have:=R.box n;rw[h]at this;exact this
theorem Rel.own_barrp(R:Rel X cl ch S m ok a w){md:M}{xs:List md.den}{k:Int}{o:Nat}(h:S (U8+n)= .barrp md xs k o):md.el=true/\0<=k/\∃l Os,m n=some l/\pK w.heap md.size (λi x es O=>jm w.heap ok md (qy o k.toNat i) x es O) xs Os l/\m.kid n=Os.flatten:=by have:=R.box n;rw[h]at this;exact this
theorem Rel.own_fc(R:Rel X cl ch S m ok a w){t:Ty}{x:t.den}(h:S (U8+n)= .bfc t x):∃blk es,m n=some (.st blk)/\ok blk t/\bD w.heap blk 0 t.size=some es/\iY w.heap ok t x es:=by have:=R.box n;rw[h]at this;exact this
theorem wz:∀(m:M) (x:m.den) (r:List V),Gm m x r=Gm m x []++r
 | .dat t,x,r=>jq t x r| .pair a b,x,r=>by simp only[Gm];rw[wz a x.1 (Gm b x.2 r),wz b x.2 r,wz a x.1 (Gm b x.2 [])];simp| .unit,_,_=>rfl| .own _,_,_=>rfl| .owns _,_,_=>rfl| .box _,_,_=>rfl| .ownb _,_,_=>rfl| .rp _,_,_=>rfl| .fn _ _,_,_=>rfl| .ifc _ _,_,_=>rfl| .cell _,_,_=>rfl| .fr _,_,_=>rfl| .sbx _ _,_,_=>rfl| .lp _,_,_=>rfl| .dv ..,_,_=>rfl| .ownr ..,_,_=>rfl| .sit,_,_=>rfl
theorem ET:∀(m:M) (x:m.den),(Gm m x []).length=m.size
 | .dat t,x=>jY t x| .pair a b,x=>by simp only[Gm,M.size];rw[wz a,N8,ET a x.1,ET b x.2]| .unit,_=>rfl| .own _,_=>rfl| .owns _,_=>rfl| .box _,_=>rfl| .ownb _,_=>rfl| .rp _,_=>rfl| .fn _ _,_=>rfl| .ifc _ _,_=>rfl| .cell _,_=>rfl| .fr _,_=>rfl| .sbx _ _,_=>rfl| .lp _,_=>rfl| .dv ..,_=>rfl| .ownr ..,_=>rfl| .sit,_=>rfl
theorem jk{cs:c2h}(h:cs.length=1)(h1:∀v∈cs,v.oneCell' =true):dD C [.undef] cs:=by
 match cs,h with
 |[v],_=>exact⟨v,[],rfl,trivial,h1 v A8,rfl⟩
theorem KG{C:Cx} :∀{m:M} {ho:Option Nat} {x:m.den} {cs:c2h} {O:c2i},jm C.h C.ok m ho x cs O->dD C (Gm m x []) cs
 | .dat t,_,_,_,_,h=>lT h.1| .pair a b,_,x,_,_,h=>by obtain⟨c,d,O1,O2,rfl,rfl,h1,h2⟩:=h;simp only[Gm];rw[wz a];exact rE (KG h1) (KG h2)
 | .unit,_,_,_,_,h=>by obtain⟨rfl,_⟩:=h;rfl
 | .own _,_,_,_,_,h=>jk (ae h) (kD h)| .owns _,_,_,_,_,h=>jk (ae h) (kD h)| .box _,_,_,_,_,h=>jk (ae h) (kD h)| .ownb _,_,_,_,_,h=>jk (ae h) (kD h)| .rp _,_,_,_,_,h=>jk (ae h) (kD h)| .fn _ _,_,_,_,_,h=>jk (ae h) (kD h)| .ifc _ _,_,_,_,_,h=>jk (ae h) (kD h)| .cell _,_,_,_,_,h=>jk (ae h) (kD h)| .fr _,_,_,_,_,h=>jk (ae h) (kD h)| .sbx _ _,_,_,_,_,h=>jk (ae h) (kD h)| .lp _,_,_,_,_,h=>jk (ae h) (kD h)| .dv ..,_,_,_,_,h=>jk (ae h) (kD h)| .ownr ..,_,_,_,_,h=>jk (ae h) (kD h)| .sit,_,_,_,_,h=>jk (ae h) (kD h)
theorem V5{S:Sm}{k:Nat}{c:V->Cmd α}(h:(c (S k)).post S Q):(Cmd.get k c).post S Q:=h
theorem cu{S:Sm}{k:Nat}{c:Cmd α}(h:c.post (upd S k v) Q):(Cmd.set k v c).post S Q:=h
theorem xQ(H:FxOk X)(R:Rel X cl ch S m ok a w){t:Nat}{p:V}{x:Value}(hp:iI ⟨w.heap,ok,m⟩ p x){K:V->Cmd α}
  (hK:∀v u ad,iI ⟨w.heap,ok,m⟩ v u->x= .pointer (some ad)->(loadVar t ad).run X.P w= .ok u w->(K v).post S Q):(BZ X.E t p K).post S Q:=by
 unfold BZ;refine gB H λi hi=>?_;cases p<;>try trivial
 case ptr bx off=>
  obtain⟨blk,hm,rfl⟩:=hp;refine V5 ?_;split<;>try trivial
  .rename_i cs hS;obtain⟨blk',arr,T,hm',hh,hl⟩:=R.own_cells hS;simp only at hm;rw[hm]at hm';cases hm';refine tC λhle=>?_;have hlen:=gZ hl;have e:=fJ hh off i.size (by simp at hlen;omega);refine hK _ _ _ (yf (oQ _ (nC _ hl)) (λha=>by have:=jT e;rw[hi.one ha]at this;rw[hi.one ha];exact this)) rfl ?_;exact nN hi w e
  .rename_i u y hS;obtain⟨blk',es,hm',hok,he,hr⟩:=R.own_fc hS;simp only at hm;rw[hm]at hm';cases hm';refine tC λhle=>?_;rw[jY]at hle;have e:=lM he off i.size hle;rw[bU]at e;refine hK _ _ _ (yf (oQ _ (nC _ (lT (C:=⟨w.heap,ok,m⟩) hr))) (λha=>by have:=jT e;rw[hi.one ha]at this;rw[hi.one ha];exact this)) rfl ?_;exact nN hi w e
 case ep bx ix off=>
  obtain⟨blk,o',len,cap,sz,hm,hlt,rfl⟩:=hp;refine V5 ?_;have key:∀{u:Ty} {xs:List u.den},arrOk ⟨w.heap,ok,m⟩ u xs (.arr blk o' len cap sz)->(Cmd.opt (X0 xs ix) λx=>OD off i.size (flat u x []) (λr=>K (mkV (aB i.td) r)) Cmd.fail).post S Q:=by intro u xs ha;obtain⟨_,rfl,rfl,h3,c,T,f,hh,hz,hs,hx⟩:=ha;refine bF λy hy=>?_;obtain⟨es,he,hr⟩:=hx ix y hy;refine tC λhle=>?_;rw[jY]at hle;have e:=lM he off i.size hle;refine hK _ _ _ (yf (oQ _ (nC _ (lT (C:=⟨w.heap,ok,m⟩) hr))) (λha=>by have:=jT e;rw[hi.one ha]at this;rw[hi.one ha];exact this)) rfl ?_;exact nN hi w e
  split<;>try trivial
  .rename_i u xs hS;obtain⟨l,hm',ha⟩:=R.own_arr hS;simp only at hm;rw[hm]at hm';cases hm';exact key ha
  .rename_i u xs hS;obtain⟨l,hm',ha,_⟩:=R.own_frz hS;simp only at hm;rw[hm]at hm';cases hm';exact key ha
  .rename_i md xs hole hS;obtain⟨_,l,Os,hm',⟨ha,hho⟩,_⟩:=R.own_barrs hS;simp only at hm;rw[hm]at hm';cases hm';obtain⟨rfl,rfl,h3,h7,c,T,hh,hs,hx⟩:=ha;refine bF λy hy=>?_;obtain⟨es,O,hO,he,hr⟩:=hx ix y hy;refine tC λhle=>?_;rw[ET]at hle;have e:=lM he off i.size hle;refine hK _ _ _ (yf (oQ _ (nC _ (KG (C:=⟨w.heap,ok,m⟩) hr))) (λha=>by have:=jT e;rw[hi.one ha]at this;rw[hi.one ha];exact this)) rfl ?_;exact nN hi w e
 case dp u y off=>obtain⟨blk,o',es,rfl,hb,he,hr⟩:=hp;refine tC λhle=>?_;rw[jY]at hle;have e:=lM he off i.size hle;refine hK _ _ _ (yf (oQ _ (nC _ (lT (C:=⟨w.heap,ok,m⟩) hr))) (λha=>by have:=jT e;rw[hi.one ha]at this;rw[hi.one ha];exact this)) rfl ?_;exact nN hi w e
theorem uk(h:Array Obj)(o:Obj){b:Nat}(hb:b<h.size):(h.push o)[b]? =h[b]?:=by rw[Array.getElem?_push,if_neg o5]
theorem Rel.new(R:Rel X cl ch S m ok a w)(hn:S (U8+n)= .undef)(hcl:cl<=n)(hch:n<ch)(hv:v≠.undef)
  (hb:L9 (jo m n l ks) n v=[w.heap.size]) (hB:xY ⟨(w.alloc obj).heap,ok,jo m n l ks⟩ n v):
  Rel X cl ch (upd S (U8+n) v) (jo m n l ks) ok a (w.alloc obj):=by
 refine R.lay hn hcl hch hv rfl rfl rfl A8 (λb hb' _=>uk _ _ hb') (by rw[hb];simp) (λb h=>?_) hB;rw[hb]at h;simp only[dR]at h;subst h;refine⟨λt h' =>mF _ (R.okLt _ t h'),A8,.inl R.frame.size,λk h' =>mF _ (R.sep k _ h').2.1⟩
theorem Rel.newK(R:Rel X cl ch S m ok a w){T:c2i}(hT:Tk X S m ok w T)(hn:S (U8+n)= .undef)(hcl:cl<=n)(hch:n<ch)(hv:v≠.undef)
  (hb:L9 (jo m n l ks) n v=w.heap.size::ks) (hnd:ks.Nodup) (hks:∀b∈ks,b∈T) (hB:xY ⟨(w.alloc obj).heap,ok,jo m n l ks⟩ n v):
  Rel X cl ch (upd S (U8+n) v) (jo m n l ks) ok a (w.alloc obj):=by
 refine R.lay hn hcl hch hv rfl rfl rfl A8 (λb hb' _=>uk _ _ hb') (by rw[hb];exact V9.2 ⟨λh=>mF _ (hT.free _ (hks _ h)).2.1,hnd⟩) (λb h=>?_) hB;rw[hb]at h;rcases C9.1 h with rfl|h
 .exact⟨λt h' =>mF _ (R.okLt _ t h'),A8,.inl R.frame.size,λk h' =>mF _ (R.sep k _ h').2.1⟩
 .obtain⟨h1,h2,h3,h4⟩:=hT.free b (hks b h);exact⟨h1,by simp;omega,h3,h4⟩
theorem Rel.le_new(R:Rel X cl ch S m ok a w)(hn:S (U8+n)= .undef)(hcl:cl<=n):Cx.le ⟨w.heap,ok,m⟩ ⟨(w.alloc obj).heap,ok,jo m n l ks⟩:=
 ⟨λ_ _ h=>h,λb t hb=>uk _ _ (R.okLt b t hb),λk x h=>by
  by_cases e:k=n
  .subst e;have:=R.fresh k hcl hn;simp only at h;rw[this]at h;cases h
  .show jo m n l ks k=some x;rw[fU _ _ _ e];exact h⟩
theorem lX(H:FxOk X)(d:Option Tmp)(hd:∀t,d=some t->t<X.E.nt):CB*q<=J5 q d/\J5 q d+64<=CB*q+CB:=by
 have:=H.nt;cases d with
 |none=>simp only[J5];show 1000000*q<=1000000*q+999936/\1000000*q+999936+64<=1000000*q+1000000;omega|some t=>simp only[J5];have h2:LT.lt (α:=Nat) t X.E.nt:=hd t rfl;clear hd;generalize X.E.nt=n at*;revert this h2;generalize (t:Nat)=t';intro this h2;show 1000000*q<=1000000*q+64*t' /\1000000*q+64*t' +64<=1000000*q+1000000;omega
theorem Em(H:FxOk X)(R:Rel X (CB*q) (CB*q+CB) S m ok a w){vv:V}{x:Value}(hv:v≠.undef)
  (hb:L9 (jo m (J5 q o.dst) l []) (J5 q o.dst) v=[w.heap.size]) (hB:S (U8+J5 q o.dst)= .undef->CB*q<=J5 q o.dst->xY ⟨(w.alloc obj).heap,ok,jo m (J5 q o.dst) l []⟩ (J5 q o.dst) v)
  (hx:iI ⟨(w.alloc obj).heap,ok,jo m (J5 q o.dst) l []⟩ vv x) (run:(execOp a.eval o).run X.P w= .ok (.value x) (w.alloc obj)):
  (pz (J5 q o.dst) v (bJ X.E o.dst vv)).post S (λ_ S' =>eX X (CB*q) (CB*q+CB) o a w m ok S'):=by
 refine kL λhn=>?_;cases hd:o.dst with
 |none=>have hin:=lX H (q:=q) none (λt h=>by cases h);rw[hd]at hn hB hb hx;have R' :=R.new hn hin.1 o5 hv hb (hB hn hin.1);have:=mX (o:=o) H R' (m0:=m) (ok0:=ok) (λk l' h=>(R.le_new (obj:=obj) hn hin.1).m k l' h) (λ_ _ h=>h) hx run;rw[hd]at this;exact this
 |some t=>unfold bJ;refine aS λhb' =>?_;have hin:=lX H (q:=q) (some t) (λt' h=>by cases h;exact(vg hb').1);rw[hd]at hn hB hb hx;have R' :=R.new hn hin.1 o5 hv hb (hB hn hin.1);have:=mX (o:=o) H R' (m0:=m) (ok0:=ok) (λk l' h=>(R.le_new (obj:=obj) hn hin.1).m k l' h) (λ_ _ h=>h) hx run;rw[hd]at this;unfold bJ at this;simp only[hb',cond_true]at this;exact this
theorem KF :∀{cs:List V} {vs:c2h},dD ⟨#[],λ_ _=>False,nom⟩ cs vs->dD C cs vs:=by intro cs vs h;exact CE (C:=⟨#[],λ_ _=>False,nom⟩) ⟨λ_ _ h=>h.elim,λ_ _ h=>h.elim,λ_ _ h=>by cases h⟩ h
theorem a3n(H:FxOk X)(R:Rel X (CB*q) (CB*q+CB) S m ok a w)(ho:o.op= .alloc t):(aG X.E q o).post S (λ_ S' =>eX X (CB*q) (CB*q+CB) o a w m ok S'):=by
 unfold aG;simp only[ho];refine gB H λi hi=>aS λhz=>?_;obtain⟨inf,h1,h2,h3,h4,h5⟩:=hi.info;obtain⟨z,hz1,hz2⟩:=h4 (bQ hz);have hex:(execOp a.eval o).run X.P w= .ok (.value (.pointer (some ⟨w.heap.size,0,none⟩))) (w.alloc (.cells z.cells t)):=by simp[execOp,ho,Instr.alloc,zeroValue,typeInfo,h1,hz1,newVar,newRow]
 unfold b2L;split
 .rename_i hz0;rw[hz0]at hz2;obtain⟨a0,r1,e1,g1,_,v0,r2,rfl,g2,_,g3⟩:=hz2;simp only[dD]at g3;subst g3;refine Em (l:=.st w.heap.size) (obj:=.cells z.cells t) H R A8 (by simp[L9]) (λhn hc=>?_) ⟨w.heap.size,A8,rfl⟩ hex;refine⟨w.heap.size,a0,v0,A8,?_,.inl g1,g2⟩;have:=heap_alloc_new w (.cells z.cells t);rw[show z.cells=#[a0,v0]from Array.toList_inj.1 e1]at this ⊢;exact this
 .refine Em (l:=.st w.heap.size) (obj:=.cells z.cells t) H R A8 (by simp[L9]) (λhn hc=>?_) ⟨w.heap.size,A8,rfl⟩ hex;exact⟨w.heap.size,z.cells,t,A8,heap_alloc_new w _,KF hz2⟩
theorem a8L(H:FxOk X)(R:Rel X (CB*q) (CB*q+CB) S m ok a w){x:Operand}(ho:o.op= .box t x):(aG X.E q o).post S (λ_ S' =>eX X (CB*q) (CB*q+CB) o a w m ok S'):=by
 unfold aG;simp only[ho];refine Y9 R λu hu=>pG hu λcs hcs=>?_;refine Em (l:=.st w.heap.size) (obj:=.cells (a.eval x).cells t) H R A8 (by simp[L9]) (λhn hc=>?_) ⟨w.heap.size,A8,rfl⟩ ?_
 .exact⟨w.heap.size,(a.eval x).cells,t,A8,heap_alloc_new w _,CE (R.le_new hn hc) hcs⟩
 .simp[execOp,ho,Instr.box,newVar,newRow]
end
end Go.GP
