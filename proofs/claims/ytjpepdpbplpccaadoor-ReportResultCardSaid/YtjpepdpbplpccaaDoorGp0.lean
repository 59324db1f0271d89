import Derived.ProofKit
/- THE PURE READING OF A PROGRAM'S TEXT: definitions alone. A function's code is run over values that are plain data; the run is an ordinary Lean function. -/
namespace Go.GP
universe u
set_option linter.unusedVariables false

inductive Ty where
  | bool | int (k : IntKind) | str | sl (t : Ty) | prod (a b : Ty) | unit
  deriving DecidableEq

@[reducible] def Ty.den : Ty → Type
  | .bool => Bool
  | .int _ => Int
  | .str => List UInt8
  | .sl t => List t.den
  | .prod a b => a.den × b.den
  | .unit => Unit

def Ty.size : Ty → Nat
  | .bool | .int _ | .str | .sl _ => 1
  | .prod a b => a.size + b.size
  | .unit => 0

/-- no slice within -/
def Ty.flat : Ty → Bool
  | .bool | .int _ | .str | .unit => true
  | .sl _ => false
  | .prod a b => a.flat && b.flat

def Ty.zero : (t : Ty) → t.den
  | .bool => false
  | .int _ => (0 : Int)
  | .str => []
  | .sl _ => []
  | .prod a b => (a.zero, b.zero)
  | .unit => ()

/-- modes of a value at a border: plain data, a slice of its own, a pointer to a box -/
inductive M where
  | dat (t : Ty) | own (t : Ty) | pair (a b : M) | unit | box (m : M)
  deriving DecidableEq

@[reducible] def M.den : M → Type
  | .dat t => t.den
  | .own t => List t.den
  | .pair a b => a.den × b.den
  | .unit => Unit
  | .box m => m.den

def M.size : M → Nat
  | .dat t => t.size
  | .own _ => 1
  | .pair a b => a.size + b.size
  | .unit => 0
  | .box _ => 1

/-- a mode, and whether the value is a struct's (or an array's) -/
abbrev MG := Bool × M
@[reducible] def tupDen : List MG → Type
  | [] => Unit
  | [m] => m.2.den
  | m :: m' :: r => m.2.den × tupDen (m' :: r)

inductive V where
  | undef
  | un
  | b (x : Bool) | i (k : IntKind) (n : Int) | s (l : List UInt8)
  | nl
  | sl (t : Ty) (xs : List t.den)
  | own (bx : Nat) (vw : Option (Nat × Nat))
  | ptr (bx off : Nat)
  | ep (bx idx off : Nat)
  | dp (t : Ty) (x : t.den) (off : Nat)
  | agg (cs : List V) | tup (cs : List V)
  | glob (g : Nat) | fnv (f : Nat) | clos (f : Nat) (bxs : List Nat)
  | bcells (cs : List V) | barr (t : Ty) (xs : List t.den) | bfrz (t : Ty) (xs : List t.den) | biter (l : List UInt8) (pos : Nat)
  | dead

/-! ### the words of the printed functions -/
def obind {α β : Type} (o : Option α) (f : α → Option β) : Option β := match o with | some x => f x | none => none
def bcond {α : Type} (b : Bool) (x y : α) : α := match b with | true => x | false => y
def ilt (a b : Int) : Bool := decide (a < b)
def ile (a b : Int) : Bool := decide (a ≤ b)
def ieq (a b : Int) : Bool := decide (a = b)
def beqb (a b : Bool) : Bool := a == b
def bnot (a : Bool) : Bool := !a
def band (a b : Bool) : Bool := a && b
def seq (a b : List UInt8) : Bool := decide (a = b)
def slt (a b : List UInt8) : Bool := Op.bytesLess a b
def wrap (k : IntKind) (n : Int) : Int := k.wrap n
def iadd (k : IntKind) (a b : Int) : Int := k.wrap (a + b)
def isub (k : IntKind) (a b : Int) : Int := k.wrap (a - b)
def imul (k : IntKind) (a b : Int) : Int := k.wrap (a * b)
def iquo (k : IntKind) (a b : Int) : Int := k.wrap (a.tdiv b)
def irem (a b : Int) : Int := a.tmod b
def iquoO (k : IntKind) (a b : Int) : Option Int := if b = 0 then none else some (k.wrap (a.tdiv b))
def iremO (a b : Int) : Option Int := if b = 0 then none else some (a.tmod b)
def iand (k : IntKind) (a b : Int) : Int := k.wrap (BitVec.ofInt k.bits a &&& BitVec.ofInt k.bits b).toNat
def ior (k : IntKind) (a b : Int) : Int := k.wrap (BitVec.ofInt k.bits a ||| BitVec.ofInt k.bits b).toNat
def ixor (k : IntKind) (a b : Int) : Int := k.wrap (BitVec.ofInt k.bits a ^^^ BitVec.ofInt k.bits b).toNat
def iandnot (k : IntKind) (a b : Int) : Int := k.wrap (BitVec.ofInt k.bits a &&& ~~~(BitVec.ofInt k.bits b)).toNat
def ishl (k : IntKind) (a b : Int) : Int := k.wrap (a * 2 ^ (min b.toNat k.bits))
def ishr (k : IntKind) (a b : Int) : Int := a.fdiv (2 ^ (min b.toNat k.bits))
def ishlO (k : IntKind) (a b : Int) : Option Int := if b < 0 then none else some (ishl k a b)
def ishrO (k : IntKind) (a b : Int) : Option Int := if b < 0 then none else some (ishr k a b)
def imin (a b : Int) : Int := if b < a then b else a
def imax (a b : Int) : Int := if a < b then b else a
def llen {α : Type} (l : List α) : Int := l.length
def sadd (a b : List UInt8) : Option (List UInt8) := if a.length + b.length ≤ 4611686018427387904 then some (a ++ b) else none
def lat {α : Type} (l : List α) (i : Int) : Option α := if 0 ≤ i then l[i.toNat]? else none
def sat (l : List UInt8) (i : Int) : Option Int := if 0 ≤ i then (l[i.toNat]?).map (fun c => (c.toNat : Int)) else none
def lget {α : Type} (l : List α) (i : Nat) : Option α := l[i]?
def lset {α : Type} (l : List α) (i : Nat) (x : α) : List α := l.set i x
def lsub {α : Type} (l : List α) (lo hi : Int) : Option (List α) := if 0 ≤ lo ∧ lo ≤ hi ∧ hi ≤ l.length then some ((l.take hi.toNat).drop lo.toNat) else none
def lview {α : Type} (l : List α) (lo hi : Nat) : List α := (l.take hi).drop lo
def rngok (lo hi n : Int) : Bool := decide (0 ≤ lo ∧ lo ≤ hi ∧ hi ≤ n)
def room (n : Nat) : Bool := decide (n ≤ 1073741824)
def lapp {α : Type} (xs ys : List α) : Option (List α) := if xs.length + ys.length ≤ 1073741824 then some (xs ++ ys) else none
def lrep {α : Type} (n : Int) (x : α) : Option (List α) := if 0 ≤ n ∧ n ≤ 1073741824 then some (List.replicate n.toNat x) else none
def toN (i : Int) : Nat := i.toNat
def u8of (n : Int) : UInt8 := UInt8.ofNat n.toNat
def bstr (l : List Int) : List UInt8 := l.map u8of

/-- what a round comes to -/
inductive Out (σ ε ρ : Type) where
  | nx (s : σ) | ex (e : ε) | rt (r : ρ)
def outK {σ ε ρ α : Type} (o : Out σ ε ρ) (f : σ → α) (g : ε → α) (h : ρ → α) : α := match o with | .nx s => f s | .ex e => g e | .rt r => h r
def sumK {σ ε α : Type} (o : σ ⊕ ε) (f : σ → α) (g : ε → α) : α := match o with | .inl s => f s | .inr e => g e
def loopN {σ ε ρ : Type} (f : σ → Option (Out σ ε ρ)) : Nat → σ → Option (ε ⊕ ρ)
  | 0, _ => none
  | n + 1, s => match f s with
    | some (.nx s') => loopN f n s'
    | some (.ex e) => some (.inl e)
    | some (.rt r) => some (.inr r)
    | none => none
def loopEN {σ ε : Type} (f : σ → Option (σ ⊕ ε)) : Nat → σ → Option ε
  | 0, _ => none
  | n + 1, s => match f s with
    | some (.inl s') => loopEN f n s'
    | some (.inr e) => some e
    | none => none
def fuel : Nat := 18446744073709551616
def loopO {σ ε ρ : Type} (f : σ → Option (Out σ ε ρ)) (s : σ) : Option (ε ⊕ ρ) := loopN f fuel s
def loopE {σ ε : Type} (f : σ → Option (σ ⊕ ε)) (s : σ) : Option ε := loopEN f fuel s

/-! ### a small program over a state of numbered places -/
inductive Cmd (α : Type) : Type 1 where
  | ret (x : α)
  | fail
  | get (k : Nat) (c : V → Cmd α)
  | set (k : Nat) (v : V) (c : Cmd α)
  | opt {β : Type} (o : Option β) (c : β → Cmd α)
  | br (b : Bool) (c d : Cmd α)

/-- an entry: a place's value, or a range of places that are forgotten -/
inductive Ent where
  | kv (k : Nat) (v : V) | mask (lo hi : Nat)
abbrev St := List Ent
def look : St → Nat → V
  | [], _ => .undef
  | .kv k v :: r, n => bif Nat.beq k n then v else look r n
  | .mask lo hi :: r, n => bif Nat.ble lo n && Nat.blt n hi then .undef else look r n

abbrev Tr := List Nat × List Nat

/-- the head of a value is laid bare, and its parts -/
def V.force {R : Type} (v : V) (K : V → R) : R :=
  match v with
  | .undef => K .undef
  | .un => K .un
  | .b x => K (.b x)
  | .i k n => match k with
    | .i8 => K (.i .i8 n) | .i16 => K (.i .i16 n) | .i32 => K (.i .i32 n) | .i64 => K (.i .i64 n)
    | .u8 => K (.i .u8 n) | .u16 => K (.i .u16 n) | .u32 => K (.i .u32 n) | .u64 => K (.i .u64 n)
  | .s l => K (.s l)
  | .nl => K .nl
  | .sl t xs => K (.sl t xs)
  | .own bx vw => match vw with | none => K (.own bx none) | some p => K (.own bx (some p))
  | .ptr bx off => K (.ptr bx off)
  | .ep bx idx off => K (.ep bx idx off)
  | .dp t x off => K (.dp t x off)
  | .agg cs => K (.agg cs)
  | .tup cs => K (.tup cs)
  | .glob g => K (.glob g)
  | .fnv f => K (.fnv f)
  | .clos f bs => K (.clos f bs)
  | .bcells cs => K (.bcells cs)
  | .barr t xs => K (.barr t xs)
  | .bfrz t xs => K (.bfrz t xs)
  | .biter l p => K (.biter l p)
  | .dead => K .dead
def forceL {R : Type} : List V → (List V → R) → R
  | [], K => K []
  | v :: r, K => v.force fun v' => forceL r fun r' => K (v' :: r')
def V.force2 {R : Type} (v : V) (K : V → R) : R :=
  v.force fun v => match v with
    | .agg cs => forceL cs fun cs => K (.agg cs)
    | .bcells cs => forceL cs fun cs => K (.bcells cs)
    | .tup cs => forceL cs fun cs => K (.tup cs)
    | v => K v

def Cmd.runK {α R : Type} : Cmd α → St → Tr → (α → St → Tr → Option R) → Option R
  | .ret x, s, t, K => K x s t
  | .fail, _, _, _ => none
  | .get k c, s, t, K => (look s k).force fun v => (c v).runK s (k :: t.1, t.2) K
  | .set k v c, s, t, K => v.force2 fun v => c.runK (.kv k v :: s) (t.1, k :: t.2) K
  | .opt o c, s, t, K => obind o fun x => (c x).runK s t K
  | .br b c d, s, t, K => bcond b (c.runK s t K) (d.runK s t K)

def Cmd.bind {α β : Type} : Cmd α → (α → Cmd β) → Cmd β
  | .ret x, f => f x
  | .fail, _ => .fail
  | .get k c, f => .get k fun v => (c v).bind f
  | .set k v c, f => .set k v (c.bind f)
  | .opt o c, f => .opt o fun x => (c x).bind f
  | .br b c d, f => .br b (c.bind f) (d.bind f)

/-! ### tables -/
inductive TD where
  | bool | int (k : IntKind) | str
  | sl (elem : Nat) | ptr (elem : Nat)
  | struct (fs : List (Nat × Nat))
  | arr (n elem : Nat)
  | other
structure TI where
  size : Nat
  bytes : Nat
  td : TD
  ty : Option Ty
  zero : List V

def assoc {α : Type} : List (Nat × α) → Nat → Option α
  | [], _ => none
  | (k, v) :: r, n => bif Nat.beq k n then some v else assoc r n

structure FSpec where
  ps : List MG
  rs : List MG
  outs : List MG
  fn : tupDen ps → Option (tupDen (rs ++ outs))

structure Env where
  nt : Nat
  eqs : List Nat
  tt : List (Nat × TI)
  gl : List (Nat × (t : Ty) × List t.den)
  fs : List (Nat × FSpec)

abbrev BOX : Nat := 1000000
abbrev CB : Nat := 1000000

/-! ### between places and data -/
def Ty.castL {R : Type u} (a b : Ty) (xs : List a.den) (k : List b.den → R) (f : R) : R := if h : a = b then k (h ▸ xs) else f
def castX {R : Type u} (a b : Ty) (x : a.den) (k : b.den → R) (f : R) : R := if h : a = b then k (h ▸ x) else f

/-- the cells of a datum, ahead of a tail -/
def flat : (t : Ty) → t.den → List V → List V
  | .bool, x, r => .b x :: r
  | .int k, n, r => .i k n :: r
  | .str, l, r => .s l :: r
  | .sl t, xs, r => .sl t xs :: r
  | .prod a b, x, r => flat a x.1 (flat b x.2 r)
  | .unit, _, r => r

def viewOf {α : Type} (vw : Option (Nat × Nat)) (xs : List α) : List α := match vw with | none => xs | some (lo, hi) => lview xs lo hi

/-- a datum off the head of a list of cells; 'bw': only borrowed -/
def toData {α : Type} (bw : Bool) : (t : Ty) → List V → (t.den → List V → Cmd α) → Cmd α
  | .bool, cs, K => match cs with | .b x :: r => K x r | _ => .fail
  | .int k, cs, K => match cs with | .i k' n :: r => (bif decide (k = k') then K n r else Cmd.fail) | _ => .fail
  | .str, cs, K => match cs with | .s l :: r => K l r | _ => .fail
  | .prod a b, cs, K => toData bw a cs fun x r => toData bw b r fun y r' => K (x, y) r'
  | .unit, cs, K => K () cs
  | .sl t, cs, K => match cs with
    | .nl :: r => K [] r
    | .sl t' xs :: r => Ty.castL t' t xs (fun ys => K ys r) Cmd.fail
    | .own bx vw :: r => .get (BOX + bx) fun
      | .barr t' xs => Ty.castL t' t xs (fun ys => bif bw then K (viewOf vw ys) r else Cmd.set (BOX + bx) (.bfrz t ys) (K (viewOf vw ys) r)) Cmd.fail
      | .bfrz t' xs => Ty.castL t' t xs (fun ys => K (viewOf vw ys) r) Cmd.fail
      | _ => .fail
    | _ => .fail

def exM {α : Type} (bw : Bool) : (m : M) → List V → (m.den → List V → Cmd α) → Cmd α
  | .dat t, cs, K => toData bw t cs K
  | .own t, cs, K => match cs with
    | .nl :: r => K [] r
    | .own bx vw :: r => .get (BOX + bx) fun
      | .barr t' xs => Ty.castL t' t xs (fun ys => Cmd.set (BOX + bx) .dead (K (viewOf vw ys) r)) Cmd.fail
      | _ => .fail
    | _ => .fail
  | .pair a b, cs, K => bif bw then .fail else exM bw a cs fun x r => exM bw b r fun y r' => K (x, y) r'
  | .unit, cs, K => K () cs
  | .box m, cs, K => bif bw then .fail else match cs with
    | .ptr bx 0 :: r => .get (BOX + bx) fun
      | .bcells bs => Cmd.set (BOX + bx) .dead (exM bw m bs fun x q => match q with | [] => K x r | _ => .fail)
      | _ => .fail
    | _ => .fail

def cellsOf (v : V) : List V := match v with | .agg cs => cs | v => [v]

/-- a box under a new name -/
def newB {α : Type} (n : Nat) (v : V) (K : Cmd α) : Cmd α := .get (BOX + n) fun
  | .undef => .set (BOX + n) v K
  | _ => .fail
/-- back: the cells, laying what boxes it wants from name n on -/
def emM {α : Type} : (m : M) → m.den → Nat → List V → (List V → Nat → Cmd α) → Cmd α
  | .dat t, x, n, r, K => K (flat t x r) n
  | .own t, xs, n, r, K => newB n (.barr t xs) (K (.own n none :: r) (n + 1))
  | .pair a b, x, n, r, K => emM b x.2 n r fun r' n' => emM a x.1 n' r' K
  | .unit, _, n, r, K => K r n
  | .box m, x, n, r, K => emM m x (n + 1) [] fun cs n' => newB n (.bcells cs) (K (.ptr n 0 :: r) n')

abbrev Sig := List (Nat × MG)
@[reducible] def sigDen (s : Sig) : Type := tupDen (s.map (·.2))

/-- the cells of a value that is (or is not) a struct's -/
def cellsG {α : Type} (ag : Bool) (v : V) (K : List V → Cmd α) : Cmd α := match ag, v with
  | true, .agg cs => K cs
  | true, _ => .fail
  | false, .agg _ => .fail
  | false, .tup _ => .fail
  | false, .undef => .fail
  | false, .un => .fail
  | false, v => K [v]
/-- the cells of a value, whichever it is -/
def cellsC {α : Type} (v : V) (K : List V → Cmd α) : Cmd α := match v with
  | .agg cs => K cs
  | .tup _ => .fail
  | .undef => .fail
  | .un => .fail
  | v => K [v]

def M.isDat : M → Bool | .dat _ => true | _ => false
/-- one value of a list; data are taken last, when nothing more is given up -/
def exOne {α : Type} (bw : Bool) (m : MG) (v : V) (K : m.2.den → Cmd α) : Cmd α :=
  cellsG m.1 v fun cs => exM bw m.2 cs fun x q => match q with | [] => K x | _ => .fail
def exAll {α : Type} (bw : Bool) : (ms : List MG) → List V → (tupDen ms → Cmd α) → Cmd α
  | [], vs, K => match vs with | [] => K () | _ => .fail
  | [m], vs, K => match vs with
    | [v] => exOne bw m v K
    | _ => .fail
  | m :: m' :: r, vs, K => match vs with
    | v :: vs => bif m.2.isDat then exAll bw (m' :: r) vs fun y => exOne bw m v fun x => K (x, y)
      else exOne bw m v fun x => exAll bw (m' :: r) vs fun y => K (x, y)
    | [] => .fail

def getAll {α : Type} : List Nat → (List V → Cmd α) → Cmd α
  | [], K => K []
  | s :: r, K => bif Nat.blt s BOX then .get s fun v => getAll r fun vs => K (v :: vs) else .fail

def exSig (s : Sig) : Cmd (sigDen s) := getAll (s.map (·.1)) fun vs => exAll false (s.map (·.2)) vs .ret

def mkV (ag : Bool) (cs : List V) : V := match ag, cs with | true, cs => .agg cs | false, [v] => v | false, _ => .undef

def emTup {α : Type} : (ms : List MG) → tupDen ms → Nat → (List V → Nat → Cmd α) → Cmd α
  | [], _, n, K => K [] n
  | [m], x, n, K => emM m.2 x n [] fun cs n' => K [mkV m.1 cs] n'
  | m :: m' :: r, x, n, K => emM m.2 x.1 n [] fun cs n' => emTup (m' :: r) x.2 n' fun vs n'' => K (mkV m.1 cs :: vs) n''

def setAll : List Nat → List V → Cmd Unit
  | [], [] => .ret ()
  | n :: ns, v :: vs => bif Nat.blt n BOX then .set n v (setAll ns vs) else .fail
  | _, _ => .fail

def emSig (s : Sig) (x : sigDen s) (nb lim : Nat) : Cmd Unit :=
  emTup (s.map (·.2)) x nb fun vs n => bif Nat.ble n lim then setAll (s.map (·.1)) vs else .fail

/-! ### operations -/
def constV : Value → V
  | .bool b => .b b
  | .int k n => .i k n
  | .string s => .s s.data.toList
  | .slice none 0 0 => .nl
  | _ => .undef

def opnd {α : Type} (x : Operand) (K : V → Cmd α) : Cmd α :=
  match x with
  | .tmp t => bif Nat.blt t BOX then .get t K else .fail
  | .const v => K (constV v)
  | .global g => K (.glob g)
  | .func f => K (.fnv f)

def opnds {α : Type} : List Operand → (List V → Cmd α) → Cmd α
  | [], K => K []
  | x :: r, K => opnd x fun v => opnds r fun vs => K (v :: vs)

def dropC (n : Nat) (cs : List V) : Option (List V) := match n, cs with
  | 0, cs => some cs
  | n + 1, _ :: cs => dropC n cs
  | _ + 1, [] => none
def takeC {R : Type u} (n : Nat) (cs : List V) (K : List V → R) (f : R) : R := match n, cs with
  | 0, _ => K []
  | n + 1, c :: cs => takeC n cs (fun r => K (c :: r)) f
  | _ + 1, [] => f
def subC {R : Type u} (off n : Nat) (cs : List V) (K : List V → R) (f : R) : R := match dropC off cs with | some r => takeC n r K f | none => f
/-- vs laid over the cells from off on -/
def putC {R : Type u} (off : Nat) (vs cs : List V) (K : List V → R) (f : R) : R := match off, vs, cs with
  | 0, [], cs => K cs
  | 0, v :: vs, _ :: cs => putC 0 vs cs (fun r => K (v :: r)) f
  | n + 1, vs, c :: cs => putC n vs cs (fun r => K (c :: r)) f
  | _, _, [] => f

def isZeroLit : Operand → Bool
  | .const (.int _ n) => decide (n = 0)
  | _ => true
def isNegLit : Operand → Bool
  | .const (.int _ n) => decide (n < 0)
  | _ => true

def eqCells : List V → List V → Option Bool
  | [], [] => some true
  | [.b x], [.b y] => some (beqb x y)
  | [.i j x], [.i k y] => bif decide (j = k) then some (ieq x y) else none
  | [.s x], [.s y] => some (seq x y)
  | .b x :: r, .b y :: q => match eqCells r q with | some e => some (band (beqb x y) e) | none => none
  | .i j x :: r, .i k y :: q => bif decide (j = k) then (match eqCells r q with | some e => some (band (ieq x y) e) | none => none) else none
  | .s x :: r, .s y :: q => match eqCells r q with | some e => some (band (seq x y) e) | none => none
  | _, _ => none

def memN (n : Nat) : List Nat → Bool | [] => false | k :: r => bif Nat.beq k n then true else memN n r
def binC {α : Type} (E : Env) (t : Nat) (op : BinOp) (yc : Operand) (x y : V) (K : V → Cmd α) : Cmd α :=
  match x, y with
  | .i k a, .i k' b =>
    match op with
    | .shl => bif isNegLit yc then Cmd.opt (ishlO k a b) fun r => K (.i k r) else K (.i k (ishl k a b))
    | .shr => bif isNegLit yc then Cmd.opt (ishrO k a b) fun r => K (.i k r) else K (.i k (ishr k a b))
    | _ =>
    bif decide (k = k') then
      match op with
      | .add => K (.i k (iadd k a b))
      | .sub => K (.i k (isub k a b))
      | .mul => K (.i k (imul k a b))
      | .quo => bif isZeroLit yc then Cmd.opt (iquoO k a b) fun r => K (.i k r) else K (.i k (iquo k a b))
      | .rem => bif isZeroLit yc then Cmd.opt (iremO a b) fun r => K (.i k r) else K (.i k (irem a b))
      | .and => K (.i k (iand k a b))
      | .or => K (.i k (ior k a b))
      | .xor => K (.i k (ixor k a b))
      | .andNot => K (.i k (iandnot k a b))
      | .eql => K (.b (ieq a b))
      | .neq => K (.b (bnot (ieq a b)))
      | .lss => K (.b (ilt a b))
      | .leq => K (.b (ile a b))
      | .gtr => K (.b (ilt b a))
      | .geq => K (.b (ile b a))
      | _ => .fail
    else .fail
  | .s a, .s b =>
    match op with
    | .add => Cmd.opt (sadd a b) fun r => K (.s r)
    | .eql => K (.b (seq a b))
    | .neq => K (.b (bnot (seq a b)))
    | .lss => K (.b (slt a b))
    | _ => .fail
  | .b a, .b b =>
    match assoc E.tt t with
    | some i => match i.td, op with
      | .bool, .eql => K (.b (beqb a b))
      | .bool, .neq => K (.b (bnot (beqb a b)))
      | _, _ => .fail
    | none => .fail
  | .agg xs, .agg ys =>
    bif memN t E.eqs then (match op, eqCells xs ys with
      | .eql, some e => K (.b e)
      | .neq, some e => K (.b (bnot e))
      | _, _ => .fail) else .fail
  | _, _ => .fail

def unC {α : Type} (op : UnOp) (x : V) (K : V → Cmd α) : Cmd α :=
  match op, x with
  | .neg, .i k a => K (.i k (isub k 0 a))
  | .xor, .i k a => K (.i k (ixor k (bif k.signed then -1 else k.max) a))
  | .not, .b a => K (.b (bnot a))
  | _, _ => .fail

/-- put an operation's value into its place -/
def dstC (E : Env) (d : Option Tmp) (v : V) : Cmd Unit := match d with | some t => bif Nat.blt t E.nt then .set t v (.ret ()) else .fail | none => .ret ()
/-- the first name of the boxes that an operation of region q lays -/
def boxName (q : Nat) (d : Option Tmp) : Nat := match d with | some t => CB * q + 64 * t | none => CB * q + 999936

def tiC {α : Type} (E : Env) (t : Nat) (K : TI → Cmd α) : Cmd α := match assoc E.tt t with | some i => K i | none => .fail
def isAggTD : TD → Bool | .struct _ | .arr _ _ => true | _ => false

def loadC {α : Type} (E : Env) (t : Nat) (p : V) (K : V → Cmd α) : Cmd α :=
  tiC E t fun i => match p with
  | .ptr bx off => .get (BOX + bx) fun
    | .bcells cs => subC off i.size cs (fun r => K (mkV (isAggTD i.td) r)) Cmd.fail
    | _ => .fail
  | .ep bx idx off => .get (BOX + bx) fun
    | .barr u xs => Cmd.opt (lget xs idx) fun x => subC off i.size (flat u x []) (fun r => K (mkV (isAggTD i.td) r)) Cmd.fail
    | _ => .fail
  | .dp u x off => subC off i.size (flat u x []) (fun r => K (mkV (isAggTD i.td) r)) Cmd.fail
  | _ => .fail

def storeC (E : Env) (t : Nat) (p v : V) : Cmd Unit :=
  tiC E t fun i => match p with
  | .ptr bx off => .get (BOX + bx) fun
    | .bcells cs => cellsC v fun vs => bif Nat.beq vs.length i.size then putC off vs cs (fun r => Cmd.set (BOX + bx) (.bcells r) (.ret ())) Cmd.fail else .fail
    | _ => .fail
  | .ep bx idx off => .get (BOX + bx) fun
    | .barr u xs => Cmd.opt (lget xs idx) fun x => cellsC v fun vs => bif Nat.beq vs.length i.size then putC off vs (flat u x []) (fun r =>
        toData false u r fun y q => match q with
          | [] => .get (BOX + bx) fun
            | .barr u' xs' => Ty.castL u' u xs' (fun xs' => Cmd.set (BOX + bx) (.barr u (lset xs' idx y)) (.ret ())) Cmd.fail
            | _ => .fail
          | _ => .fail) Cmd.fail else .fail
    | _ => .fail
  | _ => .fail

def fieldOff (E : Env) (t f : Nat) : Option (Nat × Nat × Bool) :=
  match assoc E.tt t with
  | some i => match i.td with
    | .struct fs => match fs[f]? with
      | some (ft, off) => match assoc E.tt ft with | some j => bif Nat.beq j.size 0 then none else some (off, j.size, isAggTD j.td) | none => none
      | none => none
    | _ => none
  | none => none

def loOf (vw : Option (Nat × Nat)) : Nat := match vw with | none => 0 | some (lo, _) => lo
def ixOf (vw : Option (Nat × Nat)) (n : Nat) : Nat := match vw with | none => n | some (lo, _) => lo + n
theorem ixOf_eq (vw : Option (Nat × Nat)) (n : Nat) : ixOf vw n = loOf vw + n := by cases vw <;> simp [ixOf, loOf]
/-- of a slice's or an array's type: is it an array, of how many, an element's size -/
def elemSz (E : Env) (t : Nat) : Option (Bool × Nat × Nat) :=
  match assoc E.tt t with
  | some i => match i.td with
    | .sl e => match assoc E.tt e with | some j => some (false, 0, j.size) | none => none
    | .arr n e => match assoc E.tt e with | some j => some (true, n, j.size) | none => none
    | _ => none
  | none => none
def indexAddrC {α : Type} (E : Env) (t : Nat) (x ix : V) (K : V → Cmd α) : Cmd α :=
  match ix, elemSz E t with
  | .i _ n, some (false, _, sz) => match x with
    | .sl u xs => bif Nat.beq sz u.size then Cmd.opt (lat xs n) fun y => K (.dp u y 0) else .fail
    | .own bx vw => .get (BOX + bx) fun
      | .barr u xs => bif Nat.beq sz u.size then Cmd.opt (lat (viewOf vw xs) n) fun _ => K (.ep bx (ixOf vw (toN n)) 0) else .fail
      | .bfrz u xs => bif Nat.beq sz u.size then Cmd.opt (lat (viewOf vw xs) n) fun y => K (.dp u y 0) else .fail
      | _ => .fail
    | _ => .fail
  | .i _ n, some (true, l, sz) => match x with
    | .glob g => match assoc E.gl g with
      | some ⟨u, xs⟩ => bif Nat.beq sz u.size && Nat.beq l xs.length then Cmd.opt (lat xs n) fun y => K (.dp u y 0) else .fail
      | none => .fail
    | _ => .fail
  | _, _ => .fail

def lenC {α : Type} (td : TD) (x : V) (K : V → Cmd α) : Cmd α :=
  match td, x with
  | .str, .s l => K (.i .i64 (llen l))
  | .sl _, .sl _ xs => K (.i .i64 (llen xs))
  | .sl _, .nl => K (.i .i64 0)
  | .sl _, .own bx vw => .get (BOX + bx) fun
    | .barr _ xs => K (.i .i64 (llen (viewOf vw xs)))
    | .bfrz _ xs => K (.i .i64 (llen (viewOf vw xs)))
    | _ => .fail
  | _, _ => .fail

def boundO (d : Int) : Option V → Option Int
  | none => some d
  | some (.i _ n) => some n
  | some _ => none

def sliceC {α : Type} (E : Env) (t : Nat) (x : V) (lo hi : Option V) (K : V → Cmd α) : Cmd α :=
  match x with
  | .s l => tiC E t fun i => match i.td, boundO 0 lo, boundO (llen l) hi with
    | .str, some a, some b => Cmd.opt (lsub l a b) fun r => K (.s r)
    | _, _, _ => .fail
  | .sl u l => match elemSz E t, boundO 0 lo, boundO (llen l) hi with
    | some (false, _, sz), some a, some b => bif Nat.beq sz u.size then Cmd.opt (lsub l a b) fun r => K (.sl u r) else .fail
    | _, _, _ => .fail
  | .own bx none => .get (BOX + bx) fun
    | .barr u xs => match elemSz E t, boundO 0 lo, boundO (llen xs) hi with
      | some (false, _, sz), some a, some b => bif Nat.beq sz u.size then .br (rngok a b (llen xs)) (K (.own bx (some (toN a, toN b)))) .fail else .fail
      | _, _, _ => .fail
    | .bfrz u xs => match elemSz E t, boundO 0 lo, boundO (llen xs) hi with
      | some (false, _, sz), some a, some b => bif Nat.beq sz u.size then .br (rngok a b (llen xs)) (K (.own bx (some (toN a, toN b)))) .fail else .fail
      | _, _, _ => .fail
    | _ => .fail
  | _ => .fail

def elemTy (E : Env) (t : Nat) : Option (Nat × Ty) :=
  match assoc E.tt t with
  | some i => match i.td with
    | .sl e => match assoc E.tt e with
      | some j => match j.ty with | some u => bif (Nat.beq u.size j.size && Nat.ble j.bytes 65536) then some (e, u) else none | none => none
      | none => none
    | _ => none
  | none => none

def appendC (E : Env) (nm : Nat) (t : Nat) (x y : V) (K : V → Cmd Unit) : Cmd Unit :=
  match elemTy E t with
  | none => .fail
  | some (_, u) =>
    toData true (.sl u) [y] fun ys _ =>
      match x with
      | .nl => Cmd.opt (lapp [] ys) fun zs => newB nm (.barr u zs) (K (.own nm none))
      | .own bx vw => .get (BOX + bx) fun
        | .barr u' xs => Ty.castL u' u xs (fun xs => Cmd.opt (lapp (viewOf vw xs) ys) fun zs => Cmd.set (BOX + bx) .dead (newB nm (.barr u zs) (K (.own nm none)))) Cmd.fail
        | _ => .fail
      | _ => .fail

def buildParts {α : Type} (u : Ty) : List (Nat × V) → Nat → Nat → (List u.den → Cmd α) → Cmd α
  | [], _, 0, K => K []
  | (i, v) :: r, n, m + 1, K => bif Nat.beq i n then cellsC v fun cs => toData false u cs fun x q => match q with | [] => buildParts u r (n + 1) m fun xs => K (x :: xs) | _ => .fail else .fail
  | _, _, _, _ => .fail

def allTt (E : Env) : List (Nat × Nat) → Bool
  | [] => true
  | (t, _) :: r => match assoc E.tt t with | some _ => allTt E r | none => false
def structParts {α : Type} (E : Env) (t : Nat) : List (Nat × V) → List V → (List V → Cmd α) → Cmd α
  | [], cs, K => K cs
  | (f, v) :: r, cs, K => match fieldOff E t f with
    | some (off, n, _) => cellsC v fun vs => bif Nat.beq vs.length n then putC off vs cs (fun cs' => structParts E t r cs' K) .fail else .fail
    | none => .fail

/-- the boxes that were handed in by pointer hold what came out -/
def backC {α : Type} : List MG → List V → List V → Cmd α → Cmd α
  | (_, .box _) :: ms, .ptr bx _ :: vs, .agg cs :: os, K => .get (BOX + bx) fun
    | .dead => Cmd.set (BOX + bx) (.bcells cs) (backC ms vs os K)
    | _ => .fail
  | (_, .box _) :: _, _, _, _ => .fail
  | _ :: ms, _ :: vs, os, K => backC ms vs os K
  | [], [], [], K => K
  | _, _, _, _ => .fail

def closedM : M → Bool | .dat t => t.flat | .own t => t.flat | .unit => true | _ => false

def splitC : Nat → List V → Option (List V × List V)
  | 0, vs => some ([], vs)
  | n + 1, v :: vs => match splitC n vs with | some (a, b) => some (v :: a, b) | none => none
  | _ + 1, [] => none

def anyTup : List V → Bool | [] => false | .tup _ :: _ => true | _ :: r => anyTup r
def resV : List V → V | [v] => v | vs => .tup vs

def callC (E : Env) (q : Nat) (d : Option Tmp) (f : Nat) (vs : List V) : Cmd Unit :=
  match assoc E.fs f with
  | none => .fail
  | some s =>
    exAll (s.rs.all (fun m => closedM m.2) && s.outs.isEmpty) s.ps vs fun x => Cmd.opt (s.fn x) fun r =>
      emTup (s.rs ++ s.outs) r (boxName q d) fun ws n' => bif Nat.ble n' (boxName q d + 64) then (match splitC s.rs.length ws with
        | some (a, o) => bif anyTup a then .fail else backC s.ps vs o (dstC E d (resV a))
        | none => .fail) else .fail

def Lst (l : List Operand) : List Operand := l

def sameOp : Operand → Operand → Bool
  | .tmp a, .tmp b => Nat.beq a b
  | _, _ => false
def opCmd (E : Env) (q : Nat) (o : Oper) : Cmd Unit :=
  match o.op with
  | .move x | .assign x => opnd x fun v => dstC E o.dst v
  | .pick c a b => opnd c fun
    | .b t => bif t then opnd a fun va => dstC E o.dst va else opnd b fun vb => dstC E o.dst vb
    | _ => .fail
  | .alloc t => tiC E t fun i => bif Nat.beq i.zero.length i.size then newB (boxName q o.dst) (.bcells i.zero) (dstC E o.dst (.ptr (boxName q o.dst) 0)) else .fail
  | .box _ x => opnd x fun v => cellsC v fun cs => newB (boxName q o.dst) (.bcells cs) (dstC E o.dst (.ptr (boxName q o.dst) 0))
  | .build t ps => tiC E t fun i => match i.td with
    | .struct fs => bif allTt E fs && Nat.beq i.zero.length i.size then (opnds (ps.toList.map (·.2)) fun vs =>
        structParts E t ((ps.toList.map (·.1)).zip vs) i.zero (fun cs => dstC E o.dst (.agg cs))) else .fail
    | _ => .fail
  | .buildSlice t n ps => match elemTy E t with
    | some (_, u) => bif Nat.ble (n * u.size) 16777216 then (opnds (ps.toList.map (·.2)) fun vs => buildParts u ((ps.toList.map (·.1)).zip vs) 0 n fun xs =>
        newB (boxName q o.dst) (.barr u xs) (dstC E o.dst (.own (boxName q o.dst) none))) else .fail
    | none => .fail
  | .load t x => opnd x fun p => loadC E t p fun v => dstC E o.dst v
  | .store t x y => match o.dst with | none => opnd x fun p => opnd y fun v => storeC E t p v | some _ => .fail
  | .binOp op t x y _ => opnd x fun a => opnd y fun b => binC E t op y a b fun v => dstC E o.dst v
  | .unOp op _ x => opnd x fun a => unC op a fun v => dstC E o.dst v
  | .convert src t x => opnd x fun a => tiC E src fun j => tiC E t fun i => match a, i.td with
    | .i _ n, .int k => dstC E o.dst (.i k (wrap k n))
    | .s l, .str => dstC E o.dst (.s l)
    | _, .str => (match j.td with
      | .sl e => tiC E e fun k => (match k.td with
        | .int .u8 => cellsG false a fun cs => toData true (.sl (.int .u8)) cs fun xs r => (match r with | [] => dstC E o.dst (.s (bstr xs)) | _ => .fail)
        | _ => .fail)
      | _ => .fail)
    | _, _ => .fail
  | .makeSlice t l c => match elemTy E t with
    | some (_, u) => opnd l fun
      | .i _ n => bif sameOp l c then
          Cmd.opt (lrep n u.zero) fun xs => newB (boxName q o.dst) (.barr u xs) (dstC E o.dst (.own (boxName q o.dst) none))
        else opnd c fun
          | .i _ k => Cmd.br (rngok n k 1073741824) (Cmd.opt (lrep n u.zero) fun xs => newB (boxName q o.dst) (.barr u xs) (dstC E o.dst (.own (boxName q o.dst) none))) .fail
          | _ => .fail
      | _ => .fail
    | none => .fail
  | .slice t x lo hi none => opnd x fun v => opnds (lo.toList ++ hi.toList) fun bs =>
      match lo, hi, bs with
      | none, none, [] => sliceC E t v none none fun r => dstC E o.dst r
      | some _, none, [a] => sliceC E t v (some a) none fun r => dstC E o.dst r
      | none, some _, [b] => sliceC E t v none (some b) fun r => dstC E o.dst r
      | some _, some _, [a, b] => sliceC E t v (some a) (some b) fun r => dstC E o.dst r
      | _, _, _ => .fail
  | .fieldAddr t x f => opnd x fun p => match fieldOff E t f with
    | some (off, _, _) => match p with
      | .ptr bx o' => dstC E o.dst (.ptr bx (o' + off))
      | .ep bx ix o' => dstC E o.dst (.ep bx ix (o' + off))
      | .dp u y o' => dstC E o.dst (.dp u y (o' + off))
      | _ => .fail
    | none => .fail
  | .field t x f => opnd x fun p => match fieldOff E t f with
    | some (off, n, ag) => cellsG true p fun ps => subC off n ps (fun cs => dstC E o.dst (mkV ag cs)) Cmd.fail
    | none => .fail
  | .indexAddr t x ix => opnd x fun v => opnd ix fun n => indexAddrC E t v n fun r => dstC E o.dst r
  | .index t x ix => opnd x fun v => opnd ix fun n => tiC E t fun i => match i.td, v, n with
    | .str, .s l, .i _ k => Cmd.opt (sat l k) fun c => dstC E o.dst (.i .u8 c)
    | _, _, _ => .fail
  | .extract x n => opnd x fun
    | .tup vs => match vs[n]? with | some v => dstC E o.dst v | none => .fail
    | _ => .fail
  | .nilCheck x => opnd x fun v => match v with
    | .ptr .. | .ep .. | .dp .. | .glob _ => dstC E o.dst v
    | _ => .fail
  | .call c => opnds c.args.toList fun vs => match c.callee with
    | .builtin .len => (match c.argTypes.toList, vs with
      | t :: _, [x] => tiC E t fun i => lenC i.td x fun v => dstC E o.dst v
      | _, _ => .fail)
    | .builtin .append => (match c.argTypes.toList, vs with
      | [t, t'], [x, y] => bif Nat.beq t t' then appendC E (boxName q o.dst) t x y fun v => dstC E o.dst v else .fail
      | _, _ => .fail)
    | .builtin .min => (match vs with | [.i k a, .i k' b] => bif decide (k = k') then dstC E o.dst (.i k (imin a b)) else .fail | _ => .fail)
    | .builtin .max => (match vs with | [.i k a, .i k' b] => bif decide (k = k') then dstC E o.dst (.i k (imax a b)) else .fail | _ => .fail)
    | .value (.func f) => callC E q o.dst f vs
    | _ => .fail
  | _ => .fail

/-- an operation under its guard -/
def stepCmd (E : Env) (q : Nat) (ops : List Oper) (o : Oper) : Cmd Unit :=
  match o.guard with
  | none => opCmd E q o
  | some (j, want) => match ops[j]? with
    | some p => match p.dst with
      | some t => bif Nat.blt t BOX then (.get t fun
        | .b y => bif (bif want then y else !y) then opCmd E q o else dstC E o.dst .un
        | .un => dstC E o.dst .un
        | _ => .fail) else .fail
      | none => .fail
    | none => .fail

/-- a bool that is asked is split at once: behind the split its place holds a literal -/
def refineK {R : Type} (t : Nat) (s : St) (K : St → Option R) : Option R :=
  (look s t).force fun
    | .b y => bcond y (K (.kv t (.b true) :: s)) (K (.kv t (.b false) :: s))
    | .un => K s
    | _ => none
def askOf (ops : List Oper) (o : Oper) : Option Nat :=
  match o.guard with
  | some (j, _) => match ops[j]? with | some p => p.dst | none => none
  | none => match o.op with | .pick (.tmp t) _ _ => some t | _ => none

abbrev Trs := List Tr
def runOps {R : Type} (E : Env) (q : Nat) (all : List Oper) : List Oper → St → Trs → (St → Trs → Option R) → Option R
  | [], s, t, K => K s t
  | o :: r, s, t, K => match askOf all o with
    | none => (stepCmd E q all o).runK s ([], []) fun _ s' tr => runOps E q all r s' (tr :: t) K
    | some p => refineK p s fun s => (stepCmd E q all o).runK s ([], []) fun _ s' tr => runOps E q all r s' (tr :: t) K

def disj (a b : List Nat) : Bool := match a with | [] => true | k :: r => bif memN k b then false else disj r b
/-- the traces stand last first; so do the masks of what goes before -/
def okPair (ordered : Bool) (x y : Tr) : Bool := bif ordered then true else (disj x.2 y.1 && disj x.2 y.2 && disj x.1 y.2)
def okDraw1 (mask : Nat) (y : Tr) : Trs → Nat → Bool
  | [], _ => true
  | x :: r, i => okPair (Nat.testBit mask (i - 1)) x y && okDraw1 mask y r (i - 1)
def okDraw : List Nat → Trs → Bool
  | m :: ms, y :: r => okDraw1 m y r r.length && okDraw ms r
  | [], [] => true
  | _, _ => false

inductive Flow (ρ : Type) where
  | nm | ex (id : Nat) | rt (r : ρ)

/-- what goes before each operation by the edges that always bind, as masks (last first); none: such an edge that points ahead -/
def edgeM (acc : List Nat) (n : Nat) : List Edge → Nat → Option Nat
  | [], m => some m
  | e :: r, m => match e.ground with
    | .textOnly _ => edgeM acc n r m
    | .gcOnly _ => edgeM acc n r m
    | _ => bif Nat.blt e.on n then edgeM acc n r (m ||| 2 ^ e.on ||| acc.getD (n - 1 - e.on) 0) else none
def preM : List Oper → Nat → List Nat → Option (List Nat)
  | [], _, acc => some acc
  | o :: r, n, acc => match edgeM acc n o.after.toList 0 with
    | some m => preM r (n + 1) (m :: acc)
    | none => none
/-- an order in which every edge of a mode points back, found by taking again and again the first that is ready -/
def readyE (md : Region.Mode) (done : List Nat) : List Edge → Bool
  | [] => true
  | e :: r => bif (!Region.binds md e || memN e.on done) then readyE md done r else false
def firstReady (md : Region.Mode) (done : List Nat) : List Oper → Nat → Option Nat
  | [], _ => none
  | o :: r, n => bif memN n done then firstReady md done r (n + 1) else bif readyE md done o.after.toList then some n else firstReady md done r (n + 1)
def allIn : Nat → List Nat → Bool
  | 0, _ => true
  | n + 1, d => memN n d && allIn n d
def topo (md : Region.Mode) (ops : List Oper) : Nat → List Nat → Bool
  | 0, d => allIn ops.length d
  | k + 1, done => match firstReady md done ops 0 with | some n => topo md ops k (n :: done) | none => false
def plainE : List Edge → Bool
  | [] => true
  | e :: r => match e.ground with | .textOnly _ => false | .gcOnly _ => false | _ => plainE r
def plainOps : List Oper → Bool | [] => true | o :: r => bif plainE o.after.toList then plainOps r else false
def drawOk (ops : List Oper) (t : Trs) : Bool :=
  match preM ops 0 [] with
  | some ms => bif okDraw ms t then (bif plainOps ops then true else topo .text ops ops.length [] && topo .gc ops ops.length []) else false
  | none => false

abbrev Rgs := List (Nat × Nat)
inductive Ann where
  | leaf
  | seq (a b : Ann) | cond (a b : Ann) | blk (a : Ann)
  | loop (rs : Rgs) (hd : Sig) (xid : Nat) (xs : Sig) (body : Ann)
  | loopR (rs : Rgs) (hd : Sig) (xid : Nat) (xs : Sig) (body : Ann)
  | join (rs : Rgs) (nm : Sig) (inner : Ann)
  | joinR (rs : Rgs) (nm : Sig) (inner : Ann)

/-- how a function's results stand at its end: places and modes; then what its pointers point to, by their boxes' names -/
structure Ret where
  rs : List (ResultVar × MG)
  outs : List (Nat × MG)
@[reducible] def Ret.den (r : Ret) : Type := tupDen (r.rs.map (·.2) ++ r.outs.map (·.2))

def resAll {α : Type} (E : Env) : List ResultVar → (List V → Cmd α) → Cmd α
  | [], K => K []
  | .tmp t :: r, K => bif Nat.blt t BOX then (.get t fun v => resAll E r fun vs => K (v :: vs)) else .fail
  | .cell a t :: r, K => bif Nat.blt a BOX then (.get a fun p => loadC E t p fun v => resAll E r fun vs => K (v :: vs)) else .fail
def outAll {α : Type} : List Nat → (List V → Cmd α) → Cmd α
  | [], K => K []
  | bx :: r, K => .get (BOX + bx) fun
    | .bcells cs => Cmd.set (BOX + bx) .dead (outAll r fun vs => K (.agg cs :: vs))
    | _ => .fail
def retC (E : Env) (r : Ret) : Cmd r.den :=
  resAll E (r.rs.map (·.1)) fun vs => outAll (r.outs.map (·.1)) fun ws => exAll false (r.rs.map (·.2) ++ r.outs.map (·.2)) (vs ++ ws) .ret


def Ann.l : Ann → Ann | .seq a _ => a | .cond a _ => a | .blk a => a | _ => .leaf
def Ann.r : Ann → Ann | .seq _ b => b | .cond _ b => b | _ => .leaf

/-- how many borders a code may have: its own, its region's, its loop's two -/
def nidx : Code → Nat
  | .region .. => 2
  | .seq x y => 1 + nidx x + nidx y
  | .cond _ x y => 1 + nidx x + nidx y
  | .block _ x => 1 + nidx x
  | .loop x => 3 + nidx x
  | _ => 1

/-- what has been written since a border: ranges. 'q': the index from which names are new -/
abbrev Den (ρ : Type) := Nat → Ann → St → Rgs → (R : Type) → (Flow ρ → St → Rgs → Option R) → Option R

def inRg (lo hi : Nat) : Rgs → Bool | [] => false | (a, b) :: r => bif Nat.ble a lo && Nat.ble hi b then true else inRg lo hi r
def covers (lim : Nat) (rs : Rgs) : Rgs → Bool | [] => true | (a, b) :: w => bif Nat.ble lim a || inRg a b rs then covers lim rs w else false
def keysR (ks : List Nat) (w : Rgs) : Rgs := match ks with | [] => w | k :: r => (k, k + 1) :: keysR r w
def masks (rs : Rgs) (s : St) : St := match rs with | [] => s | (a, b) :: r => .mask a b :: masks r s

/-- out of a state at a border: the data of the signature, if nothing else was written than the ranges tell, and what is new -/
def leave {R : Type} (q : Nat) (sg : Sig) (rs : Rgs) (s : St) (w : Rgs) (K : sigDen sg → Option R) : Option R :=
  (exSig sg).runK s ([], []) fun x _ tr => bif covers (BOX + CB * q) rs (keysR tr.2 w) then K x else none
/-- into a state behind a border -/
def enter {R : Type} (q : Nat) (sg : Sig) (rs : Rgs) (s : St) (x : sigDen sg) (K : St → Rgs → Option R) : Option R :=
  (emSig sg x (CB * q) (CB * q + CB)).runK (masks rs s) ([], []) fun _ s' tr => K s' (keysR tr.2 rs)
def appR (a b : Rgs) : Rgs := match a with | [] => b | x :: r => x :: appR r b

def wrapJ {ρ : Type} (core : Den ρ) : Den ρ := fun q a s w R K =>
  match a with
  | .join rs nm a => obind (core (q + 1) a s [] (sigDen nm) fun fl s' w' => match fl with
      | .nm => leave q nm rs s' w' some
      | _ => none) fun x => enter q nm rs s x fun s' w' => K .nm s' (appR w' w)
  | .joinR rs nm a => obind (core (q + 1) a s [] (sigDen nm ⊕ ρ) fun fl s' w' => match fl with
      | .nm => leave q nm rs s' w' fun x => some (Sum.inl x)
      | .rt r => some (Sum.inr r)
      | _ => none) fun o => sumK o (fun x => enter q nm rs s x fun s' w' => K .nm s' (appR w' w)) (fun r => K (.rt r) [] [])
  | a => core (q + 1) a s w R K

/-- a round of a loop without, and with, returns -/
def roundE {ρ : Type} (core : Den ρ) (q : Nat) (rs : Rgs) (hd : Sig) (xid : Nat) (xs : Sig) (a : Ann) (s : St) (x : sigDen hd) : Option (sigDen hd ⊕ sigDen xs) :=
  enter q hd rs s x fun s w => core (q + 2) a s w (sigDen hd ⊕ sigDen xs) fun fl s' w' => match fl with
    | .nm => leave q hd rs s' w' fun x => some (Sum.inl x)
    | .ex id => bif Nat.beq id xid then leave q xs rs s' w' fun y => some (Sum.inr y) else none
    | .rt _ => none
def roundR {ρ : Type} (core : Den ρ) (q : Nat) (rs : Rgs) (hd : Sig) (xid : Nat) (xs : Sig) (a : Ann) (s : St) (x : sigDen hd) : Option (Out (sigDen hd) (sigDen xs) ρ) :=
  enter q hd rs s x fun s w => core (q + 2) a s w (Out (sigDen hd) (sigDen xs) ρ) fun fl s' w' => match fl with
    | .nm => leave q hd rs s' w' fun x => some (.nx x)
    | .ex id => bif Nat.beq id xid then leave q xs rs s' w' fun y => some (.ex y) else none
    | .rt r => some (.rt r)
def loopC {ρ : Type} (core : Den ρ) : Den ρ := fun q a s w R K =>
  match a with
  | .loop rs hd xid xs a => leave q hd rs s [] fun x0 =>
    obind (loopE (fun x => roundE core q rs hd xid xs a s x) x0) fun y => enter (q + 1) xs rs s y fun s' w' => K (.ex xid) s' (appR w' w)
  | .loopR rs hd xid xs a => leave q hd rs s [] fun x0 =>
    obind (loopO (fun x => roundR core q rs hd xid xs a s x) x0) fun o => sumK o (fun y => enter (q + 1) xs rs s y fun s' w' => K (.ex xid) s' (appR w' w)) (fun r => K (.rt r) [] [])
  | _ => none

def trKeys (t : Trs) (w : Rgs) : Rgs := match t with | [] => w | x :: r => keysR x.2 (trKeys r w)
def regionK {R : Type} (E : Env) (q : Nat) (ops : Array Oper) (draw : Bool) (s : St) (w : Rgs) (K : St → Rgs → Option R) : Option R :=
  runOps E q ops.toList ops.toList s [] fun s' t =>
    bif draw then (bif drawOk ops.toList t then K s' (trKeys t w) else none) else K s' (trKeys t w)

def den (E : Env) (rt : Ret) : Code → Den rt.den
  | .skip => wrapJ fun _ _ s w _ K => K .nm s w
  | .label _ => wrapJ fun _ _ s w _ K => K .nm s w
  | .region _ ops draw => wrapJ fun q _ s w _ K => regionK E q ops draw s w fun s' w' => K .nm s' w'
  | .seq x y => wrapJ fun q a s w R K => den E rt x q a.l s w R fun fl s' w' => match fl with
      | .nm => den E rt y (q + nidx x) a.r s' w' R K
      | .ex id => K (.ex id) s' w'
      | .rt r => K (.rt r) s' w'
  | .cond c x y => wrapJ fun q a s w R K => (opnd c fun v => Cmd.ret v : Cmd V).runK s ([], []) fun v s' _ => match v with
      | .b t => bcond t (den E rt x q a.l s' w R K) (den E rt y (q + nidx x) a.r s' w R K)
      | _ => none
  | .block id x => wrapJ fun q a s w R K => den E rt x q a.l s w R fun fl s' w' => match fl with
      | .nm => K .nm s' w'
      | .ex j => bif Nat.beq j id then K .nm s' w' else K (.ex j) s' w'
      | .rt r => K (.rt r) s' w'
  | .loop x => wrapJ (loopC fun q a s w R K => den E rt x q a s w R K)
  | .exit id => wrapJ fun _ _ s w _ K => K (.ex id) s w
  | .ret => wrapJ fun _ _ s _ _ K => (retC E rt).runK s ([], []) fun r _ _ => K (.rt r) [] []
  | _ => fun _ _ _ _ _ _ => none

/-- the boxes that the parameters point to -/
def ptrsAre : List MG → List V → List Nat → Bool
  | (_, .box _) :: ms, .ptr bx 0 :: vs, n :: ns => Nat.beq bx n && ptrsAre ms vs ns
  | (_, .box _) :: _, _, _ => false
  | _ :: ms, _ :: vs, ns => ptrsAre ms vs ns
  | [], [], [] => true
  | _, _, _ => false
/-- a function: its parameters in the first places -/
def denF (E : Env) (ps : List MG) (rt : Ret) (body : Code) (a : Ann) (x : tupDen ps) : Option rt.den :=
  bif Nat.ble ps.length E.nt then
  (emTup ps x 0 fun vs n => bif Nat.ble n CB && ptrsAre ps vs (rt.outs.map (·.1)) then setAll (List.range vs.length) vs else .fail).runK [] ([], []) fun _ s _ =>
    den E rt body 1 a s [] rt.den fun fl s' _ => match fl with
      | .rt r => some r
      | .nm => (retC E rt).runK s' ([], []) fun r _ _ => some r
      | .ex _ => none
  else none

end Go.GP
