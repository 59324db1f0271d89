import Derived.Test.YtjpepdpbplpccaaDoorGp5
import Derived.Laws.CopyRow
import Derived.Laws.BytesArg
import Derived.Laws.Cells
import Derived.Laws.Append
import Derived.Laws.Strings
import Derived.Lib.SmallJoins
/- OPERATIONS: the pure run of an operation is the model's. -/
namespace Go.GP
set_option linter.unusedVariables false
set_option linter.unusedSimpArgs false

def tdOk (P : Program) (t : TypeId) : TD → Prop
  | .bool => P.underlying t = some .bool
  | .int k => P.underlying t = some (.int k)
  | .str => P.underlying t = some .string
  | .sl e => P.underlying t = some (.slice e)
  | .ptr e => P.underlying t = some (.pointer e)
  | .struct fs => ∃ fields, P.underlying t = some (.struct fields) ∧ fields.toList.map (fun f => (f.type, f.offset)) = fs
  | .arr n e => P.underlying t = some (.array n e)
  | .other => ∃ d, P.underlying t = some d ∧ (match d with | .struct _ | .array _ _ => False | _ => True)

structure TiOk (P : Program) (t : TypeId) (i : TI) : Prop where
  info : ∃ inf, P.info? t = some inf ∧ inf.size = i.size ∧ inf.bytes = i.bytes ∧
    (i.zero.length = i.size → ∃ z, inf.zero = some z ∧ relL ⟨#[], fun _ => False, fun _ => none⟩ i.zero z.cells.toList) ∧
    (∀ u, i.ty = some u → u.size = i.size ∧ ∃ z, inf.zero = some z ∧ rep #[] (fun _ => False) u u.zero z.cells.toList)
  td : tdOk P t i.td
  one : isAggTD i.td = false → i.size = 1

def RetV (n : Nat) (v : Value) (rs : List Value) : Prop := rs.length = n ∧ v = (match rs with | [x] => x | l => .tuple l.toArray)
def OutsOk (h : Array Obj) : List MG → List Value → List Value → List Nat → Prop
  | [], [], os, B => os = [] ∧ B = []
  | (_, .box _) :: ms, v :: vs, os, B => ∃ b arr T os' B', v = .pointer (some ⟨b, 0, none⟩) ∧ h[b]? = some (.cells arr T (0, 0)) ∧ os = .agg arr :: os' ∧ B = b :: B' ∧ OutsOk h ms vs os' B'
  | _ :: ms, _ :: vs, os, B => OutsOk h ms vs os B
  | _, _, _, _ => False

/-- WHAT IS PROVED OF A FUNCTION: where its pure form gives a result, the call returns it -/
def FSound (P : Program) (gl : List (Nat × (t : Ty) × List t.den)) (f : FuncId) (s : FSpec) : Prop :=
  ∀ (w : World) (ok : Nat → Prop) (O : List Nat) (vals : List Value) (x : tupDen s.ps) (r : tupDen (s.rs ++ s.outs)),
    (∀ b, ok b → b < w.heap.size) → O.Nodup → (∀ b ∈ O, ¬ ok b ∧ b < w.heap.size) → (∀ g u, assoc gl g = some u → GlOk ⟨w.heap, ok, fun _ => none⟩ g u.1 u.2) →
    relTup w.heap ok s.ps x vals O → s.fn x = some r →
    Calls P f vals.toArray w fun e w' => ∃ v ok' O' rs os B, e = .returned v ∧ Frame' w w' O ∧ (∀ b, ok b → ok' b) ∧ (∀ b, ok' b → b < w'.heap.size ∧ (ok b ∨ w.heap.size ≤ b ∨ b ∈ O)) ∧
      (O' ++ B).Nodup ∧ (∀ b ∈ O' ++ B, ¬ ok' b ∧ b < w'.heap.size ∧ (w.heap.size ≤ b ∨ b ∈ O)) ∧
      RetV s.rs.length v rs ∧ OutsOk w'.heap s.ps vals os B ∧ relTup w'.heap ok' (s.rs ++ s.outs) r (rs ++ os) O'

/-- a type whose values are compared cell by cell -/
def EqSound (P : Program) (t : TypeId) : Prop :=
  ∀ (w : World) (C : Cx) (cs ds : List V) (xs ys : Array Value) (e : Bool) (op : BinOp) (x y : Operand), relL C cs xs.toList → relL C ds ys.toList → eqCells cs ds = some e →
    (op = .eql ∨ op = .neq) → (do eqGuard op t x y (.agg xs) (.agg ys); binOp op t (.agg xs) (.agg ys) : Sem Value).run P w = .ok (.bool (if op = .eql then e else !e)) w

structure FxOk (X : Fx) : Prop where
  nt : 64 * X.E.nt ≤ 999936
  tt : ∀ t i, assoc X.E.tt t = some i → TiOk X.P t i
  fs : ∀ f s, assoc X.E.fs f = some s → FSound X.P X.E.gl f s
  eqs : ∀ t, memN t X.E.eqs = true → EqSound X.P t
  fn : ∀ f s, assoc X.E.fs f = some s → ∃ fn, X.P.funcs[f]? = some fn ∧ fn.body.isSome = true ∧ (fn.name == "runtime.NumGoroutine") = false
theorem FxOk.ntB {X : Fx} (H : FxOk X) : X.E.nt ≤ BOX := by have := H.nt; show X.E.nt ≤ 1000000; omega

/-- an operation done: the pure state S' stands for what the model comes to -/
def OpOk (X : Fx) (cl ch : Nat) (o : Oper) (a : Act) (w : World) (m : Nat → Option Loc) (ok : Nat → Prop) (S' : Sm) : Prop :=
  ∀ (next : Act → World → Prop) (Q : Exit → Act → World → Prop),
    (∀ m' ok' a' w', Rel X cl ch S' m' ok' a' w' → (∀ k l, m k = some l → m' k = some l) → (∀ b, ok b → ok' b) → next a' w') → o.wp X.P a w next Q

theorem post_all {α : Type} {ι : Sort _} {Q : ι → α → Sm → Prop} : ∀ {c : Cmd α} {S : Sm}, (∀ i, c.post S (Q i)) → c.post S (fun x S' => ∀ i, Q i x S')
  | .ret x, S, h => fun i => h i
  | .fail, S, h => trivial
  | .get k c, S, h => post_all (c := c (S k)) h
  | .set k v c, S, h => post_all (c := c) h
  | .opt o c, S, h => fun x e => post_all (c := c x) fun i => h i x e
  | .br b c d, S, h => ⟨fun e => post_all (c := c) fun i => (h i).1 e, fun e => post_all (c := d) fun i => (h i).2 e⟩

section
variable {X : Fx} {cl ch : Nat} {S : Sm} {m : Nat → Option Loc} {ok : Nat → Prop} {a : Act} {w : World} {o : Oper}

theorem bif_post {α : Type} {Q : α → Sm → Prop} {b : Bool} {c : Cmd α} {S : Sm} (h : b = true → c.post S Q) : (bif b then c else Cmd.fail).post S Q := by
  cases b
  · trivial
  · exact h rfl
theorem blt_lt {a b : Nat} (h : Nat.blt a b = true) : a < b := by rw [Nat.blt_eq] at h; exact h

theorem dst_ok (H : FxOk X) {S : Sm} {m0 m : Nat → Option Loc} {ok0 ok : Nat → Prop} {w0 w : World} {a : Act} (R : Rel X cl ch S m ok a w) (hm : ∀ k l, m0 k = some l → m k = some l) (hok : ∀ b, ok0 b → ok b)
    {v : V} {x : Value} (hv : relV ⟨w.heap, ok, m⟩ v x) (run : (execOp a.eval o).run X.P w0 = .ok (.value x) w) :
    (dstC X.E o.dst v).post S (fun _ S' => OpOk X cl ch o a w0 m0 ok0 S') := by
  unfold dstC
  cases hd : o.dst with
  | none =>
    intro next Q hn
    unfold Oper.wp
    rw [run, Oper.upon_value, hd]
    exact hn m ok a w R hm hok
  | some d =>
    refine bif_post fun hb => ?_
    intro next Q hn
    unfold Oper.wp
    rw [run, Oper.upon_value, hd]
    exact hn m ok _ w (R.put H.ntB (blt_lt hb) hv) hm hok

theorem constV_rel (C : Cx) (v : Value) : relV C (constV v) v := by
  unfold constV
  split <;> first | exact rfl | trivial

theorem opnd_post {α : Type} {Q : α → Sm → Prop} (R : Rel X cl ch S m ok a w) {x : Operand} {K : V → Cmd α} (hK : ∀ v, relV ⟨w.heap, ok, m⟩ v (a.eval x) → (K v).post S Q) : (opnd x K).post S Q := by
  unfold opnd
  cases x with
  | tmp t =>
    exact bif_post fun hb => hK (S t) (R.slot t (blt_lt hb))
  | const v => exact hK _ (constV_rel _ v)
  | global g => exact hK _ rfl
  | func f => exact hK _ rfl
theorem opnds_post {α : Type} {Q : α → Sm → Prop} (R : Rel X cl ch S m ok a w) : ∀ (xs : List Operand) {K : List V → Cmd α} (hK : ∀ vs, relVs ⟨w.heap, ok, m⟩ vs (xs.map a.eval) → (K vs).post S Q), (opnds xs K).post S Q
  | [], K, hK => hK [] rfl
  | x :: r, K, hK => by
    unfold opnds
    refine opnd_post R fun v hv => ?_
    exact opnds_post R r fun vs hvs => hK _ ⟨_, _, rfl, hv, hvs⟩

/-- a value that only computes -/
theorem pure_ok (H : FxOk X) (R : Rel X cl ch S m ok a w) {v : V} {x : Value} (hv : relV ⟨w.heap, ok, m⟩ v x) (run : (execOp a.eval o).run X.P w = .ok (.value x) w) :
    (dstC X.E o.dst v).post S (fun _ S' => OpOk X cl ch o a w m ok S') := dst_ok H R (fun _ _ h => h) (fun _ h => h) hv run

theorem relV_b {C : Cx} {x : Bool} {v : Value} (h : relV C (.b x) v) : v = .bool x := h
theorem relV_i {C : Cx} {k : IntKind} {n : Int} {v : Value} (h : relV C (.i k n) v) : v = .int k n := h
theorem relV_s {C : Cx} {l : List UInt8} {v : Value} (h : relV C (.s l) v) : v = .string ⟨l.toArray⟩ := h

theorem op_move (H : FxOk X) (R : Rel X cl ch S m ok a w) {x : Operand} (ho : o.op = .move x ∨ o.op = .assign x) : (opnd x fun v => dstC X.E o.dst v).post S (fun _ S' => OpOk X cl ch o a w m ok S') := by
  refine opnd_post R fun v hv => pure_ok H R hv ?_
  rcases ho with ho | ho <;> simp [execOp, ho]

theorem op_pick (H : FxOk X) (R : Rel X cl ch S m ok a w) {c x y : Operand} {q : Nat} (ho : o.op = .pick c x y) : (opCmd X.E q o).post S (fun _ S' => OpOk X cl ch o a w m ok S') := by
  unfold opCmd
  simp only [ho]
  refine opnd_post R fun v hv => ?_
  split <;> try trivial
  rename_i t
  have hc := relV_b hv
  cases t
  · simp only [cond_false]
    refine opnd_post R fun v hv => pure_ok H R hv ?_
    simp [execOp, ho, hc, asBool]
  · simp only [cond_true]
    refine opnd_post R fun v hv => pure_ok H R hv ?_
    simp [execOp, ho, hc, asBool]

/-! #### numbers and strings -/
theorem opt_post {α β : Type} {Q : α → Sm → Prop} {x : Option β} {c : β → Cmd α} {S : Sm} (h : ∀ y, x = some y → (c y).post S Q) : (Cmd.opt x c).post S Q := h

theorem zeroLit {yc : Operand} {a : Act} {k : IntKind} {b : Int} (h : isZeroLit yc = false) (he : a.eval yc = .int k b) : b ≠ 0 := by
  unfold isZeroLit at h
  split at h
  · simp [Act.eval] at he; obtain ⟨_, rfl⟩ := he; simpa using h
  · simp at h
theorem negLit {yc : Operand} {a : Act} {k : IntKind} {b : Int} (h : isNegLit yc = false) (he : a.eval yc = .int k b) : ¬ b < 0 := by
  unfold isNegLit at h
  split at h
  · simp [Act.eval] at he; obtain ⟨_, rfl⟩ := he; simpa using h
  · simp at h

theorem op_binInt (H : FxOk X) (R : Rel X cl ch S m ok a w) {op : BinOp} {t : TypeId} {x y : Operand} {yt : TypeId} (ho : o.op = .binOp op t x y yt) {k k' : IntKind} {p q : Int}
    (hx : a.eval x = .int k p) (hy : a.eval y = .int k' q) : (binC X.E t op y (.i k p) (.i k' q) fun v => dstC X.E o.dst v).post S (fun _ S' => OpOk X cl ch o a w m ok S') := by
  have run : ∀ v, (binOp op t (.int k p) (.int k' q)).run X.P w = .ok v w → (execOp a.eval o).run X.P w = .ok (.value v) w := fun v h => by
    simp [execOp, ho, hx, hy, eqGuard_at_int, h]
  have fin : ∀ (v : V) (u : Value), relV ⟨w.heap, ok, m⟩ v u → (binOp op t (.int k p) (.int k' q)).run X.P w = .ok u w → (dstC X.E o.dst v).post S (fun _ S' => OpOk X cl ch o a w m ok S') :=
    fun v u hv h => pure_ok H R hv (run u h)
  unfold binC
  cases op <;> simp only []
  case shl =>
    cases hn : isNegLit y
    · simp only [cond_false]
      have h0 := negLit hn hy
      exact fin _ _ rfl (by simp [binOp, Op.shift, h0, ishl])
    · simp only [cond_true]
      refine opt_post fun r hr => ?_
      unfold ishlO at hr
      split at hr
      · cases hr
      · rename_i h0; cases hr
        exact fin _ _ rfl (by simp [binOp, Op.shift, h0, ishl])
  case shr =>
    cases hn : isNegLit y
    · simp only [cond_false]
      have h0 := negLit hn hy
      exact fin _ _ rfl (by simp [binOp, Op.shift, h0, ishr])
    · simp only [cond_true]
      refine opt_post fun r hr => ?_
      unfold ishrO at hr
      split at hr
      · cases hr
      · rename_i h0; cases hr
        exact fin _ _ rfl (by simp [binOp, Op.shift, h0, ishr])
  all_goals
    refine bif_post fun hk => ?_
    have hk' : k = k' := of_decide_eq_true hk
    subst hk'
  case quo =>
    cases hz : isZeroLit y
    · simp only [cond_false]
      have h0 := zeroLit hz hy
      exact fin _ _ rfl (by simp [binOp, Op.intDiv, h0, iquo])
    · simp only [cond_true]
      refine opt_post fun r hr => ?_
      unfold iquoO at hr
      split at hr
      · cases hr
      · rename_i h0; cases hr
        exact fin _ _ rfl (by simp [binOp, Op.intDiv, h0])
  case rem =>
    cases hz : isZeroLit y
    · simp only [cond_false]
      have h0 := zeroLit hz hy
      exact fin _ _ rfl (by simp [binOp, Op.intDiv, h0, irem])
    · simp only [cond_true]
      refine opt_post fun r hr => ?_
      unfold iremO at hr
      split at hr
      · cases hr
      · rename_i h0; cases hr
        exact fin _ _ rfl (by simp [binOp, Op.intDiv, h0])
  case add => exact fin _ _ rfl (by simp [binOp, Op.intArith, iadd])
  case sub => exact fin _ _ rfl (by simp [binOp, Op.intArith, isub])
  case mul => exact fin _ _ rfl (by simp [binOp, Op.intArith, imul])
  case and => exact fin _ _ rfl (by simp [binOp, Op.intBits, iand])
  case or => exact fin _ _ rfl (by simp [binOp, Op.intBits, ior])
  case xor => exact fin _ _ rfl (by simp [binOp, Op.intBits, ixor])
  case andNot => exact fin _ _ rfl (by simp [binOp, Op.intBits, iandnot])
  case eql => exact fin _ _ rfl (by simp [binOp, Op.intCmp, ieq]; rfl)
  case neq => exact fin _ _ rfl (by simp [binOp, Op.intCmp, ieq, bnot]; rfl)
  case lss => exact fin _ _ rfl (by simp [binOp, Op.intCmp, ilt])
  case leq => exact fin _ _ rfl (by simp [binOp, Op.intCmp, ile])
  case gtr => exact fin _ _ rfl (by simp [binOp, Op.intCmp, ilt])
  case geq => exact fin _ _ rfl (by simp [binOp, Op.intCmp, ile])

theorem op_binStr (H : FxOk X) (R : Rel X cl ch S m ok a w) {op : BinOp} {t : TypeId} {x y : Operand} {yt : TypeId} (ho : o.op = .binOp op t x y yt) {p q : List UInt8}
    (hx : a.eval x = .string ⟨p.toArray⟩) (hy : a.eval y = .string ⟨q.toArray⟩) : (binC X.E t op y (.s p) (.s q) fun v => dstC X.E o.dst v).post S (fun _ S' => OpOk X cl ch o a w m ok S') := by
  have run : ∀ v, (Op.stringOp op ⟨p.toArray⟩ ⟨q.toArray⟩).run X.P w = .ok v w → (execOp a.eval o).run X.P w = .ok (.value v) w := fun v h => by
    simp [execOp, ho, hx, hy, eqGuard_at_string, binOp, h]
  have fin : ∀ (v : V) (u : Value), relV ⟨w.heap, ok, m⟩ v u → (Op.stringOp op ⟨p.toArray⟩ ⟨q.toArray⟩).run X.P w = .ok u w → (dstC X.E o.dst v).post S (fun _ S' => OpOk X cl ch o a w m ok S') :=
    fun v u hv h => pure_ok H R hv (run u h)
  unfold binC
  cases op <;> simp only [] <;> try trivial
  case add =>
    refine opt_post fun r hr => ?_
    unfold sadd at hr
    split at hr
    · rename_i hle; cases hr
      have e : (⟨p.toArray⟩ : ByteArray) ++ ⟨q.toArray⟩ = ⟨(p ++ q).toArray⟩ := by
        apply ByteArray.ext
        apply Array.ext'
        simp [ByteArray.data_append]
      refine fin _ (.string ⟨(p ++ q).toArray⟩) rfl ?_
      have hs : ¬ ((9223372036854775807 : Int) < (p.length : Int) + (q.length : Int)) := by omega
      simp [Op.stringOp, e, ByteArray.size, hs]
    · cases hr
  case eql => exact fin _ _ rfl (by simp only [Op.stringOp, ByteArray.toList_mk, seq, Sem.run_pure]; rw [show (p == q) = decide (p = q) by rw [Bool.eq_iff_iff]; simp])
  case neq => exact fin _ _ rfl (by simp only [Op.stringOp, ByteArray.toList_mk, seq, bnot, Sem.run_pure]; rw [show (p == q) = decide (p = q) by rw [Bool.eq_iff_iff]; simp])
  case lss => exact fin _ _ rfl (by simp [Op.stringOp, ByteArray.toList_mk, slt])

theorem op_binBool (H : FxOk X) (R : Rel X cl ch S m ok a w) {op : BinOp} {t : TypeId} {x y : Operand} {yt : TypeId} (ho : o.op = .binOp op t x y yt) {p q : Bool} 
    (hx : a.eval x = .bool p) (hy : a.eval y = .bool q) : (binC X.E t op y (.b p) (.b q) fun v => dstC X.E o.dst v).post S (fun _ S' => OpOk X cl ch o a w m ok S') := by
  unfold binC
  cases hi : assoc X.E.tt t with
  | none => trivial
  | some i =>
  have ht' := (H.tt t i hi).td
  simp only []
  cases hd : i.td <;> try trivial
  rw [hd] at ht'
  have ht : X.P.underlying t = some .bool := ht'
  have he' : ∀ d, (Op.equalIn (d + 1) t (.bool p) (.bool q)).run X.P w = .ok (p == q) w := fun d => by
    simp [Op.equalIn, run_underlying ht]
  have he : (Op.equal t (.bool p) (.bool q)).run X.P w = .ok (p == q) w := he' 9999
  have run : ∀ v, (binOp op t (.bool p) (.bool q)).run X.P w = .ok v w → (execOp a.eval o).run X.P w = .ok (.value v) w := fun v h => by
    simp [execOp, ho, hx, hy, eqGuard_at_bool, h]
  have fin : ∀ (v : V) (u : Value), relV ⟨w.heap, ok, m⟩ v u → (binOp op t (.bool p) (.bool q)).run X.P w = .ok u w → (dstC X.E o.dst v).post S (fun _ S' => OpOk X cl ch o a w m ok S') :=
    fun v u hv h => pure_ok H R hv (run u h)
  cases op <;> try trivial
  case eql => exact fin _ _ rfl (by simp [binOp, he, beqb])
  case neq => exact fin _ _ rfl (by simp [binOp, he, beqb, bnot])
end
end Go.GP
