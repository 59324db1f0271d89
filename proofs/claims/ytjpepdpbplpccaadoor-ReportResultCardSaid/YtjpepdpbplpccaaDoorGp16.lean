import Derived.Test.YtjpepdpbplpccaaDoorGp15
import Derived.Orders
/- OPERATIONS UNDER GUARDS. -/
namespace Go.GP
set_option linter.unusedVariables false
set_option linter.unusedSimpArgs false

section
variable {X : Fx} {S : Sm} {m : Nat → Option Loc} {ok : Nat → Prop} {a : Act} {w : World} {o : Oper}

theorem op_all (H : FxOk X) {q : Nat} (R : Rel X (CB * q) (CB * q + CB) S m ok a w) (o : Oper) : (opCmd X.E q o).post S (fun _ S' => OpOk X (CB * q) (CB * q + CB) o a w m ok S') := by
  have fin : ∀ {α : Type} {Q : α → Sm → Prop}, (Cmd.fail : Cmd α).post S Q := trivial
  cases ho : o.op
  case move x => have h := op_move H R (o := o) (x := x) (.inl ho); unfold opCmd; simp only [ho]; exact h
  case assign x => have h := op_move H R (o := o) (x := x) (.inr ho); unfold opCmd; simp only [ho]; exact h
  case pick c x y => exact op_pick H R ho
  case alloc t => exact op_alloc H R ho
  case box t x => exact op_box H R ho
  case build t ps => exact op_build H R ho
  case buildSlice t n ps => exact op_buildSlice H R ho
  case load t x => exact op_load H R ho
  case store t x y => exact op_store H R ho
  case binOp op t x y yt => exact op_binOp H R ho
  case unOp op t x => exact op_unOp H R ho
  case convert s t x => exact op_convert H R ho
  case makeSlice t l c => exact op_makeSlice H R ho
  case slice t x lo hi mx =>
    cases mx with
    | none => exact op_slice H R ho
    | some _ => unfold opCmd; simp only [ho]; exact fin
  case fieldAddr t x f => exact op_fieldAddr H R ho
  case field t x f => exact op_field H R ho
  case indexAddr t x ix => exact op_indexAddr H R ho
  case index t x ix => exact op_index H R ho
  case extract x n => exact op_extract H R ho
  case nilCheck x => exact op_nilCheck H R ho
  case call c =>
    cases hc : c.callee
    case builtin b =>
      cases b
      case len => exact op_len H R ho hc
      case append => exact op_append H R ho hc
      case min => exact op_minmax H R ho (.inl hc)
      case max => exact op_minmax H R ho (.inr hc)
      all_goals
        unfold opCmd
        simp only [ho]
        exact opnds_post R _ fun vs hvs => by simp only [hc]; exact fin
    case value f =>
      cases f
      case func f => exact op_call H R ho hc
      all_goals
        unfold opCmd
        simp only [ho]
        exact opnds_post R _ fun vs hvs => by simp only [hc]; exact fin
    case invoke x n =>
      unfold opCmd
      simp only [ho]
      exact opnds_post R _ fun vs hvs => by simp only [hc]; exact fin
  all_goals
    unfold opCmd
    simp only [ho]
    exact fin

/-- an operation of a region, under its guard -/
def StepOk (X : Fx) (cl ch : Nat) (ops : Array Oper) (i : Nat) (a : Act) (w : World) (m : Nat → Option Loc) (ok : Nat → Prop) (S' : Sm) : Prop :=
  ∀ (next : Act → World → Prop) (Q : Exit → Act → World → Prop),
    (∀ m' ok' a' w', Rel X cl ch S' m' ok' a' w' → (∀ k l, m k = some l → m' k = some l) → (∀ b, ok b → ok' b) → next a' w') → wpOp X.P ops Q i next a w

theorem step_undef (H : FxOk X) {cl ch : Nat} (R : Rel X cl ch S m ok a w) {ops : Array Oper} {i : Nat} (hi : ops[i]? = some o) (hw : Region.wanted o (yielded ops a.tmps) = false) :
    (dstC X.E o.dst .un).post S (fun _ S' => StepOk X cl ch ops i a w m ok S') := by
  have h : ∀ S', Rel X cl ch S' m ok (a.put o.dst Go.undef) w → StepOk X cl ch ops i a w m ok S' := fun S' R' next Q hn => by
    unfold wpOp
    simp only [hi, hw, Bool.false_eq_true, if_false]
    exact hn m ok _ w R' (fun _ _ h => h) (fun _ h => h)
  unfold dstC
  cases hd : o.dst with
  | none => rw [hd] at h; exact h S R
  | some d =>
    rw [hd] at h
    exact bif_post fun hb => h _ (R.put H.ntB (blt_lt hb) rfl)

theorem getD_getElem? {tmps : Array Value} {t : Nat} {v : Value} (h : tmps.getD t Go.undef = v) (hv : v ≠ Go.undef) : tmps[t]? = some v := by
  rw [Array.getD_eq_getD_getElem?] at h
  cases hx : tmps[t]? with
  | none => rw [hx] at h; exact absurd h.symm hv
  | some x => rw [hx] at h; simpa using h

theorem step_post (H : FxOk X) {q : Nat} (R : Rel X (CB * q) (CB * q + CB) S m ok a w) {ops : Array Oper} {i : Nat} (hi : ops[i]? = some o) :
    (stepCmd X.E q ops.toList o).post S (fun _ S' => StepOk X (CB * q) (CB * q + CB) ops i a w m ok S') := by
  have yes : Region.wanted o (yielded ops a.tmps) = true → (opCmd X.E q o).post S (fun _ S' => StepOk X (CB * q) (CB * q + CB) ops i a w m ok S') := fun hw => by
    refine post_mono ?_ (op_all H R o)
    intro _ S' h next Q hn
    unfold wpOp
    simp only [hi, hw, if_true]
    exact .inl (h next Q hn)
  unfold stepCmd
  cases hg : o.guard with
  | none => exact yes (by simp [Region.wanted, hg])
  | some p =>
    obtain ⟨j, want⟩ := p
    cases hj : ops.toList[j]? with
    | none => simp only [hj]; trivial
    | some p =>
      simp only [hj]
      have hj' : ops[j]? = some p := by simpa using hj
      cases hd : p.dst with
      | none => trivial
      | some t =>
        simp only []
        refine bif_post fun hlt => get_post ?_
        have hsl := R.slot t (blt_lt hlt)
        have hyd : yielded ops a.tmps j = match a.tmps[t]? with | some (.bool b) => some b | _ => none := by
          unfold yielded; rw [hj']; simp only [Option.bind_some, hd]; rfl
        split <;> try trivial
        · rename_i y hS
          rw [hS] at hsl
          have hb : a.tmps.getD t Go.undef = .bool y := hsl
          have hy : yielded ops a.tmps j = some y := by
            rw [hyd, getD_getElem? hb (by simp [Go.undef])]
          have hwt : Region.wanted o (yielded ops a.tmps) = (bif want then y else !y) := by
            unfold Region.wanted
            rw [hg]
            simp only [hy]
            cases want <;> cases y <;> rfl
          cases hc : (bif want then y else !y)
          · simp only [cond_false]
            exact step_undef H R hi (hwt.trans hc)
          · simp only [cond_true]
            exact yes (hwt.trans hc)
        · rename_i hS
          rw [hS] at hsl
          have hb : a.tmps.getD t Go.undef = Go.undef := hsl
          have hwt : Region.wanted o (yielded ops a.tmps) = false := by
            unfold Region.wanted
            rw [hg]
            simp only [hyd]
            rw [Array.getD_eq_getD_getElem?] at hb
            cases hx : a.tmps[t]? with
            | none => rfl
            | some x =>
              rw [hx] at hb
              simp only [Option.getD_some] at hb
              subst hb; rfl
          exact step_undef H R hi hwt
end
end Go.GP
