import Derived.Test.YtjpepdpbplpccaaDoorGp18
import Derived.LoopN
/- BORDERS OF A CODE: what is taken over them. -/
namespace Go.GP
set_option linter.unusedVariables false
set_option linter.unusedSimpArgs false

def Wr (w : Rgs) (k : Nat) : Prop := ∃ p ∈ w, p.1 ≤ k ∧ k < p.2

theorem Wr_nil {k : Nat} : ¬ Wr [] k := fun ⟨p, h, _⟩ => by cases h
theorem Wr_cons {p : Nat × Nat} {w : Rgs} {k : Nat} : Wr (p :: w) k ↔ (p.1 ≤ k ∧ k < p.2) ∨ Wr w k := by
  constructor
  · rintro ⟨x, h, h1⟩
    rcases List.mem_cons.1 h with rfl | h
    · exact .inl h1
    · exact .inr ⟨x, h, h1⟩
  · rintro (h | ⟨x, h, h1⟩)
    · exact ⟨p, by simp, h⟩
    · exact ⟨x, by simp [h], h1⟩
theorem Wr_keysR {w : Rgs} {k : Nat} : ∀ {ks : List Nat}, Wr (keysR ks w) k ↔ k ∈ ks ∨ Wr w k
  | [] => by simp [keysR]
  | x :: ks => by
    unfold keysR
    rw [Wr_cons, Wr_keysR]
    simp only [List.mem_cons]
    constructor
    · rintro (⟨h1, h2⟩ | h | h)
      · exact .inl (.inl (by omega))
      · exact .inl (.inr h)
      · exact .inr h
    · rintro ((rfl | h) | h)
      · simp
      · exact .inr (.inl h)
      · exact .inr (.inr h)
theorem Wr_appR {b : Rgs} {k : Nat} : ∀ {a : Rgs}, Wr (appR a b) k ↔ Wr a k ∨ Wr b k
  | [] => by simp [appR, Wr_nil]
  | x :: a => by
    unfold appR
    rw [Wr_cons, Wr_cons, Wr_appR, or_assoc]
theorem Wr_trKeys {w : Rgs} {k : Nat} : ∀ {t : Trs}, Wr (trKeys t w) k ↔ (∃ x ∈ t, k ∈ x.2) ∨ Wr w k
  | [] => by simp [trKeys]
  | x :: t => by
    unfold trKeys
    rw [Wr_keysR, Wr_trKeys, ← or_assoc]
    simp
theorem inRg_spec {lo hi : Nat} : ∀ {rs : Rgs}, inRg lo hi rs = true → ∃ p ∈ rs, p.1 ≤ lo ∧ hi ≤ p.2
  | [], h => by simp [inRg] at h
  | (a, b) :: r, h => by
    unfold inRg at h
    cases hb : (Nat.ble a lo && Nat.ble hi b)
    · simp only [hb, cond_false] at h
      obtain ⟨p, h1, h2⟩ := inRg_spec h
      exact ⟨p, by simp [h1], h2⟩
    · simp only [Bool.and_eq_true] at hb
      exact ⟨(a, b), by simp, Nat.le_of_ble_eq_true hb.1, Nat.le_of_ble_eq_true hb.2⟩
theorem covers_spec {lim : Nat} {rs : Rgs} : ∀ {w : Rgs}, covers lim rs w = true → ∀ k, Wr w k → lim ≤ k ∨ Wr rs k
  | [], _, k, h => absurd h Wr_nil
  | (a, b) :: w, h, k, hk => by
    unfold covers at h
    cases hc : (Nat.ble lim a || inRg a b rs)
    · simp [hc] at h
    · simp only [hc, cond_true] at h
      rcases Wr_cons.1 hk with ⟨h1, h2⟩ | hk
      · simp only [Bool.or_eq_true] at hc
        rcases hc with hc | hc
        · have := Nat.le_of_ble_eq_true hc
          exact .inl (by simp only at h1; omega)
        · obtain ⟨p, h3, h4, h5⟩ := inRg_spec hc
          exact .inr ⟨p, h3, by simp only at h1; omega, by simp only at h2; omega⟩
      · exact covers_spec h k hk
theorem masks_out {s : St} {k : Nat} : ∀ {rs : Rgs}, ¬ Wr rs k → look (masks rs s) k = look s k
  | [], _ => rfl
  | (a, b) :: r, h => by
    rw [Wr_cons, not_or] at h
    show (bif Nat.ble a k && Nat.blt k b then V.undef else look (masks r s) k) = look s k
    cases hb : (Nat.ble a k && Nat.blt k b)
    · simp only [cond_false]; exact masks_out h.2
    · simp only [Bool.and_eq_true] at hb
      exact absurd ⟨Nat.le_of_ble_eq_true hb.1, blt_lt hb.2⟩ h.1
theorem masks_in {s : St} {k : Nat} : ∀ {rs : Rgs}, Wr rs k → look (masks rs s) k = .undef
  | [], h => absurd h Wr_nil
  | (a, b) :: r, h => by
    show (bif Nat.ble a k && Nat.blt k b then V.undef else look (masks r s) k) = V.undef
    cases hb : (Nat.ble a k && Nat.blt k b)
    · simp only [cond_false]
      rcases Wr_cons.1 h with ⟨h1, h2⟩ | h
      · simp only at h1 h2
        have e1 : Nat.ble a k = true := Nat.ble_eq_true_of_le h1
        have e2 : Nat.blt k b = true := by rw [Nat.blt_eq]; exact h2
        simp [e1, e2] at hb
      · exact masks_in h
    · simp

/-! ### names -/
theorem relC_dom {h0 h1 : Array Obj} {ok0 ok1 : Nat → Prop} {m m1 m2 : Nat → Option Loc} (hm : ∀ k l, m k = some l → m2 k = m1 k) {c : V} {v0 v1 : Value} (a : relC ⟨h0, ok0, m⟩ c v0) (b : relC ⟨h1, ok1, m1⟩ c v1) : relC ⟨h1, ok1, m2⟩ c v1 := by
  cases c <;> simp only [relC] at a b ⊢ <;> try exact b
  case own bx vw =>
    obtain ⟨l0, e0, _⟩ := a
    obtain ⟨l, e, hv⟩ := b
    exact ⟨l, by rw [hm _ _ e0]; exact e, hv⟩
  case ptr bx o =>
    obtain ⟨l0, e0, _⟩ := a
    obtain ⟨l, e, hv⟩ := b
    exact ⟨l, by rw [hm _ _ e0]; exact e, hv⟩
  case ep bx ix o =>
    obtain ⟨_, _, _, _, _, e0, _⟩ := a
    obtain ⟨x1, x2, x3, x4, x5, e, hv⟩ := b
    exact ⟨x1, x2, x3, x4, x5, by rw [hm _ _ e0]; exact e, hv⟩
theorem relL_dom {h0 h1 : Array Obj} {ok0 ok1 : Nat → Prop} {m m1 m2 : Nat → Option Loc} (hm : ∀ k l, m k = some l → m2 k = m1 k) : ∀ {cs : List V} {v0 v1 : List Value}, relL ⟨h0, ok0, m⟩ cs v0 → relL ⟨h1, ok1, m1⟩ cs v1 → relL ⟨h1, ok1, m2⟩ cs v1
  | [], _, _, _, b => b
  | _ :: _, _, _, ⟨_, _, _, a1, _, a3⟩, ⟨v, r, e, b1, b2, b3⟩ => ⟨v, r, e, relC_dom hm a1 b1, b2, relL_dom hm a3 b3⟩
theorem relA_dom {h0 h1 : Array Obj} {ok0 ok1 : Nat → Prop} {m m1 m2 : Nat → Option Loc} (hm : ∀ k l, m k = some l → m2 k = m1 k) {c : V} {v0 v1 : Value} (a : relA ⟨h0, ok0, m⟩ c v0) (b : relA ⟨h1, ok1, m1⟩ c v1) : relA ⟨h1, ok1, m2⟩ c v1 := by
  cases c <;> simp only [relA] at a b ⊢ <;> try exact relC_dom hm a b
  case agg cs =>
    obtain ⟨_, _, a⟩ := a
    obtain ⟨arr, e, b⟩ := b
    exact ⟨arr, e, relL_dom hm a b⟩
theorem relT_dom {h0 h1 : Array Obj} {ok0 ok1 : Nat → Prop} {m m1 m2 : Nat → Option Loc} (hm : ∀ k l, m k = some l → m2 k = m1 k) : ∀ {cs : List V} {v0 v1 : List Value}, relT ⟨h0, ok0, m⟩ cs v0 → relT ⟨h1, ok1, m1⟩ cs v1 → relT ⟨h1, ok1, m2⟩ cs v1
  | [], _, _, _, b => b
  | _ :: _, _, _, ⟨_, _, _, a1, a3⟩, ⟨v, r, e, b1, b3⟩ => ⟨v, r, e, relA_dom hm a1 b1, relT_dom hm a3 b3⟩
theorem relV_dom {h0 h1 : Array Obj} {ok0 ok1 : Nat → Prop} {m m1 m2 : Nat → Option Loc} (hm : ∀ k l, m k = some l → m2 k = m1 k) {c : V} {v0 v1 : Value} (a : relV ⟨h0, ok0, m⟩ c v0) (b : relV ⟨h1, ok1, m1⟩ c v1) : relV ⟨h1, ok1, m2⟩ c v1 := by
  cases c <;> simp only [relV] at a b ⊢ <;> try exact relA_dom hm a b
  case tup cs =>
    obtain ⟨_, _, a⟩ := a
    obtain ⟨arr, e, b⟩ := b
    exact ⟨arr, e, relT_dom hm a b⟩
theorem relB_dom {h0 h1 : Array Obj} {ok0 ok1 : Nat → Prop} {m m1 m2 : Nat → Option Loc} (hm : ∀ k l, m k = some l → m2 k = m1 k) {n : Nat} {c : V} (a : relB ⟨h0, ok0, m⟩ n c) (b : ∀ l, m n = some l → relB ⟨h1, ok1, m1⟩ n c) : relB ⟨h1, ok1, m2⟩ n c := by
  cases c <;> simp only [relB] at a b ⊢
  case bcells cs =>
    obtain ⟨_, _, _, e0, _, a⟩ := a
    obtain ⟨blk, arr, T, e, hh, b⟩ := b _ e0
    exact ⟨blk, arr, T, by rw [hm _ _ e0]; exact e, hh, relL_dom hm a b⟩
  case barr t xs =>
    obtain ⟨_, e0, _⟩ := a
    obtain ⟨l, e, b⟩ := b _ e0
    exact ⟨l, by rw [hm _ _ e0]; exact e, arrOk_mono (fun _ h => h) (fun _ _ => rfl) (fun _ _ => rfl) b⟩
  case bfrz t xs =>
    obtain ⟨_, e0, _⟩ := a
    obtain ⟨l, e, b, hb⟩ := b _ e0
    exact ⟨l, by rw [hm _ _ e0]; exact e, arrOk_mono (fun _ h => h) (fun _ _ => rfl) (fun _ _ => rfl) b, hb⟩

def cut (m : Nat → Option Loc) (N : Nat) : Nat → Option Loc := fun n => if n < N then m n else none

section
variable {X : Fx} {cl ch N : Nat} {S S1 S2 : Sm} {m m1 : Nat → Option Loc} {ok ok1 : Nat → Prop} {a a1 : Act} {w w1 : World}

theorem Rel.climb (R : Rel X cl ch S m ok a w) {cl' : Nat} (h : cl ≤ cl') : Rel X cl' ch S m ok a w := { R with fresh := fun n h1 h2 => R.fresh n (by omega) h2 }

/-- back to an older state, of which some places are forgotten -/
theorem Rel.rebase (R0 : Rel X cl N S m ok a w) {cl1 ch1 : Nat} (R1 : Rel X cl1 ch1 S1 m1 ok1 a1 w1) (km : ∀ k l, m k = some l → m1 k = some l)
    (hS : ∀ k, S2 k = .undef ∨ (S2 k = S k ∧ (k < BOX + N → S1 k = S k))) :
    Rel X N N S2 (cut m1 N) ok1 a1 w1 ∧ (∀ T, Tk X S1 m1 ok1 w1 T → Tk X S2 (cut m1 N) ok1 w1 T) ∧ (∀ k l, m k = some l → cut m1 N k = some l) := by
  have hdom : ∀ k l, m k = some l → k < N := fun k l h => by
    rcases Nat.lt_or_ge k N with h1 | h1
    · exact h1
    · rw [R0.strict k h1] at h; cases h
  have hagree : ∀ k l, m k = some l → cut m1 N k = m1 k := fun k l h => by simp [cut, hdom k l h]
  have hown : ∀ n b, ownB (cut m1 N) n (S2 (BOX + n)) = some b → ownB m1 n (S1 (BOX + n)) = some b := fun n b h => by
    have hn : n < N := by
      rcases Nat.lt_or_ge n N with h1 | h1
      · exact h1
      · have : cut m1 N n = none := by simp [cut]; omega
        cases hv : S2 (BOX + n) <;> simp [ownB, hv, this] at h
    have hc : cut m1 N n = m1 n := by simp [cut, hn]
    rcases hS (BOX + n) with h1 | ⟨h1, h2⟩
    · rw [h1] at h; simp [ownB] at h
    · rw [h2 (by omega), ← h1]
      rw [← h]
      simp [ownB, hc]
  refine ⟨{ size := R1.size, nodef := R1.nodef, okLt := R1.okLt, okIn := R1.okIn, okOut := R1.okOut, frame := R1.frame, gl := R1.gl,
            slot := fun n hn => ?_, box := fun n => ?_, inj := fun n n' b h h' => R1.inj n n' b (hown n b h) (hown n' b h'), sep := fun n b h => R1.sep n b (hown n b h),
            fresh := fun n h1 _ => ?_, strict := fun n h => ?_ }, fun T hT => ⟨hT.nodup, fun b hb => ?_⟩, fun k l h => by rw [hagree k l h]; exact km k l h⟩
  · rcases hS n with h1 | ⟨h1, h2⟩
    · rw [h1]; trivial
    · rw [h1]
      refine relV_dom hagree (R0.slot n hn) ?_
      rw [← h2 (by omega)]; exact R1.slot n hn
  · rcases hS (BOX + n) with h1 | ⟨h1, h2⟩
    · rw [h1]; trivial
    · rw [h1]
      refine relB_dom hagree (R0.box n) fun l hl => ?_
      rw [← h2 (by have := hdom n l hl; omega)]; exact R1.box n
  · simp [cut]; omega
  · simp [cut]; omega
  · obtain ⟨f1, f2, f3, f4⟩ := hT.free b hb
    exact ⟨f1, f2, f3, fun n e => f4 n (hown n b e)⟩

/-- over a border -/
theorem leave_sound {R : Type} {q : Nat} {sg : Sig} {rs : Rgs} {s : St} {wr : Rgs} {K : sigDen sg → Option R} {r : R} (h : leave q sg rs s wr K = some r) :
    ∃ x, K x = some r ∧ ∀ {s0 : St} {cl cl1 ch1 : Nat} {m m1 : Nat → Option Loc} {ok ok1 : Nat → Prop} {a a1 : Act} {w w1 : World}, Rel X cl (CB * q) (look s0) m ok a w → Rel X cl1 ch1 (look s) m1 ok1 a1 w1 → (∀ k l, m k = some l → m1 k = some l) →
      (∀ k, ¬ Wr wr k → look s k = look s0 k) → ∃ m2 ok2 O, Rel X (CB * q) (CB * q) (look (masks rs s0)) m2 ok2 a1 w1 ∧ Tk X (look (masks rs s0)) m2 ok2 w1 O ∧
        relTup w1.heap ok2 (sg.map (·.2)) x ((sg.map (·.1)).map fun n => a1.tmps.getD n Go.undef) O ∧ (∀ k l, m k = some l → m2 k = some l) := by
  unfold leave at h
  obtain ⟨x, s1, tr, he, hk⟩ := runK_eval h
  cases hc : covers (BOX + CB * q) rs (keysR tr.2 wr)
  · simp [hc] at hk
  simp only [hc, cond_true] at hk
  refine ⟨x, hk, fun {s0 cl cl1 ch1 m m1 ok ok1 a a1 w w1} R0 R1 km hun => ?_⟩
  have key := post_eval (exSig_post R1 (Q := fun y S' => ∃ ok' O, Rel X cl1 ch1 S' m1 ok' a1 w1 ∧ Tk X S' m1 ok' w1 O ∧ relTup w1.heap ok' (sg.map (·.2)) y ((sg.map (·.1)).map fun n => a1.tmps.getD n Go.undef) O)
    fun S' ok' y O R' T' _ _ hr => ⟨ok', O, R', T', hr⟩) he
  obtain ⟨ok', O, R', T', hr⟩ := key
  have hcov := covers_spec hc
  obtain ⟨R2, hT2, hm2⟩ := R0.rebase (S2 := look (masks rs s0)) R' km (fun k => by
    by_cases hw : Wr rs k
    · exact .inl (masks_in hw)
    · refine .inr ⟨masks_out hw, fun hlt => ?_⟩
      have hnw : ¬ Wr (keysR tr.2 wr) k := fun h => by
        rcases hcov k h with h1 | h1
        · omega
        · exact hw h1
      rw [Wr_keysR, not_or] at hnw
      rw [eval_frame he k hnw.1]
      exact hun k hnw.2)
  exact ⟨_, ok', O, R2, hT2 O T', hr, hm2⟩

theorem enter_sound {R : Type} {q : Nat} {sg : Sig} {rs : Rgs} {s : St} {x : sigDen sg} {K : St → Rgs → Option R} {r : R} (h : enter q sg rs s x K = some r) :
    ∃ s' w', K s' w' = some r ∧ (∀ k, Wr rs k → Wr w' k) ∧ (∀ k, ¬ Wr w' k → look s' k = look s k) ∧
      ∀ {N : Nat} {m : Nat → Option Loc} {ok : Nat → Prop} {a : Act} {w : World} {O : List Nat}, N ≤ CB * q → Rel X N N (look (masks rs s)) m ok a w → Tk X (look (masks rs s)) m ok w O →
        relTup w.heap ok (sg.map (·.2)) x ((sg.map (·.1)).map fun n => a.tmps.getD n Go.undef) O →
        ∃ m', Rel X (CB * (q + 1)) (CB * (q + 1)) (look s') m' ok a w ∧ (∀ k l, m k = some l → m' k = some l) := by
  unfold enter at h
  obtain ⟨u, s', tr, he, hk⟩ := runK_eval h
  refine ⟨s', _, hk, fun k hk => Wr_keysR.2 (.inr hk), fun k hk => ?_, fun {N m ok a w O} hN R1 T1 hr => ?_⟩
  · rw [Wr_keysR, not_or] at hk
    rw [eval_frame he k hk.1, masks_out hk.2]
  · have key := post_eval (emSig_post (x := x) (nb := CB * q) (lim := CB * q + CB) (Q := fun _ S' => ∃ m', Rel X N (max N (CB * q + CB)) S' m' ok a w ∧ (∀ k l, m k = some l → m' k = some l)) R1 hN T1 hr
      fun S' m' R' k => ⟨m', R', k⟩) he
    obtain ⟨m', R', k⟩ := key
    have e : CB * (q + 1) = CB * q + CB := by rw [Nat.mul_add, Nat.mul_one]
    rw [e]
    generalize CB * q = Z at *
    exact ⟨m', (R'.climb (by omega)).chmono (by omega), k⟩
end
end Go.GP
