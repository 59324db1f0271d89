import Derived.Test.YtjpepdpbplpccaaDoorPl1
/- PLAIN LAWS: dates, months, values as texts. -/
namespace Gt
open Go Go.GP
set_option linter.unusedVariables false
set_option linter.unusedSimpArgs false


def il (y : Int) : Bool := if y % 4 = 0 then (if y % 100 ≠ 0 then true else decide (y % 400 = 0)) else false
def ys (y : Int) : Int := (y - 1900) * 365 + ((y - 1) / 4 - (y - 1) / 100 + (y - 1) / 400) - 460
def diy (y : Int) : Int := if il y then 366 else 365
theorem ys_succ (y : Int) : ys (y + 1) = ys y + diy y := by
  unfold ys diy il
  by_cases h4 : y % 4 = 0 <;> by_cases h100 : y % 100 = 0 <;> by_cases h400 : y % 400 = 0 <;> simp [h4, h100, h400] <;> omega
theorem ltge (a b : Int) : a < b ∨ b ≤ a := by omega
theorem diy_bd (y : Int) : 365 ≤ diy y ∧ diy y ≤ 366 := by unfold diy; split <;> omega
theorem ys_mono {y y' : Int} (h : y ≤ y') : ys y ≤ ys y' := by
  obtain ⟨n, rfl⟩ : ∃ n : Nat, y' = y + n := ⟨(y' - y).toNat, by omega⟩
  clear h
  induction n with
  | zero => simp
  | succ n ih =>
    have := ys_succ (y + n)
    have := diy_bd (y + n)
    have e : y + ((n + 1 : Nat) : Int) = y + n + 1 := by omega
    rw [e]; omega
theorem ys_nonneg {y : Int} (h : 1900 ≤ y) : 0 ≤ ys y := by
  have := ys_mono h
  have e : ys 1900 = 0 := by decide +kernel
  omega
theorem ys_unique {y y' d : Int} (h1 : ys y ≤ d) (h2 : d < ys (y + 1)) (h3 : ys y' ≤ d) (h4 : d < ys (y' + 1)) : y = y' := by
  rcases Int.lt_trichotomy y y' with h | h | h
  · have := ys_mono (y := y + 1) (y' := y') (by omega); omega
  · exact h
  · have := ys_mono (y := y' + 1) (y' := y) (by omega); omega

def dim (y m : Int) : Int :=
  if m = 2 then (if il y then 29 else 28) else if m = 4 ∨ m = 6 ∨ m = 9 ∨ m = 11 then 30 else 31
theorem dim_bd (y m : Int) : 28 ≤ dim y m ∧ dim y m ≤ 31 := by
  unfold dim; repeat' split
  all_goals omega

theorem date_IsLeap_ok {y : Int} (h : 0 ≤ y) : date_IsLeap y = some (il y) := by
  unfold date_IsLeap il
  simp only [irem_pos h]
  by_cases h4 : y % 4 = 0
  · rw [bcond_t (ieq_t h4), if_pos h4]
    by_cases h100 : y % 100 = 0
    · simp [ieq, h100]
    · simp [ieq, h100]
  · rw [bcond_f (ieq_f h4), if_neg h4]
theorem ref04_IsLeap_ok {y : Int} (h : 0 ≤ y) : ref04_IsLeap y = some (il y) := date_IsLeap_ok h
theorem ref04_daysInYear_ok {y : Int} (h : 0 ≤ y) : ref04_daysInYear y = some (diy y) := by
  unfold ref04_daysInYear diy
  rw [ref04_IsLeap_ok h, osome]
  cases il y <;> rfl

theorem m12 {m : Int} (h : 1 ≤ m ∧ m ≤ 12) : m = 1 ∨ m = 2 ∨ m = 3 ∨ m = 4 ∨ m = 5 ∨ m = 6 ∨ m = 7 ∨ m = 8 ∨ m = 9 ∨ m = 10 ∨ m = 11 ∨ m = 12 := by omega
theorem date_DaysInMonth_ok {y m : Int} (h : 0 ≤ y) (hm : 1 ≤ m ∧ m ≤ 12) : date_DaysInMonth y m = some (dim y m) := by
  unfold date_DaysInMonth
  rcases m12 hm with rfl | rfl | rfl | rfl | rfl | rfl | rfl | rfl | rfl | rfl | rfl | rfl
  all_goals first | rfl | (rw [date_IsLeap_ok h]; unfold dim; cases il y <;> rfl)
theorem ref04_DaysInMonth_ok {y m : Int} (h : 0 ≤ y) (hm : 1 ≤ m ∧ m ≤ 12) : ref04_DaysInMonth y m = some (dim y m) := by
  unfold ref04_DaysInMonth
  rcases m12 hm with rfl | rfl | rfl | rfl | rfl | rfl | rfl | rfl | rfl | rfl | rfl | rfl
  all_goals first | rfl | (rw [ref04_IsLeap_ok h]; unfold dim; cases il y <;> rfl)

theorem date_leapYears_ok {y : Int} (h : 0 ≤ y) (h2 : y ≤ 1000000) : date_leapYears y = some (y / 4 - y / 100 + y / 400) := by
  unfold date_leapYears
  simp only [iquo, tdiv_pos h]
  rw [wrap_i64 (by unfold I64; omega), wrap_i64 (by unfold I64; omega), wrap_i64 (by unfold I64; omega), isub_i64 (by unfold I64; omega), iadd_i64 (by unfold I64; omega)]
theorem date_yearStart_ok {y : Int} (h : 1 ≤ y) (h2 : y ≤ 1000000) : date_yearStart y = some (ys y) := by
  unfold date_yearStart
  have e1 : isub .i64 y 1900 = y - 1900 := isub_i64 (by unfold I64; omega)
  have e2 : imul .i64 (y - 1900) 365 = (y - 1900) * 365 := imul_i64 (by unfold I64; omega)
  rw [isub_i64 (a := y) (b := 1) (by unfold I64; omega), date_leapYears_ok (by omega) (by omega), osome, date_leapYears_ok (by omega) (by omega), osome, e1, e2, iadd_i64 (by unfold I64; omega), isub_i64 (by unfold I64; omega)]
  unfold ys
  congr 1

/-- the months of a year, from month 13 - n on -/
def mo (y : Int) : Nat → Int → Int × Int
  | 0, d => (d, 13)
  | n + 1, d => if d < dim y (12 - n) then (d, 12 - n) else mo y n (d - dim y (12 - n))
theorem mo_succ (y : Int) (n : Nat) (d : Int) : mo y (n + 1) d = if d < dim y (12 - (n : Int)) then (d, 12 - (n : Int)) else mo y n (d - dim y (12 - (n : Int))) := rfl
def rem (y : Int) : Nat → Int
  | 0 => 0
  | n + 1 => dim y (12 - n) + rem y n
theorem rem12 (y : Int) : rem y 12 = diy y := by
  unfold diy
  cases h : il y <;> simp [rem, dim, h]
theorem mo_bd (y : Int) : ∀ (n : Nat) (d : Int), n ≤ 12 → 0 ≤ d → d < rem y n → 1 ≤ (mo y n d).2 ∧ (mo y n d).2 ≤ 12 ∧ 0 ≤ (mo y n d).1 ∧ (mo y n d).1 < dim y (mo y n d).2
  | 0, d, _, h0, h => by simp [rem] at h; omega
  | n + 1, d, hn, h0, h => by
    unfold mo
    by_cases hd : d < dim y (12 - n)
    · rw [if_pos hd]; refine ⟨?_, ?_, h0, hd⟩ <;> simp <;> omega
    · rw [if_neg hd]
      refine mo_bd y n _ (by omega) (by omega) ?_
      simp only [rem] at h; omega

/-- year, month, day -/
def yOf (d : Int) : Int := ((((List.range 300).find? (fun (k : Nat) => decide (d < ys (1900 + (k : Int) + 1)))).getD 0 : Nat) : Int) + 1900
theorem yOf_spec {d : Int} (h0 : 0 ≤ d) (h : d ≤ 109572) : 1900 ≤ yOf d ∧ yOf d ≤ 2199 ∧ ys (yOf d) ≤ d ∧ d < ys (yOf d + 1) := by
  unfold yOf
  cases hf : (List.range 300).find? (fun (k : Nat) => decide (d < ys (1900 + (k : Int) + 1))) with
  | none =>
    have := List.find?_eq_none.1 hf 299 (by simp)
    simp only [decide_eq_true_eq] at this
    have e : ys (1900 + (299 : Nat) + 1) = 109573 := by decide +kernel
    omega
  | some k =>
    have h1 := List.find?_some hf
    simp only [decide_eq_true_eq] at h1
    have h2 := List.mem_of_find?_eq_some hf
    simp only [List.mem_range] at h2
    simp only [Option.getD_some]
    refine ⟨by omega, by omega, ?_, ?_⟩
    · cases k with
      | zero =>
        have e : ys 1900 = 0 := by decide +kernel
        simp [e, h0]
      | succ j =>
        have h3 := List.find?_range_eq_some.1 hf
        have h4 := h3.2.2 j (by omega)
        simp only [Bool.not_eq_true', decide_eq_false_iff_not, Int.not_lt] at h4
        have e : (((j + 1 : Nat) : Int) + 1900) = 1900 + (j : Int) + 1 := by omega
        rw [e]; exact h4
    · have e : (k : Int) + 1900 + 1 = 1900 + k + 1 := by omega
      rw [e]; exact h1
def ymd (d : Int) : Int × Int × Int := let y := yOf d; let r := mo y 12 (d - ys y); (y, r.2, r.1 + 1)

theorem date_ToYMD_ok {d : Int} (h0 : 0 ≤ d) (h : d ≤ 109572) : date_ToYMD d = some (ymd d) := by
  obtain ⟨y1, y2, y3, y4⟩ := yOf_spec h0 h
  have y0 := ys_nonneg y1
  unfold date_ToYMD date_valid
  rw [bcond_t (ile_t h0), osome, ile_t h, bnot_true, bcond_false]
  have e0 : iadd .i64 1900 (iquo .i64 d 366) = 1900 + d / 366 := by
    have e : iquo .i64 d 366 = d / 366 := by rw [iquo_i64 (by rw [tdiv_pos h0]; unfold I64; omega), tdiv_pos h0]
    rw [e, iadd_i64 (by unfold I64; omega)]
  rw [e0]
  obtain ⟨y, hy, hq⟩ := loopE_rule (f := fun (x : Int) => obind (date_yearStart (iadd IntKind.i64 x 1)) fun (x_1 : Int) => bcond (ile x_1 d) (some (Sum.inl (iadd IntKind.i64 x 1))) (some (Sum.inr x))) (s := 1900 + d / 366)
    (fun y => 1900 ≤ y ∧ y ≤ yOf d) (fun y => y = yOf d) (fun y => (2200 - y).toNat) (by
      refine ⟨by omega, ?_⟩
      have e : ∀ n : Nat, ys (1900 + n) ≤ 366 * n := by
        intro n
        induction n with
        | zero => decide +kernel
        | succ n ih =>
          have := ys_succ (1900 + n)
          have := diy_bd (1900 + n)
          have e : (1900 : Int) + ((n + 1 : Nat) : Int) = 1900 + n + 1 := by omega
          rw [e]; omega
      have e1 := e (d / 366).toNat
      have e2 : ((d / 366).toNat : Int) = d / 366 := by omega
      rw [e2] at e1
      rcases ltge (yOf d) (1900 + d / 366) with hlt | hge
      · have := ys_mono (y := yOf d + 1) (y' := 1900 + d / 366) (by omega)
        omega
      · exact hge) (by omega) (by
      intro y ⟨hy1, hy2⟩
      try simp only
      rw [iadd_i64 (by unfold I64; omega), date_yearStart_ok (by omega) (by omega), osome]
      by_cases hle : ys (y + 1) ≤ d
      · refine .inl ⟨y + 1, by rw [bcond_t (ile_t hle)], ⟨by omega, ?_⟩, by omega⟩
        rcases ltge (yOf d) (y + 1) with hlt | hge
        · have := ys_mono (y := yOf d + 1) (y' := y + 1) (by omega)
          omega
        · exact hge
      · refine .inr ⟨y, by rw [bcond_f (ile_f (by omega))], ?_⟩
        rcases ltge y (yOf d) with hlt | hge
        · have := ys_mono (y := y + 1) (y' := yOf d) (by omega)
          omega
        · omega)
  rw [hy, osome, hq, date_yearStart_ok (by omega) (by omega), osome, isub_i64 (by unfold I64; omega)]
  have hs := ys_succ (yOf d)
  have hr := rem12 (yOf d)
  rcases loopO_rule (f := fun (x : Int × Int) => bcond (ilt x.2 12) (obind (date_DaysInMonth (yOf d) (iadd IntKind.i64 x.2 1)) fun (x_1 : Int) => bcond (ilt x.1 x_1) (some (Out.rt (yOf d, iadd IntKind.i64 x.2 1, iadd IntKind.i64 x.1 1))) (some (Out.nx (isub IntKind.i64 x.1 x_1, iadd IntKind.i64 x.2 1)))) (some (Out.ex PUnit.unit))) (s := (d - ys (yOf d), 0))
    (fun s => ∃ n : Nat, n ≤ 12 ∧ s.2 = 12 - n ∧ mo (yOf d) n s.1 = mo (yOf d) 12 (d - ys (yOf d)) ∧ 0 ≤ s.1 ∧ s.1 < rem (yOf d) n ∧ s.1 ≤ 400) (fun _ => False) (fun r => r = ymd d) (fun s => (12 - s.2).toNat)
    ⟨12, by omega, by simp, rfl, by omega, by rw [hr]; show d - ys (yOf d) < _; omega, by have := diy_bd (yOf d); show d - ys (yOf d) ≤ 400; omega⟩ (by simp) (by
      rintro ⟨r, i⟩ ⟨n, hn, hi, hm, hr0, hrn, hr4⟩
      simp only at hi hm hr0 hrn hr4 ⊢
      cases n with
      | zero => simp [rem] at hrn; omega
      | succ n =>
        have ei : i + 1 = 12 - n := by omega
        rw [bcond_t (ilt_t (by omega)), iadd_i64 (by unfold I64; omega), ei, date_DaysInMonth_ok (by omega) (by omega), osome]
        have hb := dim_bd (yOf d) (12 - n)
        rw [mo_succ (yOf d) n r] at hm
        by_cases hlt : r < dim (yOf d) (12 - n)
        · rw [if_pos hlt] at hm
          refine .inr (.inr ⟨_, by rw [bcond_t (ilt_t hlt)], ?_⟩)
          rw [iadd_i64 (by unfold I64; omega)]
          unfold ymd
          try simp only
          rw [← hm]
        · rw [if_neg hlt] at hm
          refine .inl ⟨_, by rw [bcond_f (ilt_f (by omega)), isub_i64 (by unfold I64; omega)], ⟨n, by omega, by simp, hm, ?_, ?_, ?_⟩, ?_⟩
          · simp; omega
          · simp only [rem] at hrn ⊢; omega
          · simp; omega
          · simp; omega) with ⟨_, _, hf⟩ | ⟨r, he, hr⟩
  · exact hf.elim
  · rw [he, osome, sumK_inr, hr]

theorem ref04_ToYMD_ok {d : Int} (h0 : 0 ≤ d) (h : d ≤ 109572) : ref04_ToYMD d = some (ymd d) := by
  obtain ⟨y1, y2, y3, y4⟩ := yOf_spec h0 h
  have y0 := ys_nonneg y1
  unfold ref04_ToYMD ref04_Valid
  rw [bcond_t (ile_t h0), osome, ile_t h, bnot_true, bcond_false]
  obtain ⟨⟨r, y⟩, hy, hq⟩ := loopE_rule (f := fun (x : Int × Int) => obind (ref04_daysInYear x.2) fun (x_1 : Int) => bcond (ile x_1 x.1) (obind (ref04_daysInYear x.2) fun (x_2 : Int) => some (Sum.inl (isub IntKind.i64 x.1 x_2, iadd IntKind.i64 x.2 1))) (some (Sum.inr x))) (s := (d, 1900))
    (fun s => 1900 ≤ s.2 ∧ s.2 ≤ yOf d ∧ s.1 = d - ys s.2) (fun s => s = (d - ys (yOf d), yOf d)) (fun s => (2200 - s.2).toNat)
    ⟨by simp, by simpa using y1, by (have e : ys 1900 = 0 := by decide +kernel); simp [e]⟩ (by simp) (by
      rintro ⟨r, y⟩ ⟨h1, h2, h3⟩
      simp only at h1 h2 h3 ⊢
      have hb := diy_bd y
      have hs := ys_succ y
      have hm := ys_mono h2
      have hpos : 0 ≤ ys y := by have := ys_mono (y := 1900) (y' := y) h1; have e : ys 1900 = 0 := by decide +kernel
                                 omega
      rw [ref04_daysInYear_ok (by omega), osome]
      by_cases hle : diy y ≤ r
      · refine .inl ⟨(r - diy y, y + 1), ?_, ⟨by simp; omega, ?_, ?_⟩, ?_⟩
        · rw [bcond_t (ile_t hle), osome, isub_i64 (by unfold I64; omega), iadd_i64 (by unfold I64; omega)]
        · simp only
          rcases ltge (yOf d) (y + 1) with hlt | hge
          · have := ys_mono (y := yOf d + 1) (y' := y + 1) (by omega)
            omega
          · exact hge
        · simp only; omega
        · simp; omega
      · refine .inr ⟨_, by rw [bcond_f (ile_f (by omega))], ?_⟩
        have e : y = yOf d := ys_unique (d := d) (by omega) (by omega) y3 y4
        subst e
        rw [h3])
  rw [hy, osome, hq]
  try simp only
  have hs := ys_succ (yOf d)
  have hr := rem12 (yOf d)
  obtain ⟨⟨r, m⟩, he, hq2⟩ := loopE_rule (f := fun (x : Int × Int) => obind (ref04_DaysInMonth (yOf d) x.2) fun (x_1 : Int) => bcond (ile x_1 x.1) (obind (ref04_DaysInMonth (yOf d) x.2) fun (x_2 : Int) => some (Sum.inl (isub IntKind.i64 x.1 x_2, iadd IntKind.i64 x.2 1))) (some (Sum.inr x))) (s := (d - ys (yOf d), 1))
    (fun s => ∃ n : Nat, n ≤ 12 ∧ s.2 = 13 - n ∧ mo (yOf d) n s.1 = mo (yOf d) 12 (d - ys (yOf d)) ∧ 0 ≤ s.1 ∧ s.1 < rem (yOf d) n ∧ s.1 ≤ 400) (fun s => s = mo (yOf d) 12 (d - ys (yOf d))) (fun s => (13 - s.2).toNat)
    ⟨12, by omega, by simp, rfl, by omega, by rw [hr]; show d - ys (yOf d) < _; omega, by have := diy_bd (yOf d); show d - ys (yOf d) ≤ 400; omega⟩ (by simp) (by
      rintro ⟨r, i⟩ ⟨n, hn, hi, hm, hr0, hrn, hr4⟩
      simp only at hi hm hr0 hrn hr4 ⊢
      cases n with
      | zero => simp [rem] at hrn; omega
      | succ n =>
        have ei : i = 12 - n := by omega
        subst ei
        rw [ref04_DaysInMonth_ok (by omega) (by omega), osome]
        have hb := dim_bd (yOf d) (12 - n)
        rw [mo_succ (yOf d) n r] at hm
        by_cases hlt : r < dim (yOf d) (12 - n)
        · rw [if_pos hlt] at hm
          exact .inr ⟨_, by rw [bcond_f (ile_f (by omega))], hm⟩
        · rw [if_neg hlt] at hm
          refine .inl ⟨(r - dim (yOf d) (12 - n), 12 - n + 1), by rw [bcond_t (ile_t (by omega)), osome, isub_i64 (by unfold I64; omega), iadd_i64 (by unfold I64; omega)], ⟨n, by omega, by simp; omega, hm, ?_, ?_, ?_⟩, ?_⟩
          · simp; omega
          · simp only [rem] at hrn ⊢; omega
          · simp; omega
          · simp; omega)
  rw [he, osome, hq2]
  have hb := mo_bd (yOf d) 12 (d - ys (yOf d)) (by omega) (by omega) (by rw [hr]; omega)
  have hb2 := dim_bd (yOf d) (mo (yOf d) 12 (d - ys (yOf d))).2
  rw [iadd_i64 (by unfold I64; omega)]
  rfl

theorem ymd_bd {d : Int} (h0 : 0 ≤ d) (h : d ≤ 109572) : 1900 ≤ (ymd d).1 ∧ (ymd d).1 ≤ 2199 ∧ 1 ≤ (ymd d).2.1 ∧ (ymd d).2.1 ≤ 12 ∧ 1 ≤ (ymd d).2.2 ∧ (ymd d).2.2 ≤ 31 := by
  obtain ⟨y1, y2, y3, y4⟩ := yOf_spec h0 h
  have y0 := ys_nonneg y1
  have hs := ys_succ (yOf d)
  have hb := mo_bd (yOf d) 12 (d - ys (yOf d)) (by omega) (by omega) (by rw [rem12]; omega)
  have hb2 := dim_bd (yOf d) (mo (yOf d) 12 (d - ys (yOf d))).2
  unfold ymd
  try simp only
  omega

/-! ### texts of dates and months -/
def padN (n : Int) (w : Nat) : List UInt8 := List.replicate (w - (Lib.itoa n).length) 48 ++ Lib.itoa n
theorem padN_len {n : Int} {w : Nat} (h : I64 n) (hw : w ≤ 4) : (padN n w).length ≤ 25 := by
  have := itoa_len h
  unfold padN; simp; omega
theorem date_pad_ok {n : Int} {w : Nat} (h : I64 n) (hw : w ≤ 4) : date_pad n (w : Int) = some (padN n w) := by
  have hl := itoa_len h
  unfold date_pad
  rw [numtext_FormatInt_ok h, osome]
  have e : imax 0 (isub .i64 (w : Int) (llen (Lib.itoa n))) = ((w - (Lib.itoa n).length : Nat) : Int) := by
    rw [isub_i64 (by unfold I64 llen; omega)]; unfold imax llen; split <;> omega
  rw [e, repeat_ok (by omega) (by simp), rep1, osome, sadd_ok (by simp; omega), osome]
  rfl
theorem month_pad_ok {n : Int} {w : Nat} (h : I64 n) (hw : w ≤ 4) : month_pad n (w : Int) = some (padN n w) := date_pad_ok h hw
theorem ref04_pad_ok {n : Int} {w : Nat} (h : I64 n) (hw : w ≤ 4) : ref04_pad n (w : Int) = some (padN n w) := by
  have hl := itoa_len h
  unfold ref04_pad
  rw [ref01_FormatInt_ok h, osome]
  show _ = some (List.replicate (w - (Lib.itoa n).length) 48 ++ Lib.itoa n)
  generalize Lib.itoa n = d at hl ⊢
  obtain ⟨e, h1, h2⟩ := loopE_rule (f := fun (x : List UInt8) => bcond (ilt (llen x) (w : Int)) (obind (sadd [48] x) fun (x : List UInt8) => some (Sum.inl x)) (some (Sum.inr x))) (s := d)
    (fun s => s.length ≤ 30 ∧ List.replicate (w - s.length) 48 ++ s = List.replicate (w - d.length) 48 ++ d) (fun e => e = List.replicate (w - d.length) 48 ++ d) (fun s => w - s.length) ⟨by omega, rfl⟩ (by omega) (by
      intro s ⟨hs, he⟩
      by_cases hle : s.length < w
      · refine .inl ⟨48 :: s, ?_, ⟨by simp; omega, ?_⟩, by simp; omega⟩
        · rw [bcond_t (ilt_t (by unfold llen; omega)), sadd_ok (by simp; omega)]
          rfl
        · rw [← he]
          have e1 : w - s.length = (w - (48 :: s).length) + 1 := by simp; omega
          rw [e1, List.replicate_succ']
          simp
      · refine .inr ⟨s, ?_, ?_⟩
        · rw [bcond_f (ilt_f (by unfold llen; omega))]
        · rw [← he, show w - s.length = 0 by omega]; simp)
  rw [h1, osome, h2]

def dateText (d : Int) : List UInt8 := if 0 ≤ d ∧ d ≤ 109572 then padN (ymd d).1 4 ++ 45 :: padN (ymd d).2.1 2 ++ 45 :: padN (ymd d).2.2 2 else []
theorem join5 {a b c : List UInt8} (ha : a.length ≤ 100) (hb : b.length ≤ 100) (hc : c.length ≤ 100) {A C B : Option (List UInt8)} (eb : B = some b) (ec : C = some c) :
    (obind (sadd a [45]) fun x2 => obind B fun x3 => obind (sadd x2 x3) fun x4 => obind (sadd x4 [45]) fun x5 => obind C fun x => obind (sadd x5 x) fun x => some x) = some (a ++ 45 :: b ++ 45 :: c) := by
  rw [sadd_ok (by simp; omega), osome, eb, osome, sadd_ok (by simp; omega), osome, sadd_ok (by simp; omega), osome, ec, osome, sadd_ok (by simp; omega), osome]
  simp
theorem i64_small {n : Int} (h1 : -1000000 ≤ n) (h2 : n ≤ 1000000) : I64 n := by unfold I64; omega
theorem date_Format_ok (d : Int) : date_Format d = some (dateText d) := by
  unfold date_Format date_valid dateText
  by_cases h0 : 0 ≤ d
  · rw [bcond_t (ile_t h0), osome]
    by_cases h : d ≤ 109572
    · rw [ile_t h, bnot_true, bcond_false, date_ToYMD_ok h0 h, osome, if_pos ⟨h0, h⟩]
      have hb := ymd_bd h0 h
      have p1 := i64_small (n := (ymd d).1) (by omega) (by omega)
      have p2 := i64_small (n := (ymd d).2.1) (by omega) (by omega)
      have p3 := i64_small (n := (ymd d).2.2) (by omega) (by omega)
      rw [show date_pad (ymd d).1 4 = _ from date_pad_ok (w := 4) p1 (by omega), osome]
      have l1 := padN_len (w := 4) p1 (by omega)
      have l2 := padN_len (w := 2) p2 (by omega)
      have l3 := padN_len (w := 2) p3 (by omega)
      exact join5 (A := none) (by omega) (by omega) (by omega) (date_pad_ok (w := 2) p2 (by omega)) (date_pad_ok (w := 2) p3 (by omega))
    · rw [ile_f (by omega), bnot_false, bcond_true, if_neg (by omega)]
  · rw [bcond_f (ile_f (by omega)), osome, bnot_false, bcond_true, if_neg (by omega)]
theorem ref04_Format_ok (d : Int) : ref04_Format d = some (dateText d) := by
  unfold ref04_Format ref04_Valid dateText
  by_cases h0 : 0 ≤ d
  · rw [bcond_t (ile_t h0), osome]
    by_cases h : d ≤ 109572
    · rw [ile_t h, bnot_true, bcond_false, ref04_ToYMD_ok h0 h, osome, if_pos ⟨h0, h⟩]
      have hb := ymd_bd h0 h
      have p1 := i64_small (n := (ymd d).1) (by omega) (by omega)
      have p2 := i64_small (n := (ymd d).2.1) (by omega) (by omega)
      have p3 := i64_small (n := (ymd d).2.2) (by omega) (by omega)
      rw [show ref04_pad (ymd d).1 4 = _ from ref04_pad_ok (w := 4) p1 (by omega), osome]
      have l1 := padN_len (w := 4) p1 (by omega)
      have l2 := padN_len (w := 2) p2 (by omega)
      have l3 := padN_len (w := 2) p3 (by omega)
      exact join5 (A := none) (by omega) (by omega) (by omega) (ref04_pad_ok (w := 2) p2 (by omega)) (ref04_pad_ok (w := 2) p3 (by omega))
    · rw [ile_f (by omega), bnot_false, bcond_true, if_neg (by omega)]
  · rw [bcond_f (ile_f (by omega)), osome, bnot_false, bcond_true, if_neg (by omega)]
theorem dateText_len (d : Int) : (dateText d).length ≤ 100 := by
  unfold dateText
  split
  · rename_i h
    have hb := ymd_bd h.1 h.2
    have l1 := padN_len (w := 4) (i64_small (n := (ymd d).1) (by omega) (by omega)) (by omega)
    have l2 := padN_len (w := 2) (i64_small (n := (ymd d).2.1) (by omega) (by omega)) (by omega)
    have l3 := padN_len (w := 2) (i64_small (n := (ymd d).2.2) (by omega) (by omega)) (by omega)
    simp; omega
  · simp

def monthText (m : Int) : List UInt8 := if 0 ≤ m ∧ m ≤ 3599 then padN (1900 + m / 12) 4 ++ 45 :: padN (m % 12 + 1) 2 else []
theorem month_Format_ok (m : Int) : month_Format m = some (monthText m) := by
  unfold month_Format month_valid monthText
  by_cases h0 : 0 ≤ m
  · rw [bcond_t (ile_t h0), osome]
    by_cases h : m ≤ 3599
    · rw [ile_t h, bnot_true, bcond_false, if_pos ⟨h0, h⟩]
      have e1 : iadd .i64 1900 (iquo .i64 m 12) = 1900 + m / 12 := by
        rw [show iquo .i64 m 12 = m / 12 by rw [iquo_i64 (by rw [tdiv_pos h0]; unfold I64; omega), tdiv_pos h0], iadd_i64 (by unfold I64; omega)]
      have e2 : iadd .i64 (irem m 12) 1 = m % 12 + 1 := by rw [irem_pos h0, iadd_i64 (by unfold I64; omega)]
      have p1 := i64_small (n := 1900 + m / 12) (by omega) (by omega)
      have p2 := i64_small (n := m % 12 + 1) (by omega) (by omega)
      have l1 := padN_len (w := 4) p1 (by omega)
      have l2 := padN_len (w := 2) p2 (by omega)
      rw [e1, e2, show month_pad (1900 + m / 12) 4 = _ from month_pad_ok (w := 4) p1 (by omega), osome, sadd_ok (by simp; omega), osome, show month_pad (m % 12 + 1) 2 = _ from month_pad_ok (w := 2) p2 (by omega), osome, sadd_ok (by simp; omega), osome]
      simp
    · rw [ile_f (by omega), bnot_false, bcond_true, if_neg (by omega)]
  · rw [bcond_f (ile_f (by omega)), osome, bnot_false, bcond_true, if_neg (by omega)]
theorem two_pad {n : Int} (h0 : 1 ≤ n) (h1 : n ≤ 12) : padN n 2 = (if (Lib.itoa n).length < 2 then 48 :: Lib.itoa n else Lib.itoa n) := by
  unfold padN
  have : 1 ≤ (Lib.itoa n).length := by
    unfold Lib.itoa
    rw [if_neg (by omega)]
    exact (decDigits_len (u := n.toNat) (by omega)).1
  split
  · rw [show 2 - (Lib.itoa n).length = 1 by omega]; rfl
  · rw [show 2 - (Lib.itoa n).length = 0 by omega]; rfl
theorem four_dig : ∀ k : Fin 300, (Lib.decDigits (1900 + k.val)).length = 4 := by
  intro k
  rw [Lib.decDigits_length]
  exact Lib.nDigits_unique 3 _ (by omega) (by have := k.2; omega)
theorem pad_year {n : Int} (h0 : 1900 ≤ n) (h1 : n ≤ 2199) : padN n 4 = Lib.itoa n := by
  unfold padN
  have : (Lib.itoa n).length = 4 := by
    unfold Lib.itoa
    rw [if_neg (by omega)]
    have := four_dig ⟨(n - 1900).toNat, by omega⟩
    have e : 1900 + (n - 1900).toNat = n.toNat := by omega
    rw [← e]; exact this
  rw [this]; simp
theorem ref07_Format_ok (m : Int) : ref07_Format m = some (monthText m) := by
  unfold ref07_Format ref07_valid monthText
  by_cases h0 : 0 ≤ m
  · rw [bcond_t (ile_t h0), osome]
    by_cases h : m ≤ 3599
    · rw [ile_t h, bnot_true, bcond_false, if_pos ⟨h0, h⟩]
      have e1 : iadd .i64 1900 (iquo .i64 m 12) = 1900 + m / 12 := by
        rw [show iquo .i64 m 12 = m / 12 by rw [iquo_i64 (by rw [tdiv_pos h0]; unfold I64; omega), tdiv_pos h0], iadd_i64 (by unfold I64; omega)]
      have e2 : iadd .i64 (irem m 12) 1 = m % 12 + 1 := by rw [irem_pos h0, iadd_i64 (by unfold I64; omega)]
      have p1 := i64_small (n := 1900 + m / 12) (by omega) (by omega)
      have p2 := i64_small (n := m % 12 + 1) (by omega) (by omega)
      have l1 := itoa_len p1
      have l2 := itoa_len p2
      rw [e1, e2, ref01_FormatInt_ok p2, osome, ref01_FormatInt_ok p1, two_pad (by omega) (by omega), pad_year (by omega) (by omega)]
      by_cases hl : (Lib.itoa (m % 12 + 1)).length < 2
      · rw [bcond_t (ilt_t (by unfold llen; omega)), if_pos hl, sadd_ok (by simp; omega), osome, osome, sadd_ok (by simp; omega), osome, sadd_ok (by simp; omega), osome]
        simp
      · rw [bcond_f (ilt_f (by unfold llen; omega)), if_neg hl, osome, sadd_ok (by simp; omega), osome, sadd_ok (by simp; omega), osome]
        simp
    · rw [ile_f (by omega), bnot_false, bcond_true, if_neg (by omega)]
  · rw [bcond_f (ile_f (by omega)), osome, bnot_false, bcond_true, if_neg (by omega)]
theorem monthText_len (m : Int) : (monthText m).length ≤ 100 := by
  unfold monthText
  split
  · rename_i h
    have l1 := padN_len (w := 4) (i64_small (n := 1900 + m / 12) (by omega) (by omega)) (by omega)
    have l2 := padN_len (w := 2) (i64_small (n := m % 12 + 1) (by omega) (by omega)) (by omega)
    simp; omega
  · simp

/-! ### values -/
theorem validType_eq (t : Int × Int) (en : List TEnum) : value_ValidType t en = ref09_ValidType t en := by
  unfold value_ValidType ref09_ValidType
  by_cases h1 : t.1 = 1
  · simp [ieq, h1, ile]
  by_cases h2 : t.1 = 2
  · simp [ieq, h2, ile]
  by_cases h3 : t.1 = 3
  · simp [ieq, h3, ile]
  by_cases h4 : t.1 = 4
  · simp [ieq, h4, ile]
  by_cases h5 : t.1 = 5
  · simp [ieq, h5, ile]
  by_cases h6 : t.1 = 6
  · simp [ieq, h6, ile]
  · simp only [ieq, h1, h2, h3, h4, h5, h6, decide_false, bcond_false, osome]
    by_cases h7 : 1 ≤ t.1
    · rw [bcond_t (ile_t h7), bcond_f (ile_f (by omega))]
    · rw [bcond_f (ile_f (by omega))]
theorem bounds_eq (t : Int × Int) (en : List TEnum) : value_Bounds t en = ref09_Bounds t en := by
  unfold value_Bounds ref09_Bounds
  rw [validType_eq]
theorem within_eq (n : Int) (t : Int × Int) (en : List TEnum) : value_within n t en = ref09_In n t en := by
  unfold value_within ref09_In
  rw [bounds_eq]
theorem value_Format_eq {v : TValue} (en : List TEnum) (h : I64 v.2.2) : value_Format v en = ref09_Format v en := by
  unfold value_Format ref09_Format ref09_Type
  rw [osome, validType_eq]
  cases hv : ref09_ValidType (v.1, v.2.1) en with
  | none => rfl
  | some b =>
    rw [osome, osome]
    cases b with
    | false => rfl
    | true =>
      rw [bnot_true, bcond_false, bcond_false]
      have e : ref09_Valid v en = value_within v.2.2 (v.1, v.2.1) en := by
        unfold ref09_Valid ref09_Type
        rw [osome, hv, osome, bcond_true, osome, obind_id, within_eq]
      rw [e, numtext_FormatInt_ok h, ref01_FormatInt_ok h, show numtext_FormatFixed v.2.2 2 = _ from numtext_FormatFixed_ok (k := 2) h (by omega), show ref01_FormatFixed v.2.2 2 = _ from ref01_FormatFixed_ok (k := 2) h (by omega),
        show numtext_FormatFixed v.2.2 4 = _ from numtext_FormatFixed_ok (k := 4) h (by omega), show ref01_FormatFixed v.2.2 4 = _ from ref01_FormatFixed_ok (k := 4) h (by omega), date_Format_ok, ref04_Format_ok]
end Gt
