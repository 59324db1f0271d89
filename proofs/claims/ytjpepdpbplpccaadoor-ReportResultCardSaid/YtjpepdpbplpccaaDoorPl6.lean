import Derived.Test.YtjpepdpbplpccaaDoorPl5
/- THE LAWS OF THE REPORT, in plain Lean: each law's pure form is true at every input within bounds. -/
namespace Gt
open Go Go.GP
set_option linter.unusedVariables false
set_option linter.unusedSimpArgs false

theorem word_hi {l : List UInt8} (h : l ≠ []) (hc : ∀ c ∈ l, 33 ≤ c.toNat) : Word l :=
  ⟨h, fun c hm => ⟨fun e => by have := hc c hm; subst e; simp at this, fun e => by have := hc c hm; subst e; simp at this⟩⟩
theorem itoa_hi {n : Int} : ∀ c ∈ Lib.itoa n, 33 ≤ c.toNat := by
  intro c hc
  unfold Lib.itoa at hc
  split at hc
  · rcases List.mem_cons.1 hc with rfl | hc
    · decide
    · have := decDigits_byte hc; omega
  · have := decDigits_byte hc; omega
theorem padN_hi {n : Int} {w : Nat} : ∀ c ∈ padN n w, 33 ≤ c.toNat := by
  intro c hc
  unfold padN at hc
  rcases List.mem_append.1 hc with hc | hc
  · have := List.eq_of_mem_replicate hc; subst this; decide
  · exact itoa_hi c hc
theorem fixed_word (n : Int) (k : Nat) : Word (fixed n k) := by
  refine word_hi ?_ ?_
  · unfold fixed fixedU; split <;> simp
  · have hU : ∀ c ∈ fixedU n.natAbs k, 33 ≤ c.toNat := by
      intro c hc
      unfold fixedU at hc
      have hE : ∀ c ∈ List.replicate (k + 1 - (Lib.decDigits n.natAbs).length) 48 ++ Lib.decDigits n.natAbs, 33 ≤ c.toNat := by
        intro c hc
        rcases List.mem_append.1 hc with hc | hc
        · have := List.eq_of_mem_replicate hc; subst this; decide
        · have := decDigits_byte hc; omega
      rcases List.mem_append.1 hc with hc | hc
      · exact hE c (List.mem_of_mem_take hc)
      · rcases List.mem_cons.1 hc with rfl | hc
        · decide
        · exact hE c (List.mem_of_mem_drop hc)
    intro c hc
    unfold fixed at hc
    split at hc
    · rcases List.mem_cons.1 hc with rfl | hc
      · decide
      · exact hU c hc
    · exact hU c hc
def mtx (m : Int) : List UInt8 := if monthText m = [] then [63] else monthText m
theorem mtx_word (m : Int) : Word (mtx m) := by
  unfold mtx
  split
  · exact word_hi (by simp) (by simp)
  · rename_i h
    refine word_hi h ?_
    intro c hc
    unfold monthText at hc
    split at hc
    · rcases List.mem_append.1 hc with hc | hc
      · exact padN_hi c hc
      · rcases List.mem_cons.1 hc with rfl | hc
        · decide
        · exact padN_hi c hc
    · cases hc
theorem mtx_len (m : Int) : (mtx m).length ≤ 100 := by
  have := monthText_len m
  unfold mtx; split <;> simp <;> omega

def arr (b : TEvalError) : Int := imax (b.2.1 - b.2.2.1) 0
def ovr (b : TEvalError) : Int := imax (b.2.2.1 - b.2.1 - b.2.2.2) 0
def bwords (b : TEvalError) : List (List UInt8) := [mtx b.1, [100, 117, 101], fixed b.2.1 2, [114, 101, 99, 101, 105, 118, 101, 100], fixed b.2.2.1 2, [119, 97, 105, 118, 101, 100], fixed b.2.2.2 2, [97, 114, 114, 101, 97, 114, 115], fixed (arr b) 2,
  [111, 118, 101, 114, 112, 97, 121, 109, 101, 110, 116], fixed (ovr b) 2]
def bline (b : TEvalError) : List UInt8 := joinW (bwords b)
def B60 (n : Int) : Prop := -1152921504606846976 ≤ n ∧ n ≤ 1152921504606846976
def InB (b : TEvalError) : Prop := B60 b.2.1 ∧ B60 b.2.2.1 ∧ B60 b.2.2.2
theorem imax_bd {a : Int} (h : -6000000000000000000 ≤ a ∧ a ≤ 6000000000000000000) : I64 (imax a 0) := by unfold imax I64; split <;> omega

theorem within_ok (b : TEvalError) : ∃ t, ref38_Within b 1152921504606846976 = some t ∧ (t = true → InB b) := by
  unfold ref38_Within InB B60
  rw [isub_i64 (by unfold I64; omega)]
  simp only [bcond_if, ile_iff]
  repeat' split
  all_goals refine ⟨_, rfl, fun h => ?_⟩
  all_goals first | (cases h; done) | (have := ile_iff.1 h; omega)

theorem line_ok {b : TEvalError} (h : InB b) {mt am ar ov : Int → Option (List UInt8)} {arF ovF : TEvalError → Option Int} (hmt : ∀ m, mt m = some (mtx m)) (ham : ∀ n, I64 n → am n = some (fixed n 2)) (har : arF b = some (imax (isub .i64 b.2.1 b.2.2.1) 0))
    (hov : ovF b = some (imax (isub .i64 (isub .i64 b.2.2.1 b.2.1) b.2.2.2) 0)) {α : Type} (K : List UInt8 → Option α) :
    (obind (mt b.1) fun (x_2 : List UInt8) =>
            obind (sadd x_2 [32, 100, 117, 101, 32]) fun (x_3 : List UInt8) =>
              obind (am b.2.1) fun (x_4 : List UInt8) =>
                obind (sadd x_3 x_4) fun (x_5 : List UInt8) =>
                  obind (sadd x_5 [32, 114, 101, 99, 101, 105, 118, 101, 100, 32]) fun (x_6 : List UInt8) =>
                    obind (am b.2.2.1) fun (x_7 : List UInt8) =>
                      obind (sadd x_6 x_7) fun (x_8 : List UInt8) =>
                        obind (sadd x_8 [32, 119, 97, 105, 118, 101, 100, 32]) fun (x_9 : List UInt8) =>
                          obind (am b.2.2.2) fun (x_10 : List UInt8) =>
                            obind (sadd x_9 x_10) fun (x_11 : List UInt8) =>
                              obind (sadd x_11 [32, 97, 114, 114, 101, 97, 114, 115, 32]) fun (x_12 : List UInt8) =>
                                obind (arF b) fun (x_13 : Int) =>
                                  obind (am x_13) fun (x_14 : List UInt8) =>
                                    obind (sadd x_12 x_14) fun (x_15 : List UInt8) =>
                                      obind (sadd x_15 [32, 111, 118, 101, 114, 112, 97, 121, 109, 101, 110, 116, 32])
                                        fun (x_16 : List UInt8) =>
                                        obind (ovF b) fun (x_17 : Int) =>
                                          obind (am x_17) fun (x_18 : List UInt8) =>
                                            obind (sadd x_16 x_18) K) = K (bline b) := by
  obtain ⟨⟨a1, a2⟩, ⟨a3, a4⟩, a5, a6⟩ := h
  have i1 : I64 b.2.1 := by unfold I64; omega
  have i2 : I64 b.2.2.1 := by unfold I64; omega
  have i3 : I64 b.2.2.2 := by unfold I64; omega
  have e4 : imax (isub .i64 b.2.1 b.2.2.1) 0 = arr b := by rw [isub_i64 (by unfold I64; omega)]; rfl
  have e5 : imax (isub .i64 (isub .i64 b.2.2.1 b.2.1) b.2.2.2) 0 = ovr b := by rw [isub_i64 (a := b.2.2.1) (by unfold I64; omega), isub_i64 (by unfold I64; omega)]; rfl
  have i4 : I64 (arr b) := imax_bd (by omega)
  have i5 : I64 (ovr b) := imax_bd (by omega)
  rw [hmt, ham _ i1, ham _ i2, ham _ i3, har, hov, e4, e5]
  simp only [osome]
  rw [ham _ i4, ham _ i5]
  have l0 := mtx_len b.1
  have l1 := fixed_len (k := 2) i1 (by omega)
  have l2 := fixed_len (k := 2) i2 (by omega)
  have l3 := fixed_len (k := 2) i3 (by omega)
  have l4 := fixed_len (k := 2) i4 (by omega)
  have l5 := fixed_len (k := 2) i5 (by omega)
  simp only [osome]
  repeat rw [sadd_ok (by first | omega | (simp <;> omega)), osome]
  congr 1
  unfold bline bwords
  simp [joinW]

def blines (l : List TEvalError) : List (List UInt8) := mapIx (fun _ b => bline b) 0 l
theorem balances_ok {l : List TEvalError} (hl : l.length ≤ 100) (h : ∀ b ∈ l, InB b) : report_Balances l = some (blines l) ∧ ref54_Balances l = some (blines l) := by
  constructor
  · unfold report_Balances
    rw [obind_id]
    refine (loopE_foldG l (fun acc i b => acc ++ [bline b]) (fun b => b) _ (fun i b => b.length = i) (b := []) (by omega) rfl (fun acc i b hb hI => ?_) (fun b hI => ?_)).1.trans (by rw [foldG_snoc]; rfl)
    · obtain ⟨hm, hi⟩ := mem_of_get? hb
      refine ⟨?_, by simp; omega⟩
      simp only [lat_nat, hb, osome]
      rw [ilt_t (by unfold llen; omega), bcond_true]
      refine (line_ok (h b hm) (mt := report_monthText) (am := report_amount) (ar := report_amount) (ov := report_amount) (fun m => (monthT m).1) (fun n hn => (amountT hn).1) rfl rfl _).trans ?_
      rw [lapp_ok (by simp only [List.length_cons, List.length_nil]; omega), osome, iadd_nat (by omega)]
    · rw [ilt_f (by unfold llen; omega)]; rfl
  · unfold ref54_Balances
    rw [obind_id]
    refine (loopE_foldG l (fun acc i b => acc ++ [bline b]) (fun b => b) _ (fun i b => b.length = i) (b := []) (by omega) rfl (fun acc i b hb hI => ?_) (fun b hI => ?_)).1.trans (by rw [foldG_snoc]; rfl)
    · obtain ⟨hm, hi⟩ := mem_of_get? hb
      refine ⟨?_, by simp; omega⟩
      simp only [lat_nat, hb, osome]
      rw [ilt_t (by unfold llen; omega), bcond_true]
      refine (line_ok (h b hm) (mt := ref54_monthText) (am := ref54_amount) (ar := report_amount) (ov := report_amount) (fun m => (monthT m).2) (fun n hn => (amountT hn).2) rfl rfl _).trans ?_
      rw [lapp_ok (by simp only [List.length_cons, List.length_nil]; omega), osome, iadd_nat (by omega)]
    · rw [ilt_f (by unfold llen; omega)]; rfl
theorem mapIx_get {α : Type} (h : Nat → α → List UInt8) : ∀ (l : List α) (k i : Nat), (mapIx h k l)[i]? = (l[i]?).map (h (k + i))
  | [], _, _ => by simp [mapIx]
  | a :: l, k, 0 => by simp [mapIx]
  | a :: l, k, i + 1 => by simp only [mapIx, List.getElem?_cons_succ]; rw [mapIx_get h l (k + 1) i]; congr 2; omega

theorem bwords_word (b : TEvalError) : ∀ w ∈ bwords b, Word w := by
  intro w hw
  unfold bwords at hw
  simp only [List.mem_cons, List.not_mem_nil, or_false] at hw
  rcases hw with rfl | rfl | rfl | rfl | rfl | rfl | rfl | rfl | rfl | rfl | rfl
  all_goals first | exact mtx_word _ | exact fixed_word _ _ | exact word_hi (by simp) (by decide)
theorem bfields {b : TEvalError} (h : InB b) : ref01_Fields (bline b) = some (bwords b) := by
  obtain ⟨⟨a1, a2⟩, ⟨a3, a4⟩, a5, a6⟩ := h
  have l0 := mtx_len b.1
  have l1 := fixed_len (n := b.2.1) (k := 2) (by unfold I64; omega) (by omega)
  have l2 := fixed_len (n := b.2.2.1) (k := 2) (by unfold I64; omega) (by omega)
  have l3 := fixed_len (n := b.2.2.2) (k := 2) (by unfold I64; omega) (by omega)
  have l4 := fixed_len (n := arr b) (k := 2) (imax_bd (by omega)) (by omega)
  have l5 := fixed_len (n := ovr b) (k := 2) (imax_bd (by omega)) (by omega)
  refine fields_ok (bwords_word b) ?_ (by simp)
  simp [joinW]; omega

theorem ReportBalances_law (l : List TEvalError) (hwf : ∀ b ∈ l, I64 b.1) : law54_ReportBalances l = some true := by
  unfold law54_ReportBalances
  rw [awake_ok]
  simp only [osome]
  by_cases hl : l.length ≤ 100
  · rw [bcond_f (ilt_f (by unfold llen; omega))]
    have hW : ∀ b : TEvalError, ref38_Within b 1152921504606846976 = some ((ref38_Within b 1152921504606846976).getD false) ∧ ((ref38_Within b 1152921504606846976).getD false = true → InB b) := fun b => by
      obtain ⟨t, h1, h2⟩ := within_ok b
      rw [h1]; exact ⟨rfl, h2⟩
    refine obind_rw (loopO_all l (fun _ b => (ref38_Within b 1152921504606846976).getD false) true PUnit.unit _ (by omega) (fun i b hb => ?_) ?_) ?_
    rotate_left 2
    · split
      · rename_i hall
        have hin : ∀ b ∈ l, InB b := fun b hb => by
          obtain ⟨i, hi, rfl⟩ := List.mem_iff_getElem.1 hb
          exact (hW _).2 (hall i _ (List.getElem?_eq_getElem hi))
        obtain ⟨e1, e2⟩ := balances_ok hl hin
        have hlen : (blines l).length = l.length := mapIx_len _ _ _
        rw [osome, sumK_inl, e1, e2, osome, osome, same_Strings_refl _ (by omega), osome, bnot_true, bcond_false]
        refine obind_rw (loopO_all l (fun _ _ => true) false PUnit.unit _ (by omega) (fun i b hb => ?_) ?_) ?_
        rotate_left 2
        · simp
        · obtain ⟨hm, hi⟩ := mem_of_get? hb
          obtain ⟨p1, p2, p3⟩ := hin b hm
          have hg : (blines l)[i]? = some (bline b) := by unfold blines; rw [mapIx_get, hb]; rfl
          have hg2 : lget (blines l) (toN (i : Int)) = some (bline b) := by unfold lget toN; rw [Int.toNat_natCast]; exact hg
          simp only [lat_nat, hb, hg, hg2, osome]
          rw [ilt_t (by unfold llen; omega), bcond_true, bfields (hin b hm), osome]
          have w2 : lat (bwords b) 2 = some (fixed b.2.1 2) := rfl
          have w4 : lat (bwords b) 4 = some (fixed b.2.2.1 2) := rfl
          have w6 : lat (bwords b) 6 = some (fixed b.2.2.2 2) := rfl
          have v2 : lget (bwords b) (toN 2) = some (fixed b.2.1 2) := rfl
          have v4 : lget (bwords b) (toN 4) = some (fixed b.2.2.1 2) := rfl
          have v6 : lget (bwords b) (toN 6) = some (fixed b.2.2.2 2) := rfl
          have hbl : llen (bwords b) = 11 := rfl
          simp only [w2, w4, w6, v2, v4, v6, osome, parseFixed_ok p1, parseFixed_ok p2, parseFixed_ok p3, hbl]
          rw [ieq_t rfl, ieq_t rfl, ieq_t rfl, ieq_t rfl, ieq_t rfl, iadd_nat (by omega)]
          simp
        · rw [ilt_f (by unfold llen; omega)]; rfl
      · rfl
    · obtain ⟨hm, hi⟩ := mem_of_get? hb
      simp only [lat_nat, hb, osome]
      rw [ilt_t (by unfold llen; omega), bcond_true, (hW b).1, osome, iadd_nat (by omega)]
      cases (ref38_Within b 1152921504606846976).getD false <;> rfl
    · rw [ilt_f (by unfold llen; omega)]; rfl
  · rw [bcond_t (ilt_t (by unfold llen; omega))]

theorem foldG_len {α : Type} (l : List α) : True := trivial
theorem postings_some {l : List TEvalError} (hl : l.length ≤ 200) (h : ∀ p ∈ l, I64 p.1 ∧ I64 p.2.2.2) : ∃ L, report_Postings l = some L ∧ L.length ≤ 200 := by
  have hr := reach_val
  unfold report_Postings
  rw [obind_id]
  obtain ⟨e, h1, h2⟩ := loopE_rule (f := fun (x : List (List UInt8) × Int) =>
      bcond (ilt x.2 (llen l))
        (obind (lat l x.2) fun (x_1 : TEvalError) =>
          obind (report_valueText (5, 0, x_1.1) []) fun (x_2 : List UInt8) =>
            obind (sadd x_2 [32]) fun (x_3 : List UInt8) =>
              obind (report_monthText x_1.2.1) fun (x_4 : List UInt8) =>
                obind (sadd x_3 x_4) fun (x_5 : List UInt8) =>
                  obind (sadd x_5 [32]) fun (x_6 : List UInt8) =>
                    obind (report_kindText x_1.2.2.1) fun (x_7 : List UInt8) =>
                      obind (sadd x_6 x_7) fun (x_8 : List UInt8) =>
                        obind (sadd x_8 [32]) fun (x_9 : List UInt8) =>
                          obind (report_amount x_1.2.2.2) fun (x_10 : List UInt8) =>
                            obind (sadd x_9 x_10) fun (x_11 : List UInt8) =>
                              obind (lapp x.1 [x_11]) fun (x_12 : List (List UInt8)) =>
                                some (Sum.inl (x_12, iadd IntKind.i64 x.2 1)))
        (some (Sum.inr x.1))) (s := ([], 0)) (fun s => ∃ i : Nat, s.2 = i ∧ i ≤ l.length ∧ s.1.length = i) (fun e => e.length ≤ 200) (fun s => l.length - s.2.toNat) ⟨0, rfl, by omega, rfl⟩ (by simp; omega) (by
      rintro ⟨acc, j⟩ ⟨i, rfl, hi, hacc⟩
      simp only at hacc ⊢
      by_cases hlt : i < l.length
      · left
        have hg := List.getElem?_eq_getElem hlt
        obtain ⟨p1, p2⟩ := h l[i] (List.getElem_mem hlt)
        rw [ilt_t (by unfold llen; omega), bcond_true, lat_nat, hg, osome]
        have hv := vt_ok (v := (5, 0, l[i].1)) (en := []) p1 (fun e he => by cases he)
        have hvl : (vt (5, 0, l[i].1) []).length ≤ reachBytes := hv.2.2
        have hml := mtx_len l[i].2.1
        have hk : ∃ t, report_kindText l[i].2.2.1 = some t ∧ t.length ≤ 20 := by
          unfold report_kindText
          simp only [bcond_if]; repeat' split
          all_goals exact ⟨_, rfl, by simp⟩
        obtain ⟨t, ht, htl⟩ := hk
        have hal := fixed_len (k := 2) p2 (by omega)
        rw [hv.1, osome, show report_monthText l[i].2.1 = some (mtx l[i].2.1) from (monthT _).1, ht, (amountT p2).1, sadd_ok (by first | omega | (simp <;> omega)), osome, osome, sadd_ok (by first | omega | (simp <;> omega)), osome, sadd_ok (by first | omega | (simp <;> omega)), osome, osome, sadd_ok (by first | omega | (simp <;> omega)), osome,
          sadd_ok (by first | omega | (simp <;> omega)), osome, osome, sadd_ok (by first | omega | (simp <;> omega)), osome, lapp_ok (by simp only [List.length_cons, List.length_nil]; omega), osome, iadd_nat (by omega)]
        exact ⟨_, rfl, ⟨i + 1, rfl, by omega, by simp; omega⟩, by simp; omega⟩
      · right
        rw [ilt_f (by unfold llen; omega)]
        exact ⟨_, rfl, by omega⟩)
  exact ⟨e, h1, h2⟩

theorem ReportPostings_law (l : List TEvalError) (hwf : ∀ p ∈ l, I64 p.1 ∧ I64 p.2.2.2) : law54_ReportPostings l = some true := by
  unfold law54_ReportPostings
  rw [awake_ok]
  simp only [osome]
  by_cases hl : l.length ≤ 200
  · rw [bcond_f (ilt_f (by unfold llen; omega))]
    obtain ⟨L, h1, h2⟩ := postings_some hl hwf
    rw [← postings_eq hwf, h1, osome, osome, same_Strings_refl _ (by omega), osome, bcond_true]
  · rw [bcond_t (ilt_t (by unfold llen; omega))]

/-- that a law is asked whether it is small never fails -/
theorem ReportEvalError_law {l : TLaw} {k : Int} {e : TEvalError} (hS : ∃ b, same_SmallLaw l = some b) (hN : NamesOk l) (h1 : I64 e.1) (h2 : I64 e.2.1) : law54_ReportEvalError l k e = some true := by
  obtain ⟨b, hb⟩ := hS
  obtain ⟨t, e1, e2⟩ := evalError_both (k := k) hN h1 h2
  unfold law54_ReportEvalError
  rw [hb, awake_ok, e1, e2]
  simp only [osome]
  rw [(seq_iff (a := t)).2 rfl]
  cases b <;> rfl
theorem few_ok (r : TResult) (hr : r.2.2.length ≤ 9000000000000000000) : ∃ b, law54_few r = some b ∧ (b = true → r.1.length ≤ 20 ∧ r.2.2.length ≤ 12 ∧ ∀ m ∈ r.2.2, m.1.length ≤ 20) := by
  unfold law54_few
  by_cases h1 : r.1.length ≤ 20
  · rw [bcond_f (ilt_f (by unfold llen; omega))]
    by_cases h2 : r.2.1.length ≤ 20
    · rw [bcond_f (ilt_f (by unfold llen; omega))]
      by_cases h3 : r.2.2.length ≤ 12
      · rw [bcond_f (ilt_f (by unfold llen; omega)), osome, sumK_inl]
        have key : ∀ F : Int → Option (Out Int PUnit Bool), (∀ (i : Nat) (m : TMemberResult), r.2.2[i]? = some m → F (i : Int) = if (decide (m.1.length ≤ 20) && decide (m.2.length ≤ 20)) = true then some (.nx ((i + 1 : Nat) : Int)) else some (.rt false)) →
            F (r.2.2.length : Int) = some (.ex PUnit.unit) → ∃ b, (obind (loopO F 0) fun o => sumK o (fun (y : PUnit) => some true) fun (r : Bool) => some r) = some b ∧ (b = true → r.1.length ≤ 20 ∧ r.2.2.length ≤ 12 ∧ ∀ m ∈ r.2.2, m.1.length ≤ 20) := by
          intro F hF1 hF2
          rw [loopO_all r.2.2 (fun _ m => decide (m.1.length ≤ 20) && decide (m.2.length ≤ 20)) false PUnit.unit F (by omega) hF1 hF2]
          split
          · rename_i hall
            refine ⟨true, rfl, fun _ => ⟨h1, h3, fun m hm => ?_⟩⟩
            obtain ⟨i, hi, rfl⟩ := List.mem_iff_getElem.1 hm
            have := hall i _ (List.getElem?_eq_getElem hi)
            simp at this; exact this.1
          · exact ⟨false, rfl, fun h => by cases h⟩
        refine key _ (fun i m hm => ?_) ?_
        · obtain ⟨_, hi⟩ := mem_of_get? hm
          simp only [lat_nat, hm, osome]
          rw [ilt_t (by unfold llen; omega), bcond_true, iadd_nat (by omega)]
          by_cases a1 : m.1.length ≤ 20
          · rw [bcond_f (ilt_f (by unfold llen; omega))]
            by_cases a2 : m.2.length ≤ 20
            · rw [bcond_f (ilt_f (by unfold llen; omega))]; simp [a1, a2]
            · rw [bcond_t (ilt_t (by unfold llen; omega))]; simp [a1, a2]
          · rw [bcond_t (ilt_t (by unfold llen; omega))]; simp [a1]
        · rw [ilt_f (by unfold llen; omega)]; rfl
      · rw [bcond_t (ilt_t (by unfold llen; omega))]
        exact ⟨false, rfl, fun h => by cases h⟩
    · rw [bcond_t (ilt_t (by unfold llen; omega))]
      exact ⟨false, rfl, fun h => by cases h⟩
  · rw [bcond_t (ilt_t (by unfold llen; omega))]
    exact ⟨false, rfl, fun h => by cases h⟩
theorem ReportResult_law {l : TLaw} {k : Int} {r : TResult} (hS : ∃ b, same_SmallLaw l = some b) (hN : NamesOk l) (hr : r.2.2.length ≤ 9000000000000000000) (hv : ∀ v ∈ r.1, I64 v.2.2) (hw : ∀ m ∈ r.2.2, ∀ v ∈ m.1, I64 v.2.2) : law54_ReportResult l k r = some true := by
  obtain ⟨b, hb⟩ := hS
  obtain ⟨f, hf, hf2⟩ := few_ok r hr
  unfold law54_ReportResult
  rw [hb, awake_ok, hf]
  simp only [osome]
  cases b
  · rfl
  · cases f
    · rfl
    · obtain ⟨a1, a2, a3⟩ := hf2 rfl
      obtain ⟨L, e1, e2, e3⟩ := result_both (k := k) hN a1 a2 a3 hv hw
      rw [e1, e2, bnot_true, bcond_false, bcond_false, osome, osome, same_Strings_refl _ (by omega)]
      rfl
end Gt
