import Derived.Test.YtjpepdpbplpccaaDoorPl3
/- PLAIN LAWS: Result, EvalError, Postings. -/
namespace Gt
open Go Go.GP
set_option linter.unusedVariables false
set_option linter.unusedSimpArgs false

theorem awake_ok : law54_awake = some true := by
  have e : numtext_FormatInt = fun a => obind (itoaF a) fun x => some x := by
    funext a; unfold numtext_FormatInt; rw [itoaF_eq]
  unfold law54_awake report_Result report_Balances report_Postings report_EvalError report_valueLine report_amount report_valueText value_Format numtext_FormatFixed date_Format date_pad report_monthText month_Format month_pad
  simp only [e]
  decide +kernel

theorem wf_list {t : Ty} {l : List t.den} (h : wf (.sl t) l) : l.length ≤ reachBytes ∧ ∀ x ∈ l, wf t x := h

def head (m : Nat) : List UInt8 := [109, 101, 109, 98, 101, 114, 32] ++ Lib.itoa m ++ [58, 32]

theorem result_both {l : TLaw} {k : Int} {r : TResult} (hN : NamesOk l) (h1 : r.1.length ≤ 20) (h2 : r.2.2.length ≤ 12) (h3 : ∀ m ∈ r.2.2, m.1.length ≤ 20) (hv : ∀ v ∈ r.1, I64 v.2.2) (hw : ∀ m ∈ r.2.2, ∀ v ∈ m.1, I64 v.2.2) :
    ∃ L, report_Result l k r = some L ∧ ref54_Result l k r = some L ∧ L.length ≤ 1000 := by
  have hr := reach_val
  let G := fun (acc : List (List UInt8)) (m : Nat) (x : TMemberResult) => acc ++ lines (head m) l (scopeAt l k).2.1 x.1 x.2
  let Inv := fun (i : Nat) (b : List (List UInt8)) => b.length ≤ 20 + 20 * i
  have hG : ∀ i b a, a ∈ r.2.2 → Inv i b → Inv (i + 1) (G b i a) := fun i b a ha hb => by
    have := h3 a ha
    show (b ++ _).length ≤ _
    have hb : b.length ≤ 20 + 20 * i := hb
    simp [lines, mapIx_len]; omega
  have hI0 : Inv 0 (lines [] l k r.1 r.2.1) := by show (lines [] l k r.1 r.2.1).length ≤ _; simp [lines, mapIx_len]; omega
  have hhead : ∀ m : Nat, m < 100 → (head m).length ≤ 100 := fun m hm => by
    have := itoa_len (n := (m : Int)) (by unfold I64; omega)
    unfold head; simp; omega
  refine ⟨foldG G r.2.2 0 (lines [] l k r.1 r.2.1), ?_, ?_, ?_⟩
  · unfold report_Result
    rw [scopeOf_ok, osome, memberScope_ok]
    refine obind_rw (loopE_foldG r.1 (fun acc i v => acc ++ [ln [] (scopeAt l k) i (vt v l.1) r.2.1]) (fun b => b) _ (fun i b => b.length = i) (b := []) (by omega) rfl (fun b i v hv2 hI => ?_) (fun b hI => ?_)).1 ?_
    rotate_left 2
    · rw [foldG_snoc, osome, List.nil_append]
      refine obind_rw (loopE_foldG r.2.2 G (fun b => b) _ Inv (b := lines [] l k r.1 r.2.1) (by omega) hI0 (fun b i x hx hI => ?_) (fun b hI => ?_)).1 ?_
      rotate_left 2
      · rfl
      · obtain ⟨hmem, hi⟩ := mem_of_get? hx
        refine ⟨?_, hG i b x hmem hI⟩
        have hx3 := h3 x hmem
        have hb : b.length ≤ 20 + 20 * i := hI
        have hhi := hhead i (by omega)
        simp only [lat_nat, hx, osome]
        rw [ilt_t (by unfold llen; omega), bcond_true]
        refine obind_rw (loopE_foldG x.1 (fun acc j v => acc ++ [ln (head i) (scopeAt l (scopeAt l k).2.1) j (vt v l.1) x.2]) (fun b => b) _ (fun j c => c.length = b.length + j) (b := b) (by omega) (by simp) (fun c j v hv2 hJ => ?_) (fun c hJ => ?_)).1 ?_
        rotate_left 2
        · rw [foldG_snoc, iadd_nat (by omega)]; rfl
        · obtain ⟨hvm, hj⟩ := mem_of_get? hv2
          refine ⟨?_, by simp; omega⟩
          have hil := itoa_len (n := (i : Int)) (by unfold I64; omega)
          have hll := ln_len (k := (scopeAt l k).2.1) hN (hw x hmem v hvm) j x.2 []
          simp only [List.length_nil] at hll
          simp only [lat_nat, hv2, osome]
          rw [ilt_t (by unfold llen; omega), bcond_true, numtext_FormatInt_ok (by unfold I64; omega), osome, sadd_ok (by first | omega | (simp <;> omega)), osome, sadd_ok (by first | omega | (simp <;> omega)), osome,
            valueLine_ok hN (hw x hmem v hvm), osome, sadd_ok (by first | omega | (simp <;> omega)), osome, lapp_ok (by simp only [List.length_cons, List.length_nil]; omega), osome, iadd_nat (by omega)]
          unfold ln head
          simp
        · rw [ilt_f (by unfold llen; omega)]; rfl
      · rw [ilt_f (by unfold llen; omega)]; rfl
    · obtain ⟨hmem, hi⟩ := mem_of_get? hv2
      refine ⟨?_, by simp; omega⟩
      simp only [lat_nat, hv2, osome]
      rw [ilt_t (by unfold llen; omega), bcond_true, valueLine_ok hN (hv v hmem), osome, lapp_ok (by simp only [List.length_cons, List.length_nil]; omega), osome, iadd_nat (by omega)]
    · rw [ilt_f (by unfold llen; omega)]; rfl
  · unfold ref54_Result
    rw [scopeAt_ref, osome, ref54_lines_ok hN hv (by simp) (by simp; omega), osome, List.nil_append]
    refine obind_rw (loopE_foldG r.2.2 G (fun b => b) _ Inv (b := lines [] l k r.1 r.2.1) (by omega) hI0 (fun b i x hx hI => ?_) (fun b hI => ?_)).1 ?_
    rotate_left 2
    · rfl
    · obtain ⟨hmem, hi⟩ := mem_of_get? hx
      refine ⟨?_, hG i b x hmem hI⟩
      have hx3 := h3 x hmem
      have hb : b.length ≤ 20 + 20 * i := hI
      have hil := itoa_len (n := (i : Int)) (by unfold I64; omega)
      have hhi := hhead i (by omega)
      simp only [lat_nat, hx, osome]
      rw [ilt_t (by unfold llen; omega), bcond_true, ref01_FormatInt_ok (by unfold I64; omega), osome, sadd_ok (by first | omega | (simp <;> omega)), osome, sadd_ok (by first | omega | (simp <;> omega)), osome, scopeAt_ref, osome]
      refine obind_rw (ref54_lines_ok hN (hw x hmem) hhi (by omega)) ?_
      rw [osome, iadd_nat (by omega)]
    · rw [ilt_f (by unfold llen; omega)]; rfl
  · have := foldG_inv Inv r.2.2 0 _ hI0 hG
    have h5 : (foldG G r.2.2 0 (lines [] l k r.1 r.2.1)).length ≤ 20 + 20 * (0 + r.2.2.length) := this
    omega

/-! ### the error's line -/
theorem both {α : Type} {A B : Option α} {t u : α} (h1 : A = some t) (h2 : B = some u) (h3 : t = u) : ∃ t, A = some t ∧ B = some t := ⟨t, h1, by rw [h2, h3]⟩
theorem evalError_both {l : TLaw} {k : Int} {e : Int × Int × Int × Int} (hN : NamesOk l) (h1 : I64 e.1) (h2 : I64 e.2.1) : ∃ t, report_EvalError l k e = some t ∧ ref54_EvalError l k e = some t := by
  have hr := reach_val
  have i1 := itoa_len h1
  have i2 := itoa_len h2
  unfold report_EvalError ref54_EvalError
  simp only [scopeOf_ok, memberScope_ok, scopeAt_ref, osome, defName_ok, ruleName_ok, defName_ref, ruleName_ref, numtext_FormatInt_ok h1, numtext_FormatInt_ok h2, ref01_FormatInt_ok h1, ref01_FormatInt_ok h2]
  have d1 := hN.def_len k e.2.2.1
  have d2 := hN.rule_len k e.2.2.2
  have d3 := hN.def_len (scopeAt l k).2.1 e.2.2.1
  have d4 := hN.rule_len (scopeAt l k).2.1 e.2.2.2
  generalize Lib.itoa e.1 = x1 at i1
  generalize Lib.itoa e.2.1 = x2 at i2
  generalize nameAt (scopeAt l k).2.2.2.1 e.2.2.1 = y1 at d1
  generalize nameAt (scopeAt l k).2.2.2.2 e.2.2.2 = y2 at d2
  generalize nameAt (scopeAt l (scopeAt l k).2.1).2.2.2.1 e.2.2.1 = y3 at d3
  generalize nameAt (scopeAt l (scopeAt l k).2.1).2.2.2.2 e.2.2.2 = y4 at d4
  cases ieq e.1 0 <;> cases ile 0 e.2.1 <;> cases ile 0 e.2.2.1 <;> cases ile 0 e.2.2.2 <;> simp only [bcond_true, bcond_false]
  all_goals
    apply both
    · repeat rw [sadd_ok (by first | omega | (simp <;> omega)), osome]
      try rfl
    · repeat rw [sadd_ok (by first | omega | (simp <;> omega)), osome]
      try rfl
    · try simp

/-! ### postings -/
theorem monthT (m : Int) : report_monthText m = some (if monthText m = [] then [63] else monthText m) ∧ ref54_monthText m = some (if monthText m = [] then [63] else monthText m) := by
  unfold report_monthText ref54_monthText
  rw [month_Format_ok, ref07_Format_ok, osome, osome]
  by_cases h : monthText m = []
  · rw [(seq_iff).2 h, if_pos h]; exact ⟨rfl, rfl⟩
  · rw [(seq_nf).2 h, if_neg h]; exact ⟨rfl, rfl⟩
theorem amountT {n : Int} (h : I64 n) : report_amount n = some (fixed n 2) ∧ ref54_amount n = some (fixed n 2) := by
  unfold report_amount ref54_amount
  rw [show numtext_FormatFixed n 2 = _ from numtext_FormatFixed_ok (k := 2) h (by omega), show ref01_FormatFixed n 2 = _ from ref01_FormatFixed_ok (k := 2) h (by omega)]
  exact ⟨rfl, rfl⟩

theorem postings_eq {l : List TEvalError} (h : ∀ p ∈ l, I64 p.1 ∧ I64 p.2.2.2) : report_Postings l = ref54_Postings l := by
  unfold report_Postings ref54_Postings
  congr 1
  refine loopE_congr' fun s => ?_
  cases bh : ilt s.2 (llen l)
  · rfl
  · simp only [bcond_true]
    cases hl : lat l s.2 with
    | none => rfl
    | some p =>
      obtain ⟨_, _, hm, _⟩ := lat_some' hl
      obtain ⟨hp1, hp2⟩ := h p hm
      have e1 : ref54_valueText (5, 0, p.1) [] = report_valueText (5, 0, p.1) [] := by
        unfold ref54_valueText report_valueText
        rw [value_Format_eq [] (by exact hp1)]
      have e2 : ref54_kindText = report_kindText := rfl
      simp only [osome]
      rw [e1, (monthT p.2.1).1, (monthT p.2.1).2, e2, (amountT hp2).1, (amountT hp2).2]
end Gt
