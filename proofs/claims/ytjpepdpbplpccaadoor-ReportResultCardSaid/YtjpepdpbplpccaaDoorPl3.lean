import Derived.Test.YtjpepdpbplpccaaDoorPl2
/- PLAIN LAWS: the reports' lines. -/
namespace Gt
open Go Go.GP
set_option linter.unusedVariables false
set_option linter.unusedSimpArgs false

theorem reach_val : reachBytes = 140737488351232 := by decide +kernel

/-! ### the awake check -/
def decF : Nat → Nat → List UInt8
  | 0, _ => []
  | k + 1, u => if u < 10 then [UInt8.ofNat (48 + u)] else decF k (u / 10) ++ [UInt8.ofNat (48 + u % 10)]
theorem decF_eq : ∀ (k u : Nat), u < 10 ^ k → 1 ≤ k → decF k u = Lib.decDigits u
  | 0, _, _, h => by omega
  | k + 1, u, hu, _ => by
    unfold decF
    rw [Lib.decDigits]
    by_cases h : u < 10
    · rw [if_pos h, dif_pos h]
    · rw [if_neg h, dif_neg h]
      cases k with
      | zero => simp at hu; omega
      | succ k => rw [decF_eq (k + 1) (u / 10) (by rw [Nat.pow_succ] at hu; omega) (by omega)]
def itoaF (n : Int) : Option (List UInt8) := if -9223372036854775808 ≤ n ∧ n ≤ 9223372036854775807 then some (if n < 0 then 45 :: decF 20 n.natAbs else decF 20 n.toNat) else none
theorem itoaF_eq : Lib_itoa = itoaF := by
  funext n
  unfold Lib_itoa itoaF Lib.itoa
  by_cases h : -9223372036854775808 ≤ n ∧ n ≤ 9223372036854775807
  · rw [if_pos h, if_pos h]
    have e : (10 : Nat) ^ 20 = 100000000000000000000 := by decide +kernel
    rw [decF_eq 20 n.natAbs (by rw [e]; omega) (by omega), decF_eq 20 n.toNat (by rw [e]; omega) (by omega)]
  · rw [if_neg h, if_neg h]

/-! ### names -/
def scopeD : TScope := ([], -1, [], [], [])
def scopeAt (l : TLaw) (i : Int) : TScope := if 0 ≤ i then (l.2.2[i.toNat]?).getD scopeD else scopeD
theorem scopeOf_ok (l : TLaw) (i : Int) : report_scopeOf l i = some (scopeAt l i) := by
  unfold report_scopeOf scopeAt
  by_cases h0 : 0 ≤ i
  · rw [bcond_f (ilt_f h0), if_pos h0]
    by_cases h : i < llen l.2.2
    · rw [bcond_f (ile_f h)]
      obtain ⟨x, hx, _⟩ := lat_ex h0 h
      obtain ⟨_, _, _, h4⟩ := lat_some' hx
      rw [hx, h4]; rfl
    · rw [bcond_t (ile_t (by omega)), List.getElem?_eq_none (by unfold llen at h; omega)]; rfl
  · rw [bcond_t (ilt_t (by omega)), if_neg h0]; rfl
theorem scopeAt_ref (l : TLaw) (i : Int) : ref54_scopeAt l i = some (scopeAt l i) := scopeOf_ok l i
theorem memberScope_ok (l : TLaw) (i : Int) : report_memberScope l i = some (scopeAt l (scopeAt l i).2.1) := by
  unfold report_memberScope
  rw [scopeOf_ok, osome, scopeOf_ok]; rfl
def nameAt {α : Type} (l : List (List UInt8 × α)) (i : Int) : List UInt8 := if 0 ≤ i then ((l[i.toNat]?).map (·.1)).getD [63] else [63]
theorem nameAt_ok {α : Type} (l : List (List UInt8 × α)) (i : Int) : bcond (ilt i 0) (some [63]) (bcond (ile (llen l) i) (some [63]) (obind (lat l i) fun x => some x.1)) = some (nameAt l i) := by
  unfold nameAt
  by_cases h0 : 0 ≤ i
  · rw [bcond_f (ilt_f h0), if_pos h0]
    by_cases h : i < llen l
    · rw [bcond_f (ile_f h)]
      obtain ⟨x, hx, _⟩ := lat_ex h0 h
      obtain ⟨_, _, _, h4⟩ := lat_some' hx
      rw [hx, h4]; rfl
    · rw [bcond_t (ile_t (by omega)), List.getElem?_eq_none (by unfold llen at h; omega)]; rfl
  · rw [bcond_t (ilt_t (by omega)), if_neg h0]
theorem defName_ok (s : TScope) (i : Int) : report_defName s i = some (nameAt s.2.2.2.1 i) := nameAt_ok _ i
theorem ruleName_ok (s : TScope) (i : Int) : report_ruleName s i = some (nameAt s.2.2.2.2 i) := nameAt_ok _ i
theorem defName_ref (s : TScope) (i : Int) : ref54_defName s i = some (nameAt s.2.2.2.1 i) := nameAt_ok _ i
theorem ruleName_ref (s : TScope) (i : Int) : ref54_ruleName s i = some (nameAt s.2.2.2.2 i) := nameAt_ok _ i
theorem nameAt_len {α : Type} {l : List (List UInt8 × α)} (h : ∀ x ∈ l, x.1.length ≤ reachBytes) (i : Int) : (nameAt l i).length ≤ reachBytes := by
  have hr := reach_val
  unfold nameAt
  split
  · cases e : l[i.toNat]? with
    | none => simp; omega
    | some x =>
      simp only [Option.map_some, Option.getD_some]
      obtain ⟨h1, h2⟩ := List.getElem?_eq_some_iff.1 e
      rw [← h2]; exact h _ (List.getElem_mem h1)
  · simp; omega

/-- what is asked of a law: names that fit memory -/
structure NamesOk (l : TLaw) : Prop where
  defs : ∀ s ∈ l.2.2, ∀ d ∈ s.2.2.2.1, d.1.length ≤ reachBytes
  rules : ∀ s ∈ l.2.2, ∀ d ∈ s.2.2.2.2, d.1.length ≤ reachBytes
  mems : ∀ e ∈ l.1, e.2.length ≤ reachBytes ∧ ∀ m ∈ e.2, m.length ≤ reachBytes
theorem scopeAt_mem (l : TLaw) (i : Int) : scopeAt l i = scopeD ∨ scopeAt l i ∈ l.2.2 := by
  unfold scopeAt
  split
  · cases e : l.2.2[i.toNat]? with
    | none => exact .inl rfl
    | some x =>
      obtain ⟨h1, h2⟩ := List.getElem?_eq_some_iff.1 e
      right
      rw [Option.getD_some, ← h2]; exact List.getElem_mem h1
  · exact .inl rfl
theorem NamesOk.def_len {l : TLaw} (h : NamesOk l) (k i : Int) : (nameAt (scopeAt l k).2.2.2.1 i).length ≤ reachBytes := by
  refine nameAt_len (fun x hx => ?_) i
  rcases scopeAt_mem l k with e | e
  · rw [e] at hx; cases hx
  · exact h.defs _ e x hx
theorem NamesOk.rule_len {l : TLaw} (h : NamesOk l) (k i : Int) : (nameAt (scopeAt l k).2.2.2.2 i).length ≤ reachBytes := by
  refine nameAt_len (fun x hx => ?_) i
  rcases scopeAt_mem l k with e | e
  · rw [e] at hx; cases hx
  · exact h.rules _ e x hx

/-! ### the text of a value -/
theorem value_Format_some {v : Int × Int × Int} {en : List TEnum} (h : I64 v.2.2) (hm : ∀ e ∈ en, e.2.length ≤ reachBytes ∧ ∀ m ∈ e.2, m.length ≤ reachBytes) : ∃ t, value_Format v en = some t ∧ t.1.length ≤ reachBytes := by
  have hr := reach_val
  unfold value_Format
  cases hv : value_ValidType (v.1, v.2.1) en with
  | none =>
    exfalso
    rw [validType_eq] at hv
    unfold ref09_ValidType at hv
    simp only [bcond_if] at hv
    repeat' split at hv
    all_goals cases hv
  | some b =>
    rw [osome]
    cases b with
    | false => exact ⟨_, rfl, by simp⟩
    | true =>
      rw [bnot_true, bcond_false]
      unfold value_within value_Bounds
      rw [hv]
      simp only [osome, bnot_true, bcond_false]
      have f1 := itoa_len h
      have f2 := fixed_len (k := 2) h (by omega)
      have f4 := fixed_len (k := 4) h (by omega)
      have f5 := dateText_len v.2.2
      rw [numtext_FormatInt_ok h, show numtext_FormatFixed v.2.2 2 = _ from numtext_FormatFixed_ok (k := 2) h (by omega), show numtext_FormatFixed v.2.2 4 = _ from numtext_FormatFixed_ok (k := 4) h (by omega), date_Format_ok]
      simp only [osome]
      rw [sadd_ok (a := fixed v.2.2 4) (by simp; omega)]
      simp only [osome]
      by_cases h1 : v.1 = 1
      · simp only [ieq_t h1, bcond_true, osome]
        simp only [bb, osome]
        simp only [bcond_if]; repeat' split
        all_goals exact ⟨_, rfl, by first | omega | (simp <;> omega)⟩
      by_cases h2 : v.1 = 2
      · simp only [ieq_f h1, ieq_t h2, bcond_true, bcond_false, osome]
        simp only [bb, osome]
        simp only [bcond_if]; repeat' split
        all_goals exact ⟨_, rfl, by first | omega | (simp <;> omega)⟩
      by_cases h3 : v.1 = 3
      · simp only [ieq_f h1, ieq_f h2, ieq_t h3, bcond_true, bcond_false, osome]
        simp only [bb, osome]
        simp only [bcond_if]; repeat' split
        all_goals exact ⟨_, rfl, by first | omega | (simp <;> omega)⟩
      by_cases h4 : v.1 = 4
      · simp only [ieq_f h1, ieq_f h2, ieq_f h3, ieq_t h4, bcond_true, bcond_false, osome]
        simp only [bb, osome]
        simp only [bcond_if]; repeat' split
        all_goals exact ⟨_, rfl, by first | omega | (simp <;> omega)⟩
      by_cases h5 : v.1 = 5
      · simp only [ieq_f h1, ieq_f h2, ieq_f h3, ieq_f h4, ieq_t h5, bcond_true, bcond_false, osome]
        simp only [bb, osome]
        simp only [bcond_if]; repeat' split
        all_goals exact ⟨_, rfl, by first | omega | (simp <;> omega)⟩
      · simp only [ieq_f h1, ieq_f h2, ieq_f h3, ieq_f h4, ieq_f h5, bcond_false]
        have hk : v.1 = 6 ∧ 0 ≤ v.2.1 ∧ v.2.1 < llen en := by
          unfold value_ValidType at hv
          simp only [ieq_f h1, ieq_f h2, ieq_f h3, ieq_f h4, ieq_f h5, bcond_false, osome] at hv
          simp only [bcond_if, ieq_iff, ile_iff] at hv
          split at hv
          · split at hv
            · simp only [Option.some.injEq, ilt_iff] at hv
              exact ⟨by assumption, by assumption, hv⟩
            · cases hv
          · cases hv
        obtain ⟨e, he, hmem⟩ := lat_ex hk.2.1 hk.2.2
        rw [he]
        simp only [osome]
        have hle := (hm e hmem).1
        have hll : llen e.2 = (e.2.length : Int) := rfl
        rw [isub_i64 (by unfold I64; omega)]
        by_cases hw0 : 0 ≤ v.2.2
        · by_cases hw1 : v.2.2 ≤ llen e.2 - 1
          · rw [ile_t hw0, bcond_true, ile_t hw1, osome, bnot_true, bcond_false]
            obtain ⟨m, hm1, hm2⟩ := lat_ex (l := e.2) hw0 (by omega)
            rw [hm1]
            exact ⟨_, rfl, (hm e hmem).2 m hm2⟩
          · rw [ile_t hw0, bcond_true, ile_f (Int.not_le.1 hw1), osome, bnot_false, bcond_true]
            exact ⟨_, rfl, by simp⟩
        · rw [ile_f (Int.not_le.1 hw0), bcond_false]
          exact ⟨_, rfl, by simp⟩

def vt (v : TValue) (en : List TEnum) : List UInt8 := (report_valueText v en).getD []
theorem vt_ok {v : Int × Int × Int} {en : List TEnum} (h : I64 v.2.2) (hm : ∀ e ∈ en, e.2.length ≤ reachBytes ∧ ∀ m ∈ e.2, m.length ≤ reachBytes) : report_valueText v en = some (vt v en) ∧ ref54_valueText v en = some (vt v en) ∧ (vt v en).length ≤ reachBytes := by
  have hr := reach_val
  obtain ⟨t, ht, hl⟩ := value_Format_some h hm
  have e1 : report_valueText v en = some (vt v en) ∧ (vt v en).length ≤ reachBytes := by
    unfold vt report_valueText
    rw [ht, osome]
    cases bnot (ieq t.2 0)
    · exact ⟨rfl, hl⟩
    · exact ⟨rfl, by simp; omega⟩
  refine ⟨e1.1, ?_, e1.2⟩
  have e2 : ref54_valueText v en = report_valueText v en := by
    unfold ref54_valueText report_valueText
    rw [value_Format_eq en h]
  rw [e2]; exact e1.1

/-- one line -/
def ln (head : List UInt8) (s : TScope) (i : Nat) (t : List UInt8) (rules : List Int) : List UInt8 :=
  head ++ nameAt s.2.2.2.1 i ++ [32, 61, 32] ++ t ++ [32, 98, 121, 32] ++ (match rules[i]? with | some r => nameAt s.2.2.2.2 r | none => [63])
theorem nameAt_neg {α : Type} (l : List (List UInt8 × α)) : nameAt l (-1) = [63] := rfl

theorem valueLine_ok {l : TLaw} {k : Int} {v : Int × Int × Int} (hN : NamesOk l) (h : I64 v.2.2) (i : Nat) (rules : List Int) :
    report_valueLine l (scopeAt l k) i v rules = some (ln [] (scopeAt l k) i (vt v l.1) rules) := by
  have hr := reach_val
  obtain ⟨v1, _, v3⟩ := vt_ok h hN.mems
  have d1 := hN.def_len k i
  unfold report_valueLine ln
  simp only [defName_ok, ruleName_ok, v1, osome]
  by_cases hi : i < rules.length
  · rw [bcond_t (ilt_t (by unfold llen; omega)), lat_nat, List.getElem?_eq_getElem hi, osome]
    have d2 := hN.rule_len k rules[i]
    rw [sadd_ok (by first | omega | (simp <;> omega)), osome, sadd_ok (by first | omega | (simp <;> omega)), osome, sadd_ok (by first | omega | (simp <;> omega)), osome, sadd_ok (by first | omega | (simp <;> omega)), osome]
    simp
  · rw [bcond_f (ilt_f (by unfold llen; omega)), List.getElem?_eq_none (by omega)]
    rw [sadd_ok (by first | omega | (simp <;> omega)), osome, sadd_ok (by first | omega | (simp <;> omega)), osome, sadd_ok (by first | omega | (simp <;> omega)), osome, sadd_ok (by first | omega | (simp <;> omega)), osome]
    simp
theorem ln_len {l : TLaw} {k : Int} {v : Int × Int × Int} (hN : NamesOk l) (h : I64 v.2.2) (i : Nat) (rules : List Int) (head : List UInt8) : (ln head (scopeAt l k) i (vt v l.1) rules).length ≤ head.length + 3 * reachBytes + 10 := by
  obtain ⟨v1, _, v3⟩ := vt_ok h hN.mems
  have d1 := hN.def_len k i
  unfold ln
  cases e : rules[i]? with
  | none => simp; omega
  | some r =>
    have d2 := hN.rule_len k r
    simp; omega

/-- a loop that lays one line for each element -/
def mapIx {α : Type} (h : Nat → α → List UInt8) : Nat → List α → List (List UInt8)
  | _, [] => []
  | i, a :: l => h i a :: mapIx h (i + 1) l
theorem mapIx_len {α : Type} (h : Nat → α → List UInt8) : ∀ (l : List α) (i : Nat), (mapIx h i l).length = l.length
  | [], _ => rfl
  | a :: l, i => by simp [mapIx, mapIx_len h l]
theorem foldG_snoc {α : Type} (h : Nat → α → List UInt8) : ∀ (l : List α) (i : Nat) (acc : List (List UInt8)), foldG (fun acc i a => acc ++ [h i a]) l i acc = acc ++ mapIx h i l
  | [], _, acc => by simp [foldG, mapIx]
  | a :: l, i, acc => by
    simp only [foldG, mapIx]
    rw [foldG_snoc h l (i + 1)]; simp
theorem mem_of_get? {α : Type} {l : List α} {i : Nat} {a : α} (h : l[i]? = some a) : a ∈ l ∧ i < l.length := by
  obtain ⟨h1, h2⟩ := List.getElem?_eq_some_iff.1 h
  exact ⟨by rw [← h2]; exact List.getElem_mem h1, h1⟩
theorem iadd_nat {i : Nat} (h : i ≤ 9000000000000000000) : iadd .i64 (i : Int) 1 = ((i + 1 : Nat) : Int) := by
  rw [iadd_i64 (by unfold I64; omega)]; omega

theorem same_Strings_refl (a : List (List UInt8)) (h : a.length ≤ 9000000000000000000) : same_Strings a a = some true := by
  unfold same_Strings
  rw [ieq_t rfl, bnot_true, bcond_false]
  refine obind_rw (loopO_all a (fun _ _ => true) false PUnit.unit _ (by omega) (fun i x hx => ?_) ?_) ?_
  rotate_left 2
  · simp
  · obtain ⟨_, hi⟩ := mem_of_get? hx
    simp only [lat_nat, hx, osome]
    rw [ilt_t (by unfold llen; omega), bcond_true, bcond_true]
    rw [(seq_iff (a := x) (b := x)).2 rfl, bnot_true, bcond_false, iadd_nat (by omega)]
    simp
  · rw [ilt_f (by unfold llen; omega)]; rfl

/-- the lines of a scope's values -/
def lines (head : List UInt8) (l : TLaw) (k : Int) (vs : List TValue) (rules : List Int) : List (List UInt8) := mapIx (fun i v => ln head (scopeAt l k) i (vt v l.1) rules) 0 vs
theorem ref54_lines_ok {l : TLaw} {k : Int} (hN : NamesOk l) {out : List (List UInt8)} {head : List UInt8} {vs : List TValue} {rules : List Int} (hv : ∀ v ∈ vs, I64 v.2.2) (hh : head.length ≤ 100) (hl : out.length + vs.length ≤ 1073741824) :
    ref54_lines out head l (scopeAt l k) vs rules = some (out ++ lines head l k vs rules) := by
  have hr := reach_val
  unfold ref54_lines
  refine obind_rw (loopE_foldG vs (fun acc i v => acc ++ [ln head (scopeAt l k) i (vt v l.1) rules]) (fun b => b) _ (fun i b => b.length = out.length + i) (b := out) (by omega) (by simp) (fun b i v hv2 hI => ?_) (fun b hI => ?_)).1 ?_
  rotate_left 2
  · rw [foldG_snoc]; rfl
  · obtain ⟨hmem, hi⟩ := mem_of_get? hv2
    refine ⟨?_, by simp; omega⟩
    obtain ⟨v1, v2, v3⟩ := vt_ok (hv v hmem) hN.mems
    have d1 := hN.def_len k i
    simp only [lat_nat, hv2, osome, defName_ref, ruleName_ref, v2]
    rw [ilt_t (by unfold llen; omega), bcond_true]
    unfold ln
    by_cases hri : i < rules.length
    · rw [bcond_t (ilt_t (by unfold llen; omega)), List.getElem?_eq_getElem hri, osome]
      have d2 := hN.rule_len k rules[i]
      rw [sadd_ok (by first | omega | (simp <;> omega)), osome, sadd_ok (by first | omega | (simp <;> omega)), osome, sadd_ok (by first | omega | (simp <;> omega)), osome, sadd_ok (by first | omega | (simp <;> omega)), osome, sadd_ok (by first | omega | (simp <;> omega)), osome, iadd_nat (by omega), lapp_ok (by simp only [List.length_cons, List.length_nil]; omega), osome]
    · rw [bcond_f (ilt_f (by unfold llen; omega)), List.getElem?_eq_none (by omega)]
      rw [nameAt_neg, sadd_ok (by first | omega | (simp <;> omega)), osome, sadd_ok (by first | omega | (simp <;> omega)), osome, sadd_ok (by first | omega | (simp <;> omega)), osome, sadd_ok (by first | omega | (simp <;> omega)), osome, sadd_ok (by first | omega | (simp <;> omega)), osome, iadd_nat (by omega), lapp_ok (by simp only [List.length_cons, List.length_nil]; omega), osome]
  · rw [ilt_f (by unfold llen; omega)]; rfl
end Gt
