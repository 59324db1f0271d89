import Derived.Test.YtjpepdpbplpccaaDoorPl4
/- PLAIN LAWS: a line of balances, taken apart again. -/
namespace Gt
open Go Go.GP
set_option linter.unusedVariables false
set_option linter.unusedSimpArgs false

def Steps {σ ε : Type} (f : σ → Option (σ ⊕ ε)) : Nat → σ → σ → Prop
  | 0, s, t => s = t
  | n + 1, s, t => ∃ u, f s = some (.inl u) ∧ Steps f n u t
theorem Steps.trans {σ ε : Type} {f : σ → Option (σ ⊕ ε)} : ∀ {n m : Nat} {s t u : σ}, Steps f n s t → Steps f m t u → Steps f (n + m) s u
  | 0, m, s, t, u, h, k => by simp only [Steps] at h; subst h; rw [Nat.zero_add]; exact k
  | n + 1, m, s, t, u, ⟨v, h1, h2⟩, k => by rw [show n + 1 + m = (n + m) + 1 by omega]; exact ⟨v, h1, h2.trans k⟩
theorem Steps.one {σ ε : Type} {f : σ → Option (σ ⊕ ε)} {s t : σ} (h : f s = some (.inl t)) : Steps f 1 s t := ⟨t, h, rfl⟩
theorem loopEN_steps {σ ε : Type} {f : σ → Option (σ ⊕ ε)} {e : ε} : ∀ {n : Nat} {s t : σ} (k : Nat), Steps f n s t → f t = some (.inr e) → n < k → loopEN f k s = some e
  | 0, s, t, k + 1, h, he, _ => by simp only [Steps] at h; subst h; unfold loopEN; rw [he]
  | n + 1, s, t, k + 1, ⟨u, h1, h2⟩, he, hk => by unfold loopEN; rw [h1]; exact loopEN_steps k h2 he (by omega)
  | _, _, _, 0, _, _, h => by omega
theorem loopE_steps {σ ε : Type} {f : σ → Option (σ ⊕ ε)} {e : ε} {n : Nat} {s t : σ} (h : Steps f n s t) (he : f t = some (.inr e)) (hn : n < 18446744073709551616) : loopE f s = some e := loopEN_steps _ h he hn

/-! ### words -/
def fStep (a0 : List UInt8) (x : List (List UInt8) × TType) : Option ((List (List UInt8) × TType) ⊕ List (List UInt8)) :=
      bcond (ile x.2.2 (llen a0))
        (obind
          (bcond (ieq x.2.2 (llen a0))
            (bcond (ile 0 x.2.1)
              (obind (lsub a0 x.2.1 x.2.2) fun (x_1 : List UInt8) =>
                obind (lapp x.1 [x_1]) fun (x_2 : List (List UInt8)) =>
                  bcond (bnot true) (bcond (ilt (-1) 0) (some (x_2, x.2.2)) (some (x_2, -1))) (some (x_2, -1)))
              (bcond (bnot true) (bcond (ilt x.2.1 0) (some (x.1, x.2.2)) (some (x.1, x.2.1))) (some (x.1, x.2.1))))
            (obind (sat a0 x.2.2) fun (x_1 : Int) =>
              bcond (ieq x_1 32)
                (bcond (ile 0 x.2.1)
                  (obind (lsub a0 x.2.1 x.2.2) fun (x_2 : List UInt8) =>
                    obind (lapp x.1 [x_2]) fun (x_3 : List (List UInt8)) =>
                      bcond (bnot true) (bcond (ilt (-1) 0) (some (x_3, x.2.2)) (some (x_3, -1))) (some (x_3, -1)))
                  (bcond (bnot true) (bcond (ilt x.2.1 0) (some (x.1, x.2.2)) (some (x.1, x.2.1))) (some (x.1, x.2.1))))
                (obind (sat a0 x.2.2) fun (x_2 : Int) =>
                  bcond (ieq x_2 9)
                    (bcond (ile 0 x.2.1)
                      (obind (lsub a0 x.2.1 x.2.2) fun (x_3 : List UInt8) =>
                        obind (lapp x.1 [x_3]) fun (x_4 : List (List UInt8)) =>
                          bcond (bnot (ieq x_2 9)) (bcond (ilt (-1) 0) (some (x_4, x.2.2)) (some (x_4, -1)))
                            (some (x_4, -1)))
                      (bcond (bnot (ieq x_2 9)) (bcond (ilt x.2.1 0) (some (x.1, x.2.2)) (some (x.1, x.2.1)))
                        (some (x.1, x.2.1))))
                    (bcond (bnot (ieq x_2 9)) (bcond (ilt x.2.1 0) (some (x.1, x.2.2)) (some (x.1, x.2.1)))
                      (some (x.1, x.2.1))))))
          fun (x_1 : List (List UInt8) × Int) => some (Sum.inl (x_1.1, x_1.2, iadd IntKind.i64 x.2.2 1)))
        (some (Sum.inr x.1))
theorem ref01_Fields_eq (a0 : List UInt8) : ref01_Fields a0 = loopE (fStep a0) ([], -1, 0) := by
  unfold ref01_Fields
  rw [obind_id]; rfl

theorem fStep_in {a : List UInt8} {out : List (List UInt8)} {fr : Int} {i : Nat} {c : UInt8} (hc : a[i]? = some c) (h1 : c ≠ 32) (h2 : c ≠ 9) (hi : a.length ≤ 1000000) :
    fStep a (out, fr, (i : Int)) = some (.inl (out, if fr < 0 then (i : Int) else fr, ((i + 1 : Nat) : Int))) := by
  obtain ⟨_, hlt⟩ := mem_of_get? hc
  have h1' : (c.toNat : Int) ≠ 32 := fun e => h1 (by apply UInt8.toNat_inj.1; simp; omega)
  have h2' : (c.toNat : Int) ≠ 9 := fun e => h2 (by apply UInt8.toNat_inj.1; simp; omega)
  unfold fStep
  simp only [sat_nat, hc, Option.map_some, osome]
  rw [ile_t (by unfold llen; omega), bcond_true, ieq_f (by unfold llen; omega), bcond_false, ieq_f h1', bcond_false, ieq_f h2', bcond_false, bnot_false, bcond_true, iadd_nat (by omega)]
  by_cases hf : fr < 0
  · rw [ilt_t hf, if_pos hf]; rfl
  · rw [ilt_f (by omega), if_neg hf]; rfl
theorem fStep_out {a : List UInt8} {out : List (List UInt8)} {fr i : Nat} (hc : a[i]? = none ∨ a[i]? = some 32) (hfi : fr ≤ i) (hil : i ≤ a.length) (hi : a.length ≤ 1000000) (ho : out.length ≤ 1000000) :
    fStep a (out, (fr : Int), (i : Int)) = some (.inl (out ++ [(a.take i).drop fr], -1, ((i + 1 : Nat) : Int))) := by
  unfold fStep
  simp only
  rw [ile_t (by unfold llen; omega), bcond_true, iadd_nat (by omega), ile_t (show (0 : Int) ≤ (fr : Int) by omega)]
  have e : lsub a (fr : Int) (i : Int) = some ((a.take i).drop fr) := by rw [lsub_ok (by omega) (by omega) (by omega)]; simp
  rw [e]
  simp only [osome]
  rw [lapp_ok (by simp only [List.length_cons, List.length_nil]; omega)]
  rcases hc with hc | hc
  · have : i = a.length := by have := List.getElem?_eq_none_iff.1 hc; omega
    rw [ieq_t (by unfold llen; omega)]; rfl
  · obtain ⟨_, hlt⟩ := mem_of_get? hc
    rw [ieq_f (by unfold llen; omega), bcond_false, sat_nat, hc]; rfl
theorem fStep_end {a : List UInt8} {out : List (List UInt8)} {fr : Int} {i : Nat} (h : a.length < i) : fStep a (out, fr, (i : Int)) = some (.inr out) := by
  unfold fStep
  simp only
  rw [ile_f (by unfold llen; omega)]; rfl

def Word (w : List UInt8) : Prop := w ≠ [] ∧ ∀ c ∈ w, c ≠ 32 ∧ c ≠ 9
def joinW : List (List UInt8) → List UInt8
  | [] => []
  | [w] => w
  | w :: w' :: ws => w ++ 32 :: joinW (w' :: ws)
theorem word_steps {pre w rest : List UInt8} {out : List (List UInt8)} (hw : Word w) (hl : (pre ++ w ++ rest).length ≤ 1000000) (hr : rest = [] ∨ ∃ r, rest = 32 :: r) (ho : out.length ≤ 1000000) :
    Steps (fStep (pre ++ w ++ rest)) (w.length + 1) (out, -1, (pre.length : Int)) (out ++ [w], -1, ((pre.length + w.length + 1 : Nat) : Int)) := by
  have hpos : 1 ≤ w.length := by have := hw.1; cases w <;> simp_all
  have at_w : ∀ j (hj : j < w.length), (pre ++ w ++ rest)[pre.length + j]? = some w[j] := fun j hj => by
    rw [List.append_assoc, List.getElem?_append_right (by omega), List.getElem?_append_left (by omega), List.getElem?_eq_getElem (by omega)]
    congr 1
    simp
  have run : ∀ j, 1 ≤ j → j ≤ w.length → Steps (fStep (pre ++ w ++ rest)) j (out, -1, (pre.length : Int)) (out, (pre.length : Int), ((pre.length + j : Nat) : Int)) := by
    intro j
    induction j with
    | zero => intro h; omega
    | succ j ih =>
      intro _ hj
      have hc := at_w j (by omega)
      have hm := hw.2 w[j] (List.getElem_mem (by omega))
      cases j with
      | zero =>
        refine Steps.one ?_
        rw [show (pre.length : Int) = ((pre.length + 0 : Nat) : Int) by simp, fStep_in hc hm.1 hm.2 hl]
        simp
      | succ j =>
        refine (ih (by omega) (by omega)).trans (Steps.one ?_)
        rw [fStep_in hc hm.1 hm.2 hl, if_neg (by omega)]
        rfl
  refine (run w.length hpos (Nat.le_refl _)).trans (Steps.one ?_)
  rw [fStep_out _ (by omega) (by simp <;> omega) hl ho]
  · congr 4
    rw [List.append_assoc, List.take_append, List.drop_append]
    simp
  · rcases hr with rfl | ⟨r, rfl⟩
    · left; simp
    · right
      rw [List.getElem?_append_right (by simp)]
      simp
theorem fields_steps : ∀ (ws : List (List UInt8)) (w : List UInt8) (pre : List UInt8) (out : List (List UInt8)), (∀ v ∈ w :: ws, Word v) → (pre ++ joinW (w :: ws)).length ≤ 1000000 → out.length + (w :: ws).length ≤ 1000 →
    ∃ n, n ≤ 2000000 ∧ pre.length + n = (pre ++ joinW (w :: ws)).length + 1 ∧ Steps (fStep (pre ++ joinW (w :: ws))) n (out, -1, (pre.length : Int)) (out ++ w :: ws, -1, (((pre ++ joinW (w :: ws)).length + 1 : Nat) : Int))
  | [], w, pre, out, hw, hl, ho => by
    have e : pre ++ joinW [w] = pre ++ w ++ [] := by simp [joinW]
    rw [e] at hl ⊢
    refine ⟨w.length + 1, by simp at hl; omega, by simp; omega, ?_⟩
    have := word_steps (out := out) (hw w (by simp)) hl (.inl rfl) (by simp at ho; omega)
    simpa [Nat.add_assoc] using this
  | w' :: ws, w, pre, out, hw, hl, ho => by
    have e : pre ++ joinW (w :: w' :: ws) = pre ++ w ++ (32 :: joinW (w' :: ws)) := by simp [joinW]
    have e2 : pre ++ joinW (w :: w' :: ws) = (pre ++ w ++ [32]) ++ joinW (w' :: ws) := by simp [joinW]
    have s1 := word_steps (pre := pre) (w := w) (rest := 32 :: joinW (w' :: ws)) (out := out) (hw w (by simp)) (by rw [← e]; exact hl) (.inr ⟨_, rfl⟩) (by simp at ho; omega)
    obtain ⟨n, h1, h2, h3⟩ := fields_steps ws w' (pre ++ w ++ [32]) (out ++ [w]) (fun v hv => hw v (List.mem_cons_of_mem _ hv)) (by rw [← e2]; exact hl) (by simp at ho ⊢; omega)
    rw [← e] at s1
    rw [← e2] at h2 h3
    have hlen : (pre ++ w ++ [32]).length = pre.length + w.length + 1 := by simp; omega
    rw [hlen] at h2 h3
    refine ⟨w.length + 1 + n, ?_, by omega, ?_⟩
    · omega
    · have := s1.trans h3
      simpa using this
theorem fields_ok {w : List UInt8} {ws : List (List UInt8)} (hw : ∀ v ∈ w :: ws, Word v) (hl : (joinW (w :: ws)).length ≤ 1000000) (ho : (w :: ws).length ≤ 1000) : ref01_Fields (joinW (w :: ws)) = some (w :: ws) := by
  rw [ref01_Fields_eq]
  obtain ⟨n, h1, _, h3⟩ := fields_steps ws w [] [] hw (by simpa using hl) (by simpa using ho)
  simp only [List.nil_append] at h3
  exact loopE_steps h3 (fStep_end (by omega)) (by omega)

/-! ### a number read again -/
def val (l : List UInt8) : Nat := l.foldl (fun a c => 10 * a + (c.toNat - 48)) 0
theorem val_snoc (l : List UInt8) (c : UInt8) : val (l ++ [c]) = 10 * val l + (c.toNat - 48) := by simp [val]
theorem val_dec (u : Nat) : val (Lib.decDigits u) = u := by
  induction u using Nat.strongRecOn with
  | _ u ih =>
    rw [Lib.decDigits]
    by_cases h : u < 10
    · rw [dif_pos h]
      show 10 * 0 + ((UInt8.ofNat (48 + u)).toNat - 48) = u
      simp; omega
    · rw [dif_neg h, val_snoc, ih (u / 10) (by omega)]
      simp; omega
theorem dec_head (u : Nat) : ∀ c r, Lib.decDigits u = c :: r → 10 ≤ u → c ≠ 48 := by
  induction u using Nat.strongRecOn with
  | _ u ih =>
    intro c r e h
    rw [Lib.decDigits, dif_neg (by omega)] at e
    by_cases h2 : u / 10 < 10
    · rw [Lib.decDigits, dif_pos h2] at e
      simp only [List.cons_append, List.nil_append, List.cons.injEq] at e
      rw [← e.1]
      intro e3
      have := congrArg UInt8.toNat e3
      simp at this; omega
    · cases hd : Lib.decDigits (u / 10) with
      | nil =>
        have := (Lib.decDigits_length (u / 10)).symm.trans (congrArg List.length hd)
        have := Lib.nDigits_pos (u / 10)
        simp_all
      | cons c' r' =>
        rw [hd] at e
        simp only [List.cons_append, List.cons.injEq] at e
        rw [← e.1]
        exact ih (u / 10) (by omega) c' r' hd (by omega)
theorem nDigits_le : ∀ (k u : Nat), u < 10 ^ k → 1 ≤ k → Lib.nDigits u ≤ k
  | 0, _, _, h => by omega
  | k + 1, u, h, _ => by
    by_cases h10 : u < 10
    · rw [Lib.nDigits_small h10]; omega
    · rw [Lib.nDigits_big h10]
      cases k with
      | zero => simp at h; omega
      | succ k => have := nDigits_le (k + 1) (u / 10) (by rw [Nat.pow_succ] at h; omega) (by omega); omega

def Dig (l : List UInt8) : Prop := ∀ c ∈ l, 48 ≤ c.toNat ∧ c.toNat ≤ 57
theorem allDigits_ok {l : List UInt8} (h : Dig l) (h1 : 1 ≤ l.length) (h2 : l.length ≤ 1000000) : ref01_allDigits l = some true := by
  unfold ref01_allDigits
  refine obind_rw (loopO_all l (fun _ _ => true) false PUnit.unit _ (by omega) (fun i c hc => ?_) ?_) ?_
  rotate_left 2
  · simp only [implies_true, if_true, osome, sumK_inl]
    rw [ilt_t (by unfold llen; omega)]
  · obtain ⟨hm, hi⟩ := mem_of_get? hc
    have hb := h c hm
    simp only [sat_nat, hc, Option.map_some, osome]
    rw [ilt_t (by unfold llen; omega), bcond_true, ilt_f (by omega), bcond_false, ilt_f (by omega), bcond_false, iadd_nat (by omega)]
    simp
  · rw [ilt_f (by unfold llen; omega)]; rfl

theorem number_ok {u : Nat} (hu : u ≤ 1152921504606846976) (b : Bool) : ref01_number (Lib.decDigits u) b = some (if b then -(u : Int) else u, 0) := by
  have hlen : (Lib.decDigits u).length ≤ 19 := by
    rw [Lib.decDigits_length]
    exact nDigits_le 19 u (by have e : (10 : Nat) ^ 19 = 10000000000000000000 := by decide +kernel
                              omega) (by omega)
  have hd : Dig (Lib.decDigits u) := fun c hc => decDigits_byte hc
  unfold ref01_number
  rw [bcond_f (ilt_f (by unfold llen; omega))]
  generalize hD : Lib.decDigits u = D at hlen hd
  refine obind_rw (loopE_foldG D (fun (a : Int) i (c : UInt8) => 10 * a + ((c.toNat : Int) - 48)) (fun b => b) _ (fun i a => 0 ≤ a ∧ a < (10 : Int) ^ i) (b := 0) (by omega) (by simp) (fun a i c hc hI => ?_) (fun a hI => ?_)).1 ?_
  rotate_left 2
  · have hf : foldG (fun (a : Int) i (c : UInt8) => 10 * a + ((c.toNat : Int) - 48)) D 0 0 = (u : Int) := by
      have key : ∀ (l : List UInt8) (i : Nat) (a : Nat), Dig l → foldG (fun (a : Int) i (c : UInt8) => 10 * a + ((c.toNat : Int) - 48)) l i (a : Int) = ((l.foldl (fun a c => 10 * a + (c.toNat - 48)) a : Nat) : Int) := by
        intro l
        induction l with
        | nil => intro i a _; rfl
        | cons c r ih =>
          intro i a hl
          simp only [foldG, List.foldl_cons]
          have := hl c (by simp)
          rw [← ih (i + 1) _ fun x hx => hl x (by simp [hx])]
          congr 1
          omega
      have := key D 0 0 hd
      rw [show ((0 : Nat) : Int) = 0 from rfl] at this
      rw [this, ← hD]
      exact congrArg Int.ofNat (val_dec u)
    rw [osome, hf, bcond_f (ilt_f (by omega)), show wrap .i64 (u : Int) = u from wrap_i64 (by unfold I64; omega)]
    cases b
    · rfl
    · rw [bcond_true, isub_i64 (by unfold I64; omega)]
      simp
  · obtain ⟨hm, hi⟩ := mem_of_get? hc
    have hb := hd c hm
    have hp : (10 : Int) ^ (i + 1) = 10 * 10 ^ i := by rw [Int.pow_succ]; omega
    have hle : (10 : Int) ^ i ≤ 10 ^ 18 := by
      have : (10 : Nat) ^ i ≤ 10 ^ 18 := Nat.pow_le_pow_right (by omega) (by omega)
      exact_mod_cast this
    have h18 : (10 : Int) ^ 18 = 1000000000000000000 := by decide +kernel
    refine ⟨?_, ?_⟩
    · simp only [sat_nat, hc, Option.map_some, osome]
      have e8 : isub .u8 (c.toNat : Int) 48 = (c.toNat : Int) - 48 := by
        unfold isub IntKind.wrap
        simp [IntKind.signed, IntKind.bits]; omega
      rw [ilt_t (by unfold llen; omega), bcond_true, e8, show wrap .u64 ((c.toNat : Int) - 48) = _ from wrap_u64 (by unfold U64; omega), imul_u64 (by unfold U64; omega), iadd_u64 (by unfold U64; omega), iadd_nat (by omega)]
    · rw [hp]; omega
  · rw [ilt_f (by unfold llen; omega)]; rfl

theorem strip_ok {u : Nat} (hu : u < 18446744073709551616) (z : Nat) (hz : z ≤ 100) :
    loopE (fun (x : List UInt8) => bcond (ilt 1 (llen x)) (obind (sat x 0) fun (x_4 : Int) => bcond (ieq x_4 48) (obind (lsub x 1 (llen x)) fun (x : List UInt8) => some (Sum.inl x)) (some (Sum.inr x))) (some (Sum.inr x)))
      (List.replicate z 48 ++ Lib.decDigits u) = some (Lib.decDigits u) := by
  have hl := decDigits_len hu
  obtain ⟨e, h1, h2⟩ := loopE_rule (f := (fun (x : List UInt8) => bcond (ilt 1 (llen x)) (obind (sat x 0) fun (x_4 : Int) => bcond (ieq x_4 48) (obind (lsub x 1 (llen x)) fun (x : List UInt8) => some (Sum.inl x)) (some (Sum.inr x))) (some (Sum.inr x))))
    (s := List.replicate z 48 ++ Lib.decDigits u) (fun s => ∃ j, j ≤ 100 ∧ s = List.replicate j 48 ++ Lib.decDigits u) (fun e => e = Lib.decDigits u) (fun s => s.length) ⟨z, hz, rfl⟩ (by simp; omega) (by
      rintro s ⟨j, hj, rfl⟩
      cases j with
      | zero =>
        right
        simp only [List.replicate_zero, List.nil_append]
        refine ⟨_, ?_, rfl⟩
        by_cases h1 : 1 < (Lib.decDigits u).length
        · rw [bcond_t (ilt_t (by unfold llen; omega))]
          cases hd : Lib.decDigits u with
          | nil => rw [hd] at h1; simp at h1
          | cons c r =>
            have e : sat (c :: r) 0 = some (c.toNat : Int) := rfl
            rw [e, osome, bcond_f (ieq_f ?_)]
            have hne := dec_head u c r hd (by
              rcases Nat.lt_or_ge u 10 with hlt | hge
              · rw [Lib.decDigits, dif_pos hlt] at h1; simp at h1
              · exact hge)
            intro e2
            exact hne (by apply UInt8.toNat_inj.1; simp; omega)
        · rw [bcond_f (ilt_f (by unfold llen; omega))]
      | succ j =>
        left
        refine ⟨List.replicate j 48 ++ Lib.decDigits u, ?_, ⟨j, by omega, rfl⟩, by simp⟩
        simp only [List.replicate_succ, List.cons_append]
        have e : sat (48 :: (List.replicate j 48 ++ Lib.decDigits u)) 0 = some 48 := rfl
        rw [bcond_t (ilt_t (by unfold llen; simp; omega)), e, osome, bcond_t (ieq_t rfl), lsub_from (by omega) (by simp <;> omega), osome]
        simp)
  rw [h1, h2]

theorem parseFixed_ok {n : Int} (h : -1152921504606846976 ≤ n ∧ n ≤ 1152921504606846976) : ref01_ParseFixed (fixed n 2) 2 = some (n, 0) := by
  have hu : n.natAbs ≤ 1152921504606846976 := by omega
  have hl := decDigits_len (u := n.natAbs) (by omega)
  have hd : Dig (Lib.decDigits n.natAbs) := fun c hc => decDigits_byte hc
  unfold ref01_ParseFixed ref01_clamp
  rw [osome, show imin (imax 2 0) 9 = 2 from rfl, bcond_f (ieq_f (by omega))]
  -- what stands behind the sign
  generalize hz : 2 + 1 - (Lib.decDigits n.natAbs).length = z
  have hzl : z ≤ 2 := by omega
  have hT : fixedU n.natAbs 2 = (List.replicate z 48 ++ Lib.decDigits n.natAbs).take ((List.replicate z 48 ++ Lib.decDigits n.natAbs).length - 2) ++ 46 :: (List.replicate z 48 ++ Lib.decDigits n.natAbs).drop ((List.replicate z 48 ++ Lib.decDigits n.natAbs).length - 2) := by
    unfold fixedU; rw [hz]
  have hS : ref01_sign (fixed n 2) = some (fixedU n.natAbs 2, decide (n < 0)) := by
    unfold fixed
    by_cases hn : n < 0
    · rw [if_pos hn, ref01_sign_neg, decide_eq_true hn]
    · rw [if_neg hn, decide_eq_false hn]
      rw [hT]
      unfold ref01_sign
      have hne : (List.replicate z 48 ++ Lib.decDigits n.natAbs).take ((List.replicate z 48 ++ Lib.decDigits n.natAbs).length - 2) ≠ [] := by
        intro e
        have := congrArg List.length e
        simp at this; omega
      cases he : (List.replicate z 48 ++ Lib.decDigits n.natAbs).take ((List.replicate z 48 ++ Lib.decDigits n.natAbs).length - 2) with
      | nil => exact absurd he hne
      | cons c r =>
        have hc : c ∈ List.replicate z 48 ++ Lib.decDigits n.natAbs := List.mem_of_mem_take (by rw [he]; simp)
        have hb : 48 ≤ c.toNat ∧ c.toNat ≤ 57 := by
          rcases List.mem_append.1 hc with hc | hc
          · have := List.eq_of_mem_replicate hc; subst this; decide
          · exact hd c hc
        rw [bcond_t (ilt_t (by unfold llen; simp; omega))]
        have e : sat (c :: r ++ 46 :: (List.replicate z 48 ++ Lib.decDigits n.natAbs).drop ((List.replicate z 48 ++ Lib.decDigits n.natAbs).length - 2)) 0 = some (c.toNat : Int) := rfl
        rw [e, osome, bcond_f (ieq_f (by omega))]
  rw [hS, osome, hT]
  have hE : Dig (List.replicate z 48 ++ Lib.decDigits n.natAbs) := fun c hc => by
    rcases List.mem_append.1 hc with hc | hc
    · have := List.eq_of_mem_replicate hc; subst this; decide
    · exact hd c hc
  have hEl : 3 ≤ (List.replicate z 48 ++ Lib.decDigits n.natAbs).length ∧ (List.replicate z 48 ++ Lib.decDigits n.natAbs).length ≤ 22 := by simp; omega
  have hst := strip_ok (u := n.natAbs) (by omega) z (by omega)
  have hlead : 3 < (List.replicate z 48 ++ Lib.decDigits n.natAbs).length → ∀ c, (List.replicate z 48 ++ Lib.decDigits n.natAbs)[0]? = some c → c ≠ 48 := by
    intro h3 c hc
    have hz0 : z = 0 := by simp at h3; omega
    subst hz0
    simp only [List.replicate_zero, List.nil_append] at h3 hc
    cases hdd : Lib.decDigits n.natAbs with
    | nil => rw [hdd] at hc; cases hc
    | cons c' r' =>
      rw [hdd] at hc
      cases hc
      refine dec_head n.natAbs _ _ hdd ?_
      rcases Nat.lt_or_ge n.natAbs 10 with hlt | hge
      · rw [Lib.decDigits, dif_pos hlt] at h3; simp at h3
      · exact hge
  generalize hEq : List.replicate z 48 ++ Lib.decDigits n.natAbs = E at hE hEl hst hlead
  generalize hTt : E.take (E.length - 2) ++ 46 :: E.drop (E.length - 2) = T
  have hTl : T.length = E.length + 1 := by subst hTt; simp; omega
  have eat : isub .i64 (isub .i64 (llen T) 2) 1 = ((E.length - 2 : Nat) : Int) := by
    unfold llen
    have e1 : isub .i64 (T.length : Int) 2 = T.length - 2 := isub_i64 (by unfold I64; omega)
    rw [e1, isub_i64 (by unfold I64; omega)]; omega
  have eat1 : iadd .i64 ((E.length - 2 : Nat) : Int) 1 = ((E.length - 1 : Nat) : Int) := by rw [iadd_i64 (by unfold I64; omega)]; omega
  have t46 : T[E.length - 2]? = some 46 := by
    subst hTt
    rw [List.getElem?_append_right (by simp)]
    simp
  have tlo : lsub T 0 ((E.length - 2 : Nat) : Int) = some (E.take (E.length - 2)) := by
    rw [lsub_to (by omega) (by omega)]
    subst hTt
    rw [Int.toNat_natCast, List.take_append_of_le_length (by simp), List.take_take]
    simp
  have thi : lsub T ((E.length - 1 : Nat) : Int) (llen T) = some (E.drop (E.length - 2)) := by
    rw [lsub_from (by omega) (by omega)]
    subst hTt
    rw [Int.toNat_natCast, show E.length - 1 = (E.take (E.length - 2)).length + 1 by simp; omega, List.drop_append]
    simp
  simp only [eat, eat1, sat_nat, t46, Option.map_some, osome, tlo, thi]
  rw [bcond_f (ilt_f (by omega)), show ((46 : UInt8).toNat : Int) = 46 from rfl, ieq_t rfl, bnot_true, bcond_false,
    allDigits_ok (fun c hc => hE c (List.mem_of_mem_take hc)) (by simp; omega) (by simp; omega), osome, bnot_true, bcond_false,
    allDigits_ok (fun c hc => hE c (List.mem_of_mem_drop hc)) (by simp; omega) (by simp; omega), osome, bnot_true, bcond_false]
  have hjoin : sadd (E.take (E.length - 2)) (E.drop (E.length - 2)) = some E := by rw [sadd_ok (by first | omega | (simp <;> omega)), List.take_append_drop]
  have fin : (obind (sadd (E.take (E.length - 2)) (E.drop (E.length - 2))) fun (x : List UInt8) =>
      obind (loopE (fun (x : List UInt8) => bcond (ilt 1 (llen x)) (obind (sat x 0) fun (x_4 : Int) => bcond (ieq x_4 48) (obind (lsub x 1 (llen x)) fun (x : List UInt8) => some (Sum.inl x)) (some (Sum.inr x))) (some (Sum.inr x))) x) fun (y : List UInt8) =>
        bcond (decide (n < 0)) (bcond (seq y [48]) (some (0, 2)) (obind (ref01_number y (decide (n < 0))) fun (x : TType) => some x)) (obind (ref01_number y (decide (n < 0))) fun (x : TType) => some x)) = some (n, 0) := by
    rw [hjoin, osome, hst, osome, number_ok hu, osome]
    by_cases hn : n < 0
    · rw [decide_eq_true hn, bcond_true, (seq_nf).2, bcond_false, if_pos rfl]
      · congr 2; omega
      · intro e
        have e2 := congrArg val e
        rw [val_dec] at e2
        have e3 : val [48] = 0 := by decide +kernel
        omega
    · rw [decide_eq_false hn, bcond_false, if_neg (by simp)]
      congr 2; omega
  by_cases h1 : 1 < ((E.length - 2 : Nat) : Int)
  · obtain ⟨c, hc⟩ : ∃ c, T[0]? = some c := ⟨T[0]'(by omega), List.getElem?_eq_getElem (by omega)⟩
    have hc0 : E[0]? = some c := by
      rw [← hTt, List.getElem?_append_left (by simp; omega), List.getElem?_take_of_lt (by omega)] at hc
      exact hc
    have hcne := hlead (by omega) c hc0
    have e0 : sat T 0 = some (c.toNat : Int) := by
      have := sat_nat T 0
      rw [hc] at this; exact this
    rw [bcond_t (ilt_t h1), e0, osome, bcond_f (ieq_f (fun e => hcne (by apply UInt8.toNat_inj.1; simp; omega))), osome, sumK_inl]
    exact fin
  · rw [bcond_f (ilt_f (by omega)), osome, sumK_inl]
    exact fin
end Gt
