import Derived.Test.YtjpepdpbplpccaaDoorPl0
import Derived.Test.YtjpepdpbplpccaaDoorGtFns
import Derived.Lib.ItoaLen
/- PLAIN LAWS: numerals. -/
namespace Gt
open Go Go.GP
set_option linter.unusedVariables false
set_option linter.unusedSimpArgs false

theorem itoa_ok {n : Int} (h : I64 n) : Lib_itoa n = some (Lib.itoa n) := by unfold Lib_itoa; rw [if_pos (show -9223372036854775808 ≤ n ∧ n ≤ 9223372036854775807 from h)]
theorem repeat_ok {s : List UInt8} {c : Nat} (h : c ≤ 1000000) (hs : s.length ≤ 1000000) : Lib_repeat s (c : Int) = some (Lib.repeatL s c) := by
  unfold Lib_repeat
  have : s.length * c ≤ 1000000 * 1000000 := Nat.mul_le_mul hs h
  rw [if_pos ⟨by omega, by omega, by rw [Int.toNat_natCast]; omega⟩, Int.toNat_natCast]
theorem rep1 (x : UInt8) (c : Nat) : Lib.repeatL [x] c = List.replicate c x := by
  have := Lib.repeatL_replicate x 1 c
  simpa using this

theorem u8of_dig {d : Int} (h0 : 0 ≤ d) (h : d < 10) : u8of (wrap .u8 (iadd .u64 48 d)) = UInt8.ofNat (48 + d.toNat) := by
  rw [iadd_u64 (by unfold U64; omega)]
  have e : wrap .u8 (48 + d) = ((48 + d.toNat : Nat) : Int) := by
    unfold wrap IntKind.wrap
    simp [IntKind.signed, IntKind.bits]
    omega
  rw [e]
  unfold u8of
  rw [Int.toNat_natCast]

theorem digits_n : ∀ (k u : Nat), u < k → u < 18446744073709551616 → ref01_digits_scc k (u : Int) = some (Lib.decDigits u)
  | 0, u, h, _ => by omega
  | k + 1, u, h, hu => by
    show ref01_digits_step (ref01_digits_scc k) (u : Int) = _
    unfold ref01_digits_step
    by_cases h10 : u < 10
    · rw [bcond_t (ilt_t (by omega)), u8of_dig (by omega) (by omega), Lib.decDigits, dif_pos h10, Int.toNat_natCast]
    · have e1 : (u : Int).tdiv 10 = ((u / 10 : Nat) : Int) := by rw [tdiv_pos (by omega)]; omega
      have e2 : irem (u : Int) 10 = ((u % 10 : Nat) : Int) := by rw [irem_pos (by omega)]; omega
      rw [bcond_f (ilt_f (by omega)), iquo_u64 (by rw [e1]; unfold U64; omega)]
      rw [e1, digits_n k (u / 10) (by omega) (by omega), osome, e2, u8of_dig (by omega) (by omega), sadd_ok, osome, Int.toNat_natCast]
      · congr 1
        conv => rhs; rw [Lib.decDigits, dif_neg h10]
      · have := Lib.nDigits_le20 (u / 10) (by omega)
        rw [Lib.decDigits_length]
        simp; omega
theorem ref01_digits_ok {n : Int} (h : U64 n) : ref01_digits n = some (Lib.decDigits n.toNat) := by
  unfold U64 at h
  have := digits_n fuel n.toNat (by unfold fuel; omega) (by omega)
  rw [Int.toNat_of_nonneg h.1] at this
  exact this

theorem itoa_len {n : Int} (h : I64 n) : (Lib.itoa n).length ≤ 21 := Lib.itoa_length_le n h.1 h.2
theorem decDigits_len {u : Nat} (h : u < 18446744073709551616) : 1 ≤ (Lib.decDigits u).length ∧ (Lib.decDigits u).length ≤ 20 := by
  rw [Lib.decDigits_length]
  exact ⟨Lib.nDigits_pos u, Lib.nDigits_le20 u h⟩

theorem ref01_FormatInt_ok {n : Int} (h : I64 n) : ref01_FormatInt n = some (Lib.itoa n) := by
  unfold I64 at h
  unfold ref01_FormatInt Lib.itoa
  by_cases hn : n < 0
  · rw [bcond_t (ilt_t hn), if_pos hn, iadd_i64 (by unfold I64; omega), isub_i64 (by unfold I64; omega)]
    rw [show wrap .u64 (0 - (n + 1)) = 0 - (n + 1) from wrap_u64 (by unfold U64; omega), iadd_u64 (by unfold U64; omega), ref01_digits_ok (by unfold U64; omega), osome]
    have e : (0 - (n + 1) + 1).toNat = n.natAbs := by omega
    rw [e, sadd_ok, osome]
    · rfl
    · have := (decDigits_len (u := n.natAbs) (by omega)).2
      simp; omega
  · rw [bcond_f (ilt_f (by omega)), if_neg hn, show wrap .u64 n = n from wrap_u64 (by unfold U64; omega), ref01_digits_ok (by unfold U64; omega), osome]
theorem numtext_FormatInt_ok {n : Int} (h : I64 n) : numtext_FormatInt n = some (Lib.itoa n) := by
  unfold numtext_FormatInt
  rw [itoa_ok h]; rfl

/-! ### fixed places -/
/-- the digits of u with at least k+1 of them, a point before the last k -/
def fixedU (u k : Nat) : List UInt8 :=
  let d := List.replicate (k + 1 - (Lib.decDigits u).length) 48 ++ Lib.decDigits u
  d.take (d.length - k) ++ 46 :: d.drop (d.length - k)
def fixed (n : Int) (k : Nat) : List UInt8 := if n < 0 then 45 :: fixedU n.natAbs k else fixedU n.natAbs k

theorem fixedU_len {u k : Nat} (hu : u < 18446744073709551616) (hk : k ≤ 9) : (fixedU u k).length ≤ 31 := by
  have := decDigits_len hu
  unfold fixedU
  simp; omega
theorem fixed_len {n : Int} {k : Nat} (h : I64 n) (hk : k ≤ 9) : (fixed n k).length ≤ 32 := by
  unfold I64 at h
  have := fixedU_len (u := n.natAbs) (k := k) (by omega) hk
  unfold fixed
  split <;> simp <;> omega

/-- the end of both: digits that are long enough, cut -/
theorem cut_ok {d : List UInt8} {k : Nat} (h1 : k < d.length) (h2 : d.length ≤ 100) :
    lsub d 0 (isub .i64 (llen d) (k : Int)) = some (d.take (d.length - k)) ∧ lsub d (isub .i64 (llen d) (k : Int)) (llen d) = some (d.drop (d.length - k)) := by
  have e : isub .i64 (llen d) (k : Int) = ((d.length - k : Nat) : Int) := by
    rw [isub_i64 (by unfold I64 llen; omega)]; unfold llen; omega
  rw [e]
  exact ⟨by rw [lsub_to (by omega) (by omega)]; simp, by rw [lsub_from (by omega) (by omega)]; simp⟩

theorem tail_ok {d p : List UInt8} {k : Nat} (h1 : k < d.length) (h2 : d.length ≤ 100) (hp : p.length ≤ 100) :
    (obind (lsub d 0 (isub .i64 (llen d) (k : Int))) fun x => obind (sadd p x) fun y => obind (sadd y [46]) fun z => obind (lsub d (isub .i64 (llen d) (k : Int)) (llen d)) fun t => obind (sadd z t) fun x => some x)
      = some (p ++ (d.take (d.length - k) ++ 46 :: d.drop (d.length - k))) := by
  obtain ⟨c1, c2⟩ := cut_ok h1 h2
  rw [c1, osome, sadd_ok (by simp; omega), osome, sadd_ok (by simp; omega), osome, c2, osome, sadd_ok (by simp; omega), osome]
  simp

theorem numtext_FormatFixed_ok {n : Int} {k : Nat} (h : I64 n) (hk : 1 ≤ k ∧ k ≤ 9) : numtext_FormatFixed n (k : Int) = some (fixed n k) := by
  have hI := h
  unfold I64 at h
  have ek : imax 0 (imin (k : Int) 9) = (k : Int) := by unfold imax imin; split <;> split <;> omega
  unfold numtext_FormatFixed numtext_clampPlaces
  rw [osome, ek, numtext_FormatInt_ok hI, osome, bcond_f (ieq_f (by omega))]
  have hd := decDigits_len (u := n.natAbs) (by omega)
  have rest : ∀ (d p : List UInt8), 1 ≤ d.length → d.length ≤ 20 → p.length ≤ 1 →
      bcond (ile (llen d) (k : Int))
        (obind (Lib_repeat [48] (isub .i64 (iadd .i64 (k : Int) 1) (llen d))) fun x3 => obind (sadd x3 d) fun x4 => obind (lsub x4 0 (isub .i64 (llen x4) (k : Int))) fun x5 => obind (sadd p x5) fun x6 => obind (sadd x6 [46]) fun x7 =>
          obind (lsub x4 (isub .i64 (llen x4) (k : Int)) (llen x4)) fun x => obind (sadd x7 x) fun x => some x)
        (obind (lsub d 0 (isub .i64 (llen d) (k : Int))) fun x => obind (sadd p x) fun y => obind (sadd y [46]) fun z => obind (lsub d (isub .i64 (llen d) (k : Int)) (llen d)) fun t => obind (sadd z t) fun x => some x)
      = some (p ++ (let e := List.replicate (k + 1 - d.length) 48 ++ d; e.take (e.length - k) ++ 46 :: e.drop (e.length - k))) := by
    intro d p h1 h2 h3
    by_cases hle : d.length ≤ k
    · rw [bcond_t (ile_t (by unfold llen; omega))]
      have e : isub .i64 (iadd .i64 (k : Int) 1) (llen d) = ((k + 1 - d.length : Nat) : Int) := by
        rw [iadd_i64 (by unfold I64; omega), isub_i64 (by unfold I64 llen; omega)]; unfold llen; omega
      rw [e, repeat_ok (by omega) (by simp), rep1, osome, sadd_ok (by simp; omega), osome]
      exact tail_ok (by simp; omega) (by simp; omega) (by omega)
    · rw [bcond_f (ile_f (by unfold llen; omega)), tail_ok (by omega) (by omega) (by omega)]
      have : k + 1 - d.length = 0 := by omega
      rw [this]
      simp
  unfold Lib.itoa fixed fixedU
  by_cases hn : n < 0
  · rw [if_pos hn, if_pos hn, bcond_t (ilt_t hn)]
    have e : lsub (45 :: Lib.decDigits n.natAbs) 1 (llen (45 :: Lib.decDigits n.natAbs)) = some (Lib.decDigits n.natAbs) := by
      rw [lsub_from (by omega) (by simp; omega)]; simp
    rw [e, osome]
    exact rest (Lib.decDigits n.natAbs) [45] hd.1 hd.2 (by simp)
  · rw [if_neg hn, if_neg hn, bcond_f (ilt_f (by omega))]
    have e : n.toNat = n.natAbs := by omega
    rw [e]
    exact rest (Lib.decDigits n.natAbs) [] hd.1 hd.2 (by simp)

theorem byte_ne {d : List UInt8} {u : Nat} : ∀ (h : d = Lib.decDigits u), ∀ c ∈ d, 48 ≤ c.toNat ∧ c.toNat ≤ 57 := by
  intro h c hc
  subst h
  rw [Lib.decDigits_eq] at hc
  obtain ⟨t, _, rfl⟩ := List.mem_map.1 hc
  unfold Lib.dg
  have : u / 10 ^ (Lib.nDigits u - 1 - t) % 10 < 10 := Nat.mod_lt _ (by omega)
  generalize u / 10 ^ (Lib.nDigits u - 1 - t) % 10 = r at this
  simp; omega
theorem decDigits_byte {u : Nat} {c : UInt8} (hc : c ∈ Lib.decDigits u) : 48 ≤ c.toNat ∧ c.toNat ≤ 57 := byte_ne rfl c hc

theorem ref01_sign_dig {d : List UInt8} (h : ∀ c ∈ d, 48 ≤ c.toNat ∧ c.toNat ≤ 57) (h1 : 1 ≤ d.length) : ref01_sign d = some (d, false) := by
  unfold ref01_sign
  rw [bcond_t (ilt_t (by unfold llen; omega))]
  match d, h1 with
  | c :: r, _ =>
    have e : sat (c :: r) 0 = some (c.toNat : Int) := rfl
    have := h c (by simp)
    rw [e, osome, bcond_f (ieq_f (by omega))]
theorem ref01_sign_neg {d : List UInt8} : ref01_sign (45 :: d) = some (d, true) := by
  unfold ref01_sign
  rw [bcond_t (ilt_t (by unfold llen; simp))]
  have e : sat (45 :: d) 0 = some (45 : Int) := rfl
  rw [e, osome, bcond_t (ieq_t rfl), lsub_from (by omega) (by simp; omega), osome]
  simp

/-- zeros ahead till the text is longer than k -/
theorem padLoop {k : Nat} {d : List UInt8} (hk : k ≤ 100) (hd : d.length ≤ 100) :
    loopE (fun (x_3 : List UInt8) => bcond (ile (llen x_3) (k : Int)) (obind (sadd [48] x_3) fun (x : List UInt8) => some (Sum.inl x)) (some (Sum.inr x_3))) d = some (List.replicate (k + 1 - d.length) 48 ++ d) := by
  obtain ⟨e, h1, h2⟩ := loopE_rule (f := fun (x_3 : List UInt8) => bcond (ile (llen x_3) (k : Int)) (obind (sadd [48] x_3) fun (x : List UInt8) => some (Sum.inl x)) (some (Sum.inr x_3))) (s := d)
    (fun s => s.length ≤ 102 ∧ List.replicate (k + 1 - s.length) 48 ++ s = List.replicate (k + 1 - d.length) 48 ++ d) (fun e => e = List.replicate (k + 1 - d.length) 48 ++ d) (fun s => k + 1 - s.length) ⟨by omega, rfl⟩ (by omega) (by
      intro s ⟨hs, he⟩
      by_cases hle : s.length ≤ k
      · refine .inl ⟨48 :: s, ?_, ⟨by simp; omega, ?_⟩, by simp; omega⟩
        · rw [bcond_t (ile_t (by unfold llen; omega)), sadd_ok (by simp; omega)]
          rfl
        · rw [← he]
          have e1 : k + 1 - s.length = (k + 1 - (48 :: s).length) + 1 := by simp; omega
          rw [e1, List.replicate_succ']
          simp
      · refine .inr ⟨s, ?_, ?_⟩
        · rw [bcond_f (ile_f (by unfold llen; omega))]
        · rw [← he, show k + 1 - s.length = 0 by omega]; simp)
  rw [h1, h2]

theorem ref01_FormatFixed_ok {n : Int} {k : Nat} (h : I64 n) (hk : 1 ≤ k ∧ k ≤ 9) : ref01_FormatFixed n (k : Int) = some (fixed n k) := by
  have hI := h
  unfold I64 at h
  have ek : imin (imax (k : Int) 0) 9 = (k : Int) := by unfold imax imin; split <;> split <;> omega
  unfold ref01_FormatFixed ref01_clamp
  have hd := decDigits_len (u := n.natAbs) (by omega)
  rw [osome, ek, bcond_f (ieq_f (by omega)), ref01_FormatInt_ok hI, osome]
  have rest : ∀ (d : List UInt8) (b : Bool), 1 ≤ d.length → d.length ≤ 20 →
      (obind (loopE (fun (x_3 : List UInt8) => bcond (ile (llen x_3) (k : Int)) (obind (sadd [48] x_3) fun (x : List UInt8) => some (Sum.inl x)) (some (Sum.inr x_3))) (d, b).1) fun (y : List UInt8) =>
        obind (lsub y 0 (isub .i64 (llen y) (k : Int))) fun (x_3 : List UInt8) => obind (sadd x_3 [46]) fun (x_4 : List UInt8) => obind (lsub y (isub .i64 (llen y) (k : Int)) (llen y)) fun (x : List UInt8) =>
          obind (sadd x_4 x) fun (x : List UInt8) => bcond (d, b).2 (obind (sadd [45] x) fun (x : List UInt8) => some x) (some x))
      = some ((if b then [45] else []) ++ (let e := List.replicate (k + 1 - d.length) 48 ++ d; e.take (e.length - k) ++ 46 :: e.drop (e.length - k))) := by
    intro d b h1 h2
    rw [padLoop (d := d) (by omega) (by omega), osome]
    generalize he : List.replicate (k + 1 - d.length) 48 ++ d = e
    have hl : k < e.length ∧ e.length ≤ 40 := by subst he; simp; omega
    obtain ⟨c1, c2⟩ := cut_ok hl.1 (by omega)
    rw [c1, osome, sadd_ok (by simp; omega), osome, c2, osome, sadd_ok (by simp; omega), osome]
    cases b
    · simp
    · show obind (sadd [45] _) _ = _
      rw [sadd_ok (by simp; omega), osome]
      simp
  unfold Lib.itoa fixed fixedU
  by_cases hn : n < 0
  · rw [if_pos hn, if_pos hn, ref01_sign_neg, osome]
    exact rest (Lib.decDigits n.natAbs) true hd.1 hd.2
  · rw [if_neg hn, if_neg hn]
    have e : n.toNat = n.natAbs := by omega
    rw [e, ref01_sign_dig (fun c hc => decDigits_byte hc) hd.1, osome]
    exact rest (Lib.decDigits n.natAbs) false hd.1 hd.2
end Gt
