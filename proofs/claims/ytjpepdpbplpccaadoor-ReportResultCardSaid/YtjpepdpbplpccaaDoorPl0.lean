import Derived.Test.YtjpepdpbplpccaaDoorGp24
/- PLAIN LAWS, THE GROUND: the words of the printed functions, and rules for their loops. -/
namespace Go.GP
set_option linter.unusedVariables false
set_option linter.unusedSimpArgs false

section
variable {α β σ ε ρ : Type}
@[simp] theorem osome (x : α) (f : α → Option β) : obind (some x) f = f x := rfl
@[simp] theorem obind_none (f : α → Option β) : obind none f = none := rfl
theorem obind_eq {o : Option α} {x : α} (h : o = some x) (f : α → Option β) : obind o f = f x := by rw [h]; rfl
theorem obind_rw {o o' : Option α} (h : o = o') {K : α → Option β} {r : Option β} (h2 : obind o' K = r) : obind o K = r := by rw [h]; exact h2
theorem bb (a b : Bool) : bcond a (some b) (some false) = some (a && b) := by cases a <;> rfl
theorem obind_id (o : Option α) : obind o (fun x => some x) = o := by cases o <;> rfl
@[simp] theorem bcond_true (x y : α) : bcond true x y = x := rfl
@[simp] theorem bcond_false (x y : α) : bcond false x y = y := rfl
theorem bcond_if (b : Bool) (x y : α) : bcond b x y = if b = true then x else y := by cases b <;> rfl
theorem bcond_t {b : Bool} (h : b = true) (x y : α) : bcond b x y = x := by rw [h]; rfl
theorem bcond_f {b : Bool} (h : b = false) (x y : α) : bcond b x y = y := by rw [h]; rfl
@[simp] theorem sumK_inl (s : σ) (f : σ → α) (g : ε → α) : sumK (.inl s) f g = f s := rfl
@[simp] theorem sumK_inr (s : ε) (f : σ → α) (g : ε → α) : sumK (.inr s) f g = g s := rfl
@[simp] theorem bnot_true : bnot true = false := rfl
@[simp] theorem bnot_false : bnot false = true := rfl

theorem ilt_t {a b : Int} (h : a < b) : ilt a b = true := by simp [ilt, h]
theorem ilt_f {a b : Int} (h : b ≤ a) : ilt a b = false := by simp [ilt]; omega
theorem ile_t {a b : Int} (h : a ≤ b) : ile a b = true := by simp [ile, h]
theorem ile_f {a b : Int} (h : b < a) : ile a b = false := by simp [ile]; omega
theorem ieq_t {a b : Int} (h : a = b) : ieq a b = true := by simp [ieq, h]
theorem ieq_f {a b : Int} (h : a ≠ b) : ieq a b = false := by simp [ieq, h]
theorem ilt_iff {a b : Int} : ilt a b = true ↔ a < b := by simp [ilt]
theorem ile_iff {a b : Int} : ile a b = true ↔ a ≤ b := by simp [ile]
theorem ieq_iff {a b : Int} : ieq a b = true ↔ a = b := by simp [ieq]
theorem ilt_nf {a b : Int} : ilt a b = false ↔ b ≤ a := by simp [ilt]
theorem ile_nf {a b : Int} : ile a b = false ↔ b < a := by simp [ile]
theorem ieq_nf {a b : Int} : ieq a b = false ↔ a ≠ b := by simp [ieq]
theorem seq_iff {a b : List UInt8} : seq a b = true ↔ a = b := by simp [seq]
theorem seq_nf {a b : List UInt8} : seq a b = false ↔ a ≠ b := by simp [seq]

theorem tdiv_pos {a b : Int} (h : 0 ≤ a) : a.tdiv b = a / b := Int.tdiv_eq_ediv_of_nonneg h
theorem irem_pos {a b : Int} (h : 0 ≤ a) : irem a b = a % b := Int.tmod_eq_emod_of_nonneg h
/-- an int64 -/
def I64 (n : Int) : Prop := -9223372036854775808 ≤ n ∧ n ≤ 9223372036854775807
def U64 (n : Int) : Prop := 0 ≤ n ∧ n ≤ 18446744073709551615
theorem wrap_i64 {n : Int} (h : I64 n) : IntKind.wrap .i64 n = n := by
  unfold I64 at h
  unfold IntKind.wrap
  simp [IntKind.signed, IntKind.bits]
  omega
theorem wrap_u64 {n : Int} (h : U64 n) : IntKind.wrap .u64 n = n := by
  unfold U64 at h
  unfold IntKind.wrap
  simp [IntKind.signed, IntKind.bits]
  omega
theorem iadd_i64 {a b : Int} (h : I64 (a + b)) : iadd .i64 a b = a + b := wrap_i64 h
theorem isub_i64 {a b : Int} (h : I64 (a - b)) : isub .i64 a b = a - b := wrap_i64 h
theorem imul_i64 {a b : Int} (h : I64 (a * b)) : imul .i64 a b = a * b := wrap_i64 h
theorem iquo_i64 {a b : Int} (h : I64 (a.tdiv b)) : iquo .i64 a b = a.tdiv b := wrap_i64 h
theorem iadd_u64 {a b : Int} (h : U64 (a + b)) : iadd .u64 a b = a + b := wrap_u64 h
theorem imul_u64 {a b : Int} (h : U64 (a * b)) : imul .u64 a b = a * b := wrap_u64 h
theorem iquo_u64 {a b : Int} (h : U64 (a.tdiv b)) : iquo .u64 a b = a.tdiv b := wrap_u64 h
theorem wf_i64 {n : Int} (h : (Lit.int .i64 n).wf = true) : I64 n := by
  simp [Lit.wf, IntKind.min, IntKind.max, IntKind.signed, IntKind.bits] at h
  unfold I64; omega

theorem llen_nonneg (l : List α) : 0 ≤ llen l := by simp [llen]
theorem lat_nat (l : List α) (i : Nat) : lat l (i : Int) = l[i]? := by simp [lat]
theorem lat_some' {l : List α} {i : Int} {x : α} (h : lat l i = some x) : 0 ≤ i ∧ i < llen l ∧ x ∈ l ∧ l[i.toNat]? = some x := by
  unfold lat at h
  split at h
  · rename_i h0
    obtain ⟨h1, h2⟩ := List.getElem?_eq_some_iff.1 h
    refine ⟨h0, by simp [llen]; omega, ?_, h⟩
    rw [← h2]; exact List.getElem_mem h1
  · cases h
theorem lat_ex {l : List α} {i : Int} (h0 : 0 ≤ i) (h : i < llen l) : ∃ x, lat l i = some x ∧ x ∈ l := by
  unfold llen at h
  refine ⟨l[i.toNat]'(by omega), ?_, List.getElem_mem _⟩
  unfold lat
  rw [if_pos h0, List.getElem?_eq_getElem]
theorem sat_nat (l : List UInt8) (i : Nat) : sat l (i : Int) = (l[i]?).map fun c => (c.toNat : Int) := by simp [sat]

theorem sadd_ok {a b : List UInt8} (h : a.length + b.length ≤ 4611686018427387904) : sadd a b = some (a ++ b) := by simp [sadd, h]
theorem lapp_ok {a b : List α} (h : a.length + b.length ≤ 1073741824) : lapp a b = some (a ++ b) := by simp [lapp, h]
theorem lsub_ok {l : List α} {lo hi : Int} (h0 : 0 ≤ lo) (h1 : lo ≤ hi) (h2 : hi ≤ l.length) : lsub l lo hi = some ((l.take hi.toNat).drop lo.toNat) := by simp [lsub, h0, h1, h2]
theorem lsub_to {l : List α} {hi : Int} (h1 : 0 ≤ hi) (h2 : hi ≤ l.length) : lsub l 0 hi = some (l.take hi.toNat) := by rw [lsub_ok (by omega) h1 h2]; simp
theorem lsub_from {l : List α} {lo : Int} (h1 : 0 ≤ lo) (h2 : lo ≤ l.length) : lsub l lo (llen l) = some (l.drop lo.toNat) := by
  rw [lsub_ok h1 (by simp [llen]; omega) (by simp [llen])]
  simp [llen]
end

/-! ### loops -/
section
variable {σ ε ρ : Type}
theorem loopEN_rule {f : σ → Option (σ ⊕ ε)} (Inv : σ → Prop) (Q : ε → Prop) (meas : σ → Nat)
    (h : ∀ s, Inv s → (∃ s', f s = some (.inl s') ∧ Inv s' ∧ meas s' < meas s) ∨ (∃ e, f s = some (.inr e) ∧ Q e)) :
    ∀ n s, Inv s → meas s < n → ∃ e, loopEN f n s = some e ∧ Q e
  | 0, _, _, h => by omega
  | n + 1, s, hi, hm => by
    unfold loopEN
    rcases h s hi with ⟨s', e, hi', hm'⟩ | ⟨x, e, hx⟩
    · rw [e]; exact loopEN_rule Inv Q meas h n s' hi' (by omega)
    · rw [e]; exact ⟨x, rfl, hx⟩
theorem loopE_rule {f : σ → Option (σ ⊕ ε)} {s : σ} (Inv : σ → Prop) (Q : ε → Prop) (meas : σ → Nat) (hi : Inv s) (hm : meas s < 18446744073709551616)
    (h : ∀ s, Inv s → (∃ s', f s = some (.inl s') ∧ Inv s' ∧ meas s' < meas s) ∨ (∃ e, f s = some (.inr e) ∧ Q e)) : ∃ e, loopE f s = some e ∧ Q e :=
  loopEN_rule Inv Q meas h _ s hi hm
theorem loopN_rule {f : σ → Option (Out σ ε ρ)} (Inv : σ → Prop) (Q : ε → Prop) (Qr : ρ → Prop) (meas : σ → Nat)
    (h : ∀ s, Inv s → (∃ s', f s = some (.nx s') ∧ Inv s' ∧ meas s' < meas s) ∨ (∃ e, f s = some (.ex e) ∧ Q e) ∨ (∃ r, f s = some (.rt r) ∧ Qr r)) :
    ∀ n s, Inv s → meas s < n → (∃ e, loopN f n s = some (.inl e) ∧ Q e) ∨ (∃ r, loopN f n s = some (.inr r) ∧ Qr r)
  | 0, _, _, h => by omega
  | n + 1, s, hi, hm => by
    unfold loopN
    rcases h s hi with ⟨s', e, hi', hm'⟩ | ⟨x, e, hx⟩ | ⟨x, e, hx⟩
    · rw [e]; exact loopN_rule Inv Q Qr meas h n s' hi' (by omega)
    · rw [e]; exact .inl ⟨x, rfl, hx⟩
    · rw [e]; exact .inr ⟨x, rfl, hx⟩
theorem loopO_rule {f : σ → Option (Out σ ε ρ)} {s : σ} (Inv : σ → Prop) (Q : ε → Prop) (Qr : ρ → Prop) (meas : σ → Nat) (hi : Inv s) (hm : meas s < 18446744073709551616)
    (h : ∀ s, Inv s → (∃ s', f s = some (.nx s') ∧ Inv s' ∧ meas s' < meas s) ∨ (∃ e, f s = some (.ex e) ∧ Q e) ∨ (∃ r, f s = some (.rt r) ∧ Qr r)) :
    (∃ e, loopO f s = some (.inl e) ∧ Q e) ∨ (∃ r, loopO f s = some (.inr r) ∧ Qr r) :=
  loopN_rule Inv Q Qr meas h _ s hi hm

/-- two loops whose rounds agree -/
theorem loopEN_congr {f g : σ → Option (σ ⊕ ε)} (Inv : σ → Prop) (h : ∀ s, Inv s → f s = g s ∧ ∀ s', g s = some (.inl s') → Inv s') : ∀ n s, Inv s → loopEN f n s = loopEN g n s
  | 0, _, _ => rfl
  | n + 1, s, hi => by
    unfold loopEN
    obtain ⟨e, h'⟩ := h s hi
    rw [e]
    cases hg : g s with
    | none => rfl
    | some o => cases o with
      | inl s' => exact loopEN_congr Inv h n s' (h' s' hg)
      | inr e => rfl
theorem loopE_congr {f g : σ → Option (σ ⊕ ε)} {s : σ} (Inv : σ → Prop) (hi : Inv s) (h : ∀ s, Inv s → f s = g s ∧ ∀ s', g s = some (.inl s') → Inv s') : loopE f s = loopE g s := loopEN_congr Inv h _ s hi
theorem loopE_congr' {f g : σ → Option (σ ⊕ ε)} {s : σ} (h : ∀ s, f s = g s) : loopE f s = loopE g s := loopE_congr (fun _ => True) trivial fun s _ => ⟨h s, fun _ _ => trivial⟩
theorem loopN_congr {f g : σ → Option (Out σ ε ρ)} (Inv : σ → Prop) (h : ∀ s, Inv s → f s = g s ∧ ∀ s', g s = some (.nx s') → Inv s') : ∀ n s, Inv s → loopN f n s = loopN g n s
  | 0, _, _ => rfl
  | n + 1, s, hi => by
    unfold loopN
    obtain ⟨e, h'⟩ := h s hi
    rw [e]
    cases hg : g s with
    | none => rfl
    | some o => cases o with
      | nx s' => exact loopN_congr Inv h n s' (h' s' hg)
      | ex e => rfl
      | rt r => rfl
theorem loopO_congr {f g : σ → Option (Out σ ε ρ)} {s : σ} (Inv : σ → Prop) (hi : Inv s) (h : ∀ s, Inv s → f s = g s ∧ ∀ s', g s = some (.nx s') → Inv s') : loopO f s = loopO g s := loopN_congr Inv h _ s hi
end

/-! ### a loop over a list, its index counted up: with a place that is carried -/
section
variable {α β ε ρ : Type}
def foldIx (g : β → Nat → α → Option β) : List α → Nat → β → Option β
  | [], _, b => some b
  | a :: l, i, b => (g b i a).bind (foldIx g l (i + 1))
theorem loopEN_for (l : List α) (g : β → Nat → α → Option β) (fin : β → ε) (f : β × Int → Option ((β × Int) ⊕ ε))
    (hin : ∀ (b : β) (i : Nat) (a : α), l[i]? = some a → f (b, (i : Int)) = (g b i a).map fun b' => .inl (b', ((i + 1 : Nat) : Int)))
    (hend : ∀ (b : β), f (b, (l.length : Int)) = some (.inr (fin b))) :
    ∀ (n i : Nat) (b : β), i ≤ l.length → l.length - i < n → loopEN f n (b, (i : Int)) = (foldIx g (l.drop i) i b).map fin
  | 0, _, _, _, h => by omega
  | n + 1, i, b, hi, hn => by
    unfold loopEN
    by_cases h : i < l.length
    · have e := List.getElem?_eq_getElem h
      rw [hin b i _ e, List.drop_eq_getElem_cons h]
      simp only [foldIx]
      cases g b i l[i] with
      | none => rfl
      | some b' => exact loopEN_for l g fin f hin hend n (i + 1) b' (by omega) (by omega)
    · have : i = l.length := by omega
      subst this
      rw [hend b, List.drop_length]
      rfl
theorem loopE_for (l : List α) (g : β → Nat → α → Option β) (fin : β → ε) (f : β × Int → Option ((β × Int) ⊕ ε)) {b : β} (hl : l.length < 18446744073709551616)
    (hin : ∀ (b : β) (i : Nat) (a : α), l[i]? = some a → f (b, (i : Int)) = (g b i a).map fun b' => .inl (b', ((i + 1 : Nat) : Int)))
    (hend : ∀ (b : β), f (b, (l.length : Int)) = some (.inr (fin b))) : loopE f (b, 0) = (foldIx g l 0 b).map fin :=
  loopEN_for l g fin f hin hend _ 0 b (Nat.zero_le _) hl

/-- the same, with what holds all along -/
def foldG (G : β → Nat → α → β) : List α → Nat → β → β
  | [], _, b => b
  | a :: l, i, b => foldG G l (i + 1) (G b i a)
theorem loopEN_foldG (l : List α) (G : β → Nat → α → β) (fin : β → ε) (f : β × Int → Option ((β × Int) ⊕ ε)) (Inv : Nat → β → Prop)
    (hin : ∀ (b : β) (i : Nat) (a : α), l[i]? = some a → Inv i b → f (b, (i : Int)) = some (.inl (G b i a, ((i + 1 : Nat) : Int))) ∧ Inv (i + 1) (G b i a))
    (hend : ∀ (b : β), Inv l.length b → f (b, (l.length : Int)) = some (.inr (fin b))) :
    ∀ (n i : Nat) (b : β), i ≤ l.length → l.length - i < n → Inv i b → loopEN f n (b, (i : Int)) = some (fin (foldG G (l.drop i) i b)) ∧ Inv l.length (foldG G (l.drop i) i b)
  | 0, _, _, _, h, _ => by omega
  | n + 1, i, b, hi, hn, hI => by
    unfold loopEN
    by_cases h : i < l.length
    · have e := List.getElem?_eq_getElem h
      obtain ⟨e1, e2⟩ := hin b i _ e hI
      rw [e1, List.drop_eq_getElem_cons h]
      exact loopEN_foldG l G fin f Inv hin hend n (i + 1) _ (by omega) (by omega) e2
    · have : i = l.length := by omega
      subst this
      rw [hend b hI, List.drop_length]
      exact ⟨rfl, hI⟩
theorem loopE_foldG (l : List α) (G : β → Nat → α → β) (fin : β → ε) (f : β × Int → Option ((β × Int) ⊕ ε)) (Inv : Nat → β → Prop) {b : β} (hl : l.length < 18446744073709551616) (h0 : Inv 0 b)
    (hin : ∀ (b : β) (i : Nat) (a : α), l[i]? = some a → Inv i b → f (b, (i : Int)) = some (.inl (G b i a, ((i + 1 : Nat) : Int))) ∧ Inv (i + 1) (G b i a))
    (hend : ∀ (b : β), Inv l.length b → f (b, (l.length : Int)) = some (.inr (fin b))) : loopE f (b, 0) = some (fin (foldG G l 0 b)) ∧ Inv l.length (foldG G l 0 b) :=
  loopEN_foldG l G fin f Inv hin hend _ 0 b (Nat.zero_le _) hl h0
theorem foldG_inv {G : β → Nat → α → β} (Inv : Nat → β → Prop) : ∀ (l : List α) (i : Nat) (b : β), Inv i b → (∀ i b a, a ∈ l → Inv i b → Inv (i + 1) (G b i a)) → Inv (i + l.length) (foldG G l i b)
  | [], i, b, h, _ => h
  | a :: l, i, b, h, hs => by
    rw [List.length_cons, show i + (l.length + 1) = i + 1 + l.length by omega]
    exact foldG_inv Inv l (i + 1) _ (hs i b a (by simp) h) fun i b a ha => hs i b a (by simp [ha])

open Classical in
/-- a loop that asks each element and stops at the first that fails -/
theorem loopO_all (l : List α) (p : Nat → α → Bool) (r : ρ) (e : ε) (f : Int → Option (Out Int ε ρ)) (hl : l.length < 18446744073709551616)
    (hin : ∀ (i : Nat) (a : α), l[i]? = some a → f (i : Int) = if p i a = true then some (.nx ((i + 1 : Nat) : Int)) else some (.rt r))
    (hend : f (l.length : Int) = some (.ex e)) :
    loopO f 0 = if (∀ i a, l[i]? = some a → p i a = true) then some (.inl e) else some (.inr r) := by
  have key : ∀ (n i : Nat), i ≤ l.length → l.length - i < n → (∀ j a, j < i → l[j]? = some a → p j a = true) → loopN f n (i : Int) = if (∀ i a, l[i]? = some a → p i a = true) then some (.inl e) else some (.inr r) := by
    intro n
    induction n with
    | zero => intro i _ h; omega
    | succ n ih =>
      intro i hi hn hp
      unfold loopN
      by_cases h : i < l.length
      · have e' := List.getElem?_eq_getElem h
        rw [hin i _ e']
        by_cases hpi : p i l[i] = true
        · rw [if_pos hpi]
          exact ih (i + 1) (by omega) (by omega) fun j a hj ha => by
            by_cases hji : j = i
            · subst hji; rw [e'] at ha; cases ha; exact hpi
            · exact hp j a (by omega) ha
        · rw [if_neg hpi, if_neg]
          intro hall
          exact hpi (hall i _ e')
      · have : i = l.length := by omega
        subst this
        rw [hend, if_pos]
        intro j a ha
        exact hp j a (List.getElem?_eq_some_iff.1 ha).1 ha
  exact key _ 0 (Nat.zero_le _) hl fun j a hj => by omega
end
end Go.GP
