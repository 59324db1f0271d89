import Derived.Test.YtjpepdpbplpccaaDoorGp1
/- THE SMALL PROGRAMS: their run over a state that is a function; what they depend on; the order of a region that draws. -/
namespace Go.GP
set_option linter.unusedVariables false

abbrev Sm := Nat → V
def upd (S : Sm) (k : Nat) (v : V) : Sm := fun n => if n = k then v else S n
@[simp] theorem upd_same (S : Sm) (k : Nat) (v : V) : upd S k v k = v := by simp [upd]
theorem upd_other (S : Sm) {k n : Nat} (v : V) (h : n ≠ k) : upd S k v n = S n := by simp [upd, h]

def Cmd.eval {α : Type} : Cmd α → Sm → Tr → Option (α × Sm × Tr)
  | .ret x, S, t => some (x, S, t)
  | .fail, _, _ => none
  | .get k c, S, t => (c (S k)).eval S (k :: t.1, t.2)
  | .set k v c, S, t => c.eval (upd S k v) (t.1, k :: t.2)
  | .opt o c, S, t => match o with | some x => (c x).eval S t | none => none
  | .br b c d, S, t => if b = true then c.eval S t else d.eval S t

def Cmd.post {α : Type} : Cmd α → Sm → (α → Sm → Prop) → Prop
  | .ret x, S, Q => Q x S
  | .fail, _, _ => True
  | .get k c, S, Q => (c (S k)).post S Q
  | .set k v c, S, Q => c.post (upd S k v) Q
  | .opt o c, S, Q => ∀ x, o = some x → (c x).post S Q
  | .br b c d, S, Q => (b = true → c.post S Q) ∧ (b = false → d.post S Q)

theorem post_eval {α : Type} {Q : α → Sm → Prop} : ∀ {c : Cmd α} {S S' : Sm} {t t' : Tr} {x : α}, c.post S Q → c.eval S t = some (x, S', t') → Q x S'
  | .ret x, _, _, _, _, _, h, e => by simp [Cmd.eval] at e; obtain ⟨rfl, rfl, rfl⟩ := e; exact h
  | .fail, _, _, _, _, _, h, e => by simp [Cmd.eval] at e
  | .get k c, _, _, _, _, _, h, e => post_eval (c := c _) h e
  | .set k v c, _, _, _, _, _, h, e => post_eval (c := c) h e
  | .opt o c, _, _, _, _, _, h, e => by
    cases o with
    | none => simp [Cmd.eval] at e
    | some x => exact post_eval (c := c x) (h x rfl) e
  | .br b c d, _, _, _, _, _, h, e => by
    cases b
    · exact post_eval (c := d) (h.2 rfl) (by simpa [Cmd.eval] using e)
    · exact post_eval (c := c) (h.1 rfl) (by simpa [Cmd.eval] using e)

theorem post_mono {α : Type} {Q Q' : α → Sm → Prop} (hq : ∀ x S, Q x S → Q' x S) : ∀ {c : Cmd α} {S : Sm}, c.post S Q → c.post S Q'
  | .ret x, _, h => hq _ _ h
  | .fail, _, _ => trivial
  | .get k c, _, h => post_mono hq (c := c _) h
  | .set k v c, _, h => post_mono hq (c := c) h
  | .opt o c, _, h => fun x e => post_mono hq (c := c x) (h x e)
  | .br b c d, _, h => ⟨fun e => post_mono hq (c := c) (h.1 e), fun e => post_mono hq (c := d) (h.2 e)⟩

/-! ### the run over lists is the run over functions -/
theorem force_eq {R : Type} (v : V) (K : V → R) : v.force K = K v := by
  cases v <;> try rfl
  case i k n => cases k <;> rfl
  case own bx vw => cases vw <;> rfl
theorem forceL_eq {R : Type} : ∀ (l : List V) (K : List V → R), forceL l K = K l
  | [], _ => rfl
  | v :: r, K => by simp [forceL, force_eq, forceL_eq r]
theorem force2_eq {R : Type} (v : V) (K : V → R) : v.force2 K = K v := by
  unfold V.force2; rw [force_eq]
  cases v <;> simp [forceL_eq]
theorem look_kv (k : Nat) (v : V) (s : St) : look (.kv k v :: s) = upd (look s) k v := by
  funext n
  simp only [look, upd]
  by_cases h : n = k
  · subst h; simp
  · have : Nat.beq k n = false := by
      cases hb : Nat.beq k n with
      | false => rfl
      | true => exact absurd (Nat.eq_of_beq_eq_true hb).symm h
    simp [h, this]

theorem obind_some {α β : Type} {o : Option α} {f : α → Option β} {r : β} (h : obind o f = some r) : ∃ x, o = some x ∧ f x = some r := by
  cases o with
  | none => simp [obind] at h
  | some x => exact ⟨x, rfl, h⟩

theorem runK_eval {α R : Type} : ∀ {c : Cmd α} {s : St} {t : Tr} {K : α → St → Tr → Option R} {r : R}, c.runK s t K = some r →
    ∃ x s' t', c.eval (look s) t = some (x, look s', t') ∧ K x s' t' = some r
  | .ret x, s, t, K, r, h => ⟨x, s, t, rfl, h⟩
  | .fail, _, _, _, _, h => by simp [Cmd.runK] at h
  | .get k c, s, t, K, r, h => by
    simp only [Cmd.runK, force_eq] at h
    exact runK_eval (c := c _) h
  | .set k v c, s, t, K, r, h => by
    simp only [Cmd.runK, force2_eq] at h
    obtain ⟨x, s', t', e, hk⟩ := runK_eval (c := c) h
    exact ⟨x, s', t', by simpa [Cmd.eval, look_kv] using e, hk⟩
  | .opt o c, s, t, K, r, h => by
    simp only [Cmd.runK] at h
    obtain ⟨y, rfl, h⟩ := obind_some h
    exact runK_eval (c := c y) h
  | .br b c d, s, t, K, r, h => by
    simp only [Cmd.runK] at h
    cases b
    · obtain ⟨x, s', t', e, hk⟩ := runK_eval (c := d) (show d.runK s t K = some r from h)
      exact ⟨x, s', t', by simpa [Cmd.eval] using e, hk⟩
    · obtain ⟨x, s', t', e, hk⟩ := runK_eval (c := c) (show c.runK s t K = some r from h)
      exact ⟨x, s', t', by simpa [Cmd.eval] using e, hk⟩

/-! ### what a small program depends on -/
theorem eval_grow {α : Type} : ∀ {c : Cmd α} {S S' : Sm} {t t' : Tr} {x : α}, c.eval S t = some (x, S', t') → (∀ k ∈ t.1, k ∈ t'.1) ∧ (∀ k ∈ t.2, k ∈ t'.2)
  | .ret x, _, _, _, _, _, e => by simp [Cmd.eval] at e; obtain ⟨rfl, rfl, rfl⟩ := e; exact ⟨fun _ h => h, fun _ h => h⟩
  | .fail, _, _, _, _, _, e => by simp [Cmd.eval] at e
  | .get k c, _, _, _, _, _, e => by
    have h := eval_grow (c := c _) e
    exact ⟨fun n hn => h.1 n (by simp [hn]), h.2⟩
  | .set k v c, _, _, _, _, _, e => by
    have h := eval_grow (c := c) e
    exact ⟨h.1, fun n hn => h.2 n (by simp [hn])⟩
  | .opt o c, _, _, _, _, _, e => by
    cases o with
    | none => simp [Cmd.eval] at e
    | some x => exact eval_grow (c := c x) e
  | .br b c d, _, _, _, _, _, e => by
    cases b
    · exact eval_grow (c := d) (by simpa [Cmd.eval] using e)
    · exact eval_grow (c := c) (by simpa [Cmd.eval] using e)

theorem eval_congr {α : Type} : ∀ {c : Cmd α} {S S' : Sm} {t t' : Tr} {x : α}, c.eval S t = some (x, S', t') → ∀ T : Sm, (∀ k ∈ t'.1, T k = S k) →
    ∃ T', c.eval T t = some (x, T', t') ∧ (∀ k, T k = S k → T' k = S' k) ∧ (∀ k, k ∉ t'.2 → T' k = T k) ∧ (∀ k, k ∈ t'.2 → k ∉ t.2 → T' k = S' k)
  | .ret x, _, _, _, _, _, e, T, hT => by
    simp [Cmd.eval] at e; obtain ⟨rfl, rfl, rfl⟩ := e
    exact ⟨T, rfl, fun k h => h, fun _ _ => rfl, fun k h1 h2 => absurd h1 h2⟩
  | .fail, _, _, _, _, _, e, _, _ => by simp [Cmd.eval] at e
  | .get k c, S, _, t, t', _, e, T, hT => by
    have hk : T k = S k := hT k ((eval_grow (c := c _) e).1 k (by simp))
    obtain ⟨T', h1, h2, h3, h4⟩ := eval_congr (c := c _) e T hT
    exact ⟨T', by simpa [Cmd.eval, hk] using h1, h2, h3, h4⟩
  | .set k v c, S, _, t, t', _, e, T, hT => by
    obtain ⟨T', h1, h2, h3, h4⟩ := eval_congr (c := c) e (upd T k v) (fun n hn => by
      by_cases h : n = k
      · subst h; simp
      · rw [upd_other _ _ h, upd_other _ _ h]; exact hT n hn)
    have hkin : k ∈ t'.2 := (eval_grow (c := c) e).2 k (by simp)
    refine ⟨T', h1, fun n hn => h2 n ?_, fun n hn => ?_, fun n hn hn' => ?_⟩
    · by_cases h : n = k
      · subst h; simp
      · rw [upd_other _ _ h, upd_other _ _ h]; exact hn
    · have : n ≠ k := fun h => hn (h ▸ hkin)
      rw [h3 n hn, upd_other _ _ this]
    · by_cases h : n = k
      · subst h; exact h2 n (by simp)
      · exact h4 n hn (by simp [h, hn'])
  | .opt o c, _, _, _, _, _, e, T, hT => by
    cases o with
    | none => simp [Cmd.eval] at e
    | some x => exact eval_congr (c := c x) e T hT
  | .br b c d, _, _, _, _, _, e, T, hT => by
    cases b
    · obtain ⟨T', h1, h2⟩ := eval_congr (c := d) (by simpa [Cmd.eval] using e) T hT
      exact ⟨T', by simpa [Cmd.eval] using h1, h2⟩
    · obtain ⟨T', h1, h2⟩ := eval_congr (c := c) (by simpa [Cmd.eval] using e) T hT
      exact ⟨T', by simpa [Cmd.eval] using h1, h2⟩

theorem eval_frame {α : Type} {c : Cmd α} {S S' : Sm} {t t' : Tr} {x : α} (e : c.eval S t = some (x, S', t')) (k : Nat) (h : k ∉ t'.2) : S' k = S k := by
  obtain ⟨T', h1, _, h3, _⟩ := eval_congr e S (fun _ _ => rfl)
  rw [e] at h1
  simp at h1
  rw [h1]; exact h3 k h

/-! ### any order that keeps the conflicts' order comes to the same state -/
section draws
variable {n : Nat} {c : Nat → Cmd Unit} {S : Nat → Sm} {T : Nat → Tr}

def SD (S : Nat → Sm) (T : Nat → Tr) (D : List Nat) : Nat → Sm
  | 0 => S 0
  | m + 1 => fun k => if m ∈ D ∧ k ∈ (T m).2 then S (m + 1) k else SD S T D m k

theorem SD_prefix (hs : ∀ i, i < n → (c i).eval (S i) ([], []) = some ((), S (i + 1), T i)) (D : List Nat) (k : Nat) :
    ∀ m, m ≤ n → (∀ j, j < m → k ∈ (T j).2 → j ∈ D) → SD S T D m k = S m k
  | 0, _, _ => rfl
  | m + 1, hm, h => by
    have ih := SD_prefix hs D k m (by omega) (fun j hj => h j (by omega))
    simp only [SD]
    by_cases hk : k ∈ (T m).2
    · rw [if_pos ⟨h m (by omega) hk, hk⟩]
    · rw [if_neg (fun x => hk x.2), ih, eval_frame (hs m (by omega)) k hk]
theorem SD_after (D : List Nat) (k i : Nat) : ∀ m, i ≤ m → (∀ j, i ≤ j → j < m → k ∈ (T j).2 → j ∉ D) → SD S T D m k = SD S T D i k
  | m, hm, h => by
    induction m with
    | zero => have : i = 0 := by omega
              subst this; rfl
    | succ m ih =>
      by_cases e : i = m + 1
      · subst e; rfl
      · simp only [SD]
        rw [if_neg (fun x => h m (by omega) (by omega) x.2 x.1)]
        exact ih (by omega) (fun j h1 h2 => h j h1 (by omega))
theorem SD_more (D : List Nat) (i k : Nat) (hk : k ∉ (T i).2) : ∀ m, SD S T (i :: D) m k = SD S T D m k
  | 0 => rfl
  | m + 1 => by
    simp only [SD, SD_more D i k hk m]
    by_cases e : m = i
    · subst e; simp [hk]
    · simp [List.mem_cons, e]

theorem SD_step (hs : ∀ i, i < n → (c i).eval (S i) ([], []) = some ((), S (i + 1), T i)) {ord : Nat → Nat → Prop}
    (hc : ∀ i j, i < j → j < n → ord i j ∨ ((∀ k ∈ (T i).2, k ∉ (T j).1 ∧ k ∉ (T j).2) ∧ ∀ k ∈ (T i).1, k ∉ (T j).2))
    {D : List Nat} {i : Nat} (hi : i < n) (hD : i ∉ D) (hlt : ∀ j ∈ D, j < n) (hp : ∀ j, ord j i → j ∈ D) (hdown : ∀ j ∈ D, ∀ k, ord k j → k ∈ D) :
    (c i).eval (SD S T D n) ([], []) = some ((), SD S T (i :: D) n, T i) := by
  have before : ∀ k, (k ∈ (T i).1 ∨ k ∈ (T i).2) → ∀ j, j < i → k ∈ (T j).2 → j ∈ D := fun k hk j hj hw => by
    rcases hc j i hj hi with h | ⟨h1, _⟩
    · exact hp j h
    · rcases hk with hk | hk
      · exact absurd hk (h1 k hw).1
      · exact absurd hk (h1 k hw).2
  have after : ∀ k, (k ∈ (T i).1 ∨ k ∈ (T i).2) → ∀ j, i < j → j < n → k ∈ (T j).2 → j ∉ D := fun k hk j hj hjn hw hjD => by
    rcases hc i j hj hjn with h | ⟨h1, h2⟩
    · exact hD (hdown j hjD i h)
    · rcases hk with hk | hk
      · exact h2 k hk hw
      · exact (h1 k hk).2 hw
  have read : ∀ k ∈ (T i).1, SD S T D n k = S i k := fun k hk => by
    rw [SD_after D k i n (by omega) (fun j h1 h2 hw => by
      by_cases e : j = i
      · subst e; exact hD
      · exact after k (.inl hk) j (by omega) h2 hw)]
    exact SD_prefix hs D k i (by omega) (before k (.inl hk))
  obtain ⟨T', h1, _, h3, h4⟩ := eval_congr (hs i hi) (SD S T D n) read
  rw [h1]
  have : T' = SD S T (i :: D) n := by
    funext k
    by_cases hk : k ∈ (T i).2
    · rw [h4 k hk (by simp)]
      rw [SD_after (i :: D) k (i + 1) n (by omega) (fun j h1 h2 hw => by
        simp only [List.mem_cons, not_or]
        exact ⟨by omega, after k (.inr hk) j (by omega) h2 hw⟩)]
      simp [SD, hk]
    · rw [h3 k hk, SD_more D i k hk]
  rw [this]

theorem SD_all (hs : ∀ i, i < n → (c i).eval (S i) ([], []) = some ((), S (i + 1), T i)) {D : List Nat} (hD : ∀ i, i < n → i ∈ D) : SD S T D n = S n := by
  funext k
  exact SD_prefix hs D k n (by omega) (fun j hj _ => hD j hj)
theorem SD_nil (n : Nat) : SD S T [] n = S 0 := by
  induction n with
  | zero => rfl
  | succ m ih => funext k; simp [SD, ih]
end draws
end Go.GP
