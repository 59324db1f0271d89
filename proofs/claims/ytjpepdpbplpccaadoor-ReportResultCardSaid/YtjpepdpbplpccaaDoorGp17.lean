import Derived.Test.YtjpepdpbplpccaaDoorGp16
/- REGIONS: the order of a region that draws. -/
namespace Go.GP
set_option linter.unusedVariables false
set_option linter.unusedSimpArgs false

def Chain (E : Env) (q : Nat) (all l : List Oper) (S : Nat → Sm) (T : Nat → Tr) : Prop :=
  ∀ i o, l[i]? = some o → (stepCmd E q all o).eval (S i) ([], []) = some ((), S (i + 1), T i)

def shiftS (s : Sm) (S : Nat → Sm) : Nat → Sm | 0 => s | i + 1 => S i
def shiftT (t : Tr) (T : Nat → Tr) : Nat → Tr | 0 => t | i + 1 => T i

theorem refineK_spec {R : Type} {t : Nat} {s : St} {K : St → Option R} {r : R} (h : refineK t s K = some r) : ∃ s0, look s0 = look s ∧ K s0 = some r := by
  unfold refineK at h
  rw [force_eq] at h
  split at h <;> try (simp at h; done)
  · rename_i y hy
    have key : ∀ b : Bool, y = b → look (.kv t (.b b) :: s) = look s := fun b hb => by
      subst hb
      rw [look_kv]
      funext k
      by_cases e : k = t
      · subst e; simp [hy]
      · rw [upd_other _ _ e]
    cases y
    · exact ⟨_, key false rfl, h⟩
    · exact ⟨_, key true rfl, h⟩
  · exact ⟨s, rfl, h⟩

theorem runOps_spec {R : Type} {E : Env} {q : Nat} {all : List Oper} : ∀ (l : List Oper) {s : St} {t : Trs} {K : St → Trs → Option R} {r : R}, runOps E q all l s t K = some r →
    ∃ s' S T, S 0 = look s ∧ S l.length = look s' ∧ Chain E q all l S T ∧ K s' (((List.range l.length).map T).reverse ++ t) = some r
  | [], s, t, K, r, h => ⟨s, fun _ => look s, fun _ => ([], []), rfl, rfl, fun i o hi => by simp at hi, by simpa [runOps] using h⟩
  | o :: l, s, t, K, r, h => by
    have key : ∀ s0, look s0 = look s → (stepCmd E q all o).runK s0 ([], []) (fun _ s' tr => runOps E q all l s' (tr :: t) K) = some r →
        ∃ s' S T, S 0 = look s ∧ S (o :: l).length = look s' ∧ Chain E q all (o :: l) S T ∧ K s' (((List.range (o :: l).length).map T).reverse ++ t) = some r := fun s0 hs0 h => by
      obtain ⟨x, s1, tr, e, hk⟩ := runK_eval h
      obtain ⟨s', S, T, h0, h1, h2, h3⟩ := runOps_spec l hk
      refine ⟨s', shiftS (look s) S, shiftT tr T, rfl, h1, fun i o' hi => ?_, ?_⟩
      · cases i with
        | zero =>
          simp at hi; subst hi
          show (stepCmd E q all o).eval (look s) ([], []) = some ((), S 0, tr)
          rw [← hs0, e, h0]
        | succ i => exact h2 i o' (by simpa using hi)
      · rw [List.length_cons, List.range_succ_eq_map, List.map_cons, List.reverse_cons, List.append_assoc, List.map_map]
        exact h3
    unfold runOps at h
    split at h
    · exact key s rfl h
    · obtain ⟨s0, e, h⟩ := refineK_spec h
      exact key s0 e h

theorem rangeMap_succ {α : Type} (T : Nat → α) (n : Nat) : ((List.range (n + 1)).map T).reverse = T n :: ((List.range n).map T).reverse := by
  rw [List.range_succ, List.map_append, List.reverse_append]; rfl

theorem disj_spec {a b : List Nat} (h : disj a b = true) : ∀ k ∈ a, k ∉ b := by
  induction a with
  | nil => intro k hk; cases hk
  | cons x a ih =>
    unfold disj at h
    cases hm : memN x b
    · simp only [hm, cond_false] at h
      intro k hk hkb
      rcases List.mem_cons.1 hk with rfl | hk
      · have : ∀ (l : List Nat), memN k l = false → k ∉ l := by
          intro l
          induction l with
          | nil => intro _ h; cases h
          | cons y l ih =>
            intro hm hk
            unfold memN at hm
            cases hb : Nat.beq y k
            · simp only [hb, cond_false] at hm
              rcases List.mem_cons.1 hk with rfl | hk
              · simp at hb
              · exact ih hm hk
            · simp [hb] at hm
        exact this b hm hkb
      · exact ih h k hk hkb
    · simp [hm] at h
theorem memN_mem {k : Nat} : ∀ {l : List Nat}, memN k l = true → k ∈ l
  | [], h => by simp [memN] at h
  | y :: l, h => by
    unfold memN at h
    cases hb : Nat.beq y k
    · simp only [hb, cond_false] at h
      exact List.mem_cons_of_mem _ (memN_mem h)
    · have := Nat.eq_of_beq_eq_true hb
      subst this; simp

def Apart (x y : Tr) : Prop := (∀ k ∈ x.2, k ∉ y.1 ∧ k ∉ y.2) ∧ ∀ k ∈ x.1, k ∉ y.2
theorem okPair_spec {b : Bool} {x y : Tr} (h : okPair b x y = true) : b = true ∨ Apart x y := by
  unfold okPair at h
  cases b
  · simp only [cond_false, Bool.and_eq_true] at h
    exact .inr ⟨fun k hk => ⟨disj_spec h.1.1 k hk, disj_spec h.1.2 k hk⟩, fun k hk => disj_spec h.2 k hk⟩
  · exact .inl rfl
theorem okDraw1_spec {mask : Nat} {y : Tr} {T : Nat → Tr} : ∀ n, okDraw1 mask y ((List.range n).map T).reverse n = true → ∀ i, i < n → Nat.testBit mask i = true ∨ Apart (T i) y
  | 0, _, i, hi => by omega
  | n + 1, h, i, hi => by
    rw [rangeMap_succ] at h
    unfold okDraw1 at h
    simp only [Nat.add_sub_cancel, Bool.and_eq_true] at h
    by_cases e : i = n
    · subst e; exact okPair_spec h.1
    · exact okDraw1_spec n h.2 i (by omega)
theorem okDraw_spec {M : Nat → Nat} {T : Nat → Tr} : ∀ n, okDraw ((List.range n).map M).reverse ((List.range n).map T).reverse = true → ∀ i j, i < j → j < n → Nat.testBit (M j) i = true ∨ Apart (T i) (T j)
  | 0, _, i, j, _, hj => by omega
  | n + 1, h, i, j, hi, hj => by
    rw [rangeMap_succ, rangeMap_succ] at h
    unfold okDraw at h
    simp only [Bool.and_eq_true, List.length_reverse, List.length_map, List.length_range] at h
    by_cases e : j = n
    · subst e; exact okDraw1_spec j h.1 i hi
    · exact okDraw_spec n h.2 i j hi (by omega)

def Plain (e : Edge) : Prop := match e.ground with | .textOnly _ => False | .gcOnly _ => False | _ => True
theorem Plain.binds {e : Edge} (h : Plain e) (md : Region.Mode) : Region.binds md e = true := by
  unfold Plain at h
  unfold Region.binds
  split <;> simp_all
theorem binds_any {e : Edge} (h : Region.binds .any e = true) : Plain e := by
  unfold Region.binds at h
  unfold Plain
  split <;> simp_all

theorem getD_rangeMap {M : Nat → Nat} {n k : Nat} (hk : k < n) : (((List.range n).map M).reverse).getD (n - 1 - k) 0 = M k := by
  rw [List.getD_eq_getElem?_getD, List.getElem?_reverse (by simp; omega)]
  simp only [List.length_map, List.length_range, List.getElem?_map]
  rw [show n - 1 - (n - 1 - k) = k by omega]
  simp [hk]

theorem edgeM_spec {M : Nat → Nat} {n : Nat} : ∀ (es : List Edge) {m m' : Nat}, edgeM ((List.range n).map M).reverse n es m = some m' →
    (∀ e ∈ es, Plain e → e.on < n) ∧ ∀ j, Nat.testBit m' j = true → Nat.testBit m j = true ∨ ∃ e ∈ es, Plain e ∧ (j = e.on ∨ Nat.testBit (M e.on) j = true)
  | [], m, m', h => by simp [edgeM] at h; subst h; exact ⟨fun _ h => absurd h (by simp), fun j hj => .inl hj⟩
  | e :: es, m, m', h => by
    have plain : (bif Nat.blt e.on n then edgeM ((List.range n).map M).reverse n es (m ||| 2 ^ e.on ||| (((List.range n).map M).reverse).getD (n - 1 - e.on) 0) else none) = some m' → Plain e →
        (∀ e' ∈ e :: es, Plain e' → e'.on < n) ∧ ∀ j, Nat.testBit m' j = true → Nat.testBit m j = true ∨ ∃ e' ∈ e :: es, Plain e' ∧ (j = e'.on ∨ Nat.testBit (M e'.on) j = true) := fun h hp => by
      cases hb : Nat.blt e.on n
      · simp [hb] at h
      · simp only [hb, cond_true] at h
        have hlt := blt_lt hb
        rw [getD_rangeMap hlt] at h
        obtain ⟨h1, h2⟩ := edgeM_spec es h
        refine ⟨fun e' he' hp' => ?_, fun j hj => ?_⟩
        · rcases List.mem_cons.1 he' with rfl | he'
          · exact hlt
          · exact h1 e' he' hp'
        · rcases h2 j hj with h3 | ⟨e', he', hp', h3⟩
          · rw [Nat.testBit_or, Nat.testBit_or, Bool.or_eq_true, Bool.or_eq_true] at h3
            rcases h3 with (h3 | h3) | h3
            · exact .inl h3
            · rw [Nat.testBit_two_pow] at h3
              exact .inr ⟨e, by simp, hp, .inl (of_decide_eq_true h3).symm⟩
            · exact .inr ⟨e, by simp, hp, .inr h3⟩
          · exact .inr ⟨e', by simp [he'], hp', h3⟩
    have skip : edgeM ((List.range n).map M).reverse n es m = some m' → ¬ Plain e →
        (∀ e' ∈ e :: es, Plain e' → e'.on < n) ∧ ∀ j, Nat.testBit m' j = true → Nat.testBit m j = true ∨ ∃ e' ∈ e :: es, Plain e' ∧ (j = e'.on ∨ Nat.testBit (M e'.on) j = true) := fun h hp => by
      obtain ⟨h1, h2⟩ := edgeM_spec es h
      refine ⟨fun e' he' hp' => ?_, fun j hj => ?_⟩
      · rcases List.mem_cons.1 he' with rfl | he'
        · exact absurd hp' hp
        · exact h1 e' he' hp'
      · rcases h2 j hj with h3 | ⟨e', he', hp', h3⟩
        · exact .inl h3
        · exact .inr ⟨e', by simp [he'], hp', h3⟩
    unfold edgeM at h
    cases hg : e.ground <;> simp only [hg] at h
    case textOnly => exact skip h (by simp [Plain, hg])
    case gcOnly => exact skip h (by simp [Plain, hg])
    all_goals exact plain h (by simp [Plain, hg])

theorem preM_spec : ∀ (l : List Oper) {n : Nat} {M : Nat → Nat} {ms : List Nat}, preM l n ((List.range n).map M).reverse = some ms →
    ∃ M' : Nat → Nat, ms = ((List.range (n + l.length)).map M').reverse ∧ (∀ k, k < n → M' k = M k) ∧
      ∀ i o, l[i]? = some o → (∀ e ∈ o.after.toList, Plain e → e.on < n + i) ∧ ∀ j, Nat.testBit (M' (n + i)) j = true → ∃ e ∈ o.after.toList, Plain e ∧ (j = e.on ∨ Nat.testBit (M' e.on) j = true)
  | [], n, M, ms, h => by
    simp only [preM, Option.some.injEq] at h
    subst h
    exact ⟨M, rfl, fun _ _ => rfl, fun i o hi => by simp at hi⟩
  | o :: l, n, M, ms, h => by
    unfold preM at h
    cases he : edgeM ((List.range n).map M).reverse n o.after.toList 0 with
    | none => simp [he] at h
    | some m =>
      simp only [he] at h
      obtain ⟨h1, h2⟩ := edgeM_spec _ he
      have hM : m :: ((List.range n).map M).reverse = ((List.range (n + 1)).map (fun k => if k = n then m else M k)).reverse := by
        rw [rangeMap_succ]
        simp only [if_true]
        congr 2
        apply List.map_congr_left
        intro k hk
        rw [if_neg]
        have := List.mem_range.1 hk
        omega
      rw [hM] at h
      obtain ⟨M', e1, e2, e3⟩ := preM_spec l h
      have hMn : M' n = m := by rw [e2 n (by omega)]; simp
      have hMk : ∀ k, k < n → M' k = M k := fun k hk => by rw [e2 k (by omega), if_neg (by omega)]
      refine ⟨M', by rw [e1]; congr 3; simp; omega, hMk, fun i o' hi => ?_⟩
      cases i with
      | zero =>
        simp at hi; subst hi
        refine ⟨h1, fun j hj => ?_⟩
        rw [Nat.add_zero, hMn] at hj
        rcases h2 j hj with h3 | ⟨e, hem, hp, h3⟩
        · simp at h3
        · exact ⟨e, hem, hp, by rwa [hMk _ (h1 e hem hp)]⟩
      | succ i =>
        have := e3 i o' (by simpa using hi)
        rwa [show n + 1 + i = n + (i + 1) by omega] at this

theorem nodup_le : ∀ (n : Nat) {D : List Nat}, D.Nodup → (∀ x ∈ D, x < n) → D.length ≤ n
  | 0, D, _, h => by
    cases D with
    | nil => simp
    | cons x D => have := h x (by simp); omega
  | n + 1, D, hD, h => by
    by_cases hn : n ∈ D
    · have h1 := nodup_le n (D := D.erase n) (hD.erase n) (fun x hx => by
        have := (hD.mem_erase_iff).1 hx
        have := h x this.2
        omega)
      rw [List.length_erase_of_mem hn] at h1
      omega
    · have h1 := nodup_le n hD (fun x hx => by
        have := h x hx
        have : x ≠ n := fun e => hn (e ▸ hx)
        omega)
      omega
theorem nodup_all {n : Nat} {D : List Nat} (hD : D.Nodup) (h : ∀ x ∈ D, x < n) (hl : n ≤ D.length) : ∀ i, i < n → i ∈ D := fun i hi => by
  refine Classical.byContradiction fun hn => ?_
  have := nodup_le n (D := i :: D) (List.nodup_cons.2 ⟨hn, hD⟩) (fun x hx => by
    rcases List.mem_cons.1 hx with rfl | hx
    · exact hi
    · exact h x hx)
  simp at this; omega

/-- an order of a region's operations that every binding edge follows -/
def Ranked (md : Region.Mode) (ops : Array Oper) : Prop := ∃ rk : Nat → Nat, ∀ i o, ops[i]? = some o → ∀ e ∈ o.after.toList, Region.binds md e = true → e.on < ops.size ∧ rk e.on < rk i

theorem plainE_spec : ∀ {es : List Edge}, plainE es = true → ∀ e ∈ es, Plain e
  | [], _, e, he => by cases he
  | e :: es, h, e', he' => by
    unfold plainE at h
    have hp : Plain e := by cases hg : e.ground <;> simp [hg] at h <;> simp [Plain, hg]
    have hr : plainE es = true := by cases hg : e.ground <;> simp [hg] at h <;> exact h
    rcases List.mem_cons.1 he' with rfl | he'
    · exact hp
    · exact plainE_spec hr e' he'
theorem plainOps_spec : ∀ {l : List Oper}, plainOps l = true → ∀ o ∈ l, ∀ e ∈ o.after.toList, Plain e
  | [], _, o, ho => by cases ho
  | o :: l, h, o', ho' => by
    unfold plainOps at h
    cases hp : plainE o.after.toList
    · simp [hp] at h
    · simp only [hp, cond_true] at h
      rcases List.mem_cons.1 ho' with rfl | ho'
      · exact plainE_spec hp
      · exact plainOps_spec h o' ho'

theorem readyE_spec {md : Region.Mode} {done : List Nat} : ∀ {es : List Edge}, readyE md done es = true → ∀ e ∈ es, Region.binds md e = true → e.on ∈ done
  | [], _, e, he, _ => by cases he
  | e :: es, h, e', he', hb => by
    unfold readyE at h
    cases hc : (!Region.binds md e || memN e.on done)
    · simp [hc] at h
    · simp only [hc, cond_true] at h
      rcases List.mem_cons.1 he' with rfl | he'
      · rw [hb] at hc
        simp at hc
        exact memN_mem hc
      · exact readyE_spec h e' he' hb
theorem firstReady_spec {md : Region.Mode} {done : List Nat} : ∀ {l : List Oper} {n i : Nat}, firstReady md done l n = some i → ∃ o, l[i - n]? = some o ∧ n ≤ i ∧ i < n + l.length ∧ readyE md done o.after.toList = true
  | [], n, i, h => by simp [firstReady] at h
  | o :: l, n, i, h => by
    unfold firstReady at h
    have rec' : firstReady md done l (n + 1) = some i → ∃ o', (o :: l)[i - n]? = some o' ∧ n ≤ i ∧ i < n + (o :: l).length ∧ readyE md done o'.after.toList = true := fun h => by
      obtain ⟨o', h1, h2, h3, h4⟩ := firstReady_spec h
      refine ⟨o', ?_, by omega, by simp; omega, h4⟩
      rw [show i - n = (i - (n + 1)) + 1 by omega]
      simpa using h1
    cases hm : memN n done
    · simp only [hm, cond_false] at h
      cases hr : readyE md done o.after.toList
      · simp only [hr, cond_false] at h; exact rec' h
      · simp only [hr, cond_true, Option.some.injEq] at h
        subst h
        exact ⟨o, by simp, Nat.le_refl _, by simp, hr⟩
    · simp only [hm, cond_true] at h; exact rec' h

theorem allIn_spec : ∀ {n : Nat} {d : List Nat}, allIn n d = true → ∀ i, i < n → i ∈ d
  | 0, d, _, i, hi => by omega
  | n + 1, d, h, i, hi => by
    unfold allIn at h
    simp only [Bool.and_eq_true] at h
    by_cases e : i = n
    · subst e; exact memN_mem h.1
    · exact allIn_spec h.2 i (by omega)

theorem topo_ranked {md : Region.Mode} {ops : Array Oper} : ∀ (k : Nat) {done : List Nat} {rk : Nat → Nat}, topo md ops.toList k done = true →
    (∀ x ∈ done, rk x < done.length) → (∀ i ∈ done, ∀ o, ops[i]? = some o → ∀ e ∈ o.after.toList, Region.binds md e = true → e.on ∈ done ∧ e.on < ops.size ∧ rk e.on < rk i) → (∀ x ∈ done, x < ops.size) → Ranked md ops
  | 0, done, rk, h, h1, h2, h3 => by
    have hall := allIn_spec h
    simp only [Array.length_toList] at hall
    exact ⟨rk, fun i o hi e he hb => (h2 i (hall i (Array.getElem?_eq_some_iff.1 hi).1) o hi e he hb).2⟩
  | k + 1, done, rk, h, h1, h2, h3 => by
    unfold topo at h
    cases hf : firstReady md done ops.toList 0 with
    | none => simp [hf] at h
    | some n =>
      simp only [hf] at h
      obtain ⟨o, e1, _, e2, e3⟩ := firstReady_spec hf
      simp only [Nat.sub_zero, Array.getElem?_toList, Nat.zero_add, Array.length_toList] at e1 e2
      by_cases hn : n ∈ done
      · refine topo_ranked k (rk := rk) h (fun x hx => ?_) (fun i hi o' ho' e he hb => ?_) (fun x hx => ?_)
        · rcases List.mem_cons.1 hx with rfl | hx
          · have := h1 x hn; simp; omega
          · have := h1 x hx; simp; omega
        · have hi' : i ∈ done := by rcases List.mem_cons.1 hi with rfl | hi; exact hn; exact hi
          obtain ⟨g1, g2, g3⟩ := h2 i hi' o' ho' e he hb
          exact ⟨by simp [g1], g2, g3⟩
        · rcases List.mem_cons.1 hx with rfl | hx
          · exact e2
          · exact h3 x hx
      · refine topo_ranked k (rk := fun x => if x = n then done.length else rk x) h (fun x hx => ?_) (fun i hi o' ho' e he hb => ?_) (fun x hx => ?_)
        · show (if x = n then done.length else rk x) < _
          rcases List.mem_cons.1 hx with rfl | hx
          · simp
          · have := h1 x hx
            rw [if_neg (show ¬ x = n from fun e => hn (by rw [← e]; exact hx))]
            simp; omega
        · show _ ∧ _ ∧ (if e.on = n then done.length else rk e.on) < (if i = n then done.length else rk i)
          rcases List.mem_cons.1 hi with rfl | hi
          · rw [e1] at ho'; cases ho'
            have hd := readyE_spec e3 e he hb
            refine ⟨by simp [hd], h3 _ hd, ?_⟩
            rw [if_neg (show ¬ e.on = i from fun e' => hn (by rw [← e']; exact hd)), if_pos rfl]
            exact h1 _ hd
          · obtain ⟨g1, g2, g3⟩ := h2 i hi o' ho' e he hb
            refine ⟨by simp [g1], g2, ?_⟩
            rw [if_neg (show ¬ e.on = n from fun e' => hn (by rw [← e']; exact g1)), if_neg (show ¬ i = n from fun e' => hn (by rw [← e']; exact hi))]
            exact g3
        · rcases List.mem_cons.1 hx with rfl | hx
          · exact e2
          · exact h3 x hx
end Go.GP
