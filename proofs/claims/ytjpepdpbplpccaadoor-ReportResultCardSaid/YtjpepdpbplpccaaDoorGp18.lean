import Derived.Test.YtjpepdpbplpccaaDoorGp17
/- REGIONS: the pure run of a region is the model's. -/
namespace Go.GP
set_option linter.unusedVariables false
set_option linter.unusedSimpArgs false

section
variable {X : Fx} {q : Nat} {ops : Array Oper} {S : Nat → Sm} {T : Nat → Tr} {m0 : Nat → Option Loc} {ok0 : Nat → Prop} {Q : Exit → Act → World → Prop}

/-- one operation, along the chain -/
theorem chain_step (H : FxOk X) {i : Nat} {o : Oper} (hi : ops[i]? = some o) {S1 S2 : Sm} {t : Tr} (he : (stepCmd X.E q ops.toList o).eval S1 ([], []) = some ((), S2, t)) {m : Nat → Option Loc} {ok : Nat → Prop} {a : Act} {w : World}
    (R : Rel X (CB * q) (CB * q + CB) S1 m ok a w) {next : Act → World → Prop}
    (hn : ∀ m' ok' a' w', Rel X (CB * q) (CB * q + CB) S2 m' ok' a' w' → (∀ k l, m k = some l → m' k = some l) → (∀ b, ok b → ok' b) → next a' w') : wpOp X.P ops Q i next a w :=
  post_eval (step_post H R hi) he next Q hn

theorem wpOps_chain (H : FxOk X) (hc : Chain X.E q ops.toList ops.toList S T)
    (hQ : ∀ m' ok' a' w', Rel X (CB * q) (CB * q + CB) (S ops.size) m' ok' a' w' → (∀ k l, m0 k = some l → m' k = some l) → (∀ b, ok0 b → ok' b) → Q .normal a' w') :
    ∀ (n k : Nat) {m : Nat → Option Loc} {ok : Nat → Prop} {a : Act} {w : World}, k + n = ops.size → Rel X (CB * q) (CB * q + CB) (S k) m ok a w → (∀ k l, m0 k = some l → m k = some l) → (∀ b, ok0 b → ok b) → wpOps X.P ops Q (List.range' k n) a w
  | 0, k, m, ok, a, w, hk, R, hm, hok => by
    have : k = ops.size := by omega
    subst this
    exact hQ m ok a w R hm hok
  | n + 1, k, m, ok, a, w, hk, R, hm, hok => by
    rw [List.range'_succ, wpOps_cons]
    have hi : ops[k]? = some (ops[k]'(by omega)) := Array.getElem?_eq_getElem _
    refine chain_step H hi (hc k _ (by rw [Array.getElem?_toList]; exact hi)) R fun m' ok' a' w' R' k1 k2 => ?_
    exact wpOps_chain H hc hQ n (k + 1) (by omega) R' (fun k l h => k1 k l (hm k l h)) (fun b h => k2 b (hok b h))

theorem any_sound (H : FxOk X) {md : Region.Mode} (hc : Chain X.E q ops.toList ops.toList S T) {M : Nat → Nat}
    (hpair : ∀ i j, i < j → j < ops.size → Nat.testBit (M j) i = true ∨ Apart (T i) (T j))
    (hM : ∀ i o, ops[i]? = some o → ∀ j, Nat.testBit (M i) j = true → ∃ e ∈ o.after.toList, Plain e ∧ (j = e.on ∨ Nat.testBit (M e.on) j = true)) (hrk : Ranked md ops)
    (hQ : ∀ m' ok' a' w', Rel X (CB * q) (CB * q + CB) (S ops.size) m' ok' a' w' → (∀ k l, m0 k = some l → m' k = some l) → (∀ b, ok0 b → ok' b) → Q .normal a' w') :
    ∀ (fuel : Nat) {D : List Nat} {listed : Array Bool} {m : Nat → Option Loc} {ok : Nat → Prop} {a : Act} {w : World}, fuel + D.length = ops.size → D.Nodup → (∀ j ∈ D, j < ops.size) → listed.size = ops.size → (∀ i, i < ops.size → (listed.getD i false = true ↔ i ∈ D)) →
      (∀ j ∈ D, ∀ k, Nat.testBit (M j) k = true → k ∈ D) → Rel X (CB * q) (CB * q + CB) (SD S T D ops.size) m ok a w → (∀ k l, m0 k = some l → m k = some l) → (∀ b, ok0 b → ok b) →
      wpAny X.P md ops Q fuel listed a w := by
  have hs : ∀ i, i < ops.size → (stepCmd X.E q ops.toList (ops.getD i default)).eval (S i) ([], []) = some ((), S (i + 1), T i) := fun i hi => by
    refine hc i _ ?_
    simp [Array.getD, hi]
  obtain ⟨rk, hrk⟩ := hrk
  intro fuel
  induction fuel with
  | zero =>
    intro D listed m ok a w hf hD hlt hsz hl hdown R hm hok
    have hall := nodup_all hD hlt (by omega)
    refine ⟨?_, ?_⟩
    · cases hr : Region.ready md ops listed with
      | nil => rfl
      | cons x xs =>
        have hx : x ∈ Region.ready md ops listed := by rw [hr]; simp
        obtain ⟨h1, o, ho, _⟩ := mem_ready.1 hx
        have hxl := (Array.getElem?_eq_some_iff.1 ho).1
        have := (hl x hxl).2 (hall x hxl)
        rw [Array.getD_eq_getD_getElem?] at h1 this
        cases hg : listed[x]? with
        | none => rw [hg] at this; cases this
        | some y => rw [hg] at h1 this; simp only [Option.getD_some] at h1 this; rw [h1] at this; cases this
    · refine hQ m ok a w ?_ hm hok
      rwa [SD_all (c := fun i => stepCmd X.E q ops.toList (ops.getD i default)) hs hall] at R
  | succ fuel ih =>
    intro D listed m ok a w hf hD hlt hsz hl hdown R hm hok
    refine ⟨fun hr => ?_, fun i hi => ?_⟩
    · have hall : ∀ n i, rk i < n → i < ops.size → i ∈ D := by
        intro n
        induction n with
        | zero => intro i hi _; omega
        | succ n ihn =>
          intro i hi hil
          refine Classical.byContradiction fun hni => ?_
          have hin : i ∈ Region.ready md ops listed := by
            refine mem_ready.2 ⟨?_, ops[i], Array.getElem?_eq_getElem hil, fun e he hb => ?_⟩
            · have h1 : ¬ listed.getD i false = true := fun h => hni ((hl i hil).1 h)
              rw [Array.getD_eq_getD_getElem?] at h1 ⊢
              rw [Array.getElem?_eq_getElem (by omega)] at h1 ⊢
              simpa using h1
            · obtain ⟨g1, g2⟩ := hrk i _ (Array.getElem?_eq_getElem hil) e (by simpa using he) hb
              exact (hl e.on g1).2 (ihn e.on (by omega) g1)
          rw [hr] at hin; cases hin
      refine hQ m ok a w ?_ hm hok
      rwa [SD_all (c := fun i => stepCmd X.E q ops.toList (ops.getD i default)) hs (fun i hi => hall _ i (Nat.lt_succ_self _) hi)] at R
    · obtain ⟨h1, o, ho, h2⟩ := mem_ready.1 hi
      have hil := (Array.getElem?_eq_some_iff.1 ho).1
      have hnD : i ∉ D := fun h => by
        have := (hl i hil).2 h
        rw [Array.getD_eq_getD_getElem?] at h1 this
        rw [Array.getElem?_eq_getElem (by omega)] at h1 this
        simp only [Option.getD_some] at h1 this
        rw [h1] at this; cases this
      have hp : ∀ j, Nat.testBit (M i) j = true → j ∈ D := fun j hj => by
        obtain ⟨e, he, hpl, h3⟩ := hM i o ho j hj
        have hlst := h2 e (by simpa using he) (hpl.binds md)
        have hon : e.on < ops.size := (hrk i o ho e he (hpl.binds md)).1
        have honD := (hl e.on hon).1 hlst
        rcases h3 with rfl | h3
        · exact honD
        · exact hdown e.on honD j h3
      have hgd : ops.getD i default = o := by
        rw [Array.getD_eq_getD_getElem?, ho]; rfl
      have hstep := SD_step (c := fun i => stepCmd X.E q ops.toList (ops.getD i default)) (S := S) (T := T) (n := ops.size) hs (ord := fun i j => Nat.testBit (M j) i = true)
        (fun i j hij hj => (hpair i j hij hj).imp id (fun h => h)) hil hnD hlt hp hdown
      simp only [hgd] at hstep
      refine chain_step H ho hstep R fun m' ok' a' w' R' k1 k2 => ?_
      refine ih (D := i :: D) (by simp; omega) (List.nodup_cons.2 ⟨hnD, hD⟩) (fun j hj => ?_) (by simp [hsz]) (fun j hj => ?_) (fun j hj k hk => ?_) R' (fun k l h => k1 k l (hm k l h)) (fun b h => k2 b (hok b h))
      · rcases List.mem_cons.1 hj with rfl | hj
        · exact hil
        · exact hlt j hj
      · by_cases e : i = j
        · subst e
          simp [Array.getD, hsz, hil]
        · rw [getD_set_ne false e, hl j hj]
          simp [Ne.symm e]
      · rcases List.mem_cons.1 hj with rfl | hj
        · exact List.mem_cons_of_mem _ (hp k hk)
        · exact List.mem_cons_of_mem _ (hdown j hj k hk)

/-- a region -/
theorem region_sound (H : FxOk X) {R : Type} {s : St} {wr : Rgs} {K : St → Rgs → Option R} {r : R} {draw : Bool} (h : regionK X.E q ops draw s wr K = some r) :
    ∃ s' w', K s' w' = some r ∧ (∃ t : Trs, w' = trKeys t wr ∧ ∀ k, (∀ x ∈ t, k ∉ x.2) → look s' k = look s k) ∧
      ∀ {m : Nat → Option Loc} {ok : Nat → Prop} {a : Act} {w : World} {id : Nat} {Q : Exit → Act → World → Prop}, Rel X (CB * q) (CB * q + CB) (look s) m ok a w →
        (∀ m' ok' a' w', Rel X (CB * q) (CB * q + CB) (look s') m' ok' a' w' → (∀ k l, m k = some l → m' k = some l) → (∀ b, ok b → ok' b) → Q .normal a' w') → (Code.region id ops draw).wp X.P Q a w := by
  unfold regionK at h
  obtain ⟨s', S, T, h0, h1, hc, hk⟩ := runOps_spec _ h
  simp only [Array.length_toList, List.append_nil] at h1 hk
  have hfr : ∀ k, (∀ x ∈ ((List.range ops.size).map T).reverse, k ∉ x.2) → look s' k = look s k := fun k hk => by
    have : ∀ n, n ≤ ops.size → S n k = S 0 k := by
      intro n
      induction n with
      | zero => intro _; rfl
      | succ n ih =>
        intro hn
        have hi : ops[n]? = some (ops[n]'(by omega)) := Array.getElem?_eq_getElem _
        rw [eval_frame (hc n (ops[n]'(by omega)) (by rw [Array.getElem?_toList]; exact hi)) k (hk (T n) (by simp; exact ⟨n, by omega, rfl⟩)), ih (by omega)]
    rw [← h1, ← h0]
    exact this ops.size (Nat.le_refl _)
  cases draw with
  | false =>
    simp only [cond_false] at hk
    refine ⟨s', _, hk, ⟨_, rfl, hfr⟩, fun {m ok a w id Q} R hQ => wp_region ?_⟩
    rw [List.range_eq_range']
    rw [← h0] at R
    refine wpOps_chain H hc (m0 := m) (ok0 := ok) (by rw [h1]; exact hQ) ops.size 0 (by omega) R (fun _ _ h => h) (fun _ h => h)
  | true =>
    simp only [cond_true] at hk
    cases hd : drawOk ops.toList ((List.range ops.size).map T).reverse
    · simp [hd] at hk
    simp only [hd, cond_true] at hk
    unfold drawOk at hd
    cases hp : preM ops.toList 0 [] with
    | none => simp [hp] at hd
    | some ms =>
    simp only [hp] at hd
    obtain ⟨M, rfl, _, hM⟩ := preM_spec (M := fun _ => 0) ops.toList (n := 0) hp
    simp only [Nat.zero_add, Array.length_toList] at hd hM
    cases hod : okDraw ((List.range ops.size).map M).reverse ((List.range ops.size).map T).reverse
    · simp [hod] at hd
    simp only [hod, cond_true] at hd
    have hpair := okDraw_spec _ hod
    have hidr : ∀ md, (∀ (i : Nat) (o : Oper), ops[i]? = some o → ∀ e ∈ o.after.toList, Region.binds md e = true → Plain e) → Ranked md ops := fun md hpl => by
      refine ⟨fun i => i, fun i o ho e he hb => ?_⟩
      have hil := (Array.getElem?_eq_some_iff.1 ho).1
      have := (hM i o (by simpa using ho)).1 e he (hpl i o ho e he hb)
      exact ⟨by omega, this⟩
    have hany : Ranked .any ops := hidr .any fun i o ho e he hb => binds_any hb
    have hboth : Ranked .text ops ∧ Ranked .gc ops := by
      cases hpo : plainOps ops.toList
      · simp only [hpo, cond_false, Bool.and_eq_true] at hd
        exact ⟨topo_ranked (rk := fun _ => 0) _ hd.1 (by simp) (by simp) (by simp), topo_ranked (rk := fun _ => 0) _ hd.2 (by simp) (by simp) (by simp)⟩
      · have hpl : ∀ (i : Nat) (o : Oper), ops[i]? = some o → ∀ e ∈ o.after.toList, Plain e := fun i o ho e he => plainOps_spec hpo o (by simpa using Array.mem_of_getElem? ho) e he
        exact ⟨hidr _ fun i o ho e he _ => hpl i o ho e he, hidr _ fun i o ho e he _ => hpl i o ho e he⟩
    refine ⟨s', _, hk, ⟨_, rfl, hfr⟩, fun {m ok a w id Q} R hQ => wp_region_draw fun t => ?_⟩
    have R' : Rel X (CB * q) (CB * q + CB) (SD S T [] ops.size) m ok a { w with drawn := w.drawn + 1 } := by
      rw [SD_nil, h0]
      exact R.same rfl rfl rfl rfl
    have main : ∀ md, Ranked md ops → ∀ t, wpOps X.P ops Q (Region.linearise md ops t) a { w with drawn := w.drawn + 1 } := fun md hr t => by
      unfold Region.linearise
      refine wpAny_sound ops.size t _ a _ ?_
      refine any_sound H hc hpair (fun i o ho => (hM i o (by simpa using ho)).2) hr (m0 := m) (ok0 := ok) (by rw [h1]; exact hQ) ops.size (D := []) (by simp) List.nodup_nil (by simp) (by simp) (fun i hi => ?_) (by simp) R' (fun _ _ h => h) (fun _ h => h)
      simp [Array.getD, hi]
    unfold Region.schedule
    split
    · exact main _ hany t
    · split
      · exact main _ hboth.1 _
      · exact main _ hboth.2 _
end
end Go.GP
