import Derived.Test.YtjpepdpbplpccaaDoorGp4
/- BORDERS, MORE: lists of values; and back into a state. -/
namespace Go.GP
set_option linter.unusedVariables false
set_option linter.unusedSimpArgs false

def relVs (C : Cx) : List V → List Value → Prop
  | [], vs => vs = []
  | c :: cs, vs => ∃ v r, vs = v :: r ∧ relV C c v ∧ relVs C cs r
theorem relVs_ok {h : Array Obj} {ok ok' : Nat → Prop} {m : Nat → Option Loc} (k : ∀ b, ok b → ok' b) : ∀ {cs : List V} {vs : List Value}, relVs ⟨h, ok, m⟩ cs vs → relVs ⟨h, ok', m⟩ cs vs
  | [], _, e => e
  | _ :: _, _, ⟨v, r, e, h1, h2⟩ => ⟨v, r, e, relV_ok k h1, relVs_ok k h2⟩
theorem relVs_m {h : Array Obj} {ok : Nat → Prop} {m m' : Nat → Option Loc} (k : ∀ n l, m n = some l → m' n = some l) : ∀ {cs : List V} {vs : List Value}, relVs ⟨h, ok, m⟩ cs vs → relVs ⟨h, ok, m'⟩ cs vs
  | [], _, e => e
  | _ :: _, _, ⟨v, r, e, h1, h2⟩ => ⟨v, r, e, relV_le (C := ⟨h, ok, m⟩) (D := ⟨h, ok, m'⟩) ⟨fun _ h => h, fun _ _ => rfl, k⟩ h1, relVs_m k h2⟩
theorem relL_m {h : Array Obj} {ok : Nat → Prop} {m m' : Nat → Option Loc} (k : ∀ n l, m n = some l → m' n = some l) {cs : List V} {vs : List Value} (hr : relL ⟨h, ok, m⟩ cs vs) : relL ⟨h, ok, m'⟩ cs vs :=
  relL_le (C := ⟨h, ok, m⟩) (D := ⟨h, ok, m'⟩) ⟨fun _ h => h, fun _ _ => rfl, k⟩ hr

theorem relC_one {C : Cx} {c : V} {v : Value} (h1 : c ≠ .undef) (h2 : c ≠ .un) (h : relC C c v) : v.oneCell' = true := by
  cases c <;> simp only [relC] at h <;> try (subst h; rfl)
  · exact absurd rfl h1
  · exact absurd rfl h2
  · obtain ⟨a, cap, e, _⟩ := h; simp at e; subst e; rfl
  · obtain ⟨l, _, hv⟩ := h; exact view_one hv
  · obtain ⟨b, _, rfl⟩ := h; rfl
  · obtain ⟨_, _, _, _, _, _, _, rfl⟩ := h; rfl
  · obtain ⟨_, _, _, rfl, _⟩ := h; rfl
  all_goals exact h.elim

theorem relV_of_relC {C : Cx} {c : V} {v : Value} (h : relC C c v) : relV C c v := by
  cases c <;> simp only [relC] at h <;> try exact h
  all_goals exact h.elim

section
variable {X : Fx} {cl ch : Nat} {S : Sm} {m : Nat → Option Loc} {ok : Nat → Prop} {a : Act} {w : World} {T : List Nat}

theorem cellsG_post {α : Type} {Q : α → Sm → Prop} {ag : Bool} {v : V} {x : Value} {K : List V → Cmd α} {S : Sm} {C : Cx} (hv : relV C v x)
    (hK : ∀ cs us, relG ag x us → relL C cs us → (K cs).post S Q) : (cellsG ag v K).post S Q := by
  unfold cellsG
  split <;> try trivial
  · obtain ⟨arr, rfl, hl⟩ := hv
    exact hK _ _ ⟨arr, rfl, rfl⟩ hl
  · rename_i h1 h2 h3 h4
    have hc : relC C v x := by cases v <;> first | exact hv | exact absurd rfl (h1 _) | exact absurd rfl (h2 _)
    exact hK [v] [x] rfl ⟨x, [], rfl, hc, relC_one (fun e => h3 e) (fun e => h4 e) hc, rfl⟩
theorem cellsC_post {α : Type} {Q : α → Sm → Prop} {v : V} {x : Value} {K : List V → Cmd α} {S : Sm} {C : Cx} (hv : relV C v x)
    (hK : ∀ cs, relL C cs x.cells.toList → (K cs).post S Q) : (cellsC v K).post S Q := by
  unfold cellsC
  split <;> try trivial
  · obtain ⟨arr, rfl, hl⟩ := hv
    exact hK _ hl
  · rename_i h1 h2 h3 h4
    have hc : relC C v x := by cases v <;> first | exact hv | exact absurd rfl (h1 _) | exact absurd rfl (h2 _)
    have h1' := relC_one (fun e => h3 e) (fun e => h4 e) hc
    have e : x.cells.toList = [x] := by cases x <;> simp [Value.cells] <;> simp [Value.oneCell'] at h1'
    refine hK [v] ?_
    rw [e]; exact ⟨x, [], rfl, hc, h1', rfl⟩

theorem exOne_false {α : Type} {Q : α → Sm → Prop} {md : MG} {v : V} {x : Value} {K : md.2.den → Cmd α} (R : Rel X cl ch S m ok a w) (hT : Tk X S m ok w T) (hv : relV ⟨w.heap, ok, m⟩ v x)
    (hK : ∀ S' ok' y cs O, Rel X cl ch S' m ok' a w → Tk X S' m ok' w (T ++ O) → (∀ b, ok b → ok' b) → Slots S S' → relG md.1 x cs → relM w.heap ok' md.2 y cs O → (K y).post S' Q) :
    (exOne false md v K).post S Q := by
  refine cellsG_post hv fun cs us hg hl => ?_
  refine exM_false md.2 R hT hl fun S1 ok1 y r us1 us' O R1 T1 k1 s1 e1 h1 l1 => ?_
  cases r with
  | cons c q => trivial
  | nil =>
    simp only [relL] at l1
    subst l1
    simp only [List.append_nil] at e1
    subst e1
    exact hK _ _ _ _ _ R1 T1 k1 s1 hg h1

theorem exAll_false {α : Type} {Q : α → Sm → Prop} : ∀ (ms : List MG) {vs : List V} {xs : List Value} {K : tupDen ms → Cmd α} {S : Sm} {ok : Nat → Prop} {T : List Nat} (R : Rel X cl ch S m ok a w) (hT : Tk X S m ok w T)
    (hv : relVs ⟨w.heap, ok, m⟩ vs xs)
    (hK : ∀ S' ok' y O, Rel X cl ch S' m ok' a w → Tk X S' m ok' w (T ++ O) → (∀ b, ok b → ok' b) → Slots S S' → relTup w.heap ok' ms y xs O → (K y).post S' Q),
    (exAll false ms vs K).post S Q
  | [], vs, xs, K, S, ok, T, R, hT, hv, hK => by
    unfold exAll
    split
    · simp only [relVs] at hv; subst hv
      exact hK _ _ _ [] R (by simpa using hT) (fun _ h => h) (Slots.refl _) ⟨rfl, rfl⟩
    · trivial
  | [md], vs, xs, K, S, ok, T, R, hT, hv, hK => by
    unfold exAll
    split
    · obtain ⟨x, r, rfl, h1, h2⟩ := hv
      simp only [relVs] at h2; subst h2
      exact exOne_false R hT h1 fun S' ok' y cs O R' T' k s g h => hK _ _ _ O R' T' k s ⟨x, cs, rfl, g, h⟩
    · trivial
  | md :: md' :: r, vs, xs, K, S, ok, T, R, hT, hv, hK => by
    unfold exAll
    split
    · obtain ⟨x, xr, rfl, h1, h2⟩ := hv
      cases hd : md.2.isDat
      · simp only [cond_false]
        refine exOne_false R hT h1 fun S1 ok1 y cs O R1 T1 k1 s1 g1 h1' => ?_
        refine exAll_false (md' :: r) R1 T1 (relVs_ok k1 h2) fun S2 ok2 z O2 R2 T2 k2 s2 h2' => ?_
        exact hK _ _ _ (O ++ O2) R2 (by simpa using T2) (fun b h => k2 b (k1 b h)) (s1.trans s2) ⟨x, cs, xr, O, O2, rfl, rfl, g1, relM_mono k2 (fun _ _ => rfl) (fun _ _ => rfl) h1', h2'⟩
      · simp only [cond_true]
        refine exAll_false (md' :: r) R hT h2 fun S2 ok2 z O2 R2 T2 k2 s2 h2' => ?_
        refine exOne_false R2 T2 (relV_ok k2 h1) fun S1 ok1 y cs O R1 T1 k1 s1 g1 h1' => ?_
        have hO : O = [] := by
          obtain ⟨ag, mm⟩ := md
          cases mm <;> simp [M.isDat] at hd
          exact h1'.2
        subst hO
        exact hK _ _ _ ([] ++ O2) R1 (by simpa using T1) (fun b h => k1 b (k2 b h)) (s2.trans s1) ⟨x, cs, xr, [], O2, rfl, rfl, g1, h1', relTup_mono k1 (fun _ _ => rfl) (fun _ _ => rfl) h2'⟩
    · trivial

theorem exOne_true {α : Type} {Q : α → Sm → Prop} {md : MG} (hd : md.2.isDat = false) {v : V} {x : Value} {K : md.2.den → Cmd α} (R : Rel X cl ch S m ok a w) (hT : Tk X S m ok w T) (hv : relV ⟨w.heap, ok, m⟩ v x)
    (hK : ∀ S' y cs O, Rel X cl ch S' m ok a w → Tk X S' m ok w (T ++ O) → Slots S S' → relG md.1 x cs → relM w.heap ok md.2 y cs O → (K y).post S' Q) :
    (exOne true md v K).post S Q := by
  refine cellsG_post hv fun cs us hg hl => ?_
  refine exM_true R hT md.2 hd hl fun S1 y r us1 us' O R1 T1 s1 e1 h1 l1 => ?_
  cases r with
  | cons c q => trivial
  | nil =>
    simp only [relL] at l1
    subst l1
    simp only [List.append_nil] at e1
    subst e1
    exact hK _ _ _ _ R1 T1 s1 hg h1
theorem exOne_dat {α : Type} {Q : α → Sm → Prop} {md : MG} (hd : md.2.isDat = true) {v : V} {x : Value} {K : md.2.den → Cmd α} (R : Rel X cl ch S m ok a w) (hv : relV ⟨w.heap, ok, m⟩ v x)
    (hK : ∀ y cs, relG md.1 x cs → relM w.heap (okAll S m ok) md.2 y cs [] → (K y).post S Q) :
    (exOne true md v K).post S Q := by
  obtain ⟨ag, mm⟩ := md
  cases mm <;> simp [M.isDat] at hd
  refine cellsG_post hv fun cs us hg hl => ?_
  unfold exM
  refine toData_true R _ hl fun y r us1 us' e1 h1 l1 => ?_
  cases r with
  | cons c q => trivial
  | nil =>
    simp only [relL] at l1
    subst l1
    simp only [List.append_nil] at e1
    subst e1
    exact hK _ _ hg ⟨h1, rfl⟩

theorem exAll_true {α : Type} {Q : α → Sm → Prop} : ∀ (ms : List MG) {vs : List V} {xs : List Value} {K : tupDen ms → Cmd α} {S : Sm} {T : List Nat} (R : Rel X cl ch S m ok a w) (hT : Tk X S m ok w T)
    (hv : relVs ⟨w.heap, ok, m⟩ vs xs)
    (hK : ∀ S' y O, Rel X cl ch S' m ok a w → Tk X S' m ok w (T ++ O) → Slots S S' → relTup w.heap (okAll S' m ok) ms y xs O → (K y).post S' Q),
    (exAll true ms vs K).post S Q
  | [], vs, xs, K, S, T, R, hT, hv, hK => by
    unfold exAll
    split
    · simp only [relVs] at hv; subst hv
      exact hK _ _ [] R (by simpa using hT) (Slots.refl _) ⟨rfl, rfl⟩
    · trivial
  | [md], vs, xs, K, S, T, R, hT, hv, hK => by
    unfold exAll
    split
    · obtain ⟨x, r, rfl, h1, h2⟩ := hv
      simp only [relVs] at h2; subst h2
      cases hd : md.2.isDat
      · exact exOne_true hd R hT h1 fun S' y cs O R' T' s g h => hK _ _ O R' T' s ⟨x, cs, rfl, g, relM_mono (fun _ h => .inl h) (fun _ _ => rfl) (fun _ _ => rfl) h⟩
      · exact exOne_dat hd R h1 fun y cs g h => hK _ _ [] R (by simpa using hT) (Slots.refl _) ⟨x, cs, rfl, g, h⟩
    · trivial
  | md :: md' :: r, vs, xs, K, S, T, R, hT, hv, hK => by
    unfold exAll
    split
    · obtain ⟨x, xr, rfl, h1, h2⟩ := hv
      cases hd : md.2.isDat
      · simp only [cond_false]
        refine exOne_true hd R hT h1 fun S1 y cs O R1 T1 s1 g1 h1' => ?_
        refine exAll_true (md' :: r) R1 T1 h2 fun S2 z O2 R2 T2 s2 h2' => ?_
        exact hK _ _ (O ++ O2) R2 (by simpa using T2) (s1.trans s2) ⟨x, cs, xr, O, O2, rfl, rfl, g1, relM_mono (fun _ h => .inl h) (fun _ _ => rfl) (fun _ _ => rfl) h1', h2'⟩
      · simp only [cond_true]
        refine exAll_true (md' :: r) R hT h2 fun S2 z O2 R2 T2 s2 h2' => ?_
        refine exOne_dat hd R2 h1 fun y cs g1 h1' => ?_
        exact hK _ _ ([] ++ O2) R2 (by simpa using T2) s2 ⟨x, cs, xr, [], O2, rfl, rfl, g1, h1', h2'⟩
    · trivial

theorem getAll_post {α : Type} {Q : α → Sm → Prop} {tmps : Array Value} {C : Cx} : ∀ (ns : List Nat) {K : List V → Cmd α} {S : Sm} (hs : ∀ n, n < BOX → relV C (S n) (tmps.getD n Go.undef))
    (hK : ∀ vs, relVs C vs (ns.map fun n => tmps.getD n Go.undef) → (K vs).post S Q), (getAll ns K).post S Q
  | [], K, S, hs, hK => hK [] rfl
  | n :: ns, K, S, hs, hK => by
    unfold getAll
    cases hb : Nat.blt n BOX
    · trivial
    · simp only [cond_true]
      show Cmd.post _ S Q
      refine getAll_post ns hs fun vs hvs => ?_
      exact hK _ ⟨_, _, rfl, hs n (by rw [Nat.blt_eq] at hb; exact hb), hvs⟩

theorem exSig_post {sg : Sig} {Q : sigDen sg → Sm → Prop} (R : Rel X cl ch S m ok a w)
    (hK : ∀ S' ok' y O, Rel X cl ch S' m ok' a w → Tk X S' m ok' w O → (∀ b, ok b → ok' b) → Slots S S' →
      relTup w.heap ok' (sg.map (·.2)) y ((sg.map (·.1)).map fun n => a.tmps.getD n Go.undef) O → Q y S') : (exSig sg).post S Q := by
  unfold exSig
  refine getAll_post _ R.slot fun vs hvs => ?_
  refine exAll_false (T := []) _ R Tk.nil hvs fun S' ok' y O R' T' k s h => ?_
  exact hK S' ok' y O R' T' k s h

/-! ### back into a state -/
theorem Rel.chmono (R : Rel X cl ch S m ok a w) {ch' : Nat} (h : ch ≤ ch') : Rel X cl ch' S m ok a w := { R with strict := fun n hn => R.strict n (by omega) }

theorem Tk.perm {T T' : List Nat} (h : Tk X S m ok w T) (p : T.Perm T') : Tk X S m ok w T' :=
  ⟨p.nodup_iff.1 h.nodup, fun b hb => h.free b (p.mem_iff.2 hb)⟩

theorem newB_post {α : Type} {Q : α → Sm → Prop} {n : Nat} {v : V} {K : Cmd α} (hK : S (BOX + n) = .undef → K.post (upd S (BOX + n) v) Q) : (newB n v K).post S Q := by
  unfold newB
  show Cmd.post (match S (BOX + n) with | .undef => _ | _ => _) S Q
  split
  · rename_i h; exact hK h
  · trivial

/-- a taken block, or no block, under a new name -/
theorem Rel.adopt (R : Rel X cl ch S m ok a w) {n : Nat} {l : Loc} {v : V} {O : List Nat} (hn : S (BOX + n) = .undef) (hcl : cl ≤ n) (hv : v ≠ .undef)
    (hT : Tk X S m ok w (O ++ T)) (ho : ∀ b, ownB (updM m n l) n v = some b → b ∈ O) (hB : relB ⟨w.heap, ok, updM m n l⟩ n v) :
    Rel X cl (max ch (n + 1)) (upd S (BOX + n) v) (updM m n l) ok a w ∧ Tk X (upd S (BOX + n) v) (updM m n l) ok w T ∧ (∀ k l', m k = some l' → updM m n l k = some l') := by
  have hm : m n = none := R.fresh n hcl hn
  refine ⟨(R.chmono (Nat.le_max_left ch (n + 1))).lay hn hcl (by omega) hv rfl rfl rfl (Nat.le_refl _) (fun _ _ _ => rfl) (fun b hb => hT.free b (by simp [ho b hb])) hB, ⟨?_, fun b hb => ?_⟩, fun k l' h => ?_⟩
  · exact (List.nodup_append.1 hT.nodup).2.1
  · obtain ⟨h1, h2, h3, h4⟩ := hT.free b (by simp [hb])
    refine ⟨h1, h2, h3, fun k e => ?_⟩
    by_cases ek : k = n
    · subst ek; rw [upd_same] at e
      exact (List.nodup_append.1 hT.nodup).2.2 b (ho b e) b hb rfl
    · rw [upd_other _ _ (by omega)] at e
      refine h4 k ?_
      rw [← e]; simp [ownB, updM_other _ _ ek]
  · by_cases ek : k = n
    · subst ek; simp [hm] at h
    · rw [updM_other _ _ ek]; exact h

theorem emM_post {α : Type} {Q : α → Sm → Prop} : ∀ (md : M) {x : md.den} {n : Nat} {r : List V} {K : List V → Nat → Cmd α} {S : Sm} {m : Nat → Option Loc} {ch : Nat} {us us' : List Value} {O T : List Nat}
    (R : Rel X cl ch S m ok a w) (hcl : cl ≤ n) (hT : Tk X S m ok w (O ++ T)) (h : relM w.heap ok md x us O) (hL : relL ⟨w.heap, ok, m⟩ r us')
    (hK : ∀ S' m' cs n' ch', Rel X cl ch' S' m' ok a w → ch' ≤ max ch n' → Tk X S' m' ok w T → (∀ k l, m k = some l → m' k = some l) → Slots S S' → relL ⟨w.heap, ok, m'⟩ cs (us ++ us') → n ≤ n' → (K cs n').post S' Q),
    (emM md x n r K).post S Q
  | .dat t, x, n, r, K, S, m, ch, us, us', O, T, R, hcl, hT, h, hL, hK => by
    unfold emM
    obtain ⟨hr, rfl⟩ := h
    refine hK S m _ n ch R (Nat.le_max_left _ _) (by simpa using hT) (fun _ _ h => h) (Slots.refl _) ?_ (Nat.le_refl _)
    rw [flat_append]
    exact relL_append (relL_flat (C := ⟨w.heap, ok, m⟩) hr) hL
  | .own t, x, n, r, K, S, m, ch, us, us', O, T, R, hcl, hT, h, hL, hK => by
    unfold emM
    obtain ⟨l, v, rfl, hv, ha, rfl⟩ := h
    refine newB_post fun hn => ?_
    obtain ⟨R', T', k'⟩ := R.adopt (l := l) (v := .barr t x) hn hcl (by simp) hT (fun b hb => by
      simp only [ownB, updM_same] at hb
      split at hb
      · rename_i blk _ _ _ _ e; simp at e hb; subst e; subst hb; simp [Loc.blks]
      · cases hb) ⟨l, updM_same _ _ _, arrOk_mono (fun _ h => h) (fun _ _ => rfl) (fun _ _ => rfl) ha⟩
    exact hK _ _ _ _ _ R' (by omega) T' k' (Slots.box _ _ _) ⟨v, us', rfl, ⟨l, updM_same _ _ _, hv⟩, view_one hv, relL_m k' hL⟩ (by omega)
  | .pair p q, x, n, r, K, S, m, ch, us, us', O, T, R, hcl, hT, h, hL, hK => by
    unfold emM
    obtain ⟨c, d, O1, O2, rfl, rfl, h1, h2⟩ := h
    have hT1 : Tk X S m ok w (O2 ++ (O1 ++ T)) := hT.perm (by
      rw [List.append_assoc]
      exact (List.perm_append_comm_assoc _ _ _))
    refine emM_post q R hcl hT1 h2 hL fun S1 m1 cs1 n1 ch1 R1 c1 T1 k1 s1 l1 e1 => ?_
    refine emM_post p R1 (by omega) T1 h1 l1 fun S2 m2 cs2 n2 ch2 R2 c2 T2 k2 s2 l2 e2 => ?_
    exact hK _ _ _ _ _ R2 (by omega) T2 (fun k l h => k2 k l (k1 k l h)) (s1.trans s2) (by simpa using l2) (by omega)
  | .unit, x, n, r, K, S, m, ch, us, us', O, T, R, hcl, hT, h, hL, hK => by
    unfold emM
    obtain ⟨rfl, rfl⟩ := h
    exact hK S m _ n ch R (Nat.le_max_left _ _) (by simpa using hT) (fun _ _ h => h) (Slots.refl _) (by simpa using hL) (Nat.le_refl _)
  | .box md, x, n, r, K, S, m, ch, us, us', O, T, R, hcl, hT, h, hL, hK => by
    unfold emM
    obtain ⟨blk, arr, Tt, O', rfl, hh, hr, rfl⟩ := h
    have hT1 : Tk X S m ok w (O' ++ ([blk] ++ T)) := hT.perm (by simpa using List.perm_middle.symm)
    refine emM_post md (r := []) (us' := []) R (by omega) hT1 hr rfl fun S1 m1 cs1 n1 ch1 R1 c1 T1 k1 s1 l1 e1 => ?_
    refine newB_post fun hn => ?_
    obtain ⟨R', T', k'⟩ := R1.adopt (l := .st blk) (v := .bcells cs1) hn hcl (by simp) T1 (fun b hb => by
      simp only [ownB, updM_same] at hb; simp at hb; simp [hb]) ⟨blk, arr, Tt, updM_same _ _ _, hh, relL_m (fun k l (h : m1 k = some l) => by
        by_cases ek : k = n
        · subst ek; have := R1.fresh k hcl hn; rw [this] at h; cases h
        · rw [updM_other _ _ ek]; exact h) (by simpa using l1)⟩
    refine hK _ _ _ _ _ R' (by omega) T' (fun k l h => k' k l (k1 k l h)) (s1.trans (Slots.box _ _ _)) ⟨_, us', rfl, ⟨blk, updM_same _ _ _, rfl⟩, rfl, relL_m k' (relL_m k1 hL)⟩ (by omega)

theorem relV_mkV {C : Cx} {ag : Bool} {cs : List V} {us : List Value} {x : Value} (hg : relG ag x us) (hl : relL C cs us) : relV C (mkV ag cs) x := by
  cases ag
  · simp only [relG] at hg; subst hg
    cases cs with
    | nil => simp [relL] at hl
    | cons c r =>
      obtain ⟨v, r', e, h1, h2, h3⟩ := hl
      simp at e; obtain ⟨rfl, rfl⟩ := e
      cases r with
      | nil => exact relV_of_relC h1
      | cons d r => obtain ⟨_, _, e, _⟩ := h3; cases e
  · obtain ⟨arr, rfl, rfl⟩ := hg
    exact ⟨arr, rfl, hl⟩

theorem emTup_post {α : Type} {Q : α → Sm → Prop} : ∀ (ms : List MG) {x : tupDen ms} {n : Nat} {K : List V → Nat → Cmd α} {S : Sm} {m : Nat → Option Loc} {ch : Nat} {xs : List Value} {O T : List Nat}
    (R : Rel X cl ch S m ok a w) (hcl : cl ≤ n) (hT : Tk X S m ok w (O ++ T)) (h : relTup w.heap ok ms x xs O)
    (hK : ∀ S' m' vs n' ch', Rel X cl ch' S' m' ok a w → ch' ≤ max ch n' → Tk X S' m' ok w T → (∀ k l, m k = some l → m' k = some l) → Slots S S' → relVs ⟨w.heap, ok, m'⟩ vs xs → n ≤ n' → (K vs n').post S' Q),
    (emTup ms x n K).post S Q
  | [], x, n, K, S, m, ch, xs, O, T, R, hcl, hT, h, hK => by
    unfold emTup
    obtain ⟨rfl, rfl⟩ := h
    exact hK S m [] n ch R (Nat.le_max_left _ _) (by simpa using hT) (fun _ _ h => h) (Slots.refl _) rfl (Nat.le_refl _)
  | [md], x, n, K, S, m, ch, xs, O, T, R, hcl, hT, h, hK => by
    unfold emTup
    obtain ⟨v, cs, rfl, hg, hr⟩ := h
    refine emM_post md.2 (us' := []) R hcl hT hr rfl fun S1 m1 cs1 n1 ch1 R1 c1 T1 k1 s1 l1 e1 => ?_
    exact hK _ _ _ _ _ R1 c1 T1 k1 s1 ⟨v, [], rfl, relV_mkV hg (by simpa using l1), rfl⟩ e1
  | md :: md' :: r, x, n, K, S, m, ch, xs, O, T, R, hcl, hT, h, hK => by
    unfold emTup
    obtain ⟨v, cs, vs', O1, O2, rfl, rfl, hg, h1, h2⟩ := h
    refine emM_post md.2 (us' := []) R hcl (by simpa using hT) h1 rfl fun S1 m1 cs1 n1 ch1 R1 c1 T1 k1 s1 l1 e1 => ?_
    refine emTup_post (md' :: r) R1 (by omega) T1 h2 fun S2 m2 vs2 n2 ch2 R2 c2 T2 k2 s2 l2 e2 => ?_
    exact hK _ _ _ _ _ R2 (by omega) T2 (fun k l h => k2 k l (k1 k l h)) (s1.trans s2) ⟨v, vs', rfl, relV_mkV hg (relL_m k2 (by simpa using l1)), l2⟩ (by omega)

theorem setAll_post {Q : Unit → Sm → Prop} : ∀ (ns : List Nat) {vs : List V} {S : Sm} (R : Rel X cl ch S m ok a w) (hv : relVs ⟨w.heap, ok, m⟩ vs (ns.map fun n => a.tmps.getD n Go.undef))
    (hK : ∀ S', Rel X cl ch S' m ok a w → Q () S'), (setAll ns vs).post S Q
  | [], vs, S, R, hv, hK => by
    cases vs with
    | nil => exact hK S R
    | cons v vs => trivial
  | n :: ns, vs, S, R, hv, hK => by
    cases vs with
    | nil => trivial
    | cons v vs =>
      unfold setAll
      obtain ⟨x, r, e, h1, h2⟩ := hv
      simp only [List.map_cons, List.cons.injEq] at e
      obtain ⟨rfl, rfl⟩ := e
      cases hb : Nat.blt n BOX
      · trivial
      · simp only [cond_true]
        show Cmd.post _ (upd S n v) Q
        exact setAll_post ns (R.slotV (by rw [Nat.blt_eq] at hb; exact hb) h1) h2 hK

theorem emSig_post {sg : Sig} {x : sigDen sg} {nb lim : Nat} {Q : Unit → Sm → Prop} {O : List Nat} (R : Rel X cl ch S m ok a w) (hcl : cl ≤ nb) (hT : Tk X S m ok w O)
    (h : relTup w.heap ok (sg.map (·.2)) x ((sg.map (·.1)).map fun n => a.tmps.getD n Go.undef) O)
    (hK : ∀ S' m', Rel X cl (max ch lim) S' m' ok a w → (∀ k l, m k = some l → m' k = some l) → Q () S') : (emSig sg x nb lim).post S Q := by
  unfold emSig
  refine emTup_post (T := []) _ R hcl (by simpa using hT) h fun S1 m1 vs n1 ch1 R1 c1 T1 k1 s1 l1 e1 => ?_
  cases hb : Nat.ble n1 lim
  · trivial
  · simp only [cond_true]
    have : n1 ≤ lim := Nat.le_of_ble_eq_true hb
    exact setAll_post _ (R1.chmono (ch' := max ch lim) (by omega)) l1 fun S' R' => hK S' m1 R' k1
end
end Go.GP
