import Derived.Test.YtjpepdpbplpccaaDoorGp3
/- BORDERS: data taken out of a state, and laid into one. -/
namespace Go.GP
set_option linter.unusedVariables false
set_option linter.unusedSimpArgs false

def Loc.blks : Loc → List Nat
  | .nil => []
  | .arr b _ _ _ _ => [b]
  | .st b => [b]
def viewLoc : Loc → Option (Nat × Nat) → Loc
  | .arr blk off len cap sz, some (lo, hi) => if cap = lo then .arr blk off 0 0 sz else .arr blk (off + lo * sz) (hi - lo) (cap - lo) sz
  | l, _ => l
theorem arrOk_view {C : Cx} {t : Ty} {xs : List t.den} {l : Loc} {vw : Option (Nat × Nat)} {v : Value} (ha : arrOk C t xs l) (hv : l.view vw v) :
    arrOk C t (viewOf vw xs) (viewLoc l vw) ∧ (viewLoc l vw).view none v ∧ (viewLoc l vw).blks = l.blks := by
  cases l with
  | st b => cases ha
  | nil =>
    simp only [arrOk] at ha; subst ha
    cases vw with
    | none => exact ⟨rfl, hv, rfl⟩
    | some p => obtain ⟨lo, hi⟩ := p; obtain ⟨rfl, rfl, rfl⟩ := hv; exact ⟨rfl, rfl, rfl⟩
  | arr blk off len cap sz =>
    cases vw with
    | none => exact ⟨ha, hv, rfl⟩
    | some p =>
      obtain ⟨lo, hi⟩ := p
      obtain ⟨rfl, rfl, hc, c, T, hh, hs, hx⟩ := ha
      obtain ⟨h1, h2, rfl⟩ := hv
      have hl : (viewOf (some (lo, hi)) xs).length = hi - lo := by simp [viewOf, lview]; omega
      by_cases e : cap = lo
      · subst e
        have e2 : hi = cap := by omega
        subst e2
        simp only [viewLoc, if_true, Loc.view, Nat.sub_self]
        refine ⟨⟨rfl, by rw [hl]; omega, Nat.le_refl _, c, T, hh, ?_, fun i x hi => ?_⟩, trivial, rfl⟩
        · have := Nat.zero_le (hi * t.size); omega
        · have : i < 0 := by
            have := (List.getElem?_eq_some_iff.1 hi).1; rw [hl] at this; omega
          omega
      · simp only [viewLoc, e, if_false, Loc.view]
        refine ⟨⟨rfl, by rw [hl], by omega, c, T, hh, ?_, fun i x hix => ?_⟩, trivial, rfl⟩
        · have : off + lo * t.size + (cap - lo) * t.size = off + cap * t.size := by
            rw [Nat.add_assoc, ← Nat.add_mul]; congr 2; omega
          rw [this]; exact hs
        · have hi' : i < hi - lo := by rw [← hl]; exact (List.getElem?_eq_some_iff.1 hix).1
          have hx' : xs[lo + i]? = some x := by
            simp only [viewOf, lview, List.getElem?_drop, List.getElem?_take] at hix
            split at hix
            · exact hix
            · cases hix
          obtain ⟨es, he, hr⟩ := hx _ x hx'
          refine ⟨es, ?_, hr⟩
          rw [← he]; congr 1; rw [Nat.add_mul]; omega

def relM (h : Array Obj) (ok : Nat → Prop) : (m : M) → m.den → List Value → List Nat → Prop
  | .dat t, x, cs, O => rep h ok t x cs ∧ O = []
  | .own t, xs, cs, O => ∃ l v, cs = [v] ∧ l.view none v ∧ arrOk ⟨h, ok, fun _ => none⟩ t xs l ∧ O = l.blks
  | .pair a b, x, cs, O => ∃ c d O1 O2, cs = c ++ d ∧ O = O1 ++ O2 ∧ relM h ok a x.1 c O1 ∧ relM h ok b x.2 d O2
  | .unit, _, cs, O => cs = [] ∧ O = []
  | .box m, x, cs, O => ∃ blk arr T O', cs = [.pointer (some ⟨blk, 0, none⟩)] ∧ h[blk]? = some (.cells arr T (0, 0)) ∧ relM h ok m x arr.toList O' ∧ O = blk :: O'

def relG (ag : Bool) (v : Value) (cs : List Value) : Prop := match ag with
  | true => ∃ arr, v = .agg arr ∧ arr.toList = cs
  | false => cs = [v]
def relTup (h : Array Obj) (ok : Nat → Prop) : (ms : List MG) → tupDen ms → List Value → List Nat → Prop
  | [], _, vs, O => vs = [] ∧ O = []
  | [m], x, vs, O => ∃ v cs, vs = [v] ∧ relG m.1 v cs ∧ relM h ok m.2 x cs O
  | m :: m' :: r, x, vs, O => ∃ v cs vs' O1 O2, vs = v :: vs' ∧ O = O1 ++ O2 ∧ relG m.1 v cs ∧ relM h ok m.2 x.1 cs O1 ∧ relTup h ok (m' :: r) x.2 vs' O2

theorem view_one {l : Loc} {vw : Option (Nat × Nat)} {v : Value} (h : l.view vw v) : v.oneCell' = true := by
  cases l <;> rcases vw with _ | ⟨lo, hi⟩ <;> simp only [Loc.view] at h
  · subst h; rfl
  · obtain ⟨_, _, rfl⟩ := h; rfl
  · subst h; rfl
  · obtain ⟨_, _, rfl⟩ := h; rfl

theorem relM_one {h : Array Obj} {ok : Nat → Prop} : ∀ {m : M} {x : m.den} {cs : List Value} {O : List Nat}, relM h ok m x cs O → ∀ v ∈ cs, v.oneCell' = true
  | .dat t, _, _, _, e => rep_oneCell e.1
  | .own t, _, _, _, ⟨l, v, e, hv, _⟩ => by subst e; simp [view_one hv]
  | .pair a b, _, _, _, ⟨c, d, _, _, e, _, h1, h2⟩ => by
    subst e; intro v hv
    rcases List.mem_append.1 hv with hv | hv
    · exact relM_one h1 v hv
    · exact relM_one h2 v hv
  | .unit, _, _, _, ⟨e, _⟩ => by subst e; simp
  | .box m, _, _, _, ⟨_, _, _, _, e, _⟩ => by subst e; simp [Value.oneCell']

theorem arrOk_mono {h h' : Array Obj} {ok ok' : Nat → Prop} {m m' : Nat → Option Loc} {t : Ty} {xs : List t.den} {l : Loc} (hok : ∀ b, ok b → ok' b) (hh : ∀ b, ok b → h'[b]? = h[b]?)
    (hb : ∀ b ∈ l.blks, h'[b]? = h[b]?) (hr : arrOk ⟨h, ok, m⟩ t xs l) : arrOk ⟨h', ok', m'⟩ t xs l := by
  cases l with
  | nil => exact hr
  | st b => exact hr
  | arr blk off len cap sz =>
    have e := hb blk (by simp [Loc.blks])
    obtain ⟨h1, h2, h3, c, T, h4, h5, h6⟩ := hr
    refine ⟨h1, h2, h3, c, T, by show h'[blk]? = _; rw [e]; exact h4, h5, fun i x hi => ?_⟩
    obtain ⟨es, he, hp⟩ := h6 i x hi
    exact ⟨es, by show cellsAt h' _ _ _ = _; rw [cellsAt_congr e]; exact he, rep_mono hok hh hp⟩

theorem relM_mono {h h' : Array Obj} {ok ok' : Nat → Prop} (hok : ∀ b, ok b → ok' b) (hh : ∀ b, ok b → h'[b]? = h[b]?) :
    ∀ {m : M} {x : m.den} {cs : List Value} {O : List Nat}, (∀ b ∈ O, h'[b]? = h[b]?) → relM h ok m x cs O → relM h' ok' m x cs O
  | .dat t, _, _, _, _, e => ⟨rep_mono hok hh e.1, e.2⟩
  | .own t, _, _, _, hb, ⟨l, v, e, hv, ha, ho⟩ => ⟨l, v, e, hv, arrOk_mono hok hh (by subst ho; exact hb) ha, ho⟩
  | .pair a b, _, _, _, hb, ⟨c, d, O1, O2, e, eo, h1, h2⟩ => by
    subst eo
    exact ⟨c, d, O1, O2, e, rfl, relM_mono hok hh (fun b h => hb b (by simp [h])) h1, relM_mono hok hh (fun b h => hb b (by simp [h])) h2⟩
  | .unit, _, _, _, _, e => e
  | .box m, _, _, _, hb, ⟨blk, arr, T, O', e, hh', hr, eo⟩ => by
    subst eo
    exact ⟨blk, arr, T, O', e, by rw [hb blk (by simp)]; exact hh', relM_mono hok hh (fun b h => hb b (by simp [h])) hr, rfl⟩

theorem relTup_mono {h h' : Array Obj} {ok ok' : Nat → Prop} (hok : ∀ b, ok b → ok' b) (hh : ∀ b, ok b → h'[b]? = h[b]?) :
    ∀ {ms : List MG} {x : tupDen ms} {vs : List Value} {O : List Nat}, (∀ b ∈ O, h'[b]? = h[b]?) → relTup h ok ms x vs O → relTup h' ok' ms x vs O
  | [], _, _, _, _, e => e
  | [m], _, _, _, hb, ⟨v, cs, e, hg, hr⟩ => ⟨v, cs, e, hg, relM_mono hok hh hb hr⟩
  | m :: m' :: r, _, _, _, hb, ⟨v, cs, vs', O1, O2, e, eo, hg, h1, h2⟩ => by
    subst eo
    exact ⟨v, cs, vs', O1, O2, e, rfl, hg, relM_mono hok hh (fun b h => hb b (by simp [h])) h1, relTup_mono hok hh (fun b h => hb b (by simp [h])) h2⟩

/-- blocks that were taken: nobody else's -/
structure Tk (X : Fx) (S : Sm) (m : Nat → Option Loc) (ok : Nat → Prop) (w : World) (T : List Nat) : Prop where
  nodup : T.Nodup
  free : ∀ b ∈ T, ¬ ok b ∧ b < w.heap.size ∧ (X.w0.heap.size ≤ b ∨ b ∈ X.O) ∧ ∀ n, ownB m n (S (BOX + n)) ≠ some b

theorem Tk.nil {X : Fx} {S : Sm} {m : Nat → Option Loc} {ok : Nat → Prop} {w : World} : Tk X S m ok w [] := ⟨List.nodup_nil, fun b h => by cases h⟩

section
variable {X : Fx} {cl ch : Nat} {S : Sm} {m : Nat → Option Loc} {ok : Nat → Prop} {a : Act} {w : World} {T : List Nat}

theorem ownB_kill {n k b : Nat} (h : ownB m k (upd S (BOX + n) .dead (BOX + k)) = some b) : k ≠ n ∧ ownB m k (S (BOX + k)) = some b := by
  by_cases e : k = n
  · subst e; simp [ownB] at h
  · rw [upd_other _ _ (by omega)] at h; exact ⟨e, h⟩
theorem ownB_frz {n k b : Nat} {t : Ty} {xs : List t.den} (h : ownB m k (upd S (BOX + n) (.bfrz t xs) (BOX + k)) = some b) : k ≠ n ∧ ownB m k (S (BOX + k)) = some b := by
  by_cases e : k = n
  · subst e; simp [ownB] at h
  · rw [upd_other _ _ (by omega)] at h; exact ⟨e, h⟩

theorem Tk.kill (R : Rel X cl ch S m ok a w) (h : Tk X S m ok w T) (n : Nat) {bs : List Nat} (hbs : ∀ b, b ∈ bs → ownB m n (S (BOX + n)) = some b) (hnd : bs.Nodup) :
    Tk X (upd S (BOX + n) .dead) m ok w (T ++ bs) := by
  refine ⟨List.nodup_append.2 ⟨h.nodup, hnd, fun x hx y hy e => ?_⟩, fun b hb => ?_⟩
  · subst e; exact (h.free x hx).2.2.2 n (hbs x hy)
  · rcases List.mem_append.1 hb with hb | hb
    · obtain ⟨h1, h2, h3, h4⟩ := h.free b hb
      exact ⟨h1, h2, h3, fun k e => h4 k (ownB_kill e).2⟩
    · obtain ⟨h1, h2, h3⟩ := R.sep n b (hbs b hb)
      exact ⟨h1, h2, h3, fun k e => (ownB_kill e).1 (R.inj k n b (ownB_kill e).2 (hbs b hb))⟩
theorem Tk.freeze (h : Tk X S m ok w T) {n : Nat} {t : Ty} {xs : List t.den} (hS : S (BOX + n) = .barr t xs) {l : Loc} (hl : m n = some l) :
    Tk X (upd S (BOX + n) (.bfrz t xs)) m (okB ok l) w T := by
  refine ⟨h.nodup, fun b hb => ?_⟩
  obtain ⟨h1, h2, h3, h4⟩ := h.free b hb
  refine ⟨fun e => ?_, h2, h3, fun k e => h4 k (ownB_frz e).2⟩
  cases l with
  | nil => exact h1 e
  | st _ => exact h1 e
  | arr blk off len cap sz =>
    rcases e with e | rfl
    · exact h1 e
    · exact h4 n (by simp [ownB, hS, hl])

theorem castL_post {α : Type} {Q : α → Sm → Prop} {p q : Ty} {xs : List p.den} {k : List q.den → Cmd α} {S : Sm}
    (h : ∀ e : p = q, (k (e ▸ xs)).post S Q) : (Ty.castL p q xs k .fail).post S Q := by
  unfold Ty.castL
  split
  · rename_i e; exact h e
  · trivial

theorem relL_ok {h : Array Obj} {ok ok' : Nat → Prop} {m : Nat → Option Loc} (k : ∀ b, ok b → ok' b) {cs : List V} {vs : List Value} (hr : relL ⟨h, ok, m⟩ cs vs) : relL ⟨h, ok', m⟩ cs vs :=
  relL_le (C := ⟨h, ok, m⟩) (D := ⟨h, ok', m⟩) ⟨k, fun _ _ => rfl, fun _ _ h => h⟩ hr
theorem relV_ok {h : Array Obj} {ok ok' : Nat → Prop} {m : Nat → Option Loc} (k : ∀ b, ok b → ok' b) {c : V} {v : Value} (hr : relV ⟨h, ok, m⟩ c v) : relV ⟨h, ok', m⟩ c v :=
  relV_le (C := ⟨h, ok, m⟩) (D := ⟨h, ok', m⟩) ⟨k, fun _ _ => rfl, fun _ _ h => h⟩ hr
theorem okB_le (l : Loc) : Cx.le ⟨w.heap, ok, m⟩ ⟨w.heap, okB ok l, m⟩ := ⟨fun b h => by cases l <;> simp [okB] <;> first | exact h | exact .inl h, fun _ _ => rfl, fun _ _ h => h⟩

/-- all that the state owns, and the data -/
def okAll (S : Sm) (m : Nat → Option Loc) (ok : Nat → Prop) : Nat → Prop := fun b => ok b ∨ ∃ n, ownB m n (S (BOX + n)) = some b

def Slots (S S' : Sm) : Prop := ∀ n, n < BOX → S' n = S n
theorem Slots.refl (S : Sm) : Slots S S := fun _ _ => rfl
theorem Slots.trans {A B C : Sm} (h : Slots A B) (k : Slots B C) : Slots A C := fun n hn => (k n hn).trans (h n hn)
theorem Slots.box (S : Sm) (n : Nat) (v : V) : Slots S (upd S (BOX + n) v) := fun k hk => upd_other _ _ (by omega)

theorem toData_false {α : Type} {Q : α → Sm → Prop} : ∀ (t : Ty) {cs : List V} {K : t.den → List V → Cmd α} {S : Sm} {ok : Nat → Prop} {vs : List Value} (R : Rel X cl ch S m ok a w) (hT : Tk X S m ok w T)
    (hL : relL ⟨w.heap, ok, m⟩ cs vs)
    (hK : ∀ S' ok' x r us us', Rel X cl ch S' m ok' a w → Tk X S' m ok' w T → (∀ b, ok b → ok' b) → Slots S S' → vs = us ++ us' → rep w.heap ok' t x us → relL ⟨w.heap, ok', m⟩ r us' → (K x r).post S' Q),
    (toData false t cs K).post S Q
  | .bool, cs, K, S, ok, vs, R, hT, hL, hK => by
    unfold toData
    split
    · obtain ⟨v, r, rfl, h1, _, h3⟩ := hL
      exact hK _ _ _ _ [v] r R hT (fun _ h => h) (Slots.refl _) rfl (by simp only [relC] at h1; simp [rep, h1]) h3
    · trivial
  | .int k, cs, K, S, ok, vs, R, hT, hL, hK => by
    unfold toData
    split
    · rename_i k' n r0
      obtain ⟨v, r, rfl, h1, _, h3⟩ := hL
      by_cases e : k = k'
      · subst e
        simp only [decide_true, cond_true]
        exact hK _ _ _ _ [v] r R hT (fun _ h => h) (Slots.refl _) rfl (by simp only [relC] at h1; simp [rep, h1]) h3
      · simp only [e, decide_false, cond_false]; trivial
    · trivial
  | .str, cs, K, S, ok, vs, R, hT, hL, hK => by
    unfold toData
    split
    · obtain ⟨v, r, rfl, h1, _, h3⟩ := hL
      exact hK _ _ _ _ [v] r R hT (fun _ h => h) (Slots.refl _) rfl (by simp only [relC] at h1; simp [rep, h1]) h3
    · trivial
  | .unit, cs, K, S, ok, vs, R, hT, hL, hK => by
    unfold toData
    exact hK _ _ _ _ [] vs R hT (fun _ h => h) (Slots.refl _) rfl rfl hL
  | .prod p q, cs, K, S, ok, vs, R, hT, hL, hK => by
    unfold toData
    refine toData_false p R hT hL fun S1 ok1 x r us us' R1 T1 k1 s1 e1 h1 l1 => ?_
    refine toData_false q R1 T1 l1 fun S2 ok2 y r' vs2 vs2' R2 T2 k2 s2 e2 h2 l2 => ?_
    subst e1; subst e2
    exact hK _ _ _ _ (us ++ vs2) vs2' R2 T2 (fun b h => k2 b (k1 b h)) (s1.trans s2) (by simp) ⟨us, vs2, rfl, rep_mono k2 (fun _ _ => rfl) h1, h2⟩ l2
  | .sl t, cs, K, S, ok, vs, R, hT, hL, hK => by
    unfold toData
    split
    · obtain ⟨v, r, rfl, h1, _, h3⟩ := hL
      simp only [relC] at h1; subst h1
      exact hK _ _ _ _ [_] r R hT (fun _ h => h) (Slots.refl _) rfl ⟨none, 0, rfl, Nat.le_refl _, fun i x hi => by simp at hi⟩ h3
    · rename_i t' xs r0
      obtain ⟨v, r, rfl, h1, _, h3⟩ := hL
      refine castL_post fun e => ?_
      subst e
      exact hK _ _ _ _ [v] r R hT (fun _ h => h) (Slots.refl _) rfl h1 h3
    · rename_i bx vw r0
      obtain ⟨v, r, rfl, h1, _, h3⟩ := hL
      obtain ⟨l, hm, hv⟩ := h1
      show Cmd.post (match S (BOX + bx) with | .barr t' xs => _ | .bfrz t' xs => _ | _ => _) S Q
      have hb := R.box bx
      split
      · rename_i t' xs hS
        rw [hS] at hb
        obtain ⟨l', hm', ha⟩ := hb
        simp only at hm hm'
        rw [hm] at hm'; cases hm'
        refine castL_post fun e => ?_
        subst e
        simp only [cond_false]
        show Cmd.post _ (upd S (BOX + bx) (.bfrz t' xs)) Q
        refine hK _ (okB ok l) _ _ [v] r (R.freeze hS hm) (hT.freeze hS hm) (fun b h => by cases l <;> simp [okB, h]) (Slots.box _ _ _) rfl ?_ (relL_le (okB_le l) h3)
        exact rep_of_arr (C := ⟨w.heap, ok, m⟩) ha hv (fun b h => by cases l <;> simp_all [okB]) (fun blk off len cap sz e => by subst e; exact .inr rfl)
      · rename_i t' xs hS
        rw [hS] at hb
        obtain ⟨l', hm', ha, hok⟩ := hb
        simp only at hm hm'
        rw [hm] at hm'; cases hm'
        refine castL_post fun e => ?_
        subst e
        exact hK _ _ _ _ [v] r R hT (fun _ h => h) (Slots.refl _) rfl (rep_of_arr (C := ⟨w.heap, ok, m⟩) ha hv (fun _ h => h) hok) h3
      · trivial
    · trivial

theorem toData_true {α : Type} {Q : α → Sm → Prop} {S : Sm} {ok : Nat → Prop} (R : Rel X cl ch S m ok a w) : ∀ (t : Ty) {cs : List V} {K : t.den → List V → Cmd α} {vs : List Value}
    (hL : relL ⟨w.heap, ok, m⟩ cs vs)
    (hK : ∀ x r us us', vs = us ++ us' → rep w.heap (okAll S m ok) t x us → relL ⟨w.heap, ok, m⟩ r us' → (K x r).post S Q),
    (toData true t cs K).post S Q
  | .bool, cs, K, vs, hL, hK => by
    unfold toData
    split
    · obtain ⟨v, r, rfl, h1, _, h3⟩ := hL
      exact hK _ _ [v] r rfl (by simp only [relC] at h1; simp [rep, h1]) h3
    · trivial
  | .int k, cs, K, vs, hL, hK => by
    unfold toData
    split
    · rename_i k' n r0
      obtain ⟨v, r, rfl, h1, _, h3⟩ := hL
      by_cases e : k = k'
      · subst e
        simp only [decide_true, cond_true]
        exact hK _ _ [v] r rfl (by simp only [relC] at h1; simp [rep, h1]) h3
      · simp only [e, decide_false, cond_false]; trivial
    · trivial
  | .str, cs, K, vs, hL, hK => by
    unfold toData
    split
    · obtain ⟨v, r, rfl, h1, _, h3⟩ := hL
      exact hK _ _ [v] r rfl (by simp only [relC] at h1; simp [rep, h1]) h3
    · trivial
  | .unit, cs, K, vs, hL, hK => by
    unfold toData
    exact hK _ _ [] vs rfl rfl hL
  | .prod p q, cs, K, vs, hL, hK => by
    unfold toData
    refine toData_true R p hL fun x r us us' e1 h1 l1 => ?_
    refine toData_true R q l1 fun y r' vs2 vs2' e2 h2 l2 => ?_
    subst e1; subst e2
    exact hK _ _ (us ++ vs2) vs2' (by simp) ⟨us, vs2, rfl, h1, h2⟩ l2
  | .sl t, cs, K, vs, hL, hK => by
    unfold toData
    split
    · obtain ⟨v, r, rfl, h1, _, h3⟩ := hL
      simp only [relC] at h1; subst h1
      exact hK _ _ [_] r rfl ⟨none, 0, rfl, Nat.le_refl _, fun i x hi => by simp at hi⟩ h3
    · rename_i t' xs r0
      obtain ⟨v, r, rfl, h1, _, h3⟩ := hL
      refine castL_post fun e => ?_
      subst e
      exact hK _ _ [v] r rfl (rep_mono (fun _ h => .inl h) (fun _ _ => rfl) h1) h3
    · rename_i bx vw r0
      obtain ⟨v, r, rfl, h1, _, h3⟩ := hL
      obtain ⟨l, hm, hv⟩ := h1
      show Cmd.post (match S (BOX + bx) with | .barr t' xs => _ | .bfrz t' xs => _ | _ => _) S Q
      have hb := R.box bx
      split
      · rename_i t' xs hS
        rw [hS] at hb
        obtain ⟨l', hm', ha⟩ := hb
        simp only at hm hm'
        rw [hm] at hm'; cases hm'
        refine castL_post fun e => ?_
        subst e
        simp only [cond_true]
        refine hK _ _ [v] r rfl ?_ h3
        refine rep_of_arr (C := ⟨w.heap, ok, m⟩) ha hv (fun b h => .inl h) (fun blk off len cap sz e => .inr ⟨bx, ?_⟩)
        subst e; simp [ownB, hS, hm]
      · rename_i t' xs hS
        rw [hS] at hb
        obtain ⟨l', hm', ha, hok⟩ := hb
        simp only at hm hm'
        rw [hm] at hm'; cases hm'
        refine castL_post fun e => ?_
        subst e
        exact hK _ _ [v] r rfl (rep_of_arr (C := ⟨w.heap, ok, m⟩) ha hv (fun _ h => .inl h) (fun blk off len cap sz e => .inl (hok _ _ _ _ _ e))) h3
      · trivial
    · trivial

theorem Loc.blks_nodup (l : Loc) : l.blks.Nodup := by cases l <;> simp [Loc.blks]

theorem exM_false {α : Type} {Q : α → Sm → Prop} : ∀ (md : M) {cs : List V} {K : md.den → List V → Cmd α} {S : Sm} {ok : Nat → Prop} {vs : List Value} {T : List Nat} (R : Rel X cl ch S m ok a w) (hT : Tk X S m ok w T)
    (hL : relL ⟨w.heap, ok, m⟩ cs vs)
    (hK : ∀ S' ok' x r us us' O, Rel X cl ch S' m ok' a w → Tk X S' m ok' w (T ++ O) → (∀ b, ok b → ok' b) → Slots S S' → vs = us ++ us' → relM w.heap ok' md x us O → relL ⟨w.heap, ok', m⟩ r us' → (K x r).post S' Q),
    (exM false md cs K).post S Q
  | .dat t, cs, K, S, ok, vs, T, R, hT, hL, hK => by
    unfold exM
    exact toData_false t R hT hL fun S' ok' x r us us' R' T' k s e h l => hK S' ok' x r us us' [] R' (by simpa using T') k s e ⟨h, rfl⟩ l
  | .own t, cs, K, S, ok, vs, T, R, hT, hL, hK => by
    unfold exM
    split
    · obtain ⟨v, r, rfl, h1, _, h3⟩ := hL
      simp only [relC] at h1; subst h1
      exact hK _ _ _ _ [_] r [] R (by simpa using hT) (fun _ h => h) (Slots.refl _) rfl ⟨.nil, _, rfl, rfl, rfl, rfl⟩ h3
    · rename_i bx vw r0
      obtain ⟨v, r, rfl, h1, _, h3⟩ := hL
      obtain ⟨l, hm, hv⟩ := h1
      show Cmd.post (match S (BOX + bx) with | .barr t' xs => _ | _ => _) S Q
      have hb := R.box bx
      split
      · rename_i t' xs hS
        rw [hS] at hb
        obtain ⟨l', hm', ha⟩ := hb
        simp only at hm hm'
        rw [hm] at hm'; cases hm'
        refine castL_post fun e => ?_
        subst e
        obtain ⟨a1, a2, a3⟩ := arrOk_view (C := ⟨w.heap, ok, m⟩) ha hv
        show Cmd.post _ (upd S (BOX + bx) .dead) Q
        refine hK _ ok _ _ [v] r (viewLoc l vw).blks (R.kill bx) ?_ (fun _ h => h) (Slots.box _ _ _) rfl ⟨_, v, rfl, a2, a1, rfl⟩ h3
        rw [a3]
        refine hT.kill R bx (fun b hb => ?_) (Loc.blks_nodup l)
        cases l with
        | nil => simp [Loc.blks] at hb
        | st _ => cases ha
        | arr blk off len cap sz => simp [Loc.blks] at hb; subst hb; simp [ownB, hS, hm]
      · trivial
    · trivial
  | .unit, cs, K, S, ok, vs, T, R, hT, hL, hK => by
    unfold exM
    exact hK _ _ _ _ [] vs [] R (by simpa using hT) (fun _ h => h) (Slots.refl _) rfl ⟨rfl, rfl⟩ hL
  | .pair p q, cs, K, S, ok, vs, T, R, hT, hL, hK => by
    unfold exM
    simp only [cond_false]
    refine exM_false p R hT hL fun S1 ok1 x r us us' O1 R1 T1 k1 s1 e1 h1 l1 => ?_
    refine exM_false q R1 T1 l1 fun S2 ok2 y r' vs2 vs2' O2 R2 T2 k2 s2 e2 h2 l2 => ?_
    subst e1; subst e2
    exact hK _ _ _ _ (us ++ vs2) vs2' (O1 ++ O2) R2 (by simpa using T2) (fun b h => k2 b (k1 b h)) (s1.trans s2) (by simp) ⟨us, vs2, O1, O2, rfl, rfl, relM_mono k2 (fun _ _ => rfl) (fun _ _ => rfl) h1, h2⟩ l2
  | .box md, cs, K, S, ok, vs, T, R, hT, hL, hK => by
    unfold exM
    simp only [cond_false]
    split
    · rename_i bx r0
      obtain ⟨v, r, rfl, h1, _, h3⟩ := hL
      obtain ⟨blk, hm, hv⟩ := h1
      show Cmd.post (match S (BOX + bx) with | .bcells bs => _ | _ => _) S Q
      have hb := R.box bx
      split
      · rename_i bs hS
        rw [hS] at hb
        obtain ⟨blk', arr, Ty', hm', hh, hl⟩ := hb
        simp only at hm hm' hv
        rw [hm] at hm'; cases hm'
        subst hv
        show Cmd.post _ (upd S (BOX + bx) .dead) Q
        have hT1 : Tk X (upd S (BOX + bx) .dead) m ok w (T ++ [blk]) := hT.kill R bx (fun b hb => by simp at hb; subst hb; simp [ownB, hS, hm]) (by simp)
        refine exM_false md (R.kill bx) hT1 hl fun S1 ok1 x q us us' O R1 T1 k1 s1 e1 h1 l1 => ?_
        cases q with
        | nil =>
          simp only [relL] at l1
          subst l1
          simp only [List.append_nil] at e1
          refine hK _ _ _ _ [_] r (blk :: O) R1 (by simpa using T1) k1 ((Slots.box _ _ _).trans s1) rfl ⟨blk, arr, Ty', O, rfl, hh, by rw [e1]; exact h1, rfl⟩ (relL_ok k1 h3)
        | cons c q => trivial
      · trivial
    · trivial

theorem exM_true {α : Type} {Q : α → Sm → Prop} {S : Sm} {ok : Nat → Prop} {T : List Nat} (R : Rel X cl ch S m ok a w) (hT : Tk X S m ok w T) (md : M) (hd : md.isDat = false) {cs : List V} {K : md.den → List V → Cmd α} {vs : List Value}
    (hL : relL ⟨w.heap, ok, m⟩ cs vs)
    (hK : ∀ S' x r us us' O, Rel X cl ch S' m ok a w → Tk X S' m ok w (T ++ O) → Slots S S' → vs = us ++ us' → relM w.heap ok md x us O → relL ⟨w.heap, ok, m⟩ r us' → (K x r).post S' Q) :
    (exM true md cs K).post S Q := by
  cases md with
  | dat t => simp [M.isDat] at hd
  | unit =>
    unfold exM
    exact hK _ _ _ [] vs [] R (by simpa using hT) (Slots.refl _) rfl ⟨rfl, rfl⟩ hL
  | pair p q => unfold exM; trivial
  | box p => unfold exM; trivial
  | own t =>
    unfold exM
    split
    · obtain ⟨v, r, rfl, h1, _, h3⟩ := hL
      simp only [relC] at h1; subst h1
      exact hK _ _ _ [_] r [] R (by simpa using hT) (Slots.refl _) rfl ⟨.nil, _, rfl, rfl, rfl, rfl⟩ h3
    · rename_i bx vw r0
      obtain ⟨v, r, rfl, h1, _, h3⟩ := hL
      obtain ⟨l, hm, hv⟩ := h1
      show Cmd.post (match S (BOX + bx) with | .barr t' xs => _ | _ => _) S Q
      have hb := R.box bx
      split
      · rename_i t' xs hS
        rw [hS] at hb
        obtain ⟨l', hm', ha⟩ := hb
        simp only at hm hm'
        rw [hm] at hm'; cases hm'
        refine castL_post fun e => ?_
        subst e
        obtain ⟨a1, a2, a3⟩ := arrOk_view (C := ⟨w.heap, ok, m⟩) ha hv
        show Cmd.post _ (upd S (BOX + bx) .dead) Q
        refine hK _ _ _ [v] r (viewLoc l vw).blks (R.kill bx) ?_ (Slots.box _ _ _) rfl ⟨_, v, rfl, a2, a1, rfl⟩ h3
        rw [a3]
        refine hT.kill R bx (fun b hb => ?_) (Loc.blks_nodup l)
        cases l with
        | nil => simp [Loc.blks] at hb
        | st _ => cases ha
        | arr blk off len cap sz => simp [Loc.blks] at hb; subst hb; simp [ownB, hS, hm]
      · trivial
    · trivial
end
end Go.GP
