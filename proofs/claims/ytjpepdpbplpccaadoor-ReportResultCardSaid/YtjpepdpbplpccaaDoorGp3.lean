import Derived.Test.YtjpepdpbplpccaaDoorGp2
/- A STATE OF THE PURE RUN AND A WORLD OF THE MODEL: what it is that they agree, and how it is kept. -/
namespace Go.GP
set_option linter.unusedVariables false
set_option linter.unusedSimpArgs false

structure Fx where
  P : Program
  E : Env
  w0 : World
  O : List Nat
  ok0 : Nat → Prop

structure Frame' (w0 w : World) (O : List Nat) : Prop where
  os : w.os = w0.os
  tape : w.tape = w0.tape
  output : w.output = w0.output
  size : w0.heap.size ≤ w.heap.size
  block : ∀ b, b < w0.heap.size → b ∉ O → w.heap[b]? = w0.heap[b]?
theorem Frame'.refl (w : World) (O : List Nat) : Frame' w w O := ⟨rfl, rfl, rfl, Nat.le_refl _, fun _ _ _ => rfl⟩

def GlLen (h : Array Obj) (g n : Nat) : Prop := ∃ c T f, h[g]? = some (.cells c T f) ∧ c.size = n
def GlOk (C : Cx) (g : Nat) (t : Ty) (xs : List t.den) : Prop :=
  C.ok g ∧ GlLen C.h g (xs.length * t.size) ∧ ∀ i x, xs[i]? = some x → ∃ es, cellsAt C.h g (i * t.size) t.size = some es ∧ rep C.h C.ok t x es

structure Rel (X : Fx) (cl ch : Nat) (S : Sm) (m : Nat → Option Loc) (ok : Nat → Prop) (a : Act) (w : World) : Prop where
  size : a.tmps.size = X.E.nt
  nodef : a.defers = []
  slot : ∀ n, n < BOX → relV ⟨w.heap, ok, m⟩ (S n) (a.tmps.getD n Go.undef)
  box : ∀ n, relB ⟨w.heap, ok, m⟩ n (S (BOX + n))
  inj : ∀ n n' b, ownB m n (S (BOX + n)) = some b → ownB m n' (S (BOX + n')) = some b → n = n'
  sep : ∀ n b, ownB m n (S (BOX + n)) = some b → ¬ ok b ∧ b < w.heap.size ∧ (X.w0.heap.size ≤ b ∨ b ∈ X.O)
  okLt : ∀ b, ok b → b < w.heap.size
  okIn : ∀ b, X.ok0 b → ok b
  okOut : ∀ b, ok b → X.ok0 b ∨ X.w0.heap.size ≤ b ∨ b ∈ X.O
  frame : Frame' X.w0 w X.O
  fresh : ∀ n, cl ≤ n → S (BOX + n) = .undef → m n = none
  strict : ∀ n, ch ≤ n → m n = none
  gl : ∀ g u, assoc X.E.gl g = some u → GlOk ⟨w.heap, ok, m⟩ g u.1 u.2

def updM (m : Nat → Option Loc) (n : Nat) (l : Loc) : Nat → Option Loc := fun k => if k = n then some l else m k
@[simp] theorem updM_same (m : Nat → Option Loc) (n : Nat) (l : Loc) : updM m n l n = some l := by simp [updM]
theorem updM_other (m : Nat → Option Loc) {n k : Nat} (l : Loc) (h : k ≠ n) : updM m n l k = m k := by simp [updM, h]

theorem getD_set_same {tmps : Array Value} {d : Nat} (h : d < tmps.size) (x e : Value) : (tmps.setIfInBounds d x).getD d e = x := by
  simp [Array.getD, h]
theorem getD_set_other {tmps : Array Value} {d n : Nat} (h : n ≠ d) (x e : Value) : (tmps.setIfInBounds d x).getD n e = tmps.getD n e := by
  simp only [Array.getD_eq_getD_getElem?]
  rw [Array.getElem?_setIfInBounds]
  simp [Ne.symm h]

section
variable {X : Fx} {cl ch : Nat} {S : Sm} {m : Nat → Option Loc} {ok : Nat → Prop} {a : Act} {w : World}

/-- what is changed at a place of a temporary -/
theorem Rel.put (R : Rel X cl ch S m ok a w) (hnt : X.E.nt ≤ BOX) {d : Nat} {v : V} {x : Value} (hd : d < X.E.nt) (hv : relV ⟨w.heap, ok, m⟩ v x) :
    Rel X cl ch (upd S d v) m ok (a.put (some d) x) w := by
  have hb : ∀ n, upd S d v (BOX + n) = S (BOX + n) := fun n => upd_other _ _ (by omega)
  refine { R with size := (by simp [Act.put, R.size]), nodef := (by simp [Act.put, R.nodef]), slot := fun n hn => ?_, box := fun n => (by rw [hb]; exact R.box n), inj := fun n n' b => (by rw [hb, hb]; exact R.inj n n' b), sep := fun n b => (by rw [hb]; exact R.sep n b), fresh := fun n h1 h2 => R.fresh n h1 (by rwa [hb] at h2) }
  by_cases e : n = d
  · subst e
    simp only [upd_same, Act.put]
    rw [getD_set_same (by rw [R.size]; exact hd)]; exact hv
  · rw [upd_other _ _ e]
    simp only [Act.put]
    rw [getD_set_other e]; exact R.slot n hn

/-- a slot's value in the pure state may be replaced by another that stands for the same -/
theorem Rel.slotV (R : Rel X cl ch S m ok a w) {d : Nat} {v : V} (hd : d < BOX) (hv : relV ⟨w.heap, ok, m⟩ v (a.tmps.getD d Go.undef)) :
    Rel X cl ch (upd S d v) m ok a w := by
  have hb : ∀ n, upd S d v (BOX + n) = S (BOX + n) := fun n => upd_other _ _ (by omega)
  refine { R with slot := fun n hn => ?_, box := fun n => (by rw [hb]; exact R.box n), inj := fun n n' b => (by rw [hb, hb]; exact R.inj n n' b), sep := fun n b => (by rw [hb]; exact R.sep n b), fresh := fun n h1 h2 => R.fresh n h1 (by rwa [hb] at h2) }
  by_cases e : n = d
  · subst e; simp only [upd_same]; exact hv
  · rw [upd_other _ _ e]; exact R.slot n hn

/-- a world in which what the state speaks of is kept, and more may be data -/
theorem Rel.world (R : Rel X cl ch S m ok a w) {ok' : Nat → Prop} {w' : World} (hos : w'.os = w.os) (htp : w'.tape = w.tape) (hout : w'.output = w.output) (hsz : w.heap.size ≤ w'.heap.size)
    (hkeep : ∀ b, b < w.heap.size → (ok b ∨ (∃ n, ownB m n (S (BOX + n)) = some b) ∨ ¬ (X.w0.heap.size ≤ b ∨ b ∈ X.O)) → w'.heap[b]? = w.heap[b]?)
    (hok : ∀ b, ok b → ok' b) (hok' : ∀ b, ok' b → b < w'.heap.size ∧ (ok b ∨ ((X.w0.heap.size ≤ b ∨ b ∈ X.O) ∧ ∀ n, ownB m n (S (BOX + n)) ≠ some b))) :
    Rel X cl ch S m ok' a w' := by
  have hle : Cx.le ⟨w.heap, ok, m⟩ ⟨w'.heap, ok', m⟩ := ⟨hok, fun b hb => hkeep b (R.okLt b hb) (.inl hb), fun _ _ h => h⟩
  refine { size := R.size, nodef := R.nodef, inj := R.inj, fresh := R.fresh, strict := R.strict, slot := fun n hn => relV_le hle (R.slot n hn), box := fun n => relB_le hle (fun b hb => hkeep b (R.sep n b hb).2.1 (.inr (.inl ⟨n, hb⟩))) (R.box n),
           sep := fun n b hb => ?_, okLt := fun b hb => (hok' b hb).1, okIn := fun b hb => hok b (R.okIn b hb), okOut := fun b hb => ?_, frame := ?_, gl := fun g u hg => ?_ }
  · obtain ⟨h1, h2, h3⟩ := R.sep n b hb
    refine ⟨fun h => ?_, by omega, h3⟩
    rcases (hok' b h).2 with h | ⟨_, h⟩
    · exact h1 h
    · exact h n hb
  · rcases (hok' b hb).2 with h | ⟨h, _⟩
    · exact R.okOut b h
    · exact .inr h
  · obtain ⟨f1, f2, f3, f4, f5⟩ := R.frame
    refine ⟨hos.trans f1, htp.trans f2, hout.trans f3, by omega, fun b hb hO => ?_⟩
    rw [hkeep b (by omega) (.inr (.inr (by simp [hO]; omega)))]
    exact f5 b hb hO
  · obtain ⟨h1, h3, h2⟩ := R.gl g u hg
    refine ⟨hok _ h1, by (unfold GlLen at h3 ⊢; have e := hle.h _ h1; simp only at e h3 ⊢; rw [e]; exact h3), fun i x hi => ?_⟩
    obtain ⟨es, he, hr⟩ := h2 i x hi
    exact ⟨es, by rw [cellsAt_congr (hle.h _ h1)]; exact he, rep_mono hle.ok hle.h hr⟩

/-- a draw, or anything that leaves the heap alone -/
theorem Rel.same (R : Rel X cl ch S m ok a w) {w' : World} (hos : w'.os = w.os) (htp : w'.tape = w.tape) (hout : w'.output = w.output) (hh : w'.heap = w.heap) : Rel X cl ch S m ok a w' := by
  refine R.world hos htp hout (by rw [hh]; exact Nat.le_refl _) (fun b _ _ => by rw [hh]) (fun _ h => h) (fun b h => ⟨by rw [hh]; exact R.okLt b h, .inl h⟩)

/-- a box is given up -/
theorem Rel.kill (R : Rel X cl ch S m ok a w) (n : Nat) : Rel X cl ch (upd S (BOX + n) .dead) m ok a w := by
  have ho : ∀ k b, ownB m k (upd S (BOX + n) .dead (BOX + k)) = some b → k ≠ n ∧ ownB m k (S (BOX + k)) = some b := fun k b h => by
    by_cases e : k = n
    · subst e; simp [ownB] at h
    · rw [upd_other _ _ (by omega)] at h; exact ⟨e, h⟩
  refine { R with slot := fun k hk => (by rw [upd_other _ _ (by omega)]; exact R.slot k hk), box := fun k => ?_, inj := fun k k' b h h' => R.inj k k' b (ho _ _ h).2 (ho _ _ h').2, sep := fun k b h => R.sep k b (ho _ _ h).2, fresh := fun k h1 h2 => ?_ }
  · by_cases e : k = n
    · subst e; simp [relB]
    · rw [upd_other _ _ (by omega)]; exact R.box k
  · by_cases e : k = n
    · subst e; simp at h2
    · rw [upd_other _ _ (by omega)] at h2; exact R.fresh k h1 h2

/-- a new name for a box; the world may have changed at the box's own block, and grown -/
theorem Rel.lay (R : Rel X cl ch S m ok a w) {n : Nat} {l : Loc} {v : V} {w' : World} (hn : S (BOX + n) = .undef) (hcl : cl ≤ n) (hch : n < ch) (hv : v ≠ .undef)
    (hos : w'.os = w.os) (htp : w'.tape = w.tape) (hout : w'.output = w.output) (hsz : w.heap.size ≤ w'.heap.size)
    (hkeep : ∀ b, b < w.heap.size → ownB (updM m n l) n v ≠ some b → w'.heap[b]? = w.heap[b]?)
    (hfree : ∀ b, ownB (updM m n l) n v = some b → ¬ ok b ∧ b < w'.heap.size ∧ (X.w0.heap.size ≤ b ∨ b ∈ X.O) ∧ ∀ k, ownB m k (S (BOX + k)) ≠ some b)
    (hB : relB ⟨w'.heap, ok, updM m n l⟩ n v) : Rel X cl ch (upd S (BOX + n) v) (updM m n l) ok a w' := by
  have hm : m n = none := R.fresh n hcl hn
  have hR : Rel X cl ch S m ok a w' := by
    refine R.world hos htp hout hsz (fun b hb h => ?_) (fun _ h => h) (fun b h => ⟨by have := R.okLt b h; omega, .inl h⟩)
    refine hkeep b hb (fun e => ?_)
    obtain ⟨h1, h2, h3, h4⟩ := hfree b e
    rcases h with h | ⟨k, h⟩ | h
    · exact h1 h
    · exact h4 k h
    · exact h h3
  have hle : Cx.le ⟨w'.heap, ok, m⟩ ⟨w'.heap, ok, updM m n l⟩ := ⟨fun _ h => h, fun _ _ => rfl, fun k x h => by
    by_cases e : k = n
    · subst e; simp [hm] at h
    · show updM m n l k = some x; rw [updM_other _ _ e]; exact h⟩
  have hob : ∀ k, k ≠ n → ownB (updM m n l) k (upd S (BOX + n) v (BOX + k)) = ownB m k (S (BOX + k)) := fun k e => by
    rw [upd_other _ _ (by omega)]; simp [ownB, updM_other _ _ e]
  have hobn : ownB (updM m n l) n (upd S (BOX + n) v (BOX + n)) = ownB (updM m n l) n v := by rw [upd_same]
  refine { size := hR.size, nodef := hR.nodef, okLt := hR.okLt, okIn := hR.okIn, okOut := hR.okOut, frame := hR.frame,
           slot := fun k hk => (by rw [upd_other _ _ (by omega)]; exact relV_le hle (hR.slot k hk)), box := fun k => ?_, inj := fun k k' b h h' => ?_, sep := fun k b h => ?_,
           fresh := fun k h1 h2 => ?_, strict := fun k h => ?_, gl := fun g u hg => ?_ }
  · by_cases e : k = n
    · subst e; rw [upd_same]; exact hB
    · rw [upd_other _ _ (by omega)]
      refine relB_le hle (fun b hb => rfl) (hR.box k)
  · by_cases e : k = n
    · by_cases e' : k' = n
      · rw [e, e']
      · subst e
        rw [hobn] at h; rw [hob k' e'] at h'
        exact absurd h' ((hfree b h).2.2.2 k')
    · by_cases e' : k' = n
      · subst e'
        rw [hobn] at h'; rw [hob k e] at h
        exact absurd h ((hfree b h').2.2.2 k)
      · rw [hob k e] at h; rw [hob k' e'] at h'
        exact R.inj k k' b h h'
  · by_cases e : k = n
    · subst e; rw [hobn] at h
      obtain ⟨h1, h2, h3, _⟩ := hfree b h
      exact ⟨h1, h2, h3⟩
    · rw [hob k e] at h; exact hR.sep k b h
  · by_cases e : k = n
    · subst e; rw [upd_same] at h2; exact absurd h2 hv
    · rw [upd_other _ _ (by omega)] at h2
      rw [updM_other _ _ e]; exact R.fresh k h1 h2
  · have e : k ≠ n := by omega
    rw [updM_other _ _ e]; exact R.strict k h
  · obtain ⟨h1, h2⟩ := hR.gl g u hg
    exact ⟨h1, h2⟩

/-- a box's contents are changed, in its own block -/
theorem Rel.mod (R : Rel X cl ch S m ok a w) {n : Nat} {v : V} {w' : World} {b0 : Nat} (ho : ownB m n (S (BOX + n)) = some b0) (ho' : ownB m n v = some b0) (hv : v ≠ .undef)
    (hos : w'.os = w.os) (htp : w'.tape = w.tape) (hout : w'.output = w.output) (hsz : w'.heap.size = w.heap.size)
    (hkeep : ∀ b, b ≠ b0 → w'.heap[b]? = w.heap[b]?) (hB : relB ⟨w'.heap, ok, m⟩ n v) : Rel X cl ch (upd S (BOX + n) v) m ok a w' := by
  have hsep := R.sep n b0 ho
  have hle : Cx.le ⟨w.heap, ok, m⟩ ⟨w'.heap, ok, m⟩ := ⟨fun _ h => h, fun b hb => hkeep b (fun e => hsep.1 (e ▸ hb)), fun _ _ h => h⟩
  have hob : ∀ k, ownB m k (upd S (BOX + n) v (BOX + k)) = ownB m k (S (BOX + k)) := fun k => by
    by_cases e : k = n
    · subst e; rw [upd_same, ho, ho']
    · rw [upd_other _ _ (by omega)]
  refine { size := R.size, nodef := R.nodef, okLt := fun b hb => (by rw [hsz]; exact R.okLt b hb), okIn := R.okIn, okOut := R.okOut, strict := R.strict,
           slot := fun k hk => (by rw [upd_other _ _ (by omega)]; exact relV_le hle (R.slot k hk)), box := fun k => ?_, inj := fun k k' b h h' => ?_, sep := fun k b h => ?_,
           fresh := fun k h1 h2 => ?_, frame := ?_, gl := fun g u hg => ?_ }
  · by_cases e : k = n
    · subst e; rw [upd_same]; exact hB
    · rw [upd_other _ _ (by omega)]
      refine relB_le hle (fun b hb => hkeep b (fun e' => ?_)) (R.box k)
      subst e'; exact e (R.inj k n b hb ho)
  · rw [hob] at h h'; exact R.inj k k' b h h'
  · rw [hob] at h; obtain ⟨h1, h2, h3⟩ := R.sep k b h; exact ⟨h1, by rw [hsz]; exact h2, h3⟩
  · obtain ⟨f1, f2, f3, f4, f5⟩ := R.frame
    refine ⟨hos.trans f1, htp.trans f2, hout.trans f3, by rw [hsz]; exact f4, fun b hb hO => ?_⟩
    rw [hkeep b (fun e => ?_)]
    · exact f5 b hb hO
    · subst e
      rcases hsep.2.2 with h | h
      · omega
      · exact hO h
  · by_cases e : k = n
    · subst e; rw [upd_same] at h2; exact absurd h2 hv
    · rw [upd_other _ _ (by omega)] at h2; exact R.fresh k h1 h2
  · obtain ⟨h1, h3, h2⟩ := R.gl g u hg
    refine ⟨h1, by (unfold GlLen at h3 ⊢; have e := hle.h _ h1; simp only at e h3 ⊢; rw [e]; exact h3), fun i x hi => ?_⟩
    obtain ⟨es, he, hr⟩ := h2 i x hi
    exact ⟨es, by rw [cellsAt_congr (hle.h _ h1)]; exact he, rep_mono hle.ok hle.h hr⟩

def okB (ok : Nat → Prop) : Loc → Nat → Prop
  | .arr blk _ _ _ _, b => ok b ∨ b = blk
  | _, b => ok b

/-- an own slice becomes data for good -/
theorem Rel.freeze (R : Rel X cl ch S m ok a w) {n : Nat} {t : Ty} {xs : List t.den} (hS : S (BOX + n) = .barr t xs) {l : Loc} (hl : m n = some l) :
    Rel X cl ch (upd S (BOX + n) (.bfrz t xs)) m (okB ok l) a w := by
  have hmono : ∀ b, ok b → okB ok l b := fun b h => by cases l <;> simp [okB, h]
  have hob : ∀ k b, ownB m k (upd S (BOX + n) (.bfrz t xs) (BOX + k)) = some b → k ≠ n ∧ ownB m k (S (BOX + k)) = some b := fun k b h => by
    by_cases e : k = n
    · subst e; simp [ownB] at h
    · rw [upd_other _ _ (by omega)] at h; exact ⟨e, h⟩
  have hnew : ∀ b, okB ok l b → ok b ∨ ownB m n (S (BOX + n)) = some b := fun b h => by
    cases l with
    | nil => exact .inl h
    | st _ => exact .inl h
    | arr blk off len cap sz =>
      rcases h with h | rfl
      · exact .inl h
      · right; simp [ownB, hS, hl]
  have hle : Cx.le ⟨w.heap, ok, m⟩ ⟨w.heap, okB ok l, m⟩ := ⟨hmono, fun _ _ => rfl, fun _ _ h => h⟩
  refine { size := R.size, nodef := R.nodef, strict := R.strict, frame := R.frame, okIn := fun b h => hmono b (R.okIn b h),
           slot := fun k hk => (by rw [upd_other _ _ (by omega)]; exact relV_le hle (R.slot k hk)), box := fun k => ?_, inj := fun k k' b h h' => R.inj k k' b (hob _ _ h).2 (hob _ _ h').2, sep := fun k b h => ?_,
           okLt := fun b h => ?_, okOut := fun b h => ?_, fresh := fun k h1 h2 => ?_, gl := fun g u hg => ?_ }
  · by_cases e : k = n
    · subst e; rw [upd_same]
      have hb := R.box k
      rw [hS] at hb
      obtain ⟨l', hm', ha⟩ := hb
      simp only [hl, Option.some.injEq] at hm'
      subst hm'
      refine ⟨l, hl, arrOk_le hle (fun _ _ _ _ _ _ => rfl) ha, ?_⟩
      rintro blk off len cap sz rfl
      exact .inr rfl
    · rw [upd_other _ _ (by omega)]
      exact relB_le hle (fun b hb => rfl) (R.box k)
  · obtain ⟨e, h⟩ := hob k b h
    obtain ⟨h1, h2, h3⟩ := R.sep k b h
    refine ⟨fun h' => ?_, h2, h3⟩
    rcases hnew b h' with h' | h'
    · exact h1 h'
    · exact e (R.inj k n b h h')
  · rcases hnew b h with h | h
    · exact R.okLt b h
    · exact (R.sep n b h).2.1
  · rcases hnew b h with h | h
    · exact R.okOut b h
    · exact .inr (R.sep n b h).2.2
  · by_cases e : k = n
    · subst e; simp at h2
    · rw [upd_other _ _ (by omega)] at h2; exact R.fresh k h1 h2
  · obtain ⟨h1, h3, h2⟩ := R.gl g u hg
    refine ⟨hmono _ h1, h3, fun i x hi => ?_⟩
    obtain ⟨es, he, hr⟩ := h2 i x hi
    exact ⟨es, he, rep_mono hle.ok hle.h hr⟩

/-- a frozen slice anew: nothing changes -/
theorem Rel.refrz (R : Rel X cl ch S m ok a w) {n : Nat} {v : V} (hS : S (BOX + n) = v) : Rel X cl ch (upd S (BOX + n) v) m ok a w := by
  have : upd S (BOX + n) v = S := by funext k; by_cases e : k = BOX + n; · subst e; simp [hS]
                                     · rw [upd_other _ _ e]
  rw [this]; exact R

end
end Go.GP
