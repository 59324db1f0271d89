import Derived.Test.YtjpepdpbplpccaaDoorGp19
/- THE PURE READING OF A CODE IS WHAT THE MODEL RUNS. -/
namespace Go.GP
set_option linter.unusedVariables false
set_option linter.unusedSimpArgs false

section
variable {X : Fx} {rt : Ret} {mE : Nat → Option Loc} {RetP : rt.den → Act → World → Prop}

def StOk (X : Fx) (q : Nat) (m : Nat → Option Loc) (s : St) (wr : Rgs) (s' : St) (w' : Rgs) (a : Act) (w : World) : Prop :=
  ∃ m' ok', Rel X (CB * q) (CB * q) (look s') m' ok' a w ∧ (∀ k l, m k = some l → m' k = some l) ∧ (∀ k, Wr wr k → Wr w' k) ∧ (∀ k, ¬ Wr w' k → look s' k = look s k)

def FlOk (X : Fx) (RetP : rt.den → Act → World → Prop) (q : Nat) (m : Nat → Option Loc) (s : St) (wr : Rgs) (fl : Flow rt.den) (s' : St) (w' : Rgs) (e : Exit) (a : Act) (w : World) : Prop :=
  match fl with
  | .nm => e = .normal ∧ StOk X q m s wr s' w' a w
  | .ex id => e = .exit id ∧ StOk X q m s wr s' w' a w
  | .rt x => e = .ret ∧ RetP x a w

def DPost (X : Fx) (RetP : rt.den → Act → World → Prop) (q : Nat) (m : Nat → Option Loc) (s : St) (wr : Rgs) {R : Type} (K : Flow rt.den → St → Rgs → Option R) (r : R) (e : Exit) (a : Act) (w : World) : Prop :=
  ∃ fl s' w', K fl s' w' = some r ∧ FlOk X RetP q m s wr fl s' w' e a w

structure DOk (X : Fx) (mE : Nat → Option Loc) (RetP : rt.den → Act → World → Prop) (D : Den rt.den) (c : Code) (n : Nat) : Prop where
  run : ∀ {q : Nat} {an : Ann} {s : St} {wr : Rgs} {R : Type} {K : Flow rt.den → St → Rgs → Option R} {r : R}, D q an s wr R K = some r →
    ∀ {m : Nat → Option Loc} {ok : Nat → Prop} {a : Act} {w : World}, Rel X (CB * q) (CB * q) (look s) m ok a w → (∀ k l, mE k = some l → m k = some l) →
      c.wp X.P (DPost X RetP (q + n) m s wr K r) a w

def RetHyp (X : Fx) (rt : Ret) (mE : Nat → Option Loc) (RetP : rt.den → Act → World → Prop) : Prop :=
  ∀ {s : St} {R : Type} {K : rt.den → Option R} {r : R}, (retC X.E rt).runK s ([], []) (fun x _ _ => K x) = some r →
    ∃ x, K x = some r ∧ ∀ {cl ch : Nat} {m : Nat → Option Loc} {ok : Nat → Prop} {a : Act} {w : World}, Rel X cl ch (look s) m ok a w → (∀ k l, mE k = some l → m k = some l) → RetP x a w

theorem cb_le {p q : Nat} (h : p ≤ q) : CB * p ≤ CB * q := Nat.mul_le_mul_left _ h
theorem Rel.upq {p q : Nat} {S : Sm} {m : Nat → Option Loc} {ok : Nat → Prop} {a : Act} {w : World} (R : Rel X (CB * p) (CB * p) S m ok a w) (h : p ≤ q) : Rel X (CB * q) (CB * q) S m ok a w :=
  (R.climb (cb_le h)).chmono (cb_le h)

theorem StOk.here {q q' : Nat} {m : Nat → Option Loc} {ok : Nat → Prop} {s : St} {wr : Rgs} {a : Act} {w : World} (R : Rel X (CB * q) (CB * q) (look s) m ok a w) (h : q ≤ q') : StOk X q' m s wr s wr a w :=
  ⟨m, ok, R.upq h, fun _ _ h => h, fun _ h => h, fun _ _ => rfl⟩
theorem StOk.up {q q' : Nat} {m : Nat → Option Loc} {s s' : St} {wr w' : Rgs} {a : Act} {w : World} (h : StOk X q m s wr s' w' a w) (hq : q ≤ q') : StOk X q' m s wr s' w' a w := by
  obtain ⟨m', ok', R, h1, h2, h3⟩ := h
  exact ⟨m', ok', R.upq hq, h1, h2, h3⟩
theorem StOk.trans {q q' : Nat} {m m1 : Nat → Option Loc} {s s1 s2 : St} {wr w1 w2 : Rgs} {a : Act} {w : World} (k1 : ∀ k l, m k = some l → m1 k = some l) (k2 : ∀ k, Wr wr k → Wr w1 k) (k3 : ∀ k, ¬ Wr w1 k → look s1 k = look s k)
    (h : StOk X q m1 s1 w1 s2 w2 a w) (hq : q ≤ q') : StOk X q' m s wr s2 w2 a w := by
  obtain ⟨m', ok', R, h1, h2, h3⟩ := h
  exact ⟨m', ok', R.upq hq, fun k l h => h1 k l (k1 k l h), fun k h => h2 k (k2 k h), fun k h => (h3 k h).trans (k3 k fun h' => h (h2 k h'))⟩
theorem FlOk.up {q q' : Nat} {m : Nat → Option Loc} {s s' : St} {wr w' : Rgs} {fl : Flow rt.den} {e : Exit} {a : Act} {w : World} (h : FlOk X RetP q m s wr fl s' w' e a w) (hq : q ≤ q') : FlOk X RetP q' m s wr fl s' w' e a w := by
  cases fl with
  | nm => exact ⟨h.1, h.2.up hq⟩
  | ex id => exact ⟨h.1, h.2.up hq⟩
  | rt x => exact h
theorem FlOk.trans {q q' : Nat} {m m1 : Nat → Option Loc} {s s1 s2 : St} {wr w1 w2 : Rgs} {fl : Flow rt.den} {e : Exit} {a : Act} {w : World} (k1 : ∀ k l, m k = some l → m1 k = some l) (k2 : ∀ k, Wr wr k → Wr w1 k) (k3 : ∀ k, ¬ Wr w1 k → look s1 k = look s k)
    (h : FlOk X RetP q m1 s1 w1 fl s2 w2 e a w) (hq : q ≤ q') : FlOk X RetP q' m s wr fl s2 w2 e a w := by
  cases fl with
  | nm => exact ⟨h.1, h.2.trans k1 k2 k3 hq⟩
  | ex id => exact ⟨h.1, h.2.trans k1 k2 k3 hq⟩
  | rt x => exact h

/-- what a border gives back behind an inner code -/
theorem border_st {q n : Nat} (hq : q + 1 ≤ n) {s s3 : St} {wr w3 : Rgs} {m m2 : Nat → Option Loc} {ok2 : Nat → Prop} {a : Act} {w : World}
    (km : ∀ k l, m k = some l → m2 k = some l) (hout : ∀ k, ¬ Wr w3 k → look s3 k = look s k)
    (hR : ∃ m', Rel X (CB * (q + 1)) (CB * (q + 1)) (look s3) m' ok2 a w ∧ (∀ k l, m2 k = some l → m' k = some l)) : StOk X n m s wr s3 (appR w3 wr) a w := by
  obtain ⟨m', R, k⟩ := hR
  exact ⟨m', ok2, R.upq hq, fun k' l h => k _ _ (km _ _ h), fun k h => Wr_appR.2 (.inr h), fun k h => hout k fun h' => h (Wr_appR.2 (.inl h'))⟩

theorem wrap_sound {core : Den rt.den} {c : Code} {n : Nat} (hc : DOk X mE RetP core c n) : DOk X mE RetP (wrapJ core) c (n + 1) := by
  refine ⟨?_⟩
  intro q an s wr R K r h m ok a w Rl hE
  have plain : core (q + 1) an s wr R K = some r → c.wp X.P (DPost X RetP (q + (n + 1)) m s wr K r) a w := fun h => by
    have := hc.run h (Rl.upq (Nat.le_succ q)) hE
    rwa [show q + 1 + n = q + (n + 1) by omega] at this
  cases an
  case join rs nm an =>
    unfold wrapJ at h
    simp only at h
    obtain ⟨x, h1, h2⟩ := obind_some h
    obtain ⟨s3, w3, hk3, hrs, hout, hR⟩ := enter_sound (X := X) h2
    refine wp_mono (hc.run h1 (Rl.upq (Nat.le_succ q)) hE) ?_
    rintro e a' w' ⟨fl, s', wr', hk, hfl⟩
    cases fl with
    | ex id => cases hk
    | rt x => cases hk
    | nm =>
      obtain ⟨rfl, m', ok', R1, k1, k2, k3⟩ := hfl
      obtain ⟨x', hx, hL⟩ := leave_sound (X := X) hk
      cases hx
      obtain ⟨m2, ok2, O, R2, T2, hr, km⟩ := hL Rl R1 k1 k3
      exact ⟨.nm, s3, _, hk3, rfl, border_st (q := q) (by omega) km hout (hR (Nat.le_refl _) R2 T2 hr)⟩
  case joinR rs nm an =>
    unfold wrapJ at h
    simp only at h
    obtain ⟨o, h1, h2⟩ := obind_some h
    refine wp_mono (hc.run h1 (Rl.upq (Nat.le_succ q)) hE) ?_
    rintro e a' w' ⟨fl, s', wr', hk, hfl⟩
    cases fl with
    | ex id => cases hk
    | rt x =>
      cases hk
      exact ⟨.rt x, _, _, h2, hfl⟩
    | nm =>
      obtain ⟨rfl, m', ok', R1, k1, k2, k3⟩ := hfl
      obtain ⟨x', hx, hL⟩ := leave_sound (X := X) hk
      cases hx
      obtain ⟨s3, w3, hk3, hrs, hout, hR⟩ := enter_sound (X := X) (show enter q nm rs s x' (fun s' w' => K .nm s' (appR w' wr)) = some r from h2)
      obtain ⟨m2, ok2, O, R2, T2, hr, km⟩ := hL Rl R1 k1 k3
      exact ⟨.nm, s3, _, hk3, rfl, border_st (q := q) (by omega) km hout (hR (Nat.le_refl _) R2 T2 hr)⟩
  all_goals exact plain h

theorem loop_sound {core : Den rt.den} {c : Code} {n : Nat} (hc : DOk X mE RetP core c n) : DOk X mE RetP (loopC core) (.loop c) (2 + n) := by
  refine ⟨?_⟩
  intro q an s wr R K r h m ok a w Rl hE
  cases an
  case loop rs hd xid xs an =>
    unfold loopC at h
    simp only at h
    obtain ⟨x0, hk0, hL0⟩ := leave_sound (X := X) h
    obtain ⟨m2, ok2, O, R2, T2, hr, km⟩ := hL0 Rl Rl (fun _ _ h => h) (fun _ _ => rfl)
    obtain ⟨y, hl, hen⟩ := obind_some hk0
    clear hk0 h hL0
    obtain ⟨s3, w3, hk3, hrs, hout, hR⟩ := enter_sound (X := X) hen
    refine wp_loop_rounds fuel ?_
    unfold loopE at hl
    have key : ∀ (f : Nat) {x : sigDen hd} {m2 : Nat → Option Loc} {ok2 : Nat → Prop} {O : List Nat} {a : Act} {w : World},
        loopEN (fun x => roundE core q rs hd xid xs an s x) f x = some y →
        Rel X (CB * q) (CB * q) (look (masks rs s)) m2 ok2 a w → Tk X (look (masks rs s)) m2 ok2 w O → relTup w.heap ok2 (hd.map (·.2)) x ((hd.map (·.1)).map fun n => a.tmps.getD n Go.undef) O → (∀ k l, m k = some l → m2 k = some l) →
        Code.rounds X.P c (DPost X RetP (q + (2 + n)) m s wr K r) f a w := by
      intro f
      induction f with
      | zero => intro x m2 ok2 O a w h; simp [loopEN] at h
      | succ f ih =>
        intro x m2 ok2 O a w h R2 T2 hr km
        rw [rounds_succ]
        unfold loopEN at h
        split at h
        · rename_i x' hf
          obtain ⟨s1, w1, hcore, _, hout1, hR1⟩ := enter_sound (X := X) (show enter q hd rs s x _ = some _ from hf)
          obtain ⟨m1, R1, km1⟩ := hR1 (Nat.le_refl _) R2 T2 hr
          refine wp_mono (hc.run hcore (R1.upq (by omega)) (fun k l h => km1 _ _ (km _ _ (hE _ _ h)))) ?_
          rintro e a' w' ⟨fl, s', wr', hk, hfl⟩
          cases fl with
          | rt x => cases hk
          | ex id =>
            simp only at hk
            cases hb : Nat.beq id xid
            · simp [hb] at hk
            · simp only [hb, cond_true] at hk
              obtain ⟨y', hx, _⟩ := leave_sound (X := X) hk
              cases hx
          | nm =>
            obtain ⟨rfl, m', ok', R1', k1, k2, k3⟩ := hfl
            obtain ⟨y', hx, hL⟩ := leave_sound (X := X) hk
            cases hx
            obtain ⟨m4, ok4, O4, R4, T4, hr4, km4⟩ := hL Rl R1' (fun k l h => k1 _ _ (km1 _ _ (km _ _ h))) (fun k h => (k3 k h).trans (hout1 k fun h' => h (k2 k h')))
            exact ih h R4 T4 hr4 km4
        · rename_i y' hf
          cases h
          obtain ⟨s1, w1, hcore, _, hout1, hR1⟩ := enter_sound (X := X) (show enter q hd rs s x _ = some _ from hf)
          obtain ⟨m1, R1, km1⟩ := hR1 (Nat.le_refl _) R2 T2 hr
          refine wp_mono (hc.run hcore (R1.upq (by omega)) (fun k l h => km1 _ _ (km _ _ (hE _ _ h)))) ?_
          rintro e a' w' ⟨fl, s', wr', hk, hfl⟩
          cases fl with
          | rt x => cases hk
          | nm =>
            simp only at hk
            obtain ⟨y', hx, _⟩ := leave_sound (X := X) hk
            cases hx
          | ex id =>
            simp only at hk
            cases hb : Nat.beq id xid
            · simp [hb] at hk
            · simp only [hb, cond_true] at hk
              have hid := Nat.eq_of_beq_eq_true hb
              subst hid
              obtain ⟨rfl, m', ok', R1', k1, k2, k3⟩ := hfl
              obtain ⟨y', hx, hL⟩ := leave_sound (X := X) hk
              cases hx
              obtain ⟨m4, ok4, O4, R4, T4, hr4, km4⟩ := hL Rl R1' (fun k l h => k1 _ _ (km1 _ _ (km _ _ h))) (fun k h => (k3 k h).trans (hout1 k fun h' => h (k2 k h')))
              exact ⟨.ex id, s3, _, hk3, rfl, border_st (q := q + 1) (by omega) km4 hout (hR (cb_le (Nat.le_succ q)) R4 T4 hr4)⟩
        · cases h
    exact key fuel (x := x0) hl R2 T2 hr km
  case loopR rs hd xid xs an =>
    unfold loopC at h
    simp only at h
    obtain ⟨x0, hk0, hL0⟩ := leave_sound (X := X) h
    obtain ⟨m2, ok2, O, R2, T2, hr, km⟩ := hL0 Rl Rl (fun _ _ h => h) (fun _ _ => rfl)
    obtain ⟨y, hl, hen⟩ := obind_some hk0
    clear hk0 h hL0
    refine wp_loop_rounds fuel ?_
    unfold loopO at hl
    have key : ∀ (f : Nat) {x : sigDen hd} {m2 : Nat → Option Loc} {ok2 : Nat → Prop} {O : List Nat} {a : Act} {w : World},
        loopN (fun x => roundR core q rs hd xid xs an s x) f x = some y →
        Rel X (CB * q) (CB * q) (look (masks rs s)) m2 ok2 a w → Tk X (look (masks rs s)) m2 ok2 w O → relTup w.heap ok2 (hd.map (·.2)) x ((hd.map (·.1)).map fun n => a.tmps.getD n Go.undef) O → (∀ k l, m k = some l → m2 k = some l) →
        Code.rounds X.P c (DPost X RetP (q + (2 + n)) m s wr K r) f a w := by
      intro f
      induction f with
      | zero => intro x m2 ok2 O a w h; simp [loopN] at h
      | succ f ih =>
        intro x m2 ok2 O a w h R2 T2 hr km
        rw [rounds_succ]
        unfold loopN at h
        split at h
        · rename_i x' hf
          obtain ⟨s1, w1, hcore, _, hout1, hR1⟩ := enter_sound (X := X) (show enter q hd rs s x _ = some _ from hf)
          obtain ⟨m1, R1, km1⟩ := hR1 (Nat.le_refl _) R2 T2 hr
          refine wp_mono (hc.run hcore (R1.upq (by omega)) (fun k l h => km1 _ _ (km _ _ (hE _ _ h)))) ?_
          rintro e a' w' ⟨fl, s', wr', hk, hfl⟩
          cases fl with
          | rt x => cases hk
          | ex id =>
            simp only at hk
            cases hb : Nat.beq id xid
            · simp [hb] at hk
            · simp only [hb, cond_true] at hk
              obtain ⟨y', hx, _⟩ := leave_sound (X := X) hk
              cases hx
          | nm =>
            obtain ⟨rfl, m', ok', R1', k1, k2, k3⟩ := hfl
            obtain ⟨y', hx, hL⟩ := leave_sound (X := X) hk
            cases hx
            obtain ⟨m4, ok4, O4, R4, T4, hr4, km4⟩ := hL Rl R1' (fun k l h => k1 _ _ (km1 _ _ (km _ _ h))) (fun k h => (k3 k h).trans (hout1 k fun h' => h (k2 k h')))
            exact ih h R4 T4 hr4 km4
        · rename_i y' hf
          cases h
          obtain ⟨s3, w3, hk3, hrs, hout, hR⟩ := enter_sound (X := X) (show enter (q + 1) xs rs s y' (fun s' w' => K (.ex xid) s' (appR w' wr)) = some r from hen)
          obtain ⟨s1, w1, hcore, _, hout1, hR1⟩ := enter_sound (X := X) (show enter q hd rs s x _ = some _ from hf)
          obtain ⟨m1, R1, km1⟩ := hR1 (Nat.le_refl _) R2 T2 hr
          refine wp_mono (hc.run hcore (R1.upq (by omega)) (fun k l h => km1 _ _ (km _ _ (hE _ _ h)))) ?_
          rintro e a' w' ⟨fl, s', wr', hk, hfl⟩
          cases fl with
          | rt x => cases hk
          | nm =>
            simp only at hk
            obtain ⟨y', hx, _⟩ := leave_sound (X := X) hk
            cases hx
          | ex id =>
            simp only at hk
            cases hb : Nat.beq id xid
            · simp [hb] at hk
            · simp only [hb, cond_true] at hk
              have hid := Nat.eq_of_beq_eq_true hb
              subst hid
              obtain ⟨rfl, m', ok', R1', k1, k2, k3⟩ := hfl
              obtain ⟨y', hx, hL⟩ := leave_sound (X := X) hk
              cases hx
              obtain ⟨m4, ok4, O4, R4, T4, hr4, km4⟩ := hL Rl R1' (fun k l h => k1 _ _ (km1 _ _ (km _ _ h))) (fun k h => (k3 k h).trans (hout1 k fun h' => h (k2 k h')))
              exact ⟨.ex id, s3, _, hk3, rfl, border_st (q := q + 1) (by omega) km4 hout (hR (cb_le (Nat.le_succ q)) R4 T4 hr4)⟩
        · rename_i r' hf
          cases h
          obtain ⟨s1, w1, hcore, _, hout1, hR1⟩ := enter_sound (X := X) (show enter q hd rs s x _ = some _ from hf)
          obtain ⟨m1, R1, km1⟩ := hR1 (Nat.le_refl _) R2 T2 hr
          refine wp_mono (hc.run hcore (R1.upq (by omega)) (fun k l h => km1 _ _ (km _ _ (hE _ _ h)))) ?_
          rintro e a' w' ⟨fl, s', wr', hk, hfl⟩
          cases fl with
          | rt x =>
            cases hk
            obtain ⟨rfl, hp⟩ := hfl
            exact ⟨.rt r', [], [], hen, rfl, hp⟩
          | nm =>
            simp only at hk
            obtain ⟨y', hx, _⟩ := leave_sound (X := X) hk
            cases hx
          | ex id =>
            simp only at hk
            cases hb : Nat.beq id xid
            · simp [hb] at hk
            · simp only [hb, cond_true] at hk
              obtain ⟨y', hx, _⟩ := leave_sound (X := X) hk
              cases hx
        · cases h
    exact key fuel (x := x0) hl R2 T2 hr km
  all_goals (unfold loopC at h; cases h)

theorem den_sound (H : FxOk X) (hret : RetHyp X rt mE RetP) : ∀ c : Code, DOk X mE RetP (den X.E rt c) c (nidx c)
  | .skip => wrap_sound (n := 0) ⟨fun {q an s wr R K r} h {m ok a w} Rl hE => wp_skip ⟨.nm, s, wr, h, rfl, StOk.here Rl (by omega)⟩⟩
  | .label l => wrap_sound (n := 0) ⟨fun {q an s wr R K r} h {m ok a w} Rl hE => wp_label ⟨.nm, s, wr, h, rfl, StOk.here Rl (by omega)⟩⟩
  | .exit id => wrap_sound (n := 0) ⟨fun {q an s wr R K r} h {m ok a w} Rl hE => wp_exit ⟨.ex id, s, wr, h, rfl, StOk.here Rl (by omega)⟩⟩
  | .ret => wrap_sound (n := 0) ⟨fun {q an s wr R K r} h {m ok a w} Rl hE => by
    obtain ⟨x, hk, hp⟩ := hret (K := fun x => K (.rt x) [] []) h
    exact wp_ret ⟨.rt x, [], [], hk, rfl, hp Rl hE⟩⟩
  | .region id ops draw => wrap_sound (n := 1) ⟨fun {q an s wr R K r} h {m ok a w} Rl hE => by
    obtain ⟨s', w', hk, ⟨t, rfl, hfr⟩, hR⟩ := region_sound H h
    refine hR (Rl.chmono (Nat.le_add_right _ _)) fun m' ok' a' w2 R' k1 k2 => ⟨.nm, s', _, hk, rfl, m', ok', ?_, k1, fun k h => Wr_trKeys.2 (.inr h), fun k h => hfr k fun x hx hkx => h (Wr_trKeys.2 (.inl ⟨x, hx, hkx⟩))⟩
    have e : CB * (q + 1) = CB * q + CB := by rw [Nat.mul_add, Nat.mul_one]
    rw [e]
    exact R'.climb (Nat.le_add_right _ _)⟩
  | .seq x y => by
    have hx := den_sound H hret x
    have hy := den_sound H hret y
    have := wrap_sound (X := X) (mE := mE) (RetP := RetP) (c := .seq x y) (n := nidx x + nidx y) (core := fun q a s w R K => den X.E rt x q a.l s w R fun fl s' w' => match fl with
      | .nm => den X.E rt y (q + nidx x) a.r s' w' R K
      | .ex id => K (.ex id) s' w'
      | .rt r => K (.rt r) s' w') (DOk.mk fun {q an s wr R K r} h {m ok a w} Rl hE => by
        refine wp_seq (wp_mono (hx.run h Rl hE) ?_)
        rintro e a' w' ⟨fl, s', wr', hk, hfl⟩
        cases fl with
        | nm =>
          obtain ⟨rfl, m', ok', R1, k1, k2, k3⟩ := hfl
          refine wp_mono (hy.run hk R1 (fun k l h => k1 _ _ (hE _ _ h))) ?_
          rintro e a2 w2 ⟨fl, s2, wr2, hk2, hfl2⟩
          exact ⟨fl, s2, wr2, hk2, hfl2.trans k1 k2 k3 (by omega)⟩
        | ex id =>
          obtain ⟨rfl, hs⟩ := hfl
          exact ⟨.ex id, s', wr', hk, rfl, hs.up (by omega)⟩
        | rt x =>
          obtain ⟨rfl, hs⟩ := hfl
          exact ⟨.rt x, s', wr', hk, rfl, hs⟩)
    rw [show nidx (.seq x y) = nidx x + nidx y + 1 by simp only [nidx]; omega]
    exact this
  | .block id x => by
    have hx := den_sound H hret x
    have := wrap_sound (X := X) (mE := mE) (RetP := RetP) (c := .block id x) (n := nidx x) (core := fun q a s w R K => den X.E rt x q a.l s w R fun fl s' w' => match fl with
      | .nm => K .nm s' w'
      | .ex j => bif Nat.beq j id then K .nm s' w' else K (.ex j) s' w'
      | .rt r => K (.rt r) s' w') (DOk.mk fun {q an s wr R K r} h {m ok a w} Rl hE => by
        refine wp_block (wp_mono (hx.run h Rl hE) ?_)
        rintro e a' w' ⟨fl, s', wr', hk, hfl⟩
        cases fl with
        | nm =>
          obtain ⟨rfl, hs⟩ := hfl
          exact ⟨.nm, s', wr', hk, rfl, hs⟩
        | ex j =>
          obtain ⟨rfl, hs⟩ := hfl
          simp only at hk
          cases hb : Nat.beq j id
          · simp only [hb, cond_false] at hk
            have hne : j ≠ id := fun e => by subst e; simp at hb
            simp only [Exit.inBlock, hne, if_false]
            exact ⟨.ex j, s', wr', hk, rfl, hs⟩
          · simp only [hb, cond_true] at hk
            have := Nat.eq_of_beq_eq_true hb
            subst this
            simp only [Exit.inBlock, if_true]
            exact ⟨.nm, s', wr', hk, rfl, hs⟩
        | rt x =>
          obtain ⟨rfl, hs⟩ := hfl
          exact ⟨.rt x, s', wr', hk, rfl, hs⟩)
    rw [show nidx (.block id x) = nidx x + 1 by simp only [nidx]; omega]
    exact this
  | .cond c x y => by
    have hx := den_sound H hret x
    have hy := den_sound H hret y
    have := wrap_sound (X := X) (mE := mE) (RetP := RetP) (c := .cond c x y) (n := nidx x + nidx y) (core := fun q a s w R K => (opnd c fun v => Cmd.ret v : Cmd V).runK s ([], []) fun v s' _ => match v with
      | .b t => bcond t (den X.E rt x q a.l s' w R K) (den X.E rt y (q + nidx x) a.r s' w R K)
      | _ => none) (DOk.mk fun {q an s wr R K r} h {m ok a w} Rl hE => by
        obtain ⟨v, s', tr, he, hk⟩ := runK_eval h
        obtain ⟨hv, hs⟩ := post_eval (opnd_post Rl (K := fun v => Cmd.ret v) (x := c) (Q := fun v S' => relV ⟨w.heap, ok, m⟩ v (a.eval c) ∧ S' = look s) fun v hv => ⟨hv, rfl⟩) he
        cases v <;> try (simp at hk; done)
        case b t =>
          have R1 : Rel X (CB * q) (CB * q) (look s') m ok a w := by rw [hs]; exact Rl
          refine wp_cond_split (relV_b hv) (fun ht => ?_) (fun ht => ?_)
          · subst ht
            refine wp_mono (hx.run (show den X.E rt x q an.l s' wr R K = some r from hk) R1 hE) ?_
            rintro e a2 w2 ⟨fl, s2, wr2, hk2, hfl2⟩
            exact ⟨fl, s2, wr2, hk2, hfl2.trans (fun _ _ h => h) (fun _ h => h) (fun k _ => by rw [hs]) (by omega)⟩
          · subst ht
            refine wp_mono (hy.run (show den X.E rt y (q + nidx x) an.r s' wr R K = some r from hk) (R1.upq (by omega)) hE) ?_
            rintro e a2 w2 ⟨fl, s2, wr2, hk2, hfl2⟩
            exact ⟨fl, s2, wr2, hk2, hfl2.trans (fun _ _ h => h) (fun _ h => h) (fun k _ => by rw [hs]) (by omega)⟩)
    rw [show nidx (.cond c x y) = nidx x + nidx y + 1 by simp only [nidx]; omega]
    exact this
  | .loop x => by
    have hx := den_sound H hret x
    have := wrap_sound (loop_sound hx)
    rw [show nidx (.loop x) = 2 + nidx x + 1 by simp only [nidx]; omega]
    exact this
  | .goto l => ⟨fun h => by simp [den] at h⟩
  | .scope x => ⟨fun h => by simp [den] at h⟩
  | .rangeFunc .. => ⟨fun h => by simp [den] at h⟩
  | .refuse .. => ⟨fun h => by simp [den] at h⟩
end
end Go.GP
