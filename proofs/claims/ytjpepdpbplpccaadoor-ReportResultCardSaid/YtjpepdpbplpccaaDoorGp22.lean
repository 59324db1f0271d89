import Derived.Test.YtjpepdpbplpccaaDoorGp21
/- THE TABLE OF TYPES, CHECKED. -/
namespace Go.GP
set_option linter.unusedVariables false
set_option linter.unusedSimpArgs false

def zV : V → Value → Bool
  | .undef, v => v.oneCell'
  | .b x, .bool y => x == y
  | .i k n, .int k' n' => decide (k = k') && decide (n = n')
  | .s l, .string s => decide (l = s.data.toList)
  | .nl, .slice none 0 0 => true
  | _, _ => false
def zL : List V → List Value → Bool
  | [], [] => true
  | c :: cs, v :: vs => zV c v && zL cs vs
  | _, _ => false

theorem zV_spec {C : Cx} {c : V} {v : Value} (h : zV c v = true) : relC C c v ∧ v.oneCell' = true := by
  unfold zV at h
  split at h
  · exact ⟨trivial, h⟩
  · simp at h; subst h; exact ⟨rfl, rfl⟩
  · simp at h; obtain ⟨rfl, rfl⟩ := h; exact ⟨rfl, rfl⟩
  · rename_i l s
    have := of_decide_eq_true h
    subst this
    exact ⟨rfl, rfl⟩
  · exact ⟨rfl, rfl⟩
  · cases h
theorem zL_spec {C : Cx} : ∀ {cs : List V} {vs : List Value}, zL cs vs = true → relL C cs vs
  | [], [], _ => rfl
  | [], _ :: _, h => by simp [zL] at h
  | _ :: _, [], h => by simp [zL] at h
  | c :: cs, v :: vs, h => by
    unfold zL at h
    simp only [Bool.and_eq_true] at h
    obtain ⟨h1, h2⟩ := zV_spec (C := C) h.1
    exact ⟨v, vs, rfl, h1, h2, zL_spec h.2⟩

def repZ : (t : Ty) → List Value → Option (List Value)
  | .bool, .bool b :: r => bif b then none else some r
  | .int k, .int k' n :: r => bif decide (k = k') && decide (n = 0) then some r else none
  | .str, .string s :: r => bif decide (s.data.toList = []) then some r else none
  | .sl _, .slice none 0 0 :: r => some r
  | .prod a b, vs => match repZ a vs with | some r => repZ b r | none => none
  | .unit, vs => some vs
  | _, _ => none

theorem repZ_spec : ∀ {t : Ty} {vs r : List Value}, repZ t vs = some r → ∃ cs, vs = cs ++ r ∧ rep #[] (fun _ => False) t t.zero cs
  | .bool, vs, r, h => by
    cases vs with
    | nil => cases h
    | cons v vs =>
      cases v <;> try (cases h; done)
      case bool b =>
        cases b
        · simp only [repZ, cond_false, Option.some.injEq] at h
          subst h; exact ⟨[.bool false], rfl, rfl⟩
        · simp [repZ] at h
  | .int k, vs, r, h => by
    cases vs with
    | nil => cases h
    | cons v vs =>
      cases v <;> try (cases h; done)
      case int k' n =>
        unfold repZ at h
        cases hc : (decide (k = k') && decide (n = 0))
        · simp [hc] at h
        · simp only [hc, cond_true, Option.some.injEq] at h
          simp only [Bool.and_eq_true, decide_eq_true_eq] at hc
          obtain ⟨rfl, rfl⟩ := hc
          subst h
          exact ⟨[.int k 0], rfl, rfl⟩
  | .str, vs, r, h => by
    cases vs with
    | nil => cases h
    | cons v vs =>
      cases v <;> try (cases h; done)
      case string s =>
        unfold repZ at h
        cases hc : decide (s.data.toList = [])
        · simp only [hc, cond_false] at h; cases h
        · simp only [hc, cond_true, Option.some.injEq] at h
          subst h
          have he := of_decide_eq_true hc
          refine ⟨[.string s], rfl, ?_⟩
          show [Value.string s] = [Value.string ⟨(Ty.zero .str).toArray⟩]
          congr 2
          obtain ⟨⟨l⟩⟩ := s
          simp only at he
          subst he; rfl
  | .sl t, vs, r, h => by
    cases vs with
    | nil => cases h
    | cons v vs =>
      cases v <;> try (cases h; done)
      case slice a n c =>
        cases a <;> try (cases h; done)
        cases n <;> try (cases h; done)
        cases c <;> try (cases h; done)
        simp only [repZ, Option.some.injEq] at h
        subst h
        exact ⟨[.slice none 0 0], rfl, none, 0, rfl, Nat.le_refl _, fun i x hi => by simp [Ty.zero] at hi⟩
  | .unit, vs, r, h => by
    have : vs = r := by cases vs <;> (simp only [repZ, Option.some.injEq] at h; exact h)
    subst this
    exact ⟨[], rfl, rfl⟩
  | .prod a b, vs, r, h => by
    have h' : (match repZ a vs with | some r => repZ b r | none => none) = some r := by
      cases vs <;> exact h
    cases ha : repZ a vs with
    | none => simp [ha] at h'
    | some r1 =>
      simp only [ha] at h'
      obtain ⟨c, rfl, h1⟩ := repZ_spec ha
      obtain ⟨d, rfl, h2⟩ := repZ_spec h'
      exact ⟨c ++ d, by simp, c, d, rfl, h1, h2⟩

def eqFs : List (Nat × Nat) → List Field → Bool
  | [], [] => true
  | (t, o) :: r, f :: fs => Nat.beq f.type t && Nat.beq f.offset o && eqFs r fs
  | _, _ => false
theorem eqFs_spec : ∀ {a : List (Nat × Nat)} {b : List Field}, eqFs a b = true → b.map (fun f => (f.type, f.offset)) = a
  | [], [], _ => rfl
  | [], _ :: _, h => by simp [eqFs] at h
  | _ :: _, [], h => by simp [eqFs] at h
  | (t, o) :: r, f :: fs, h => by
    unfold eqFs at h
    simp only [Bool.and_eq_true] at h
    have h1 := Nat.eq_of_beq_eq_true h.1.1
    have h2 := Nat.eq_of_beq_eq_true h.1.2
    simp [eqFs_spec h.2, ← h1, ← h2]

def tdChk (P : Program) (t : TypeId) (td : TD) : Bool :=
  match P.underlying t with
  | none => false
  | some d => match td, d with
    | .bool, .bool => true
    | .int k, .int k' => decide (k = k')
    | .str, .string => true
    | .sl e, .slice e' => Nat.beq e e'
    | .ptr e, .pointer e' => Nat.beq e e'
    | .struct fs, .struct fields => eqFs fs fields.toList
    | .arr n e, .array n' e' => Nat.beq n n' && Nat.beq e e'
    | .other, .struct _ => false
    | .other, .array _ _ => false
    | .other, _ => true
    | _, _ => false
theorem tdChk_spec {P : Program} {t : TypeId} {td : TD} (h : tdChk P t td = true) : tdOk P t td := by
  unfold tdChk at h
  split at h
  · cases h
  · rename_i d hd
    split at h <;> try (cases h; done)
    · exact hd
    · have := of_decide_eq_true h; subst this; exact hd
    · exact hd
    · have := Nat.eq_of_beq_eq_true h; subst this; exact hd
    · have := Nat.eq_of_beq_eq_true h; subst this; exact hd
    · rename_i fs fields; exact ⟨fields, hd, eqFs_spec h⟩
    · simp only [Bool.and_eq_true] at h
      have h1 := Nat.eq_of_beq_eq_true h.1
      have h2 := Nat.eq_of_beq_eq_true h.2
      subst h1; subst h2; exact hd
    · rename_i h1 h2
      refine ⟨d, hd, ?_⟩
      cases d <;> first | trivial | exact absurd rfl (h1 _) | exact absurd rfl (h2 _ _)

def zeroChk (inf : TypeInfo) (i : TI) : Bool :=
  bif Nat.beq i.zero.length i.size then (match inf.zero with | some z => zL i.zero z.cells.toList | none => false) else true
def tyChk (inf : TypeInfo) (i : TI) : Bool :=
  match i.ty with
  | none => true
  | some u => Nat.beq u.size i.size && (match inf.zero with | some z => (match repZ u z.cells.toList with | some [] => true | _ => false) | none => false)
def tiChk (P : Program) (t : TypeId) (i : TI) : Bool :=
  match P.info? t with
  | none => false
  | some inf => Nat.beq inf.size i.size && Nat.beq inf.bytes i.bytes && zeroChk inf i && tyChk inf i && tdChk P t i.td && (isAggTD i.td || Nat.beq i.size 1)
theorem tiChk_spec {P : Program} {t : TypeId} {i : TI} (h : tiChk P t i = true) : TiOk P t i := by
  unfold tiChk at h
  split at h
  · cases h
  · rename_i inf hi
    simp only [Bool.and_eq_true, Bool.or_eq_true] at h
    obtain ⟨⟨⟨⟨⟨h1, h2⟩, h3⟩, h4⟩, h5⟩, h6⟩ := h
    refine ⟨⟨inf, hi, Nat.eq_of_beq_eq_true h1, Nat.eq_of_beq_eq_true h2, fun hl => ?_, fun u hu => ?_⟩, tdChk_spec h5, fun ha => ?_⟩
    · unfold zeroChk at h3
      rw [hl, show Nat.beq i.size i.size = true from Nat.beq_refl _] at h3
      simp only [cond_true] at h3
      split at h3
      · rename_i z hz; exact ⟨z, hz, zL_spec h3⟩
      · cases h3
    · unfold tyChk at h4
      simp only [hu, Bool.and_eq_true] at h4
      refine ⟨Nat.eq_of_beq_eq_true h4.1, ?_⟩
      have h7 := h4.2
      split at h7
      · rename_i z hz
        split at h7
        · rename_i hr
          obtain ⟨cs, e, hrep⟩ := repZ_spec hr
          rw [List.append_nil] at e
          exact ⟨z, hz, by rw [e]; exact hrep⟩
        · cases h7
      · cases h7
    · rcases h6 with h6 | h6
      · rw [ha] at h6; cases h6
      · exact Nat.eq_of_beq_eq_true h6

def ttChk (P : Program) : List (Nat × TI) → Bool
  | [] => true
  | (t, i) :: r => tiChk P t i && ttChk P r
theorem ttChk_spec {P : Program} : ∀ {tt : List (Nat × TI)}, ttChk P tt = true → ∀ t i, assoc tt t = some i → TiOk P t i
  | [], _, t, i, h => by simp [assoc] at h
  | (k, v) :: r, hc, t, i, h => by
    unfold ttChk at hc
    simp only [Bool.and_eq_true] at hc
    unfold assoc at h
    cases hb : Nat.beq k t
    · simp only [hb, cond_false] at h
      exact ttChk_spec hc.2 t i h
    · simp only [hb, cond_true, Option.some.injEq] at h
      have := Nat.eq_of_beq_eq_true hb
      subst this; subst h
      exact tiChk_spec hc.1

/-- the functions that an environment calls, as facts about the program -/
def fsChk (P : Program) : List (Nat × FSpec) → Bool
  | [] => true
  | (f, _) :: r => (match P.funcs[f]? with | some fn => fn.body.isSome && !(fn.name == "runtime.NumGoroutine") | none => false) && fsChk P r
theorem fsChk_spec {P : Program} : ∀ {l : List (Nat × FSpec)}, fsChk P l = true → ∀ f s, assoc l f = some s → ∃ fn, P.funcs[f]? = some fn ∧ fn.body.isSome = true ∧ (fn.name == "runtime.NumGoroutine") = false
  | [], _, f, s, h => by simp [assoc] at h
  | (k, v) :: r, hc, f, s, h => by
    unfold fsChk at hc
    simp only [Bool.and_eq_true] at hc
    unfold assoc at h
    cases hb : Nat.beq k f
    · simp only [hb, cond_false] at h
      exact fsChk_spec hc.2 f s h
    · have := Nat.eq_of_beq_eq_true hb
      subst this
      have h1 := hc.1
      split at h1
      · rename_i fn hf
        simp only [Bool.and_eq_true, Bool.not_eq_true'] at h1
        exact ⟨fn, hf, h1.1, h1.2⟩
      · cases h1
end Go.GP
namespace Go.GP
def AllS (P : Program) (gl : List (Nat × (t : Ty) × List t.den)) : List (Nat × FSpec) → Prop
  | [] => True
  | (f, s) :: r => FSound P gl f s ∧ AllS P gl r
theorem AllS_spec {P : Program} {gl : List (Nat × (t : Ty) × List t.den)} : ∀ {l : List (Nat × FSpec)}, AllS P gl l → ∀ f s, assoc l f = some s → FSound P gl f s
  | [], _, f, s, h => by simp [assoc] at h
  | (k, v) :: r, hc, f, s, h => by
    unfold assoc at h
    cases hb : Nat.beq k f
    · simp only [hb, cond_false] at h
      exact AllS_spec hc.2 f s h
    · simp only [hb, cond_true, Option.some.injEq] at h
      have := Nat.eq_of_beq_eq_true hb
      subst this; subst h
      exact hc.1
/-- an environment without struct comparisons, checked -/
theorem envOk_of {P : Program} {E : Env} (hnt : Nat.ble (64 * E.nt) 999936 = true) (htt : ttChk P E.tt = true) (heq : ∀ t, memN t E.eqs = true → EqSound P t) (hfn : fsChk P E.fs = true) (hfs : AllS P E.gl E.fs) : EnvOk P E :=
  ⟨Nat.le_of_ble_eq_true hnt, ttChk_spec htt, AllS_spec hfs, heq, fsChk_spec hfn⟩
end Go.GP
