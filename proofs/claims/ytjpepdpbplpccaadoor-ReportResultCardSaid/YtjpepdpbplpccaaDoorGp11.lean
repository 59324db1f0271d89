import Derived.Test.YtjpepdpbplpccaaDoorGp10
/- SLICE EXPRESSIONS; make. -/
namespace Go.GP
set_option linter.unusedVariables false
set_option linter.unusedSimpArgs false

def Bnd (d : Int) (o : Option Value) (n : Int) : Prop := (o = none ∧ n = d) ∨ ∃ k, o = some (.int k n)

theorem run_bounds {P : Program} {w : World} {isS : Bool} {len cap : Nat} {lo hi : Option Value} {x y : Int} (hlo : Bnd 0 lo x) (hhi : Bnd len hi y) (h0 : 0 ≤ x) (h1 : x ≤ y) (h2 : y ≤ len) (hc : len ≤ cap) :
    (Instr.sliceBounds isS len cap lo hi none).run P w = .ok (x.toNat, y.toNat, cap) w := by
  have hyc : y ≤ cap := by omega
  have hy0 : 0 ≤ y := by omega
  have e : ((y.toNat : Nat) : Int) = y := by omega
  rcases hlo with ⟨rfl, rfl⟩ | ⟨k, rfl⟩ <;> rcases hhi with ⟨rfl, rfl⟩ | ⟨k', rfl⟩
  · simp [Instr.sliceBounds]
  · simp [Instr.sliceBounds, Instr.sliceBound, asIntOf, hy0, hyc]
  · simp [Instr.sliceBounds, Instr.sliceBound, asIntOf, h0, h1]
  · simp [Instr.sliceBounds, Instr.sliceBound, asIntOf, hy0, hyc, h0, e, h1]

theorem lsub_some {α : Type} {l r : List α} {x y : Int} (h : lsub l x y = some r) : 0 ≤ x ∧ x ≤ y ∧ y ≤ l.length ∧ r = (l.take y.toNat).drop x.toNat := by
  unfold lsub at h
  split at h
  · rename_i hh; cases h; exact ⟨hh.1, hh.2.1, hh.2.2, rfl⟩
  · cases h

theorem bytes_extract (l : List UInt8) (x y : Nat) : (⟨l.toArray⟩ : ByteArray).extract x y = ⟨((l.take y).drop x).toArray⟩ := by
  apply ByteArray.ext
  apply Array.ext'
  simp [ByteArray.data_extract, List.extract_eq_take_drop, List.drop_take]

/-- a slice of data, cut -/
theorem rep_sub {h : Array Obj} {ok : Nat → Prop} {t : Ty} {xs : List t.den} {ad : Option Addr} {cap : Nat} {x y : Nat} (hr : rep h ok (.sl t) xs [.slice ad xs.length cap]) (h1 : x ≤ y) (h2 : y ≤ xs.length) :
    rep h ok (.sl t) ((xs.take y).drop x) [.slice (if cap = x then ad else ad.map (·.add (x * t.size))) (y - x) (cap - x)] := by
  obtain ⟨ad', cap', e, hc, hel⟩ := hr
  simp only [List.cons.injEq, Value.slice.injEq, and_true, true_and] at e
  obtain ⟨rfl, rfl⟩ := e
  have hl : ((xs.take y).drop x).length = y - x := by simp; omega
  refine ⟨_, cap - x, by rw [hl], by rw [hl]; omega, fun i z hz => ?_⟩
  have hi : i < y - x := by rw [← hl]; exact (List.getElem?_eq_some_iff.1 hz).1
  have hz' : xs[x + i]? = some z := by
    simp only [List.getElem?_drop, List.getElem?_take] at hz
    split at hz
    · exact hz
    · cases hz
  obtain ⟨blk, off, es, rfl, hb, he, hrp⟩ := hel _ z hz'
  have hne : cap ≠ x := by omega
  refine ⟨blk, off + x * t.size, es, by simp [hne, Addr.add_lit], hb, ?_, hrp⟩
  rw [← he]; congr 1; rw [Nat.add_mul]; omega

section
variable {X : Fx} {cl ch : Nat} {S : Sm} {m : Nat → Option Loc} {ok : Nat → Prop} {a : Act} {w : World} {o : Oper}

theorem boundO_bnd {C : Cx} {d n : Int} {v : Option V} {u : Option Value} (h : boundO d v = some n) (hr : (v = none ∧ u = none) ∨ ∃ c x, v = some c ∧ u = some x ∧ relV C c x) : Bnd d u n := by
  rcases hr with ⟨rfl, rfl⟩ | ⟨c, x, rfl, rfl, hr⟩
  · simp [boundO] at h; subst h; exact .inl ⟨rfl, rfl⟩
  · cases c <;> simp [boundO] at h
    subst h
    exact .inr ⟨_, by rw [relV_i hr]⟩

theorem sliceC_post (H : FxOk X) (R : Rel X cl ch S m ok a w) {t : TypeId} {x : V} {u : Value} {lo hi : Option V} {lv hv : Option Value} (hx : relV ⟨w.heap, ok, m⟩ x u)
    (hlo : (lo = none ∧ lv = none) ∨ ∃ c y, lo = some c ∧ lv = some y ∧ relV ⟨w.heap, ok, m⟩ c y) (hhi : (hi = none ∧ hv = none) ∨ ∃ c y, hi = some c ∧ hv = some y ∧ relV ⟨w.heap, ok, m⟩ c y)
    {K : V → Cmd Unit} {Q : Unit → Sm → Prop} (hK : ∀ v z, relV ⟨w.heap, ok, m⟩ v z → (Instr.sliceAt t u lv hv none).run X.P w = .ok z w → (K v).post S Q) : (sliceC X.E t x lo hi K).post S Q := by
  unfold sliceC
  cases x <;> try trivial
  case s l =>
    refine tiC_post H fun i hi' => ?_
    have htd := hi'.td
    split <;> try trivial
    rename_i p q htd' hp hq
    rw [htd'] at htd
    refine opt_post fun r hr => ?_
    obtain ⟨h0, h1, h2, rfl⟩ := lsub_some hr
    have hb := run_bounds (P := X.P) (w := w) (isS := false) (cap := l.length) (boundO_bnd hp hlo) (boundO_bnd hq hhi) h0 h1 h2 (Nat.le_refl _)
    refine hK (.s _) (.string ⟨((l.take q.toNat).drop p.toNat).toArray⟩) rfl ?_
    have hus : X.P.underlying t = some .string := htd
    have hs : (⟨l.toArray⟩ : ByteArray).size = l.length := rfl
    simp [Instr.sliceAt, run_underlying hus, Instr.slice, relV_s hx, hs, hb, bytes_extract]
  case sl v l =>
    dsimp only
    split <;> try trivial
    rename_i n sz p q hsz hp hq
    obtain ⟨e, j, hut, hj, hjs⟩ := elemSz_slice H hsz
    refine bif_post fun hbq => opt_post fun r hr => ?_
    have hbq' := Nat.eq_of_beq_eq_true hbq
    obtain ⟨h0, h1, h2, rfl⟩ := lsub_some hr
    have hx' : rep w.heap ok (.sl v) l [u] := hx
    obtain ⟨ad, cap, hu, hc, _⟩ := id hx'
    simp only [List.cons.injEq, and_true] at hu
    subst hu
    have hb := run_bounds (P := X.P) (w := w) (isS := true) (cap := cap) (boundO_bnd hp hlo) (boundO_bnd hq hhi) h0 h1 h2 hc
    refine hK (.sl v _) _ (rep_sub (x := p.toNat) (y := q.toNat) hx' (by omega) (by omega)) ?_
    simp [Instr.sliceAt, run_underlying hut, Instr.slice, hb, run_sizeOf hj, hjs, hbq']
  case own bx vw =>
    cases vw with
    | some _ => trivial
    | none =>
    obtain ⟨loc, hm, hview⟩ := hx
    refine get_post ?_
    have key : ∀ {v : Ty} {xs : List v.den} {n sz : Nat} {p q : Int}, arrOk ⟨w.heap, ok, m⟩ v xs loc → elemSz X.E t = some (false, n, sz) → boundO 0 lo = some p → boundO (llen xs) hi = some q →
        (bif Nat.beq sz v.size then Cmd.br (rngok p q (llen xs)) (K (.own bx (some (toN p, toN q)))) .fail else .fail).post S Q := fun {v xs n sz p q} ha hsz hp hq => by
      obtain ⟨e, j, hut, hj, hjs⟩ := elemSz_slice H hsz
      refine bif_post fun hbq => ⟨fun hr => ?_, fun _ => trivial⟩
      have hbq' := Nat.eq_of_beq_eq_true hbq
      have hr' := of_decide_eq_true (show decide (0 ≤ p ∧ p ≤ q ∧ q ≤ llen xs) = true from hr)
      obtain ⟨h0, h1, h2⟩ := hr'
      have h2' : q ≤ (xs.length : Int) := h2
      cases loc with
      | st b => cases ha
      | nil =>
        simp only [arrOk] at ha
        subst ha
        simp only [Loc.view] at hview
        subst hview
        have h2'' : q ≤ ((0 : Nat) : Int) := by simpa using h2'
        have hb := run_bounds (P := X.P) (w := w) (isS := true) (len := 0) (cap := 0) (boundO_bnd hp hlo) (by have := boundO_bnd hq hhi; simpa [llen] using this) h0 h1 h2'' (Nat.le_refl _)
        have ep : p = 0 := by omega
        have eq : q = 0 := by omega
        subst ep; subst eq
        refine hK (.own bx (some (toN 0, toN 0))) (.slice none 0 0) ⟨.nil, hm, rfl, rfl, rfl⟩ ?_
        simp [Instr.sliceAt, run_underlying hut, Instr.slice, hb, run_sizeOf hj]
      | arr blk off len cap sz' =>
        obtain ⟨rfl, rfl, hc, _⟩ := ha
        simp only [Loc.view] at hview
        subst hview
        have hb := run_bounds (P := X.P) (w := w) (isS := true) (cap := cap) (boundO_bnd hp hlo) (boundO_bnd hq hhi) h0 h1 h2' hc
        refine hK (.own bx (some (toN p, toN q))) _ ⟨_, hm, by unfold toN; omega, by unfold toN; omega, rfl⟩ ?_
        have e1 : (if cap = p.toNat then some (⟨blk, off, none⟩ : Addr) else some ⟨blk, off + p.toNat * v.size, none⟩) = some (if cap = p.toNat then ⟨blk, off, none⟩ else ⟨blk, off + p.toNat * v.size, none⟩) := by split <;> rfl
        simp [Instr.sliceAt, run_underlying hut, Instr.slice, hb, run_sizeOf hj, hjs, hbq', Addr.add_lit, toN, e1]
        by_cases ecp : cap = p.toNat <;> simp [ecp]
    split <;> try trivial
    · rename_i v xs hS
      obtain ⟨loc', hm', ha⟩ := R.own_arr hS
      simp only at hm
      rw [hm] at hm'; cases hm'
      split <;> try trivial
      rename_i n sz p q hsz hp hq
      exact key ha hsz hp hq
    · rename_i v xs hS
      obtain ⟨loc', hm', ha, _⟩ := R.own_frz hS
      simp only at hm
      rw [hm] at hm'; cases hm'
      split <;> try trivial
      rename_i n sz p q hsz hp hq
      exact key ha hsz hp hq

theorem op_slice (H : FxOk X) (R : Rel X cl ch S m ok a w) {t : TypeId} {x : Operand} {lo hi : Option Operand} {q : Nat} (ho : o.op = .slice t x lo hi none) : (opCmd X.E q o).post S (fun _ S' => OpOk X cl ch o a w m ok S') := by
  unfold opCmd
  simp only [ho]
  refine opnd_post R fun v hv => opnds_post R _ fun bs hbs => ?_
  split <;> try trivial
  · refine sliceC_post H R (lv := none) (hv := none) hv (.inl ⟨rfl, rfl⟩) (.inl ⟨rfl, rfl⟩) fun r z hr hz => pure_ok H R hr ?_
    simp [execOp, ho, hz]
  · rename_i l c
    obtain ⟨y, r, he, h1, h2⟩ := hbs
    simp only [relVs] at h2; subst h2
    simp at he; subst he
    refine sliceC_post H R (lv := some (a.eval l)) (hv := none) hv (.inr ⟨_, _, rfl, rfl, h1⟩) (.inl ⟨rfl, rfl⟩) fun r z hr hz => pure_ok H R hr ?_
    simp [execOp, ho, hz]
  · rename_i h c
    obtain ⟨y, r, he, h1, h2⟩ := hbs
    simp only [relVs] at h2; subst h2
    simp at he; subst he
    refine sliceC_post H R (lv := none) (hv := some (a.eval h)) hv (.inl ⟨rfl, rfl⟩) (.inr ⟨_, _, rfl, rfl, h1⟩) fun r z hr hz => pure_ok H R hr ?_
    simp [execOp, ho, hz]
  · rename_i l h c d
    obtain ⟨y, r, he, h1, y', r', he', h2, h3⟩ := hbs
    simp only [relVs] at h3; subst h3
    subst he'
    simp at he
    obtain ⟨rfl, rfl⟩ := he
    refine sliceC_post H R (lv := some (a.eval l)) (hv := some (a.eval h)) hv (.inr ⟨_, _, rfl, rfl, h1⟩) (.inr ⟨_, _, rfl, rfl, h2⟩) fun r z hr hz => pure_ok H R hr ?_
    simp [execOp, ho, hz]
end
end Go.GP
