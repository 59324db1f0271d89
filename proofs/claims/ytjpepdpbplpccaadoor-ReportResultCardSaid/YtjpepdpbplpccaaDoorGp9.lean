import Derived.Test.YtjpepdpbplpccaaDoorGp8
/- STORES, ADDRESSES, SLICES. -/
namespace Go.GP
set_option linter.unusedVariables false
set_option linter.unusedSimpArgs false

theorem splice_get {α : Type} {p : Nat} {us L : List α} (h : p + us.length ≤ L.length) (i : Nat) :
    (splice p us L)[i]? = if i < p then L[i]? else if i < p + us.length then us[i - p]? else L[i]? := by
  unfold splice
  rw [List.append_assoc]
  by_cases h1 : i < p
  · rw [if_pos h1, List.getElem?_append_left (by simp; omega), List.getElem?_take, if_pos h1]
  · rw [if_neg h1, List.getElem?_append_right (by simp; omega)]
    have e : (L.take p).length = p := by simp; omega
    rw [e]
    by_cases h2 : i < p + us.length
    · rw [if_pos h2, List.getElem?_append_left (by omega)]
    · rw [if_neg h2, List.getElem?_append_right (by omega), List.getElem?_drop]
      congr 1; omega
theorem splice_length {α : Type} {p : Nat} {us L : List α} (h : p + us.length ≤ L.length) : (splice p us L).length = L.length := by
  unfold splice; simp; omega
theorem splice_out {α : Type} {p b n : Nat} {us L : List α} (h : p + us.length ≤ L.length) (hd : b + n ≤ p ∨ p + us.length ≤ b) : ((splice p us L).drop b).take n = (L.drop b).take n := by
  apply List.ext_getElem?
  intro i
  rw [List.getElem?_take, List.getElem?_take]
  split
  · rw [List.getElem?_drop, List.getElem?_drop, splice_get h]
    rcases hd with hd | hd
    · rw [if_pos (by omega)]
    · rw [if_neg (by omega), if_neg (by omega)]
  · rfl
theorem splice_in {α : Type} {b off n : Nat} {us L : List α} (h : b + n ≤ L.length) (ho : off + us.length ≤ n) : ((splice (b + off) us L).drop b).take n = splice off us ((L.drop b).take n) := by
  have hl : ((L.drop b).take n).length = n := by simp; omega
  apply List.ext_getElem?
  intro i
  rw [List.getElem?_take, splice_get (by rw [hl]; exact ho)]
  by_cases hi : i < n
  · rw [if_pos hi, List.getElem?_drop, splice_get (by omega), List.getElem?_take, if_pos hi, List.getElem?_drop]
    by_cases h1 : i < off
    · rw [if_pos (by omega), if_pos h1]
    · rw [if_neg (by omega), if_neg h1]
      by_cases h2 : i < off + us.length
      · rw [if_pos (by omega), if_pos h2]; congr 1; omega
      · rw [if_neg (by omega), if_neg h2]
  · rw [if_neg hi, if_neg (by omega), if_neg (by omega), List.getElem?_take, if_neg hi]

theorem setRow_cellsAt {w : World} {blk : Nat} {c : Array Value} {T : TypeId} (hb : w.heap[blk]? = some (.cells c T (0, 0))) (L : List Value) (off n : Nat) (h : off + n ≤ L.length) :
    cellsAt (w.setRow blk L.toArray).heap blk off n = some ((L.drop off).take n) := by
  rw [cellsAt_mk (setRow_heap w blk c L.toArray T (0, 0) hb) off n (by simpa using h)]

section
variable {X : Fx} {cl ch : Nat} {S : Sm} {m : Nat → Option Loc} {ok : Nat → Prop} {a : Act} {w : World} {o : Oper}

theorem relL_h {h h' : Array Obj} {ok : Nat → Prop} {m : Nat → Option Loc} (k : ∀ b, ok b → h'[b]? = h[b]?) {cs : List V} {vs : List Value} (hr : relL ⟨h, ok, m⟩ cs vs) : relL ⟨h', ok, m⟩ cs vs :=
  relL_le (C := ⟨h, ok, m⟩) (D := ⟨h', ok, m⟩) ⟨fun _ h => h, k, fun _ _ h => h⟩ hr
theorem relL_cells_one {C : Cx} {cs : List V} {v : Value} (h : relL C cs v.cells.toList) : ∀ u ∈ v.cells.toList, u.oneCell' = true := relL_one h

/-- a store, done -/
theorem store_done {S' : Sm} {t : TypeId} {x y : Operand} {w' : World} {m' : Nat → Option Loc} {ok' : Nat → Prop} (ho : o.op = .store t x y) (hd : o.dst = none) (run : (Instr.storeAt t (a.eval x) (a.eval y)).run X.P w = .ok () w')
    (R : Rel X cl ch S' m' ok' a w') (hm : ∀ k l, m k = some l → m' k = some l) (hok : ∀ b, ok b → ok' b) : OpOk X cl ch o a w m ok S' := by
  intro next Q hn
  unfold Oper.wp
  have e : (execOp a.eval o).run X.P w = .ok .skip w' := by simp [execOp, ho, run]
  rw [e, Oper.upon_skip, hd]
  exact hn m' ok' a w' R hm hok

theorem op_store (H : FxOk X) (R : Rel X cl ch S m ok a w) {t : TypeId} {x y : Operand} {q : Nat} (ho : o.op = .store t x y) : (opCmd X.E q o).post S (fun _ S' => OpOk X cl ch o a w m ok S') := by
  unfold opCmd
  simp only [ho]
  cases hd : o.dst with
  | some d => trivial
  | none =>
  refine opnd_post R fun p hp => opnd_post R fun v hv => ?_
  unfold storeC
  refine tiC_post H fun i hi => ?_
  cases p <;> try trivial
  case ptr bx off =>
    obtain ⟨blk, hm, hx⟩ := hp
    refine get_post ?_
    split <;> try trivial
    rename_i cs hS
    obtain ⟨blk', arr, T, hm', hh, hl⟩ := R.own_cells hS
    simp only at hm hm'
    rw [hm] at hm'; cases hm'
    refine cellsC_post hv fun vs hvs => bif_post fun hlen => putC_post _ _ _ fun hle => set_post ?_
    have hlen' := Nat.eq_of_beq_eq_true hlen
    have hL := relL_length hl
    have hL2 := relL_length hvs
    have hsz : (a.eval y).cells.size = i.size := by simp at hL2; omega
    have hown : ownB m bx (S (BOX + bx)) = some blk := by simp [ownB, hS, hm]
    have hfit : off + i.size ≤ arr.size := by simp at hL; omega
    have run := run_storeVar hi w hh (v := a.eval y) hsz hfit (relL_one hvs)
    refine store_done ho hd (w' := w.setRow blk (splice off (a.eval y).cells.toList arr.toList).toArray) (by simp [Instr.storeAt, Instr.sureAddr, hx, run]) ?_ (fun _ _ h => h) (fun _ h => h)
    refine R.mod hown (by simp [ownB, hm]) (by simp) rfl rfl rfl (by simp) (fun b hb => setRow_other w blk b _ hb) ?_
    refine ⟨blk, _, T, hm, setRow_heap w blk arr _ T (0, 0) hh, ?_⟩
    refine relL_h (fun b hb => setRow_other w blk b _ (fun e => (R.sep bx blk hown).1 (e ▸ hb))) ?_
    simpa using relL_splice hvs hl
  case ep bx ix off =>
    obtain ⟨blk, o', len, cap, sz, hm, hlt, hx⟩ := hp
    refine get_post ?_
    split <;> try trivial
    rename_i u xs hS
    obtain ⟨l, hm', ha⟩ := R.own_arr hS
    simp only at hm
    rw [hm] at hm'; cases hm'
    obtain ⟨rfl, rfl, h3, c, T, hh, hs, hxs⟩ := ha
    refine opt_post fun e0 he0 => ?_
    obtain ⟨es, he, hr⟩ := hxs ix e0 he0
    refine cellsC_post hv fun vs hvs => bif_post fun hlen => putC_post _ _ _ fun hle => ?_
    rw [flat_length] at hle
    have hlen' := Nat.eq_of_beq_eq_true hlen
    have hL2 := relL_length hvs
    have hsz : (a.eval y).cells.size = i.size := by simp at hL2; omega
    have hes := cellsAt_length he
    have hnew := relL_splice (off := off) hvs (relL_flat (C := ⟨w.heap, ok, m⟩) hr)
    refine toData_false (T := []) u R Tk.nil hnew fun S1 ok1 y1 q1 us us' R1 T1 k1 s1 e1 h1 l1 => ?_
    cases q1 with
    | cons _ _ => trivial
    | nil =>
    simp only [relL] at l1
    subst l1
    simp only [List.append_nil] at e1
    subst e1
    refine get_post ?_
    split <;> try trivial
    rename_i u' xs' hS1
    refine castL_post fun e => ?_
    subst e
    refine set_post ?_
    obtain ⟨l, hm', ha⟩ := R1.own_arr hS1
    rw [hm] at hm'; cases hm'
    obtain ⟨hszu, hlen2, h3', c', T', hh', hs', hxs'⟩ := ha
    rw [hh] at hh'; cases hh'
    have hown : ownB m bx (S1 (BOX + bx)) = some blk := by simp [ownB, hS1, hm]
    have hcap : (ix + 1) * u'.size ≤ cap * u'.size := Nat.mul_le_mul_right _ (by omega)
    rw [Nat.add_mul, Nat.one_mul] at hcap
    have hfit : o' + ix * u'.size + off + i.size ≤ c.size := by omega
    have run := run_storeVar hi w (off := o' + ix * u'.size + off) hh (v := a.eval y) hsz hfit (relL_one hvs)
    have hvl : (a.eval y).cells.toList.length = i.size := by simpa using hsz
    refine store_done ho hd (w' := w.setRow blk (splice (o' + ix * u'.size + off) (a.eval y).cells.toList c.toList).toArray) (by simp [Instr.storeAt, Instr.sureAddr, hx, run]) ?_ (fun _ _ h => h) k1
    refine R1.mod hown (by simp [ownB, hm]) (by simp) rfl rfl rfl (by simp) (fun b hb => setRow_other w blk b _ hb) ?_
    have hkeep : ∀ b, ok1 b → (w.setRow blk (splice (o' + ix * u'.size + off) (a.eval y).cells.toList c.toList).toArray).heap[b]? = w.heap[b]? :=
      fun b hb => setRow_other w blk b _ (fun e => (R1.sep bx blk hown).1 (e ▸ hb))
    have hcl : c.toList.length = c.size := by simp
    have hsp : (splice (o' + ix * u'.size + off) (a.eval y).cells.toList c.toList).length = c.size := by rw [splice_length (by rw [hcl, hvl]; exact hfit)]; exact hcl
    refine ⟨_, hm, rfl, by simp [lset, hlen2], h3, _, T, setRow_heap w blk c _ T (0, 0) hh, by simp [hsp]; exact hs, fun j z hz => ?_⟩
    unfold lset at hz
    rw [List.getElem?_set] at hz
    split at hz
    · rename_i hj
      subst hj
      split at hz
      · cases hz
        refine ⟨_, setRow_cellsAt hh _ _ _ (by rw [hsp]; omega), ?_⟩
        rw [splice_in (by rw [hcl]; omega) (by rw [hvl]; omega)]
        obtain ⟨c2, T2, f2, hb2, hn2, rfl⟩ := cellsAt_of he
        rw [hh] at hb2; cases hb2
        exact rep_mono (fun _ h => h) hkeep h1
      · cases hz
    · rename_i hj
      obtain ⟨es2, he2, hr2⟩ := hxs' j z hz
      obtain ⟨c2, T2, f2, hb2, hn2, rfl⟩ := cellsAt_of he2
      rw [hh] at hb2; cases hb2
      refine ⟨_, setRow_cellsAt hh _ _ _ (by rw [hsp]; omega), ?_⟩
      rw [splice_out (by rw [hcl, hvl]; exact hfit)]
      · exact rep_mono (fun _ h => h) hkeep hr2
      · rw [hvl]
        rcases Nat.lt_or_gt_of_ne hj with hlt' | hgt
        · right
          have : (ix + 1) * u'.size ≤ j * u'.size := Nat.mul_le_mul_right _ (by omega)
          rw [Nat.add_mul, Nat.one_mul] at this; omega
        · left
          have : (j + 1) * u'.size ≤ ix * u'.size := Nat.mul_le_mul_right _ (by omega)
          rw [Nat.add_mul, Nat.one_mul] at this; omega
end
end Go.GP
