import Derived.Test.YtjpepdpbplpccaaDoorGp12
/- LITERALS OF SLICES AND STRUCTS. -/
namespace Go.GP
set_option linter.unusedVariables false
set_option linter.unusedSimpArgs false

theorem foldl_set_splice : ∀ (vs : List Value) (k off : Nat) (cs : Array Value), off + k + vs.length ≤ cs.size →
    (vs.zipIdx k).foldl (fun cs (x : Value × Nat) => cs.setIfInBounds (off + x.2) x.1) cs = (splice (off + k) vs cs.toList).toArray
  | [], k, off, cs, h => by simp [splice]
  | v :: vs, k, off, cs, h => by
    simp only [List.zipIdx_cons, List.foldl_cons]
    rw [foldl_set_splice vs (k + 1) off (cs.setIfInBounds (off + k) v) (by simp only [List.length_cons] at h; rw [Array.size_setIfInBounds]; omega)]
    congr 1
    simp only [List.length_cons] at h
    have hsz : cs.toList.length = cs.size := rfl
    apply List.ext_getElem?
    intro i
    rw [splice_get (by rw [Array.toList_setIfInBounds, List.length_set]; omega), splice_get (by rw [List.length_cons]; omega)]
    simp only [Array.toList_setIfInBounds, List.length_cons, List.getElem?_set]
    by_cases h1 : i < off + k
    · rw [if_pos (show i < off + (k + 1) by omega), if_pos h1, if_neg (show ¬ off + k = i by omega)]
    · rw [if_neg h1]
      by_cases h2 : i = off + k
      · subst h2
        rw [if_pos (show off + k < off + (k + 1) by omega), if_pos rfl, if_pos (show off + k < cs.toList.length by omega), if_pos (show off + k < off + k + (vs.length + 1) by omega)]
        simp
      · rw [if_neg (show ¬ i < off + (k + 1) by omega)]
        by_cases h3 : i < off + (k + 1) + vs.length
        · rw [if_pos h3, if_pos (show i < off + k + (vs.length + 1) by omega)]
          rw [show i - (off + k) = (i - (off + (k + 1))) + 1 by omega]
          simp
        · rw [if_neg h3, if_neg (show ¬ i < off + k + (vs.length + 1) by omega), if_neg (show ¬ off + k = i by omega)]

theorem zipIdx_foldl (v : Value) (off : Nat) (cs : Array Value) (h : off + v.cells.size ≤ cs.size) :
    v.cells.zipIdx.foldl (fun cs (c, j) => cs.setIfInBounds (off + j) c) cs = (splice off v.cells.toList cs.toList).toArray := by
  have := foldl_set_splice v.cells.toList 0 off cs (by simpa using h)
  rw [Nat.add_zero] at this
  rw [← this, ← Array.foldl_toList, Array.toList_zipIdx]

theorem fill_cons {place : Nat → Option (Nat × Nat)} {cs : Array Value} {i off size : Nat} {v : Value} {rest : List (Nat × Value)} (hp : place i = some (off, size)) (hs : v.cells.size = size) (hf : off + v.cells.size ≤ cs.size) :
    Instr.fill place cs ((i, v) :: rest) = Instr.fill place (splice off v.cells.toList cs.toList).toArray rest := by
  have h2 : ¬ (v.cells.size ≠ size ∨ off + v.cells.size > cs.size) := by omega
  simp only [Instr.fill, hp]
  rw [if_neg (by simpa using h2), zipIdx_foldl v off cs hf]

/-- parts in order fill a row -/
theorem fill_row {size : Nat} : ∀ (vs : List Value) (n : Nat) (cs : Array Value), (∀ v ∈ vs, v.cells.size = size) → cs.size = (n + vs.length) * size →
    Instr.fill (fun i => some (i * size, size)) cs ((List.range' n vs.length).zip vs) = some (cs.toList.take (n * size) ++ vs.flatMap (fun v => v.cells.toList)).toArray
  | [], n, cs, _, h => by
    simp only [List.length_nil, Nat.add_zero] at h
    have : cs.toList.take (n * size) = cs.toList := List.take_of_length_le (by rw [← h]; exact Nat.le_refl _)
    simp [Instr.fill, this]
  | v :: vs, n, cs, hv, h => by
    have h1 := hv v (by simp)
    simp only [List.length_cons] at h
    have e1 : (n + (vs.length + 1)) * size = n * size + size + vs.length * size := by rw [Nat.add_mul, Nat.add_mul]; omega
    simp only [List.length_cons, List.range'_succ, List.zip_cons_cons]
    rw [fill_cons (off := n * size) (size := size) rfl h1 (by omega)]
    rw [fill_row vs (n + 1) _ (fun u hu => hv u (by simp [hu])) (by
      have := splice_length (p := n * size) (us := v.cells.toList) (L := cs.toList) (by simp; omega)
      simp only [List.size_toArray, this]
      rw [Nat.add_mul, Nat.add_mul]; simp; omega)]
    congr 2
    simp only [List.flatMap_cons]
    rw [← List.append_assoc]
    congr 1
    unfold splice
    have hsz : cs.toList.length = cs.size := rfl
    have h1' : v.cells.toList.length = size := h1
    rw [Nat.add_mul, Nat.one_mul, List.take_append_of_le_length (by rw [List.length_append, List.length_take, h1']; omega)]
    rw [List.take_of_length_le (by rw [List.length_append, List.length_take, h1']; omega)]

theorem run_buildSlice {P : Program} {w : World} {t e : TypeId} {inf : TypeInfo} {z : Value} {n sz : Nat} {parts : Array (Nat × Value)} {F : Array Value} (hu : P.underlying t = some (.slice e)) (hi : P.info? e = some inf) (hs : inf.size = sz) (hz : inf.zero = some z)
    (hle : n * sz ≤ 16777216) (hf : ∀ cs : Array Value, cs.size = n * sz → Instr.fill (fun i => some (i * sz, sz)) cs parts.toList = some F) :
    (Instr.buildSlice t n parts).run P w = .ok (.slice (some ⟨w.heap.size, 0, none⟩) n n) (w.alloc (.cells F e)) := by
  subst hs
  have hsz : (sizeOf e).run P w = .ok inf.size w := by simp [sizeOf, typeInfo, hi]
  have hnle : ¬ (n * inf.size > 2 ^ 24) := by show ¬ (n * inf.size > 16777216); omega
  unfold Instr.buildSlice
  simp only [Sem.run_bind, run_underlying hu, Result.andThen_ok, hsz, if_neg hnle]
  generalize n * inf.size = N at *
  have fin : ∀ zero : Array Value, ((match Instr.fill (fun i => some (i * inf.size, inf.size)) ((Array.range N).map (zero[· % zero.size]!)) parts.toList with
      | some cells => (do pure (Value.slice (some (← newRow e cells)) n n) : Sem Value)
      | _ => stuck "buildSlice: a part of the wrong size") : Sem Value).run P w = .ok (.slice (some ⟨w.heap.size, 0, none⟩) n n) (w.alloc (.cells F e)) := fun zero => by
    rw [hf _ (by simp)]
    simp [newRow]
  by_cases hn : N = 0
  · rw [if_pos hn]
    simp only [Sem.run_bind, Sem.run_pure, Result.andThen_ok]
    exact fin _
  · rw [if_neg hn]
    have hzv : (zeroValue e).run P w = .ok z w := by simp [zeroValue, typeInfo, hi, hz]
    simp only [Sem.run_bind, hzv, Sem.run_pure, Result.andThen_ok]
    exact fin _

section
variable {X : Fx} {cl ch : Nat} {S : Sm} {m : Nat → Option Loc} {ok : Nat → Prop} {a : Act} {w : World} {o : Oper}


theorem buildParts_post {α : Type} {Q : α → Sm → Prop} (u : Ty) : ∀ (is : List Nat) (vs : List V) {us : List Value} (n k : Nat) {K : List u.den → Cmd α} {S : Sm} {ok : Nat → Prop} (R : Rel X cl ch S m ok a w) (hl : is.length = us.length)
    (hv : relVs ⟨w.heap, ok, m⟩ vs us)
    (hK : ∀ S' ok' xs, Rel X cl ch S' m ok' a w → (∀ b, ok b → ok' b) → us.length = k → is = List.range' n us.length → (∀ v ∈ us, v.cells.size = u.size) → xs.length = us.length → RowRep w.heap ok' u xs (us.flatMap fun v => v.cells.toList) → (K xs).post S' Q),
    (buildParts u (is.zip vs) n k K).post S Q
  | [], vs, us, n, k, K, S, ok, R, hl, hv, hK => by
    have : us = [] := by cases us <;> simp at hl ⊢
    subst this
    simp only [List.zip_nil_left]
    cases k with
    | zero => unfold buildParts; exact hK S ok [] R (fun _ h => h) rfl rfl (by simp) rfl RowRep.nil
    | succ k => unfold buildParts; trivial
  | i :: is, vs, us, n, k, K, S, ok, R, hl, hv, hK => by
    cases us with
    | nil => simp at hl
    | cons x us =>
    cases vs with
    | nil => simp [relVs] at hv
    | cons v vs =>
    obtain ⟨x', r, e, h1, h2⟩ := hv
    simp only [List.cons.injEq] at e
    obtain ⟨rfl, rfl⟩ := e
    simp only [List.zip_cons_cons]
    cases k with
    | zero => unfold buildParts; trivial
    | succ k =>
    unfold buildParts
    refine bif_post fun hi => cellsC_post h1 fun cs hcs => ?_
    have hi' := Nat.eq_of_beq_eq_true hi
    subst hi'
    refine toData_false (T := []) u R Tk.nil hcs fun S1 ok1 y q ws ws' R1 T1 k1 s1 e1 g1 l1 => ?_
    cases q with
    | cons _ _ => trivial
    | nil =>
    simp only [relL] at l1
    subst l1
    simp only [List.append_nil] at e1
    refine buildParts_post u is vs (i + 1) k R1 (by simpa using hl) (relVs_ok k1 h2) fun S2 ok2 ys R2 k2 c1 c2 c3 c4 c5 => ?_
    refine hK S2 ok2 (y :: ys) R2 (fun b h => k2 b (k1 b h)) (by simp [c1]) ?_ ?_ (by simp [c4]) ?_
    · simp [List.range'_succ, c2]
    · intro z hz
      rcases List.mem_cons.1 hz with rfl | hz
      · have := rep_length g1; rw [← e1] at this; simpa using this
      · exact c3 z hz
    · have := (RowRep.one (rep_mono k2 (fun _ _ => rfl) g1)).append c5
      simpa [e1] using this

theorem op_buildSlice (H : FxOk X) {q : Nat} (R : Rel X (CB * q) (CB * q + CB) S m ok a w) {t : TypeId} {n : Nat} {ps : Array (Nat × Operand)} (ho : o.op = .buildSlice t n ps) : (opCmd X.E q o).post S (fun _ S' => OpOk X (CB * q) (CB * q + CB) o a w m ok S') := by
  unfold opCmd
  simp only [ho]
  split <;> try trivial
  rename_i e u het
  obtain ⟨j, z, inf, hu, hj, h1, h2, h3, h4, h5, h6⟩ := elemTy_spec H het
  have hz := rep_length h6
  refine bif_post fun hle => opnds_post R _ fun vs hvs => ?_
  have hle' : n * u.size ≤ 16777216 := Nat.le_of_ble_eq_true hle
  refine buildParts_post u _ vs 0 n R (by simp) hvs fun S' ok' xs R' k c1 c2 c3 c4 c5 => ?_
  have hsz : (sizeOf e).run X.P w = .ok u.size w := by simp [sizeOf, typeInfo, h1, h2]
  simp only [List.length_map] at c1 c2
  have hparts : (ps.map fun (i, x) => (i, a.eval x)).toList = (List.range' 0 ((ps.toList.map (·.2)).map a.eval).length).zip ((ps.toList.map (·.2)).map a.eval) := by
    simp only [List.length_map]
    rw [← c2]
    simp [List.zip_map', List.zip_map, Array.toList_map, Function.comp_def]
  have hxl : xs.length = n := by rw [c4]; simpa using c1
  have hflat := c5.1
  have hcl : ((ps.toList.map (·.2)).map a.eval).length = n := by simpa using c1
  have hfill : ∀ cs : Array Value, cs.size = n * u.size → Instr.fill (fun i => some (i * u.size, u.size)) cs (ps.map fun (i, x) => (i, a.eval x)).toList = some ((((ps.toList.map (·.2)).map a.eval).flatMap fun v => v.cells.toList)).toArray := fun cs hcs => by
    rw [hparts, fill_row _ 0 cs c3 (by rw [hcl, hcs]; simp)]
    simp
  refine newrow_ok (w1 := w) (e := e) (cap := xs.length) H R' rfl rfl rfl rfl c5 (Nat.le_refl _) (by rw [← hflat]; simp) (c := ((((ps.toList.map (·.2)).map a.eval).flatMap fun v => v.cells.toList)).toArray) (List.take_of_length_le (by rw [hflat]; exact Nat.le_refl _)) (fun _ _ h => h) k ?_
  have hrun := run_buildSlice (w := w) (n := n) hu h1 h2 h5 hle' hfill
  simp only [execOp, ho, Sem.run_bind, hrun, Result.andThen_ok, Sem.run_pure, hxl]

theorem allTt_spec {E : Env} : ∀ {fs : List (Nat × Nat)}, allTt E fs = true → ∀ p ∈ fs, ∃ i, assoc E.tt p.1 = some i
  | [], _, p, hp => by cases hp
  | (t, o) :: r, h, p, hp => by
    unfold allTt at h
    cases hi : assoc E.tt t with
    | none => simp [hi] at h
    | some i =>
      simp only [hi] at h
      rcases List.mem_cons.1 hp with rfl | hp
      · exact ⟨i, hi⟩
      · exact allTt_spec h p hp

/-- the places of a struct's fields -/
def placesOf (P : Program) (fields : Array Field) : List (Nat × Nat) := fields.toList.map fun f => (f.offset, ((P.info? f.type).map (·.size)).getD 0)
theorem places_mapM {P : Program} : ∀ (fs : List Field), (∀ f ∈ fs, ∃ i, P.info? f.type = some i) →
    fs.mapM (fun f => (P.info? f.type).map fun i => (f.offset, i.size)) = some (fs.map fun f => (f.offset, ((P.info? f.type).map (·.size)).getD 0))
  | [], _ => by simp
  | f :: fs, h => by
    obtain ⟨i, hi⟩ := h f (by simp)
    rw [List.mapM_cons, places_mapM fs (fun g hg => h g (by simp [hg]))]
    simp [hi]

theorem structParts_post {α : Type} {Q : α → Sm → Prop} (H : FxOk X) {t : Nat} {fields : Array Field} (hu : X.P.underlying t = some (.struct fields)) :
    ∀ (is : List Nat) (vs : List V) {us : List Value} {cs : List V} {arr : Array Value} {K : List V → Cmd α} (hl : is.length = us.length) (hv : relVs ⟨w.heap, ok, m⟩ vs us) (hc : relL ⟨w.heap, ok, m⟩ cs arr.toList)
    (hK : ∀ cs' arr', Instr.fill ((placesOf X.P fields).toArray[·]?) arr (is.zip us) = some arr' → relL ⟨w.heap, ok, m⟩ cs' arr'.toList → (K cs').post S Q), (structParts X.E t (is.zip vs) cs K).post S Q
  | [], vs, us, cs, arr, K, hl, hv, hc, hK => by
    simp only [List.zip_nil_left]
    unfold structParts
    exact hK cs arr (by simp [Instr.fill]) hc
  | i :: is, vs, us, cs, arr, K, hl, hv, hc, hK => by
    cases us with
    | nil => simp at hl
    | cons x us =>
    cases vs with
    | nil => simp [relVs] at hv
    | cons v vs =>
    obtain ⟨x', r, e, h1, h2⟩ := hv
    simp only [List.cons.injEq] at e
    obtain ⟨rfl, rfl⟩ := e
    simp only [List.zip_cons_cons]
    unfold structParts
    split <;> try trivial
    rename_i off n ag hf
    obtain ⟨fields', fld, j, hu', hfl, hoff, hj, hn, hn0, _⟩ := fieldOff_spec H hf
    rw [hu] at hu'; cases hu'
    obtain ⟨inf, i1, i2, _⟩ := hj.info
    refine cellsC_post h1 fun ws hws => bif_post fun hb => putC_post off ws cs fun hle => ?_
    have hb' := Nat.eq_of_beq_eq_true hb
    have hL := relL_length hc
    have hLw := relL_length hws
    have hxs : x.cells.size = n := by simp at hLw; omega
    have hpl : ((placesOf X.P fields).toArray[i]?) = some (off, n) := by
      have hfl' : fields.toList[i]? = some fld := by simpa using hfl
      simp [placesOf, hfl, i1, i2, hoff, hn]
    refine structParts_post H hu is vs (arr := (splice off x.cells.toList arr.toList).toArray) (by simpa using hl) h2 (by simpa using relL_splice hws hc) fun cs' arr' hfill hrel => ?_
    refine hK cs' arr' ?_ hrel
    rw [List.zip_cons_cons, fill_cons (place := fun k => (placesOf X.P fields).toArray[k]?) (cs := arr) hpl hxs (by simp at hL; omega)]
    exact hfill

theorem op_build (H : FxOk X) (R : Rel X cl ch S m ok a w) {t : TypeId} {ps : Array (Nat × Operand)} {q : Nat} (ho : o.op = .build t ps) : (opCmd X.E q o).post S (fun _ S' => OpOk X cl ch o a w m ok S') := by
  unfold opCmd
  simp only [ho]
  refine tiC_post H fun i hi => ?_
  split <;> try trivial
  rename_i fs htd'
  have htd := hi.td
  rw [htd'] at htd
  obtain ⟨fields, hu, hfs⟩ := htd
  refine bif_post fun hb => opnds_post R _ fun vs hvs => ?_
  simp only [Bool.and_eq_true] at hb
  obtain ⟨inf, h1, h2, h3, h4, h5⟩ := hi.info
  obtain ⟨z, hz1, hz2⟩ := h4 (Nat.eq_of_beq_eq_true hb.2)
  refine structParts_post H hu _ vs (us := (ps.toList.map (·.2)).map a.eval) (arr := z.cells) (by simp) hvs (relL_const hz2) fun cs' arr' hfill hrel => ?_
  refine pure_ok H R (v := .agg cs') (x := .agg arr') ⟨arr', rfl, hrel⟩ ?_
  have hparts : (ps.map fun (i, x) => (i, a.eval x)).toList = (ps.toList.map (·.1)).zip ((ps.toList.map (·.2)).map a.eval) := by
    simp [List.zip_map', List.zip_map, Array.toList_map, Function.comp_def]
  have hmap := places_mapM (P := X.P) fields.toList (fun f hf => by
    obtain ⟨i', hi'⟩ := allTt_spec hb.1 (f.type, f.offset) (by rw [← hfs]; exact List.mem_map.2 ⟨f, hf, rfl⟩)
    obtain ⟨inf', q1, _⟩ := (H.tt _ _ hi').info
    exact ⟨inf', q1⟩)
  have hbuilt : X.P.built t (ps.map fun (i, x) => (i, a.eval x)).toList = some arr' := by
    unfold Program.built
    simp only [h1, hu, hz1, hmap]
    rw [hparts]; exact hfill
  have := run_build (P := X.P) w t _ arr' hbuilt
  simp only [execOp, ho, Sem.run_bind, this, Result.andThen_ok, Sem.run_pure]
end
end Go.GP
