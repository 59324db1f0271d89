import Derived.Test.YtjpepdpbplpccaaDoorGp7
/- OPERATIONS ON MEMORY. -/
namespace Go.GP
set_option linter.unusedVariables false
set_option linter.unusedSimpArgs false

/-! ### running the model's loads and stores -/
theorem cell_of_cellsAt {w : World} {blk off n : Nat} {es : List Value} (e : cellsAt w.heap blk off n = some es) {j : Nat} {v : Value} (h : es[j]? = some v) : w.cell? ⟨blk, off + j, none⟩ = some v := by
  obtain ⟨c, T, f, hb, hn, rfl⟩ := cellsAt_of e
  rw [cell_of_row w blk (off + j) c T f hb]
  have hj : j < n := by
    have := (List.getElem?_eq_some_iff.1 h).1
    simp at this; omega
  rw [List.getElem?_take, if_pos hj, List.getElem?_drop] at h
  simpa using h

theorem run_isAgg {P : Program} {t : TypeId} {d : TD} (h : tdOk P t d) (w : World) : (isAgg t).run P w = .ok (isAggTD d) w := by
  unfold isAgg
  cases d <;> simp only [tdOk] at h
  case struct fs =>
    obtain ⟨fields, hu, _⟩ := h
    rw [Sem.run_bind, run_underlying hu]; rfl
  case other =>
    obtain ⟨e, hu, hn⟩ := h
    rw [Sem.run_bind, run_underlying hu]
    cases e <;> first | rfl | exact hn.elim
  all_goals (rw [Sem.run_bind, run_underlying h]; rfl)

theorem run_sizeOf {P : Program} {t : TypeId} {i : TI} (h : TiOk P t i) (w : World) : (sizeOf t).run P w = .ok i.size w := by
  obtain ⟨inf, h1, h2, _⟩ := h.info
  simp [sizeOf, typeInfo, h1, h2]

def valOf (ag : Bool) (es : List Value) : Value := match ag with | true => .agg es.toArray | false => es.headD Go.undef

theorem run_loadVar {P : Program} {t : TypeId} {i : TI} (hi : TiOk P t i) (w : World) {blk off : Nat} {es : List Value} (e : cellsAt w.heap blk off i.size = some es) :
    (loadVar t ⟨blk, off, none⟩).run P w = .ok (valOf (isAggTD i.td) es) w := by
  have hl := cellsAt_length e
  unfold loadVar
  rw [Sem.run_bind, run_isAgg hi.td]
  simp only [Result.andThen_ok]
  cases ha : isAggTD i.td
  · have h1 := hi.one ha
    rw [h1] at hl
    obtain ⟨v, rfl⟩ : ∃ v, es = [v] := by
      cases es with
      | nil => simp at hl
      | cons v r => cases r with
        | nil => exact ⟨v, rfl⟩
        | cons _ _ => simp at hl
    have hc := cell_of_cellsAt e (j := 0) (v := v) rfl
    simp only [Nat.add_zero] at hc
    simp [hc, valOf]
  · have hc := run_loadCells_list (P := P) w ⟨blk, off, none⟩ es (fun j v h => by rw [Addr.add_lit]; exact cell_of_cellsAt e h)
    rw [hl] at hc
    simp [run_sizeOf hi, hc, valOf]

theorem relV_valOf {C : Cx} {ag : Bool} {cs : List V} {es : List Value} (h : relL C cs es) (h1 : ag = false → es.length = 1) : relV C (mkV ag cs) (valOf ag es) := by
  refine relV_mkV (us := es) ?_ h
  cases ag
  · have := h1 rfl
    obtain ⟨v, rfl⟩ : ∃ v, es = [v] := by
      cases es with
      | nil => simp at this
      | cons v r => cases r with
        | nil => exact ⟨v, rfl⟩
        | cons _ _ => simp at this
    rfl
  · exact ⟨es.toArray, rfl, by simp⟩

theorem dropC_eq : ∀ (n : Nat) (cs r : List V), dropC n cs = some r → n ≤ cs.length ∧ r = cs.drop n
  | 0, cs, r, h => by simp [dropC] at h; simp [h]
  | n + 1, [], r, h => by simp [dropC] at h
  | n + 1, c :: cs, r, h => by
    obtain ⟨h1, h2⟩ := dropC_eq n cs r (by simpa [dropC] using h)
    exact ⟨by simp; omega, by simpa using h2⟩
theorem takeC_post {α : Type} {Q : α → Sm → Prop} {S : Sm} : ∀ (n : Nat) (cs : List V) {K : List V → Cmd α} (hK : n ≤ cs.length → (K (cs.take n)).post S Q), (takeC n cs K .fail).post S Q
  | 0, cs, K, hK => by simpa [takeC] using hK (Nat.zero_le _)
  | n + 1, [], K, hK => trivial
  | n + 1, c :: cs, K, hK => by
    unfold takeC
    exact takeC_post n cs fun h => by simpa using hK (by simp; omega)
theorem subC_post {α : Type} {Q : α → Sm → Prop} {S : Sm} {off n : Nat} {cs : List V} {K : List V → Cmd α} (hK : off + n ≤ cs.length → (K ((cs.drop off).take n)).post S Q) : (subC off n cs K .fail).post S Q := by
  unfold subC
  split
  · rename_i r hr
    obtain ⟨h1, rfl⟩ := dropC_eq _ _ _ hr
    refine takeC_post n _ fun h => hK ?_
    simp at h; omega
  · trivial
def splice {α : Type} (off : Nat) (vs cs : List α) : List α := cs.take off ++ vs ++ cs.drop (off + vs.length)
theorem putC_post {α : Type} {Q : α → Sm → Prop} {S : Sm} : ∀ (off : Nat) (vs cs : List V) {K : List V → Cmd α} (hK : off + vs.length ≤ cs.length → (K (splice off vs cs)).post S Q), (putC off vs cs K .fail).post S Q
  | 0, [], cs, K, hK => by
    have := hK (by simp)
    cases cs <;> simpa [putC, splice] using this
  | 0, v :: vs, [], K, hK => by simp [putC]; trivial
  | 0, v :: vs, c :: cs, K, hK => by
    unfold putC
    exact putC_post 0 vs cs fun h => by simpa [splice] using hK (by simp at h ⊢; omega)
  | n + 1, vs, [], K, hK => by cases vs <;> simp [putC] <;> trivial
  | n + 1, vs, c :: cs, K, hK => by
    have e : putC (n + 1) vs (c :: cs) K Cmd.fail = putC n vs cs (fun r => K (c :: r)) Cmd.fail := by cases vs <;> rfl
    rw [e]
    refine putC_post n vs cs fun h => ?_
    have := hK (by simp; omega)
    have e2 : n + 1 + vs.length = (n + vs.length) + 1 := by omega
    simpa [splice, e2] using this

theorem relL_splice {C : Cx} {off : Nat} {vs cs : List V} {us xs : List Value} (hv : relL C vs us) (hc : relL C cs xs) : relL C (splice off vs cs) (splice off us xs) := by
  unfold splice
  rw [← relL_length hv]
  exact relL_append (relL_append (relL_take off hc) hv) (relL_drop _ hc)

theorem run_storeVar {P : Program} {t : TypeId} {i : TI} (hi : TiOk P t i) (w : World) {blk off : Nat} {c : Array Value} {T : TypeId} (hb : w.heap[blk]? = some (.cells c T (0, 0))) {v : Value}
    (hs : v.cells.size = i.size) (ho : off + i.size ≤ c.size) (h1 : ∀ u ∈ v.cells.toList, u.oneCell' = true) :
    (storeVar t ⟨blk, off, none⟩ v).run P w = .ok () (w.setRow blk (splice off v.cells.toList c.toList).toArray) := by
  have h := run_storeCells_at P blk off T v.cells.toList 0 c w hb (by simp; omega) h1
  simp only [Nat.add_zero] at h
  unfold storeVar
  simp [run_sizeOf hi, hs, h, splice]

section
variable {X : Fx} {cl ch : Nat} {S : Sm} {m : Nat → Option Loc} {ok : Nat → Prop} {a : Act} {w : World} {o : Oper}

theorem Rel.own_cells (R : Rel X cl ch S m ok a w) {n : Nat} {cs : List V} (h : S (BOX + n) = .bcells cs) : ∃ blk arr T, m n = some (.st blk) ∧ w.heap[blk]? = some (.cells arr T (0, 0)) ∧ relL ⟨w.heap, ok, m⟩ cs arr.toList := by
  have := R.box n
  rw [h] at this
  exact this
theorem Rel.own_arr (R : Rel X cl ch S m ok a w) {n : Nat} {t : Ty} {xs : List t.den} (h : S (BOX + n) = .barr t xs) : ∃ l, m n = some l ∧ arrOk ⟨w.heap, ok, m⟩ t xs l := by
  have := R.box n
  rw [h] at this
  exact this
theorem Rel.own_frz (R : Rel X cl ch S m ok a w) {n : Nat} {t : Ty} {xs : List t.den} (h : S (BOX + n) = .bfrz t xs) : ∃ l, m n = some l ∧ arrOk ⟨w.heap, ok, m⟩ t xs l ∧ (∀ blk off len cap sz, l = .arr blk off len cap sz → ok blk) := by
  have := R.box n
  rw [h] at this
  exact this

theorem get_post {α : Type} {Q : α → Sm → Prop} {S : Sm} {k : Nat} {c : V → Cmd α} (h : (c (S k)).post S Q) : (Cmd.get k c).post S Q := h
theorem set_post {α : Type} {Q : α → Sm → Prop} {S : Sm} {k : Nat} {v : V} {c : Cmd α} (h : c.post (upd S k v) Q) : (Cmd.set k v c).post S Q := h

theorem loadC_post {α : Type} {Q : α → Sm → Prop} (H : FxOk X) (R : Rel X cl ch S m ok a w) {t : Nat} {p : V} {x : Value} (hp : relV ⟨w.heap, ok, m⟩ p x) {K : V → Cmd α}
    (hK : ∀ v u ad, relV ⟨w.heap, ok, m⟩ v u → x = .pointer (some ad) → (loadVar t ad).run X.P w = .ok u w → (K v).post S Q) : (loadC X.E t p K).post S Q := by
  unfold loadC
  refine tiC_post H fun i hi => ?_
  cases p <;> try trivial
  case ptr bx off =>
    obtain ⟨blk, hm, rfl⟩ := hp
    refine get_post ?_
    split <;> try trivial
    rename_i cs hS
    obtain ⟨blk', arr, T, hm', hh, hl⟩ := R.own_cells hS
    simp only at hm
    rw [hm] at hm'; cases hm'
    refine subC_post fun hle => ?_
    have hlen := relL_length hl
    have e := cellsAt_mk hh off i.size (by simp at hlen; omega)
    refine hK _ _ _ (relV_valOf (relL_take _ (relL_drop _ hl)) (fun ha => by have := cellsAt_length e; rw [hi.one ha] at this; rw [hi.one ha]; exact this)) rfl ?_
    exact run_loadVar hi w e
  case ep bx ix off =>
    obtain ⟨blk, o', len, cap, sz, hm, hlt, rfl⟩ := hp
    refine get_post ?_
    split <;> try trivial
    rename_i u xs hS
    obtain ⟨l, hm', ha⟩ := R.own_arr hS
    simp only at hm
    rw [hm] at hm'; cases hm'
    obtain ⟨rfl, rfl, h3, c, T, hh, hs, hx⟩ := ha
    refine opt_post fun y hy => ?_
    obtain ⟨es, he, hr⟩ := hx ix y hy
    refine subC_post fun hle => ?_
    rw [flat_length] at hle
    have e := cellsAt_sub he off i.size hle
    refine hK _ _ _ (relV_valOf (relL_take _ (relL_drop _ (relL_flat (C := ⟨w.heap, ok, m⟩) hr))) (fun ha => by have := cellsAt_length e; rw [hi.one ha] at this; rw [hi.one ha]; exact this)) rfl ?_
    exact run_loadVar hi w e
  case dp u y off =>
    obtain ⟨blk, o', es, rfl, hb, he, hr⟩ := hp
    refine subC_post fun hle => ?_
    rw [flat_length] at hle
    have e := cellsAt_sub he off i.size hle
    refine hK _ _ _ (relV_valOf (relL_take _ (relL_drop _ (relL_flat (C := ⟨w.heap, ok, m⟩) hr))) (fun ha => by have := cellsAt_length e; rw [hi.one ha] at this; rw [hi.one ha]; exact this)) rfl ?_
    exact run_loadVar hi w e

theorem op_load (H : FxOk X) (R : Rel X cl ch S m ok a w) {t : TypeId} {x : Operand} {q : Nat} (ho : o.op = .load t x) : (opCmd X.E q o).post S (fun _ S' => OpOk X cl ch o a w m ok S') := by
  unfold opCmd
  simp only [ho]
  refine opnd_post R fun u hu => loadC_post H R hu fun v x ad hv hx hr => pure_ok H R hv ?_
  simp [execOp, ho, hx, Instr.loadAt, Instr.sureAddr, hr]

/-! ### new blocks -/
theorem heap_push_old (h : Array Obj) (o : Obj) {b : Nat} (hb : b < h.size) : (h.push o)[b]? = h[b]? := by rw [Array.getElem?_push, if_neg (by omega)]

/-- a new block, under a new name -/
theorem Rel.new (R : Rel X cl ch S m ok a w) {n : Nat} {l : Loc} {v : V} {obj : Obj} (hn : S (BOX + n) = .undef) (hcl : cl ≤ n) (hch : n < ch) (hv : v ≠ .undef)
    (hb : ∀ b, ownB (updM m n l) n v = some b → b = w.heap.size) (hB : relB ⟨(w.alloc obj).heap, ok, updM m n l⟩ n v) :
    Rel X cl ch (upd S (BOX + n) v) (updM m n l) ok a (w.alloc obj) := by
  refine R.lay hn hcl hch hv rfl rfl rfl (by simp) (fun b hb' _ => heap_push_old _ _ hb') (fun b h => ?_) hB
  have e := hb b h
  subst e
  refine ⟨fun h' => Nat.lt_irrefl _ (R.okLt _ h'), by simp, .inl R.frame.size, fun k h' => Nat.lt_irrefl _ (R.sep k _ h').2.1⟩

theorem Rel.le_new (R : Rel X cl ch S m ok a w) {n : Nat} {l : Loc} {obj : Obj} (hn : S (BOX + n) = .undef) (hcl : cl ≤ n) : Cx.le ⟨w.heap, ok, m⟩ ⟨(w.alloc obj).heap, ok, updM m n l⟩ :=
  ⟨fun _ h => h, fun b hb => heap_push_old _ _ (R.okLt b hb), fun k x h => by
    by_cases e : k = n
    · subst e; have := R.fresh k hcl hn; simp only at h; rw [this] at h; cases h
    · show updM m n l k = some x; rw [updM_other _ _ e]; exact h⟩

/-- the names of a region's operation lie within the region's -/
theorem boxName_in (H : FxOk X) {q : Nat} (d : Option Tmp) (hd : ∀ t, d = some t → t < X.E.nt) : CB * q ≤ boxName q d ∧ boxName q d + 64 ≤ CB * q + CB := by
  have := H.nt
  cases d with
  | none => simp only [boxName]; show 1000000 * q ≤ 1000000 * q + 999936 ∧ 1000000 * q + 999936 + 64 ≤ 1000000 * q + 1000000; omega
  | some t => simp only [boxName]; have h2 : LT.lt (α := Nat) t X.E.nt := hd t rfl; clear hd; generalize X.E.nt = n at *; revert this h2; generalize (t : Nat) = t'; intro this h2; show 1000000 * q ≤ 1000000 * q + 64 * t' ∧ 1000000 * q + 64 * t' + 64 ≤ 1000000 * q + 1000000; omega

/-- the box of an operation's own -/
theorem newbox_ok (H : FxOk X) {q : Nat} (R : Rel X (CB * q) (CB * q + CB) S m ok a w) {v : V} {l : Loc} {obj : Obj} {vv : V} {x : Value} (hv : v ≠ .undef)
    (hb : ∀ b, ownB (updM m (boxName q o.dst) l) (boxName q o.dst) v = some b → b = w.heap.size) (hB : S (BOX + boxName q o.dst) = .undef → CB * q ≤ boxName q o.dst → relB ⟨(w.alloc obj).heap, ok, updM m (boxName q o.dst) l⟩ (boxName q o.dst) v)
    (hx : relV ⟨(w.alloc obj).heap, ok, updM m (boxName q o.dst) l⟩ vv x) (run : (execOp a.eval o).run X.P w = .ok (.value x) (w.alloc obj)) :
    (newB (boxName q o.dst) v (dstC X.E o.dst vv)).post S (fun _ S' => OpOk X (CB * q) (CB * q + CB) o a w m ok S') := by
  refine newB_post fun hn => ?_
  cases hd : o.dst with
  | none =>
    have hin := boxName_in H (q := q) none (fun t h => by cases h)
    rw [hd] at hn hB hb hx
    have R' := R.new hn hin.1 (by omega) hv hb (hB hn hin.1)
    have := dst_ok (o := o) H R' (m0 := m) (ok0 := ok) (fun k l' h => (R.le_new (obj := obj) hn hin.1).m k l' h) (fun _ h => h) hx run
    rw [hd] at this
    exact this
  | some t =>
    unfold dstC
    refine bif_post fun hb' => ?_
    have hin := boxName_in H (q := q) (some t) (fun t' h => by cases h; exact blt_lt hb')
    rw [hd] at hn hB hb hx
    have R' := R.new hn hin.1 (by omega) hv hb (hB hn hin.1)
    have := dst_ok (o := o) H R' (m0 := m) (ok0 := ok) (fun k l' h => (R.le_new (obj := obj) hn hin.1).m k l' h) (fun _ h => h) hx run
    rw [hd] at this
    unfold dstC at this
    simp only [hb', cond_true] at this
    exact this

theorem relL_const {C : Cx} : ∀ {cs : List V} {vs : List Value}, relL ⟨#[], fun _ => False, fun _ => none⟩ cs vs → relL C cs vs := by
  intro cs vs h
  exact relL_le (C := ⟨#[], fun _ => False, fun _ => none⟩) ⟨fun _ h => h.elim, fun _ h => h.elim, fun _ _ h => by cases h⟩ h

theorem op_alloc (H : FxOk X) {q : Nat} (R : Rel X (CB * q) (CB * q + CB) S m ok a w) {t : TypeId} (ho : o.op = .alloc t) : (opCmd X.E q o).post S (fun _ S' => OpOk X (CB * q) (CB * q + CB) o a w m ok S') := by
  unfold opCmd
  simp only [ho]
  refine tiC_post H fun i hi => bif_post fun hz => ?_
  obtain ⟨inf, h1, h2, h3, h4, h5⟩ := hi.info
  obtain ⟨z, hz1, hz2⟩ := h4 (Nat.eq_of_beq_eq_true hz)
  refine newbox_ok (l := .st w.heap.size) (obj := .cells z.cells t) H R (by simp) (fun b hb => by simp [ownB] at hb; exact hb.symm) (fun hn hc => ?_) ⟨w.heap.size, by simp, rfl⟩ ?_
  · exact ⟨w.heap.size, z.cells, t, by simp, heap_alloc_new w _, relL_const hz2⟩
  · simp [execOp, ho, Instr.alloc, zeroValue, typeInfo, h1, hz1, newVar, newRow]

theorem op_box (H : FxOk X) {q : Nat} (R : Rel X (CB * q) (CB * q + CB) S m ok a w) {t : TypeId} {x : Operand} (ho : o.op = .box t x) : (opCmd X.E q o).post S (fun _ S' => OpOk X (CB * q) (CB * q + CB) o a w m ok S') := by
  unfold opCmd
  simp only [ho]
  refine opnd_post R fun u hu => cellsC_post hu fun cs hcs => ?_
  refine newbox_ok (l := .st w.heap.size) (obj := .cells (a.eval x).cells t) H R (by simp) (fun b hb => by simp [ownB] at hb; exact hb.symm) (fun hn hc => ?_) ⟨w.heap.size, by simp, rfl⟩ ?_
  · exact ⟨w.heap.size, (a.eval x).cells, t, by simp, heap_alloc_new w _, relL_le (R.le_new hn hc) hcs⟩
  · simp [execOp, ho, Instr.box, newVar, newRow]
end
end Go.GP
