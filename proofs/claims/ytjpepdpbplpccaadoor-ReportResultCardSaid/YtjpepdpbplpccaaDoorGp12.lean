import Derived.Test.YtjpepdpbplpccaaDoorGp11
import Derived.Laws.MakeOwn
import Derived.ArgAppend
/- NEW ROWS: make, slice literals. -/
namespace Go.GP
set_option linter.unusedVariables false
set_option linter.unusedSimpArgs false

/-- the cells of a row of elements -/
def RowRep (h : Array Obj) (ok : Nat → Prop) (t : Ty) (xs : List t.den) (cs : List Value) : Prop :=
  cs.length = xs.length * t.size ∧ ∀ i x, xs[i]? = some x → rep h ok t x ((cs.drop (i * t.size)).take t.size)

theorem RowRep.nil {h : Array Obj} {ok : Nat → Prop} {t : Ty} : RowRep h ok t [] [] := ⟨by simp, fun i x hi => by simp at hi⟩
theorem RowRep.append {h : Array Obj} {ok : Nat → Prop} {t : Ty} {xs ys : List t.den} {cs ds : List Value} (hx : RowRep h ok t xs cs) (hy : RowRep h ok t ys ds) : RowRep h ok t (xs ++ ys) (cs ++ ds) := by
  refine ⟨by simp [hx.1, hy.1, Nat.add_mul], fun i x hi => ?_⟩
  by_cases hlt : i < xs.length
  · rw [List.getElem?_append_left hlt] at hi
    have h1 := hx.2 i x hi
    have hle : (i + 1) * t.size ≤ cs.length := by rw [hx.1]; exact Nat.mul_le_mul_right _ (by omega)
    rw [Nat.add_mul, Nat.one_mul] at hle
    rw [List.drop_append_of_le_length (by omega), List.take_append_of_le_length (by simp; omega)]
    exact h1
  · rw [List.getElem?_append_right (by omega)] at hi
    have h1 := hy.2 _ x hi
    have hle : cs.length ≤ i * t.size := by rw [hx.1]; exact Nat.mul_le_mul_right _ (by omega)
    rw [List.drop_append, List.drop_eq_nil_of_le hle, List.nil_append]
    have : i * t.size - cs.length = (i - xs.length) * t.size := by rw [hx.1, Nat.sub_mul]
    rw [this]; exact h1
theorem RowRep.one {h : Array Obj} {ok : Nat → Prop} {t : Ty} {x : t.den} {cs : List Value} (hr : rep h ok t x cs) : RowRep h ok t [x] cs := by
  refine ⟨by simp [rep_length hr], fun i y hi => ?_⟩
  have : i = 0 := by
    have := (List.getElem?_eq_some_iff.1 hi).1; simp at this; exact this
  subst this
  simp at hi; subst hi
  have : (List.drop (0 * t.size) cs).take t.size = cs := by simp [← rep_length hr]
  rw [this]; exact hr
theorem RowRep.mono {h h' : Array Obj} {ok ok' : Nat → Prop} {t : Ty} {xs : List t.den} {cs : List Value} (hok : ∀ b, ok b → ok' b) (hh : ∀ b, ok b → h'[b]? = h[b]?) (hr : RowRep h ok t xs cs) : RowRep h' ok' t xs cs :=
  ⟨hr.1, fun i x hi => rep_mono hok hh (hr.2 i x hi)⟩
theorem RowRep.rep_all {h : Array Obj} {ok : Nat → Prop} {t : Ty} {x : t.den} {cs : List Value} (hr : rep h ok t x cs) : ∀ n, RowRep h ok t (List.replicate n x) ((List.replicate n cs).flatten)
  | 0 => by simpa using RowRep.nil
  | n + 1 => by
    have := (RowRep.one hr).append (RowRep.rep_all hr n)
    simpa [List.replicate_succ] using this
theorem RowRep.one_cell {h : Array Obj} {ok : Nat → Prop} {t : Ty} : ∀ {xs : List t.den} {cs : List Value}, RowRep h ok t xs cs → ∀ v ∈ cs, v.oneCell' = true
  | [], cs, hr => by have := hr.1; simp at this; simp [this]
  | x :: xs, cs, hr => by
    intro v hv
    have h0 := hr.2 0 x rfl
    simp only [Nat.zero_mul, List.drop_zero] at h0
    have hl := hr.1
    simp only [List.length_cons, Nat.add_mul, Nat.one_mul] at hl
    have hrest : RowRep h ok t xs (cs.drop t.size) := by
      refine ⟨by simp; omega, fun i y hi => ?_⟩
      have := hr.2 (i + 1) y (by simpa using hi)
      rw [List.drop_drop]
      rwa [show t.size + i * t.size = (i + 1) * t.size by rw [Nat.add_mul]; omega]
    rw [← List.take_append_drop t.size cs] at hv
    rcases List.mem_append.1 hv with hv | hv
    · exact rep_oneCell h0 v hv
    · exact RowRep.one_cell hrest v hv

theorem RowRep.arrOk {C : Cx} {t : Ty} {xs : List t.den} {cs : List Value} (hr : RowRep C.h C.ok t xs cs) {blk off cap : Nat} {c : Array Value} {T : TypeId} (hb : C.h[blk]? = some (.cells c T (0, 0)))
    (hcap : xs.length ≤ cap) (hfit : off + cap * t.size ≤ c.size) (he : (c.toList.drop off).take (xs.length * t.size) = cs) : Go.GP.arrOk C t xs (.arr blk off xs.length cap t.size) := by
  refine ⟨rfl, rfl, hcap, c, T, hb, hfit, fun i x hi => ?_⟩
  have hlt := (List.getElem?_eq_some_iff.1 hi).1
  have hle : (i + 1) * t.size ≤ xs.length * t.size := Nat.mul_le_mul_right _ (by omega)
  rw [Nat.add_mul, Nat.one_mul] at hle
  have hle2 : xs.length * t.size ≤ cap * t.size := Nat.mul_le_mul_right _ hcap
  refine ⟨_, cellsAt_mk hb _ _ (by omega), ?_⟩
  have h1 := hr.2 i x hi
  rw [← he, List.drop_take, List.take_take, List.drop_drop] at h1
  rwa [Nat.min_eq_left (by omega)] at h1
theorem arrOk_row {C : Cx} {t : Ty} {xs : List t.den} {blk off len cap sz : Nat} (h : arrOk C t xs (.arr blk off len cap sz)) :
    ∃ c T, C.h[blk]? = some (.cells c T (0, 0)) ∧ sz = t.size ∧ len = xs.length ∧ len ≤ cap ∧ off + cap * sz ≤ c.size ∧ RowRep C.h C.ok t xs ((c.toList.drop off).take (len * sz)) := by
  obtain ⟨rfl, rfl, h3, c, T, hb, hf, hx⟩ := h
  refine ⟨c, T, hb, rfl, rfl, h3, hf, ?_, fun i x hi => ?_⟩
  · have : xs.length * t.size ≤ cap * t.size := Nat.mul_le_mul_right _ h3
    simp; omega
  · obtain ⟨es, he, hr⟩ := hx i x hi
    obtain ⟨c', T', f', hb', hn', rfl⟩ := cellsAt_of he
    rw [hb] at hb'; cases hb'
    have hlt := (List.getElem?_eq_some_iff.1 hi).1
    have hle : (i + 1) * t.size ≤ xs.length * t.size := Nat.mul_le_mul_right _ (by omega)
    rw [Nat.add_mul, Nat.one_mul] at hle
    rw [List.drop_take, List.take_take, List.drop_drop, Nat.min_eq_left (by omega)]
    exact hr

theorem madeCells_flat (z : Array Value) : ∀ n, (madeCells z (n * z.size)).toList = (List.replicate n z.toList).flatten := by
  intro n
  rcases Nat.eq_zero_or_pos z.size with h0 | h0
  · have : z = #[] := by simpa using h0
    subst this
    simp [madeCells]
  induction n with
  | zero => simp [madeCells]
  | succ n ih =>
    rw [List.replicate_succ', List.flatten_append, ← ih]
    simp only [madeCells, Array.toList_map, Array.toList_range, List.flatten_cons, List.flatten_nil, List.append_nil]
    rw [Nat.add_mul, Nat.one_mul, List.range_add, List.map_append, List.map_map]
    congr 1
    apply List.ext_getElem
    · simp
    · intro i h1 h2
      simp at h1 h2
      simp [Nat.mod_eq_of_lt h1, Nat.add_mod, h1, getElem!_pos]

theorem elemTy_spec {X : Fx} (H : FxOk X) {t e : Nat} {u : Ty} (h : elemTy X.E t = some (e, u)) :
    ∃ j z inf, X.P.underlying t = some (.slice e) ∧ TiOk X.P e j ∧ X.P.info? e = some inf ∧ inf.size = u.size ∧ j.size = u.size ∧ inf.bytes ≤ 65536 ∧ inf.zero = some z ∧ rep #[] (fun _ => False) u u.zero z.cells.toList := by
  unfold elemTy at h
  cases hi : assoc X.E.tt t with
  | none => simp [hi] at h
  | some i =>
    have htd := (H.tt t i hi).td
    simp only [hi] at h
    cases hd : i.td <;> simp only [hd] at h <;> try (simp at h; done)
    rename_i e'
    rw [hd] at htd
    cases hj : assoc X.E.tt e' with
    | none => simp [hj] at h
    | some j =>
      simp only [hj] at h
      cases hy : j.ty with
      | none => simp [hy] at h
      | some u' =>
        simp only [hy] at h
        cases hb : (Nat.beq u'.size j.size && Nat.ble j.bytes 65536)
        · simp [hb] at h
        · simp only [hb, cond_true, Option.some.injEq, Prod.mk.injEq] at h
          obtain ⟨rfl, rfl⟩ := h
          simp only [Bool.and_eq_true] at hb
          have h1 := Nat.eq_of_beq_eq_true hb.1
          have h2 := Nat.le_of_ble_eq_true hb.2
          obtain ⟨inf, a1, a2, a3, a4, a5⟩ := (H.tt e' j hj).info
          obtain ⟨b1, z, b2, b3⟩ := a5 u' hy
          exact ⟨j, z, inf, htd, H.tt _ _ hj, a1, by omega, by omega, by omega, b2, b3⟩

section
variable {X : Fx} {cl ch : Nat} {S : Sm} {m : Nat → Option Loc} {ok : Nat → Prop} {a : Act} {w : World} {o : Oper}

theorem rep_const {C : Cx} {t : Ty} {x : t.den} {cs : List Value} (h : rep #[] (fun _ => False) t x cs) : rep C.h C.ok t x cs :=
  rep_mono (fun _ h => h.elim) (fun _ h => h.elim) h

/-- what is laid under an operation's own name, and put into its place -/
theorem newB_dst (H : FxOk X) {q : Nat} {v vv : V} {Q : Unit → Sm → Prop}
    (hK : ∀ n, n = boxName q o.dst → CB * q ≤ n → n + 64 ≤ CB * q + CB → S (BOX + n) = .undef → (dstC X.E o.dst vv).post (upd S (BOX + n) v) Q) :
    (newB (boxName q o.dst) v (dstC X.E o.dst vv)).post S Q := by
  refine newB_post fun hn => ?_
  cases hd : o.dst with
  | none =>
    have hin := boxName_in H (q := q) none (fun t h => by cases h)
    rw [hd] at hn
    have := hK (boxName q none) (by rw [hd]) hin.1 hin.2 hn
    rwa [hd] at this
  | some t =>
    cases hb : Nat.blt t X.E.nt with
    | false => unfold dstC; simp only [hb, cond_false]; trivial
    | true =>
      have hin := boxName_in H (q := q) (some t) (fun t' h => by cases h; exact blt_lt hb)
      rw [hd] at hn
      have := hK (boxName q (some t)) (by rw [hd]) hin.1 hin.2 hn
      rwa [hd] at this

/-- a new row of elements -/
theorem newrow_rel (R : Rel X cl ch S m ok a w) {w1 : World} (hos : w1.os = w.os) (htp : w1.tape = w.tape) (hout : w1.output = w.output) (hh : w1.heap = w.heap)
    {u : Ty} {xs : List u.den} {cs : List Value} {e : TypeId} {c : Array Value} {cap n : Nat} (hr : RowRep w.heap ok u xs cs)
    (hcap : xs.length ≤ cap) (hfit : cap * u.size ≤ c.size) (he : c.toList.take (xs.length * u.size) = cs) (hcl : cl ≤ n) (hch : n < ch) (hn : S (BOX + n) = .undef) :
    Rel X cl ch (upd S (BOX + n) (.barr u xs)) (updM m n (.arr w.heap.size 0 xs.length cap u.size)) ok a (w1.alloc (.cells c e)) := by
  have R1 : Rel X cl ch S m ok a w1 := R.same hos htp hout hh
  have hblk : (w1.alloc (.cells c e)).heap[w.heap.size]? = some (.cells c e (0, 0)) := by rw [← hh]; exact heap_alloc_new w1 _
  refine R1.new hn hcl hch (by simp) (fun b hb => by simp [ownB] at hb; rw [hh]; exact hb.symm) ⟨_, updM_same _ _ _, ?_⟩
  refine RowRep.arrOk (cs := cs) (hr.mono (fun _ h => h) (fun b hb => ?_)) hblk hcap (by omega) (by simpa using he)
  have := R.okLt b hb
  show (w1.heap.push (.cells c e))[b]? = _
  rw [hh]
  exact heap_push_old _ _ this

theorem newrow_ok (H : FxOk X) {q : Nat} (R : Rel X (CB * q) (CB * q + CB) S m ok a w) {w1 : World} (hos : w1.os = w.os) (htp : w1.tape = w.tape) (hout : w1.output = w.output) (hh : w1.heap = w.heap)
    {u : Ty} {xs : List u.den} {cs : List Value} {e : TypeId} {c : Array Value} {cap : Nat} (hr : RowRep w.heap ok u xs cs)
    (hcap : xs.length ≤ cap) (hfit : cap * u.size ≤ c.size) (he : c.toList.take (xs.length * u.size) = cs) {w0 : World} {m0 : Nat → Option Loc} {ok0 : Nat → Prop} (hm : ∀ k l, m0 k = some l → m k = some l) (hok : ∀ b, ok0 b → ok b)
    (run : (execOp a.eval o).run X.P w0 = .ok (.value (.slice (some ⟨w.heap.size, 0, none⟩) xs.length cap)) (w1.alloc (.cells c e))) :
    (newB (boxName q o.dst) (.barr u xs) (dstC X.E o.dst (.own (boxName q o.dst) none))).post S (fun _ S' => OpOk X (CB * q) (CB * q + CB) o a w0 m0 ok0 S') := by
  refine newB_dst H fun n e1 h1 h2 hn => ?_
  rw [← e1]
  clear e1
  generalize CB * q = Z at *
  have R' := newrow_rel R hos htp hout hh (e := e) hr hcap hfit he h1 (by show n < Z + 1000000; change n + 64 ≤ Z + 1000000 at h2; omega) hn
  refine dst_ok H R' (fun k l h => ?_) hok ⟨_, updM_same _ _ _, rfl⟩ run
  by_cases ek : k = n
  · subst ek
    have := R.fresh k h1 hn
    have h3 := hm _ _ h
    rw [this] at h3; cases h3
  · rw [updM_other _ _ ek]; exact hm _ _ h

theorem op_makeSlice (H : FxOk X) {q : Nat} (R : Rel X (CB * q) (CB * q + CB) S m ok a w) {t : TypeId} {l c : Operand} (ho : o.op = .makeSlice t l c) : (opCmd X.E q o).post S (fun _ S' => OpOk X (CB * q) (CB * q + CB) o a w m ok S') := by
  unfold opCmd
  simp only [ho]
  split <;> try trivial
  rename_i e u het
  obtain ⟨j, z, inf, hu, hj, h1, h2, h3, h4, h5, h6⟩ := elemTy_spec H het
  have hz := rep_length h6
  have key : ∀ {k k' : IntKind} {n n' : Int}, a.eval l = .int k n → a.eval c = .int k' n' → 0 ≤ n → n ≤ n' → n' ≤ 1073741824 →
      (newB (boxName q o.dst) (.barr u (List.replicate n.toNat u.zero)) (dstC X.E o.dst (.own (boxName q o.dst) none))).post S (fun _ S' => OpOk X (CB * q) (CB * q + CB) o a w m ok S') := fun {k k' n n'} e1 e2 g0 g1 g2 => by
    have hby : (inf.bytes : Int) * n' ≤ 65536 * 1073741824 := by
      have : inf.bytes * n'.toNat ≤ 65536 * 1073741824 := Nat.mul_le_mul h4 (by omega)
      have e : (n'.toNat : Int) = n' := by omega
      rw [← e, ← Int.natCast_mul]
      generalize inf.bytes * n'.toNat = p at *
      omega
    have hrun := run_make (P := X.P) w t e inf z hu h1 h5 k k' n n' g0 g1 (by omega) (by omega)
    have hflat := madeCells_flat z.cells n'.toNat
    have hzs : z.cells.size = u.size := by simpa using hz
    refine newrow_ok H R rfl rfl rfl rfl (cs := (List.replicate n.toNat z.cells.toList).flatten) (c := madeCells z.cells (n'.toNat * inf.size)) (cap := n'.toNat) (e := e) (RowRep.rep_all (rep_const (C := ⟨w.heap, ok, m⟩) h6) _) (by simp; omega) (by simp [size_madeCells, h2]) ?_ (fun _ _ h => h) (fun _ h => h) (w1 := w) ?_
    · rw [h2, ← hzs, hflat]
      have : n'.toNat = n.toNat + (n'.toNat - n.toNat) := by omega
      rw [this, ← List.replicate_append_replicate, List.flatten_append, List.take_append_of_le_length (by simp [List.length_flatten]), List.take_of_length_le (by simp [List.length_flatten])]
    · simp [execOp, ho, e1, e2, hrun]
  refine opnd_post R fun v hv => ?_
  split <;> try trivial
  rename_i k n
  cases hs : sameOp l c
  · simp only [cond_false]
    refine opnd_post R fun v' hv' => ?_
    split <;> try trivial
    rename_i k' n'
    refine ⟨fun hr => opt_post fun xs hxs => ?_, fun _ => trivial⟩
    have hr' := of_decide_eq_true (show decide (0 ≤ n ∧ n ≤ n' ∧ n' ≤ 1073741824) = true from hr)
    unfold lrep at hxs
    split at hxs
    · cases hxs
      exact key (relV_i hv) (relV_i hv') hr'.1 hr'.2.1 hr'.2.2
    · cases hxs
  · simp only [cond_true]
    refine opt_post fun xs hxs => ?_
    have hec : a.eval c = a.eval l := by
      unfold sameOp at hs
      split at hs
      · have := Nat.eq_of_beq_eq_true hs
        subst this; rfl
      · cases hs
    unfold lrep at hxs
    split at hxs
    · rename_i hh
      cases hxs
      exact key (relV_i hv) (hec.trans (relV_i hv)) hh.1 (Int.le_refl _) hh.2
    · cases hxs
end
end Go.GP
