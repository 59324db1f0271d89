import Derived.Test.YtjpepdpbplpccaaDoorGp13
/- APPEND. -/
namespace Go.GP
set_option linter.unusedVariables false
set_option linter.unusedSimpArgs false

/-- a slice's value: its elements' cells -/
def SlVal (h : Array Obj) (sz : Nat) (v : Value) (n : Nat) (es : List Value) : Prop :=
  es.length = n * sz ∧ ((n = 0 ∧ ∃ ad cap, v = .slice ad 0 cap) ∨ ∃ blk off cap, v = .slice (some ⟨blk, off, none⟩) n cap ∧ 0 < n ∧ cellsAt h blk off (n * sz) = some es)

theorem rep_row {h : Array Obj} {ok : Nat → Prop} {t : Ty} {ys : List t.den} {v : Value} (hr : rep h ok (.sl t) ys [v]) : ∃ es, SlVal h t.size v ys.length es ∧ RowRep h ok t ys es := by
  obtain ⟨ad, cap, e, hc, hel⟩ := hr
  simp only [List.cons.injEq, and_true] at e
  subst e
  rcases Nat.eq_zero_or_pos ys.length with h0 | h0
  · have : ys = [] := List.length_eq_zero_iff.1 h0
    subst this
    exact ⟨[], ⟨by simp, .inl ⟨rfl, ad, cap, rfl⟩⟩, RowRep.nil⟩
  · obtain ⟨y, hy⟩ : ∃ y, ys[ys.length - 1]? = some y := by
      refine ⟨ys[ys.length - 1]'(by omega), ?_⟩
      exact List.getElem?_eq_getElem _
    obtain ⟨blk, off, es, rfl, hok, he, hr⟩ := hel _ y hy
    obtain ⟨c, T, f, hb, hn, _⟩ := cellsAt_of he
    have hle : off + ys.length * t.size ≤ c.size := by
      have : ys.length * t.size = (ys.length - 1) * t.size + t.size := by
        conv => lhs; rw [show ys.length = (ys.length - 1) + 1 by omega, Nat.add_mul, Nat.one_mul]
      omega
    refine ⟨(c.toList.drop off).take (ys.length * t.size), ⟨by simp; omega, .inr ⟨blk, off, cap, rfl, h0, cellsAt_mk hb _ _ hle⟩⟩, by simp; omega, fun i x hi => ?_⟩
    obtain ⟨blk', off', es', ha', hok', he', hr'⟩ := hel i x hi
    simp only [Option.some.injEq, Addr.mk.injEq, and_true] at ha'
    obtain ⟨rfl, rfl⟩ := ha'
    obtain ⟨c', T', f', hb', hn', rfl⟩ := cellsAt_of he'
    rw [hb] at hb'; cases hb'
    have hlt := (List.getElem?_eq_some_iff.1 hi).1
    have hle2 : (i + 1) * t.size ≤ ys.length * t.size := Nat.mul_le_mul_right _ (by omega)
    rw [Nat.add_mul, Nat.one_mul] at hle2
    rw [List.drop_take, List.take_take, List.drop_drop, Nat.min_eq_left (by omega)]
    exact hr'

theorem view_row {C : Cx} {t : Ty} {xs : List t.den} {l : Loc} {v : Value} (ha : arrOk C t xs l) (hv : l.view none v) : ∃ es, SlVal C.h t.size v xs.length es ∧ RowRep C.h C.ok t xs es := by
  cases l with
  | st b => cases ha
  | nil =>
    simp only [arrOk] at ha; subst ha
    simp only [Loc.view] at hv; subst hv
    exact ⟨[], ⟨by simp, .inl ⟨rfl, none, 0, rfl⟩⟩, RowRep.nil⟩
  | arr blk off len cap sz =>
    obtain ⟨c, T, hb, rfl, rfl, hc, hf, hr⟩ := arrOk_row ha
    simp only [Loc.view] at hv; subst hv
    have hle : xs.length * t.size ≤ cap * t.size := Nat.mul_le_mul_right _ hc
    refine ⟨_, ⟨hr.1, ?_⟩, hr⟩
    rcases Nat.eq_zero_or_pos xs.length with h0 | h0
    · exact .inl ⟨h0, _, cap, by rw [h0]⟩
    · exact .inr ⟨blk, off, cap, rfl, h0, cellsAt_mk hb _ _ (by omega)⟩

theorem run_firstCells_sl {P : Program} {w w' : World} {sz n : Nat} {v : Value} {es : List Value} (h : SlVal w.heap sz v n es) (hh : w'.heap = w.heap) : (Builtin.firstCells sz n v).run P w' = .ok es.toArray w' := by
  obtain ⟨hl, h⟩ := h
  rcases h with ⟨rfl, ad, cap, rfl⟩ | ⟨blk, off, cap, rfl, hn, hc⟩
  · have : es = [] := List.length_eq_zero_iff.1 (by simpa using hl)
    subst this
    cases ad with
    | none => simp [Builtin.firstCells]
    | some b =>
      have := run_loadCells_list (P := P) w' b [] (fun j v h => by simp at h)
      simp [Builtin.firstCells]
      simpa using this
  · refine run_firstCells_some w' sz n _ _ cap es hl fun j u hu => ?_
    rw [Addr.add_lit]
    exact cell_of_cellsAt (w := w') (by rw [hh]; exact hc) hu

theorem SlVal.lenOf {P : Program} {h : Array Obj} {sz n : Nat} {v : Value} {es : List Value} (hs : SlVal h sz v n es) (w : World) : (Builtin.lenOf v).run P w = .ok n w := by
  rcases hs.2 with ⟨rfl, ad, cap, rfl⟩ | ⟨blk, off, cap, rfl, hn, hc⟩ <;> rfl

section runs
variable {P : Program} {w : World} {t ty e : TypeId} {i : TypeInfo} {z : Value}

theorem run_append_in (ht : P.underlying t = some (.slice e)) (hi : P.info? e = some i) {blk off len cap n : Nat} {c : Array Value} {T : TypeId} (hb : w.heap[blk]? = some (.cells c T (0, 0))) {v : Value} {es : List Value} (hv : SlVal w.heap i.size v n es)
    (h1 : ∀ u ∈ es, u.oneCell' = true) (hroom : len + n ≤ cap) (hfit : off + cap * i.size ≤ c.size) :
    (Builtin.append_ #[t, t] ty #[.slice (some ⟨blk, off, none⟩) len cap, v]).run P w = .ok (.slice (some ⟨blk, off, none⟩) (len + n) cap) (w.setRow blk (splice (off + len * i.size) es c.toList).toArray) := by
  have hle : (len + n) * i.size ≤ cap * i.size := Nat.mul_le_mul_right _ hroom
  rw [Nat.add_mul, ← hv.1] at hle
  have hf := run_firstCells_sl (P := P) (w' := w) hv rfl
  have hst := run_storeCells_at P blk (off + len * i.size) T es 0 c w hb (by omega) h1
  simp only [Nat.add_zero] at hst
  simp [Builtin.append_, run_underlying ht, sizeOf, typeInfo, hi, hv.lenOf, hroom, hf, Addr.add_lit, hst, splice]

theorem run_append_none (ht : P.underlying t = some (.slice e)) (hi : P.info? e = some i) {v : Value} {es : List Value} (hv : SlVal w.heap i.size v 0 es) :
    (Builtin.append_ #[t, t] ty #[.slice none 0 0, v]).run P w = .ok (.slice none 0 0) w := by
  have hf := run_firstCells_sl (P := P) (w' := w) hv rfl
  simp [Builtin.append_, run_underlying ht, sizeOf, typeInfo, hi, hv.lenOf, hf]

theorem run_append_new (ht : P.underlying t = some (.slice e)) (hi : P.info? e = some i) (hz : i.zero = some z) (hby : i.bytes ≤ 65536) {s v : Value} {sAd : Option Addr} {len cap n : Nat} {olds es : List Value} (hse : s = .slice sAd len cap)
    (hs : SlVal w.heap i.size s len olds) (hv : SlVal w.heap i.size v n es) (hg : cap < len + n) (hmax : len + n ≤ 1073741824) :
    (Builtin.append_ #[t, t] ty #[s, v]).run P w = .ok (.slice (some ⟨w.heap.size, 0, none⟩) (len + n) (grownCap w (len + n) cap e))
      (w.drew.alloc (.cells ((olds ++ es).toArray ++ Builtin.zeroCells z.cells (grownCap w (len + n) cap e - (len + n))) e)) := by
  subst hse
  have hn : ¬ (len + n ≤ cap) := by omega
  have h63' : ¬ (9223372036854775807 < ((len : Int) + (n : Int))) := by omega
  have hb2 : (len + n) * i.bytes ≤ 1073741824 * 65536 := Nat.mul_le_mul hmax hby
  have h48' : ¬ (281474976710656 < Builtin.nextslicecap (len + n) cap * i.bytes) := by
    have := growslice_fits hg (show (len + n) * i.bytes ≤ 140737488355328 by omega)
    omega
  have hf := run_firstCells_sl (P := P) (w' := w.drew) hv rfl
  have hfo := run_firstCells_sl (P := P) (w' := w.drew) hs rfl
  simp [Builtin.append_, run_underlying ht, sizeOf, typeInfo, zeroValue, hi, hz, hv.lenOf, hn, h63', h48', Question.forced, hf, hfo, newRow, grownCap]
  generalize Builtin.zeroCells _ _ = Z
  congr 2
  apply Array.ext'
  simp
end runs

section
variable {X : Fx} {cl ch : Nat} {S : Sm} {m : Nat → Option Loc} {ok : Nat → Prop} {a : Act} {w : World} {o : Oper}

theorem sliceArg_post {α : Type} {Q : α → Sm → Prop} (R : Rel X cl ch S m ok a w) {u : Ty} {y : V} {vy : Value} {K : List u.den → List V → Cmd α} (hy : relV ⟨w.heap, ok, m⟩ y vy)
    (hK : ∀ ys es r, SlVal w.heap u.size vy ys.length es → RowRep w.heap ok u ys es → (K ys r).post S Q) : (toData true (.sl u) [y] K).post S Q := by
  unfold toData
  split <;> try trivial
  · rename_i r0 e
    simp only [List.cons.injEq] at e
    obtain ⟨rfl, rfl⟩ := e
    have hy' : vy = .slice none 0 0 := hy
    subst hy'
    exact hK [] [] [] ⟨by simp, .inl ⟨rfl, none, 0, rfl⟩⟩ RowRep.nil
  · rename_i t' xs r0 e
    simp only [List.cons.injEq] at e
    obtain ⟨rfl, rfl⟩ := e
    refine castL_post fun e => ?_
    subst e
    obtain ⟨es, h1, h2⟩ := rep_row (show rep w.heap ok (.sl t') xs [vy] from hy)
    exact hK xs es [] h1 h2
  · rename_i bx vw r0 e
    simp only [List.cons.injEq] at e
    obtain ⟨rfl, rfl⟩ := e
    obtain ⟨l, hm, hv⟩ := hy
    refine get_post ?_
    split <;> try trivial
    · rename_i t' xs hS
      obtain ⟨l', hm', ha⟩ := R.own_arr hS
      simp only at hm
      rw [hm] at hm'; cases hm'
      refine castL_post fun e => ?_
      subst e
      simp only [cond_true]
      obtain ⟨a1, a2, _⟩ := arrOk_view ha hv
      obtain ⟨es, h1, h2⟩ := view_row a1 a2
      exact hK _ es [] h1 h2
    · rename_i t' xs hS
      obtain ⟨l', hm', ha, _⟩ := R.own_frz hS
      simp only at hm
      rw [hm] at hm'; cases hm'
      refine castL_post fun e => ?_
      subst e
      obtain ⟨a1, a2, _⟩ := arrOk_view ha hv
      obtain ⟨es, h1, h2⟩ := view_row a1 a2
      exact hK _ es [] h1 h2

theorem lapp_some {α : Type} {xs ys zs : List α} (h : lapp xs ys = some zs) : xs.length + ys.length ≤ 1073741824 ∧ zs = xs ++ ys := by
  unfold lapp at h
  split at h
  · cases h; exact ⟨by assumption, rfl⟩
  · cases h

theorem zeroCells_size (z : Array Value) (n : Nat) : (Builtin.zeroCells z n).size = n * z.size := by simp [Builtin.zeroCells]

/-- appended in a new row -/
theorem append_new_ok (H : FxOk X) {q : Nat} (R : Rel X (CB * q) (CB * q + CB) S m ok a w) {u : Ty} {t e : TypeId} {j : TI} {z : Value} {inf : TypeInfo} (hu : X.P.underlying t = some (.slice e)) (h1 : X.P.info? e = some inf) (h2 : inf.size = u.size) (h4 : inf.bytes ≤ 65536)
    (h5 : inf.zero = some z) (hz : z.cells.size = u.size) {xs ys : List u.den} {s v : Value} {sAd : Option Addr} {cap : Nat} {olds es : List Value} (hse : s = .slice sAd xs.length cap)
    (hs : SlVal w.heap u.size s xs.length olds) (hv : SlVal w.heap u.size v ys.length es) (r1 : RowRep w.heap ok u xs olds) (r2 : RowRep w.heap ok u ys es) (hg : cap < xs.length + ys.length) (hmax : xs.length + ys.length ≤ 1073741824)
    (run : ∀ r w', (Builtin.append_ #[t, t] o.type #[s, v]).run X.P w = .ok r w' → (execOp a.eval o).run X.P w = .ok (.value r) w') :
    (newB (boxName q o.dst) (.barr u (xs ++ ys)) (dstC X.E o.dst (.own (boxName q o.dst) none))).post S (fun _ S' => OpOk X (CB * q) (CB * q + CB) o a w m ok S') := by
  have hrun := run_append_new (P := X.P) (w := w) (t := t) (ty := o.type) hu h1 h5 h4 (s := s) (v := v) hse (by rw [h2]; exact hs) (by rw [h2]; exact hv) hg hmax
  have hge := grownCap_ge w (xs.length + ys.length) cap e
  have r := r1.append r2
  rw [← List.length_append] at hrun hge
  refine newrow_ok H R (w1 := w.drew) rfl rfl rfl rfl r hge ?_ ?_ (fun _ _ h => h) (fun _ h => h) (run _ _ hrun)
  · have hl := r.1
    simp only [Array.size_append, List.size_toArray, hl, zeroCells_size, hz, ← Nat.add_mul]
    exact Nat.mul_le_mul_right _ (by omega)
  · have hl := r.1
    simp only [Array.toList_append]
    rw [List.take_append_of_le_length (by rw [hl]; exact Nat.le_refl _), ← hl]
    exact List.take_length

theorem append_nil_ok (H : FxOk X) {q : Nat} (R : Rel X (CB * q) (CB * q + CB) S m ok a w) {u : Ty} {t e : TypeId} {z : Value} {inf : TypeInfo} (hu : X.P.underlying t = some (.slice e)) (h1 : X.P.info? e = some inf) (h2 : inf.size = u.size) (h4 : inf.bytes ≤ 65536)
    (h5 : inf.zero = some z) (hz : z.cells.size = u.size) {ys : List u.den} {s v : Value} {es : List Value} (hse : s = .slice none 0 0)
    (hv : SlVal w.heap u.size v ys.length es) (r2 : RowRep w.heap ok u ys es) (hmax : ys.length ≤ 1073741824)
    (run : ∀ r w', (Builtin.append_ #[t, t] o.type #[s, v]).run X.P w = .ok r w' → (execOp a.eval o).run X.P w = .ok (.value r) w') :
    (newB (boxName q o.dst) (.barr u ys) (dstC X.E o.dst (.own (boxName q o.dst) none))).post S (fun _ S' => OpOk X (CB * q) (CB * q + CB) o a w m ok S') := by
  rcases Nat.eq_zero_or_pos ys.length with h0 | h0
  · have hy : ys = [] := List.length_eq_zero_iff.1 h0
    subst hy
    have hrun := run_append_none (P := X.P) (w := w) (t := t) (ty := o.type) hu h1 (v := v) (by rw [h2]; exact hv)
    rw [← hse] at hrun
    refine newB_dst H fun n e1 g1 g2 hn => ?_
    rw [← e1]
    clear e1
    generalize CB * q = Z at *
    have R' : Rel X Z (Z + CB) (upd S (BOX + n) (.barr u [])) (updM m n .nil) ok a w := by
      refine R.lay hn g1 (by show n < Z + 1000000; change n + 64 ≤ Z + 1000000 at g2; omega) (by simp) rfl rfl rfl (Nat.le_refl _) (fun _ _ _ => rfl) (fun b hb => by simp [ownB] at hb) ⟨.nil, updM_same _ _ _, rfl⟩
    refine dst_ok H R' (fun k l h => ?_) (fun _ h => h) ⟨.nil, updM_same _ _ _, hse⟩ (run _ _ hrun)
    by_cases ek : k = n
    · subst ek
      have := R.fresh k g1 hn
      rw [this] at h; cases h
    · rw [updM_other _ _ ek]; exact h
  · have := append_new_ok (j := ⟨0, 0, .bool, none, []⟩) H R hu h1 h2 h4 h5 hz (xs := []) (ys := ys) (s := s) (v := v) (sAd := none) (cap := 0) (olds := []) (es := es) hse ⟨by simp, .inl ⟨rfl, none, 0, hse⟩⟩ hv RowRep.nil r2 (by simpa using h0) (by simpa using hmax) run
    simpa using this

theorem op_append (H : FxOk X) {q : Nat} (R : Rel X (CB * q) (CB * q + CB) S m ok a w) {c : Call} (ho : o.op = .call c) (hc : c.callee = .builtin .append) : (opCmd X.E q o).post S (fun _ S' => OpOk X (CB * q) (CB * q + CB) o a w m ok S') := by
  obtain ⟨cal, args, ats⟩ := c
  simp only at hc; subst hc
  unfold opCmd
  simp only [ho]
  refine opnds_post R _ fun vs hvs => ?_
  split <;> try trivial
  rename_i t t' x y hat
  obtain ⟨u1, r, he, hx, u2, r', he', hy, hr⟩ := hvs
  simp only [relVs] at hr; subst hr
  rw [he'] at he
  obtain ⟨p, p', rfl, rfl, rfl⟩ := list_two he
  refine bif_post fun htt => ?_
  have htt' := Nat.eq_of_beq_eq_true htt
  subst htt'
  have hats : ats = #[t, t] := by
    obtain ⟨l⟩ := ats
    simp only at hat
    rw [hat]
  have run : ∀ (s v : Value), a.eval p = s → a.eval p' = v → ∀ r w', (Builtin.append_ #[t, t] o.type #[s, v]).run X.P w = .ok r w' → (execOp a.eval o).run X.P w = .ok (.value r) w' := fun s v e1 e2 r w' h => by
    subst e1; subst e2
    simp [execOp, ho, resolve, invoke, builtin, hats, h]
  unfold appendC
  split
  · trivial
  rename_i e u het
  obtain ⟨j, z, inf, hu, hj, h1, h2, h3, h4, h5, h6⟩ := elemTy_spec H het
  have hz : z.cells.size = u.size := by have := rep_length h6; simpa using this
  refine sliceArg_post R hy fun ys es _ hv r2 => ?_
  split <;> try trivial
  · -- nil
    refine opt_post fun zs hzs => ?_
    obtain ⟨hmax, rfl⟩ := lapp_some hzs
    have hx' : a.eval p = .slice none 0 0 := hx
    simp only [List.nil_append]
    exact append_nil_ok H R hu h1 h2 h4 h5 hz hx' hv r2 (by simpa using hmax) (run _ _ rfl rfl)
  · rename_i bx vw
    obtain ⟨loc, hm, hview⟩ := hx
    refine get_post ?_
    split <;> try trivial
    rename_i u' xs hS
    refine castL_post fun eu => ?_
    subst eu
    refine opt_post fun zs hzs => set_post ?_
    obtain ⟨hmax, rfl⟩ := lapp_some hzs
    obtain ⟨loc', hm', ha⟩ := R.own_arr hS
    simp only at hm
    rw [hm] at hm'; cases hm'
    have R1 := R.kill bx
    obtain ⟨a1, a2, a3⟩ := arrOk_view ha hview
    generalize hl2 : viewLoc loc vw = l2 at *
    generalize viewOf vw xs = xs' at *
    cases l2 with
    | st b => cases a1
    | nil =>
      simp only [arrOk] at a1
      subst a1
      simp only [Loc.view] at a2
      simp only [List.nil_append]
      exact append_nil_ok H R1 hu h1 h2 h4 h5 hz a2 hv r2 (by simpa using hmax) (run _ _ rfl rfl)
    | arr blk off len cap sz =>
      obtain ⟨c, T, hb, rfl, rfl, hcap, hfit, r1⟩ := arrOk_row a1
      simp only [Loc.view] at a2
      simp only at hb r1
      by_cases hroom : xs'.length + ys.length ≤ cap
      · -- in place
        have hrun := run_append_in (P := X.P) (w := w) (t := t) (ty := o.type) (off := off) (cap := cap) hu h1 hb (v := a.eval p') (n := ys.length) (es := es) (by rw [h2]; exact hv) r2.one_cell hroom (by rw [h2]; exact hfit)
        rw [← a2] at hrun
        have hown : ownB m bx (S (BOX + bx)) = some blk := by
          cases loc with
          | nil => simp [Loc.blks] at a3
          | st _ => cases ha
          | arr b2 _ _ _ _ => simp [Loc.blks] at a3; simp [ownB, hS, hm, a3]
        obtain ⟨s1, s2, s3⟩ := R.sep bx blk hown
        have hle : (xs'.length + ys.length) * u'.size ≤ cap * u'.size := Nat.mul_le_mul_right _ hroom
        rw [Nat.add_mul] at hle
        have hel := hv.1
        have hcl : c.toList.length = c.size := rfl
        have hsp : (splice (off + xs'.length * u'.size) es c.toList).length = c.size := by rw [splice_length (by omega)]; rfl
        refine newB_dst H fun n e1 g1 g2 hn => ?_
        rw [← e1]
        clear e1
        generalize CB * q = Z at *
        have hkeep : ∀ b, ok b → (w.setRow blk (splice (off + xs'.length * u'.size) es c.toList).toArray).heap[b]? = w.heap[b]? := fun b hb => setRow_other w blk b _ (fun e => s1 (e ▸ hb))
        have R' : Rel X Z (Z + CB) (upd (upd S (BOX + bx) .dead) (BOX + n) (.barr u' (xs' ++ ys))) (updM m n (.arr blk off (xs'.length + ys.length) cap u'.size)) ok a (w.setRow blk (splice (off + xs'.length * u'.size) es c.toList).toArray) := by
          refine R1.lay hn g1 (by show n < Z + 1000000; change n + 64 ≤ Z + 1000000 at g2; omega) (by simp) rfl rfl rfl (by simp) (fun b _ hne => ?_) (fun b hbb => ?_) ⟨_, updM_same _ _ _, ?_⟩
          · refine setRow_other w blk b _ (fun e => hne ?_)
            subst e; simp [ownB]
          · simp [ownB] at hbb
            subst hbb
            refine ⟨s1, by simpa using s2, s3, fun k e => ?_⟩
            obtain ⟨k1, k2⟩ := ownB_kill e
            exact k1 (R.inj k bx blk k2 hown)
          · rw [← List.length_append]
            refine RowRep.arrOk (cs := ((c.toList.drop off).take (xs'.length * u'.size)) ++ es) ((r1.append r2).mono (fun _ h => h) hkeep) (setRow_heap w blk c _ T (0, 0) hb) (by rw [List.length_append]; exact hroom) (by rw [List.size_toArray, hsp]; exact hfit) ?_
            simp only [List.length_append, Nat.add_mul]
            rw [splice_in (n := xs'.length * u'.size + ys.length * u'.size) (by omega) (by omega)]
            unfold splice
            have hd : ((c.toList.drop off).take (xs'.length * u'.size + ys.length * u'.size)).drop (xs'.length * u'.size + es.length) = [] := List.drop_eq_nil_of_le (by rw [List.length_take, List.length_drop]; omega)
            rw [List.take_take, Nat.min_eq_left (Nat.le_add_right _ _), hd, List.append_nil]
        refine dst_ok H R' (fun k l h => ?_) (fun _ h => h) ⟨_, updM_same _ _ _, rfl⟩ (run _ _ rfl rfl _ _ (by rw [h2] at hrun; exact hrun))
        · by_cases ek : k = n
          · subst ek
            have := R1.fresh k g1 hn
            rw [this] at h; cases h
          · rw [updM_other _ _ ek]; exact h
      · obtain ⟨olds, q1, q2⟩ := view_row (C := ⟨w.heap, ok, m⟩) a1 a2
        exact append_new_ok (j := j) H R1 hu h1 h2 h4 h5 hz a2 q1 hv q2 r2 (by omega) hmax (run _ _ rfl rfl)
end
end Go.GP
