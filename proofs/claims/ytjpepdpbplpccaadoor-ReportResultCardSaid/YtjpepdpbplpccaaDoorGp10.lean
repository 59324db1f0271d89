import Derived.Test.YtjpepdpbplpccaaDoorGp9
/- ADDRESSES, LENGTHS, SLICES. -/
namespace Go.GP
set_option linter.unusedVariables false
set_option linter.unusedSimpArgs false
section
variable {X : Fx} {cl ch : Nat} {S : Sm} {m : Nat → Option Loc} {ok : Nat → Prop} {a : Act} {w : World} {o : Oper}

theorem fieldOff_spec (H : FxOk X) {t f off n : Nat} {ag : Bool} (h : fieldOff X.E t f = some (off, n, ag)) :
    ∃ fields fld j, X.P.underlying t = some (.struct fields) ∧ fields[f]? = some fld ∧ fld.offset = off ∧ TiOk X.P fld.type j ∧ j.size = n ∧ n ≠ 0 ∧ ag = isAggTD j.td := by
  unfold fieldOff at h
  cases hi : assoc X.E.tt t with
  | none => simp [hi] at h
  | some i =>
    have Hi := H.tt t i hi
    have htd := Hi.td
    simp only [hi] at h
    cases hd : i.td <;> simp only [hd] at h <;> try (simp at h; done)
    rename_i fs
    rw [hd] at htd
    obtain ⟨fields, hu, hf⟩ := htd
    cases hfs : fs[f]? with
    | none => simp [hfs] at h
    | some x =>
      obtain ⟨ft, off'⟩ := x
      simp only [hfs] at h
      cases hj : assoc X.E.tt ft with
      | none => simp [hj] at h
      | some j =>
        simp only [hj] at h
        cases hb : Nat.beq j.size 0
        · simp only [hb, cond_false, Option.some.injEq, Prod.mk.injEq] at h
          obtain ⟨rfl, rfl, rfl⟩ := h
          rw [← hf] at hfs
          simp only [List.getElem?_map, Option.map_eq_some_iff] at hfs
          obtain ⟨fld, hfl, he⟩ := hfs
          simp only [Prod.mk.injEq] at he
          obtain ⟨rfl, rfl⟩ := he
          refine ⟨fields, fld, j, hu, by simpa using hfl, rfl, H.tt _ _ hj, rfl, fun e => ?_, rfl⟩
          rw [e] at hb; simp at hb
        · simp [hb] at h

theorem run_fieldAt {P : Program} {t f off : Nat} {fields : Array Field} {fld : Field} {j : TI} (w : World) (hu : P.underlying t = some (.struct fields)) (hf : fields[f]? = some fld) (ho : fld.offset = off)
    (hj : TiOk P fld.type j) (hn : j.size ≠ 0) (b p : Nat) : (Instr.fieldAt t (.pointer (some ⟨b, p, none⟩)) f).run P w = .ok (.pointer (some ⟨b, p + off, none⟩)) w := by
  simp [Instr.fieldAt, run_underlying hu, hf, Instr.sureAddr, fieldPlace, run_sizeOf hj, hn, Addr.add_lit, ho]

theorem op_fieldAddr (H : FxOk X) (R : Rel X cl ch S m ok a w) {t : TypeId} {x : Operand} {f q : Nat} (ho : o.op = .fieldAddr t x f) : (opCmd X.E q o).post S (fun _ S' => OpOk X cl ch o a w m ok S') := by
  unfold opCmd
  simp only [ho]
  refine opnd_post R fun p hp => ?_
  split <;> try trivial
  rename_i off n ag hfo
  obtain ⟨fields, fld, j, hu, hf, hoff, hj, hn, hn0, _⟩ := fieldOff_spec H hfo
  have hj0 : j.size ≠ 0 := by omega
  cases p <;> try trivial
  case ptr bx o' =>
    obtain ⟨blk, h1, h2⟩ := hp
    exact pure_ok H R (v := .ptr bx (o' + off)) ⟨blk, h1, rfl⟩ (by simp [execOp, ho, h2, run_fieldAt w hu hf hoff hj hj0])
  case ep bx ix o' =>
    obtain ⟨blk, o2, len, cap, sz, h1, h2, h3⟩ := hp
    exact pure_ok H R (v := .ep bx ix (o' + off)) ⟨blk, o2, len, cap, sz, h1, h2, rfl⟩ (by simp [execOp, ho, h3, run_fieldAt w hu hf hoff hj hj0, Nat.add_assoc])
  case dp u y o' =>
    obtain ⟨blk, o2, es, h1, h2⟩ := hp
    exact pure_ok H R (v := .dp u y (o' + off)) ⟨blk, o2, es, rfl, h2⟩ (by simp [execOp, ho, h1, run_fieldAt w hu hf hoff hj hj0, Nat.add_assoc])

theorem op_field (H : FxOk X) (R : Rel X cl ch S m ok a w) {t : TypeId} {x : Operand} {f q : Nat} (ho : o.op = .field t x f) : (opCmd X.E q o).post S (fun _ S' => OpOk X cl ch o a w m ok S') := by
  unfold opCmd
  simp only [ho]
  refine opnd_post R fun p hp => ?_
  split <;> try trivial
  rename_i off n ag hfo
  obtain ⟨fields, fld, j, hu, hf, hoff, hj, hn, hn0, rfl⟩ := fieldOff_spec H hfo
  refine cellsG_post hp fun ps us hg hl => subC_post fun hle => ?_
  obtain ⟨arr, hx, rfl⟩ := hg
  have hL := relL_length hl
  have hlen : ((arr.toList.drop off).take n).length = n := by simp at hL ⊢; omega
  refine pure_ok H R (relV_valOf (relL_take n (relL_drop off hl)) (fun ha => by rw [hlen, ← hn]; exact hj.one ha)) ?_
  have hpart : (part fld.type arr off).run X.P w = .ok (valOf (isAggTD j.td) ((arr.toList.drop off).take n)) w := by
    unfold part
    rw [Sem.run_bind, run_isAgg hj.td]
    simp only [Result.andThen_ok]
    cases ha : isAggTD j.td
    · have h1 := hj.one ha
      have hlt : off < arr.size := by simp at hL; omega
      simp only [Bool.false_eq_true, if_false, valOf]
      rw [show arr[off]? = some arr[off] from by simp [hlt]]
      have : n = 1 := by omega
      subst this
      simp [List.take_one, hlt]
    · simp only [if_true, valOf, Sem.run_bind, run_sizeOf hj, Result.andThen_ok, hn, Sem.run_pure]
      congr 2
      apply Array.ext'
      simp [List.extract_eq_take_drop]
  simp [execOp, ho, hx, Instr.field, run_underlying hu, hf, asAgg, hoff, hpart]

theorem elemSz_slice (H : FxOk X) {t n sz : Nat} (h : elemSz X.E t = some (false, n, sz)) : ∃ e j, X.P.underlying t = some (.slice e) ∧ TiOk X.P e j ∧ j.size = sz := by
  unfold elemSz at h
  cases hi : assoc X.E.tt t with
  | none => simp [hi] at h
  | some i =>
    have htd := (H.tt t i hi).td
    simp only [hi] at h
    cases hd : i.td <;> simp only [hd] at h <;> try (simp at h; done)
    · rename_i e
      rw [hd] at htd
      cases hj : assoc X.E.tt e with
      | none => simp [hj] at h
      | some j => simp [hj] at h; exact ⟨e, j, htd, H.tt _ _ hj, h.2⟩
    · rename_i l e
      cases hj : assoc X.E.tt e <;> simp [hj] at h
theorem elemSz_arr (H : FxOk X) {t n sz : Nat} (h : elemSz X.E t = some (true, n, sz)) : ∃ e j, X.P.underlying t = some (.array n e) ∧ TiOk X.P e j ∧ j.size = sz := by
  unfold elemSz at h
  cases hi : assoc X.E.tt t with
  | none => simp [hi] at h
  | some i =>
    have htd := (H.tt t i hi).td
    simp only [hi] at h
    cases hd : i.td <;> simp only [hd] at h <;> try (simp at h; done)
    · rename_i e
      cases hj : assoc X.E.tt e <;> simp [hj] at h
    · rename_i l e
      rw [hd] at htd
      cases hj : assoc X.E.tt e with
      | none => simp [hj] at h
      | some j => simp [hj] at h; obtain ⟨rfl, h⟩ := h; exact ⟨e, j, htd, H.tt _ _ hj, h⟩

theorem lat_some {α : Type} {l : List α} {n : Int} {y : α} (h : lat l n = some y) : 0 ≤ n ∧ l[n.toNat]? = some y ∧ n.toNat < l.length ∧ n < l.length := by
  unfold lat at h
  split at h
  · rename_i h0
    have := (List.getElem?_eq_some_iff.1 h).1
    exact ⟨h0, h, this, by omega⟩
  · cases h

theorem run_indexSlice {P : Program} {t e : TypeId} {j : TI} (w : World) (hu : P.underlying t = some (.slice e)) (hj : TiOk P e j) {k : IntKind} {n : Int} {b p len cap : Nat} (h0 : 0 ≤ n) (hlt : n < len) :
    (Instr.indexAt t (.slice (some ⟨b, p, none⟩) len cap) (.int k n)).run P w = .ok (.pointer (some ⟨b, p + n.toNat * j.size, none⟩)) w := by
  simp [Instr.indexAt, asIntOf, run_underlying hu, h0, hlt, run_sizeOf hj, Addr.add_lit]
theorem run_indexArr {P : Program} {t e : TypeId} {j : TI} (w : World) {len : Nat} (hu : P.underlying t = some (.array len e)) (hj : TiOk P e j) {k : IntKind} {n : Int} {b p : Nat} (h0 : 0 ≤ n) (hlt : n < len) :
    (Instr.indexAt t (.pointer (some ⟨b, p, none⟩)) (.int k n)).run P w = .ok (.pointer (some ⟨b, p + n.toNat * j.size, none⟩)) w := by
  simp [Instr.indexAt, asIntOf, run_underlying hu, h0, hlt, run_sizeOf hj, Addr.add_lit, Instr.sureAddr]

/-- an own slice's (or a view's) elements: where they lie -/
theorem view_elem {C : Cx} {t : Ty} {xs : List t.den} {l : Loc} {vw : Option (Nat × Nat)} {v : Value} (ha : arrOk C t xs l) (hv : l.view vw v) {i : Nat} {y : t.den} (hy : (viewOf vw xs)[i]? = some y) :
    ∃ blk off len cap, l = .arr blk off len cap t.size ∧ xs[loOf vw + i]? = some y ∧ ∃ p c, v = .slice (some ⟨blk, p, none⟩) (viewOf vw xs).length c ∧ p + i * t.size = off + (loOf vw + i) * t.size := by
  cases l with
  | nil =>
    simp only [arrOk] at ha; subst ha
    rcases vw with _ | ⟨lo, hi⟩ <;> simp [viewOf, lview] at hy
  | st b => cases ha
  | arr blk off len cap sz =>
    obtain ⟨rfl, rfl, hc, _⟩ := ha
    rcases vw with _ | ⟨lo, hi⟩
    · simp only [Loc.view] at hv; subst hv
      exact ⟨blk, off, _, cap, rfl, by simpa [loOf, viewOf] using hy, off, cap, rfl, by simp [loOf]⟩
    · obtain ⟨h1, h2, rfl⟩ := hv
      have hl : (viewOf (some (lo, hi)) xs).length = hi - lo := by simp [viewOf, lview]; omega
      have hi' : i < hi - lo := by rw [← hl]; exact (List.getElem?_eq_some_iff.1 hy).1
      have hx' : xs[lo + i]? = some y := by
        simp only [viewOf, lview, List.getElem?_drop, List.getElem?_take] at hy
        split at hy
        · exact hy
        · cases hy
      have hne : cap ≠ lo := by omega
      exact ⟨blk, off, _, cap, rfl, hx', off + lo * t.size, cap - lo, by rw [hl]; simp [hne], by simp [loOf, Nat.add_mul]; omega⟩

theorem op_indexAddr (H : FxOk X) (R : Rel X cl ch S m ok a w) {t : TypeId} {x ix : Operand} {q : Nat} (ho : o.op = .indexAddr t x ix) : (opCmd X.E q o).post S (fun _ S' => OpOk X cl ch o a w m ok S') := by
  unfold opCmd
  simp only [ho]
  refine opnd_post R fun u hu => opnd_post R fun v hv => ?_
  unfold indexAddrC
  split <;> try trivial
  · -- a slice
    rename_i k n l sz hsz
    obtain ⟨e, j, hut, hj, hjs⟩ := elemSz_slice H hsz
    have hix := relV_i hv
    cases u <;> try trivial
    case sl u xs =>
      refine bif_post fun hb => opt_post fun y hy => ?_
      have hb' := Nat.eq_of_beq_eq_true hb
      obtain ⟨h0, hget, hlt, hlt'⟩ := lat_some hy
      obtain ⟨ad, cap, hx, hc, hel⟩ := hu
      simp only [List.cons.injEq, and_true] at hx
      obtain ⟨blk, off, es, rfl, hok, he, hr⟩ := hel _ y hget
      refine pure_ok H R (v := .dp u y 0) (x := .pointer (some ⟨blk, off + n.toNat * u.size, none⟩)) ⟨blk, off + n.toNat * u.size, es, rfl, hok, he, hr⟩ ?_
      simp [execOp, ho, hx, hix, run_indexSlice w hut hj h0 hlt', hjs, hb']
    case own bx vw =>
      obtain ⟨loc, hm, hview⟩ := hu
      refine get_post ?_
      split <;> try trivial
      · rename_i u xs hS
        refine bif_post fun hb => opt_post fun y hy => ?_
        have hb' := Nat.eq_of_beq_eq_true hb
        obtain ⟨h0, hget, hlt, hlt'⟩ := lat_some hy
        obtain ⟨loc', hm', ha⟩ := R.own_arr hS
        simp only at hm
        rw [hm] at hm'; cases hm'
        obtain ⟨blk, off, len, cap, rfl, hx2, p, c, hvv, hp⟩ := view_elem ha hview hget
        have hlen := ha.2.1
        have hlt2 := (List.getElem?_eq_some_iff.1 hx2).1
        rw [ixOf_eq]
        refine pure_ok H R (v := .ep bx (loOf vw + toN n) 0) (x := .pointer (some ⟨blk, p + n.toNat * u.size, none⟩)) ⟨blk, off, len, cap, u.size, hm, by rw [hlen]; exact hlt2, by rw [hp]; rfl⟩ ?_
        simp [execOp, ho, hvv, hix, run_indexSlice w hut hj h0 hlt', hjs, hb']
      · rename_i u xs hS
        refine bif_post fun hb => opt_post fun y hy => ?_
        have hb' := Nat.eq_of_beq_eq_true hb
        obtain ⟨h0, hget, hlt, hlt'⟩ := lat_some hy
        obtain ⟨loc', hm', ha, hok⟩ := R.own_frz hS
        simp only at hm
        rw [hm] at hm'; cases hm'
        obtain ⟨ad, cap, hx, hc, hel⟩ := rep_of_arr (C := ⟨w.heap, ok, m⟩) ha hview (fun _ h => h) hok
        simp only [List.cons.injEq, and_true] at hx
        obtain ⟨blk, off, es, rfl, hok', he, hr⟩ := hel _ y hget
        refine pure_ok H R (v := .dp u y 0) (x := .pointer (some ⟨blk, off + n.toNat * u.size, none⟩)) ⟨blk, off + n.toNat * u.size, es, rfl, hok', he, hr⟩ ?_
        simp [execOp, ho, hx, hix, run_indexSlice w hut hj h0 hlt', hjs, hb']
  · -- an array
    rename_i k n l sz hsz
    obtain ⟨e, j, hut, hj, hjs⟩ := elemSz_arr H hsz
    have hix := relV_i hv
    cases u <;> try trivial
    case glob g =>
      cases hg : assoc X.E.gl g with
      | none => simp only [hg]; trivial
      | some p =>
      obtain ⟨u, xs⟩ := p
      simp only [hg]
      refine bif_post fun hb => opt_post fun y hy => ?_
      simp only [Bool.and_eq_true] at hb
      have hb1 := Nat.eq_of_beq_eq_true hb.1
      have hb2 := Nat.eq_of_beq_eq_true hb.2
      obtain ⟨h0, hget, hlt, hlt'⟩ := lat_some hy
      obtain ⟨hok, _, hel⟩ := R.gl g _ hg
      obtain ⟨es, he, hr⟩ := hel _ y hget
      have hx : a.eval x = .pointer (some ⟨g, 0, none⟩) := hu
      refine pure_ok H R (v := .dp u y 0) (x := .pointer (some ⟨g, 0 + n.toNat * u.size, none⟩)) ⟨g, n.toNat * u.size, es, by simp, hok, he, hr⟩ ?_
      have := run_indexArr w hut hj (k := k) (b := g) (p := 0) h0 (by rw [hb2]; exact hlt')
      simp only [hjs, hb1] at this
      simp [execOp, ho, hx, hix, this]

theorem list_one {α β : Type} {f : α → β} {args : Array α} {u : β} (h : args.toList.map f = [u]) : ∃ y, args = #[y] ∧ f y = u := by
  obtain ⟨l⟩ := args
  simp only [List.map_eq_cons_iff, List.map_eq_nil_iff] at h
  obtain ⟨y, r, h1, h2, h3⟩ := h
  subst h3
  exact ⟨y, by rw [h1], h2⟩
theorem list_two {α β : Type} {f : α → β} {args : Array α} {u v : β} (h : args.toList.map f = [u, v]) : ∃ y z, args = #[y, z] ∧ f y = u ∧ f z = v := by
  obtain ⟨l⟩ := args
  simp only [List.map_eq_cons_iff, List.map_eq_nil_iff] at h
  obtain ⟨y, r, h1, h2, z, r', h3, h4, h5⟩ := h
  subst h5
  subst h3
  exact ⟨y, z, by rw [h1], h2, h4⟩

theorem op_len (H : FxOk X) (R : Rel X cl ch S m ok a w) {c : Call} {q : Nat} (ho : o.op = .call c) (hc : c.callee = .builtin .len) : (opCmd X.E q o).post S (fun _ S' => OpOk X cl ch o a w m ok S') := by
  obtain ⟨cal, args, ats⟩ := c
  simp only at hc; subst hc
  unfold opCmd
  simp only [ho]
  refine opnds_post R _ fun vs hvs => ?_
  split <;> try trivial
  rename_i t rt x hat
  obtain ⟨u, r, he, hx, hr⟩ := hvs
  simp only [relVs] at hr; subst hr
  refine tiC_post H fun i hi => ?_
  have htd := hi.td
  obtain ⟨y, rfl, rfl⟩ := list_one he
  have h0 : ats[0]? = some t := by
    obtain ⟨l⟩ := ats
    simp only at hat
    simp [hat]
  have fin : ∀ (v : V) (n : Nat), relV ⟨w.heap, ok, m⟩ v (.int .i64 n) → (Builtin.len_ ats o.type #[a.eval y]).run X.P w = .ok (.int .i64 n) w → (dstC X.E o.dst v).post S (fun _ S' => OpOk X cl ch o a w m ok S') := fun v n hv h =>
    pure_ok H R hv (by simp [execOp, ho, resolve, invoke, builtin, h])
  unfold lenC
  split <;> try trivial
  · rename_i l htd'
    rw [htd'] at htd
    refine fin _ l.length rfl ?_
    simp [Builtin.len_, h0, run_underlying (show X.P.underlying t = some .string from htd), relV_s hx, goInt]
    rfl
  · rename_i e u xs htd'
    rw [htd'] at htd
    obtain ⟨ad, cap, hv, _⟩ := hx
    simp only [List.cons.injEq, and_true] at hv
    refine fin _ xs.length rfl ?_
    simp [Builtin.len_, h0, run_underlying (show X.P.underlying t = some (.slice e) from htd), hv, goInt]
  · rename_i e htd'
    rw [htd'] at htd
    have hv : a.eval y = .slice none 0 0 := hx
    refine fin _ 0 rfl ?_
    simp [Builtin.len_, h0, run_underlying (show X.P.underlying t = some (.slice e) from htd), hv, goInt]
  · rename_i e bx vw htd'
    rw [htd'] at htd
    obtain ⟨loc, hm, hview⟩ := hx
    refine get_post ?_
    have key : ∀ {u : Ty} {xs : List u.den}, arrOk ⟨w.heap, ok, m⟩ u xs loc → (dstC X.E o.dst (.i .i64 (llen (viewOf vw xs)))).post S (fun _ S' => OpOk X cl ch o a w m ok S') := fun {u xs} ha => by
      obtain ⟨ad, cap, hv, _⟩ := rep_of_arr (C := ⟨w.heap, ok, m⟩) (ok' := fun _ => True) ha hview (fun _ _ => trivial) (fun _ _ _ _ _ _ => trivial)
      simp only [List.cons.injEq, and_true] at hv
      refine fin _ (viewOf vw xs).length rfl ?_
      simp [Builtin.len_, h0, run_underlying (show X.P.underlying t = some (.slice e) from htd), hv, goInt]
    split <;> try trivial
    · rename_i u xs hS
      obtain ⟨loc', hm', ha⟩ := R.own_arr hS
      simp only at hm
      rw [hm] at hm'; cases hm'
      exact key ha
    · rename_i u xs hS
      obtain ⟨loc', hm', ha, _⟩ := R.own_frz hS
      simp only at hm
      rw [hm] at hm'; cases hm'
      exact key ha

theorem op_minmax (H : FxOk X) (R : Rel X cl ch S m ok a w) {c : Call} {q : Nat} (ho : o.op = .call c) (hc : c.callee = .builtin .min ∨ c.callee = .builtin .max) : (opCmd X.E q o).post S (fun _ S' => OpOk X cl ch o a w m ok S') := by
  obtain ⟨cal, args, ats⟩ := c
  simp only at hc
  rcases hc with rfl | rfl
  all_goals
    unfold opCmd
    simp only [ho]
    refine opnds_post R _ fun vs hvs => ?_
    split <;> try trivial
    rename_i k p k' r
    obtain ⟨u, r', he, hx, v, r'', he', hy, hr⟩ := hvs
    simp only [relVs] at hr; subst hr
    rw [he'] at he
    refine bif_post fun hk => ?_
    have hk' : k = k' := of_decide_eq_true hk
    subst hk'
    obtain ⟨y, z, rfl, rfl, rfl⟩ := list_two he
  · refine pure_ok H R (v := .i k (imin p r)) rfl ?_
    simp [execOp, ho, resolve, invoke, builtin, Builtin.min_, Builtin.min2, relV_i hx, relV_i hy, imin]
  · refine pure_ok H R (v := .i k (imax p r)) rfl ?_
    simp [execOp, ho, resolve, invoke, builtin, Builtin.max_, Builtin.max2, relV_i hx, relV_i hy, imax]
end
end Go.GP
