import Derived.Test.YtjpepdpbplpccaaDoorGp22
import Derived.ChangeSame
import Derived.Carry
import Derived.SizedLaws
import Derived.Deep.DeepHandedRow
import Derived.Lib.LaidTab
/- BETWEEN A CLAIM'S READINGS AND PURE DATA: what the arguments read as is plain data, within its bounds; the table of a package variable; and a law's contract out of its pure form. -/
namespace Go.GP
open Go.ChangeShapes Go.WideShapes Go.RowKit
set_option linter.unusedVariables false
set_option linter.unusedSimpArgs false

/-- data within the bounds that every input keeps -/
def wf : (t : Ty) → t.den → Prop
  | .bool, _ => True
  | .int k, n => (Lit.int k n).wf = true
  | .str, l => l.length ≤ reachBytes
  | .sl t, xs => xs.length ≤ reachBytes ∧ ∀ x ∈ xs, wf t x
  | .prod a b, x => wf a x.1 ∧ wf b x.2
  | .unit, _ => True

def fieldsAre (rec : TypeId → Ty → Bool) (cells : TypeId → Nat) : Nat → List Field → Ty → Bool
  | off, fs, u => match fs with
    | [] => false
    | f :: r => match r with
      | [] => Nat.beq f.offset off && rec f.type u && Nat.beq (cells f.type) u.size
      | g :: r' => match u with
        | .prod a b => Nat.beq f.offset off && rec f.type a && Nat.beq (cells f.type) a.size && fieldsAre rec cells (off + a.size) (g :: r') b
        | _ => false
termination_by _ fs _ => fs.length

def tyIs (P : Program) : Nat → TypeId → Ty → Bool
  | 0, _, _ => false
  | n + 1, t, u => match P.underlying t with
    | some .bool => (match u with | .bool => true | _ => false)
    | some (.int k) => (match u with | .int k' => decide (k = k') | _ => false)
    | some .string => (match u with | .str => true | _ => false)
    | some (.slice e) => (match u with | .sl v => tyIs P n e v && Nat.beq (P.cellsOf e) v.size && Nat.blt 0 v.size && Nat.blt 0 (P.bytesOf e) | _ => false)
    | some (.struct fs) => fieldsAre (tyIs P n) P.cellsOf 0 fs.toList u && Nat.beq (P.cellsOf t) u.size
    | _ => false

theorem list_of_each {α : Type} {Q : Nat → α → Prop} : ∀ (n : Nat), (∀ i, i < n → ∃ x, Q i x) → ∃ xs : List α, xs.length = n ∧ ∀ i x, xs[i]? = some x → Q i x
  | 0, _ => ⟨[], rfl, fun i x h => by simp at h⟩
  | n + 1, h => by
    obtain ⟨xs, hl, hx⟩ := list_of_each n fun i hi => h i (by omega)
    obtain ⟨y, hy⟩ := h n (by omega)
    refine ⟨xs ++ [y], by simp [hl], fun i x hi => ?_⟩
    by_cases hin : i < n
    · rw [List.getElem?_append_left (by omega)] at hi
      exact hx i x hi
    · rw [List.getElem?_append_right (by omega)] at hi
      have : i - xs.length = 0 := by
        rcases Nat.lt_or_ge (i - xs.length) 1 with h1 | h1
        · omega
        · rw [List.getElem?_eq_none (by simpa using h1)] at hi; cases hi
      rw [this] at hi
      simp at hi
      subst hi
      have e : i = n := by omega
      subst e; exact hy

theorem cells_at {w : World} {a : Addr} {n : Nat} {es : List Value} (hn : 0 < n) (h : w.cells? 0 a n = some es) :
    a.spot = none ∧ a.block < w.heap.size ∧ cellsAt w.heap a.block a.off n = some es := by
  obtain ⟨blk, off, spot⟩ := a
  simp only [World.cells?, Nat.zero_le, if_true] at h
  have hlen : es.length = n := by simpa using Lib.mapM_length h
  have hat : ∀ i, i < n → ∃ b, es[i]? = some b ∧ w.cell? (Addr.add ⟨blk, off, spot⟩ i) = some b := fun i hi => Lib.mapM_at h i i (by simp [hi])
  obtain ⟨b0, _, h0⟩ := hat 0 hn
  simp only [Addr.add, if_true, World.cell?] at h0
  cases hb : w.heap[blk]? with
  | none => simp [hb] at h0
  | some o =>
    cases o <;> simp only [hb] at h0 <;> try (cases h0; done)
    rename_i c T f
    have hs : spot = none := by
      cases spot with
      | none => rfl
      | some _ => simp at h0
    subst hs
    have hat' : ∀ i, i < n → es[i]? = c[off + i]? ∧ off + i < c.size := fun i hi => by
      obtain ⟨b, h1, h2⟩ := hat i hi
      have h3 : c[off + i]? = some b := by
        by_cases hi0 : i = 0
        · subst hi0; simpa [Addr.add, World.cell?, hb] using h2
        · simpa [Addr.add, World.cell?, hb, hi0] using h2
      exact ⟨h1.trans h3.symm, (Array.getElem?_eq_some_iff.1 h3).1⟩
    refine ⟨rfl, (Array.getElem?_eq_some_iff.1 hb).1, ?_⟩
    have hle : off + n ≤ c.size := by have := (hat' (n - 1) (by omega)).2; omega
    rw [cellsAt_mk hb _ _ hle]
    congr 1
    apply List.ext_getElem?
    intro i
    by_cases hi : i < n
    · rw [(hat' i hi).1, List.getElem?_take_of_lt hi, List.getElem?_drop]
      simp
    · rw [List.getElem?_eq_none (by simp; omega), List.getElem?_eq_none (by omega)]

section
variable {H : Type} {enc : TypeId × Value → H} {P : Program} {w : World} {sp : Nat → Bool} {held : Bool} {ok : Nat → Prop}

theorem weightsAll_mem {e : TypeId} : ∀ {l : List (DataW H)} {d : DataW H}, d ∈ l → ∀ b ∈ d.weights P e, b ∈ DataW.weightsAll P e l
  | x :: l, d, h, b, hb => by
    simp only [DataW.weightsAll, List.mem_append]
    rcases List.mem_cons.1 h with rfl | h
    · exact .inl hb
    · exact .inr (weightsAll_mem h b hb)

theorem fields_rep {n : Nat} (IH : ∀ t u, tyIs P n t u = true → ∀ fuel cs d ps, DataW.trod enc P w 0 sp held fuel t cs = some (d, ps) → (∀ b ∈ d.weights P t, b ≤ reachBytes) → ∃ x, rep w.heap ok u x cs ∧ wf u x) {cs : List Value} {m : Nat} :
    ∀ (fs : List Field) (off : Nat) (u : Ty), fieldsAre (tyIs P n) P.cellsOf off fs u = true → ∀ (xs : List (DataW H × List MemPlace)), xs.length = fs.length →
      (∀ (i : Nat) (f : Field), fs[i]? = some f → DataW.trod enc P w 0 sp held m f.type ((cs.drop f.offset).take (P.cellsOf f.type)) = xs[i]?) → (∀ b ∈ DataW.weightsEach P (fs.map (·.type)) (xs.map (·.1)), b ≤ reachBytes) →
      ∃ x, rep w.heap ok u x ((cs.drop off).take u.size) ∧ wf u x
  | [], off, u, h, _, _, _, _ => by unfold fieldsAre at h; cases h
  | [f], off, u, h, xs, hl, hx, hw => by
    unfold fieldsAre at h
    simp only [Bool.and_eq_true] at h
    have h1 := Nat.eq_of_beq_eq_true h.1.1
    have h3 := Nat.eq_of_beq_eq_true h.2
    match xs, hl with
    | [y], _ =>
      have h4 := hx 0 f rfl
      rw [h1, h3] at h4
      refine IH _ _ h.1.2 _ _ y.1 y.2 (by simpa using h4) fun b hb => hw b ?_
      simp [DataW.weightsEach, hb]
  | f :: g :: r, off, u, h, xs, hl, hx, hw => by
    unfold fieldsAre at h
    cases u <;> try (cases h; done)
    rename_i a b
    simp only [Bool.and_eq_true] at h
    obtain ⟨⟨⟨h1, h2⟩, h3⟩, h4⟩ := h
    have h1 := Nat.eq_of_beq_eq_true h1
    have h3 := Nat.eq_of_beq_eq_true h3
    match xs, hl with
    | y :: ys, hl =>
      have h5 := hx 0 f rfl
      rw [h1, h3] at h5
      obtain ⟨p, hp, wp⟩ := IH _ _ h2 _ _ y.1 y.2 (by simpa using h5) fun c hc => hw c (by simp [DataW.weightsEach, hc])
      obtain ⟨q, hq, wq⟩ := fields_rep IH (g :: r) (off + a.size) b h4 ys (by simpa using hl) (fun i f' hf => by have := hx (i + 1) f' (by simpa using hf); simpa using this) fun c hc => hw c (by
        simp only [List.map_cons, DataW.weightsEach, List.mem_append]
        simp only [List.map_cons] at hc
        exact .inr hc)
      refine ⟨(p, q), ⟨_, _, ?_, hp, hq⟩, wp, wq⟩
      show (cs.drop off).take (a.size + b.size) = _
      rw [List.take_add, List.drop_drop]

theorem rep_of_trod (hok : ∀ b, b < w.heap.size → ok b) : ∀ (n : Nat) (t : TypeId) (u : Ty), tyIs P n t u = true → ∀ (fuel : Nat) (cs : List Value) (d : DataW H) (ps : List MemPlace), DataW.trod enc P w 0 sp held fuel t cs = some (d, ps) →
    (∀ b ∈ d.weights P t, b ≤ reachBytes) → ∃ x, rep w.heap ok u x cs ∧ wf u x
  | 0, _, _, h, _, _, _, _, _, _ => by cases h
  | n + 1, t, u, h, fuel, cs, d, ps, hd, hw => by
    unfold tyIs at h
    split at h
    · rename_i ht
      cases u <;> try (cases h; done)
      obtain ⟨b, rfl, hx⟩ := DataW.trod_bool ht hd
      exact ⟨b, rfl, trivial⟩
    · rename_i k ht
      cases u <;> try (cases h; done)
      rename_i k'
      have := of_decide_eq_true h
      subst this
      obtain ⟨b, rfl, hx, hwf⟩ := DataW.trod_int ht hd
      exact ⟨b, rfl, hwf⟩
    · rename_i ht
      cases u <;> try (cases h; done)
      obtain ⟨s, rfl, hx, hs⟩ := DataW.trod_string ht hd
      simp only [Prod.mk.injEq] at hx
      obtain ⟨rfl, rfl⟩ := hx
      refine ⟨s.data.toList, rfl, hw _ ?_⟩
      simp [DataW.weights]
    · rename_i e ht
      cases u <;> try (cases h; done)
      rename_i v
      simp only [Bool.and_eq_true] at h
      obtain ⟨⟨⟨h1, h2⟩, h3⟩, h4⟩ := h
      have h2 := Nat.eq_of_beq_eq_true h2
      rw [Nat.blt_eq] at h3 h4
      rcases DataW.trod_slice ht hd with ⟨rfl, hx⟩ | ⟨a, len, cap, elems, rest, m, rfl, rfl, hx, hb, hl, hm, hlen, hel, _, _⟩
      · exact ⟨[], ⟨none, 0, rfl, Nat.le_refl _, fun i x hi => by simp at hi⟩, by simp, fun x hx => by simp at hx⟩
      · simp only [Prod.mk.injEq] at hx
        obtain ⟨rfl, rfl⟩ := hx
        have hW : DataW.weights P t (.slice (elems.map (·.1)) (rest.map (·.1)) : DataW H) = ((elems.map (·.1)).length + (rest.map (·.1)).length) * P.bytesOf e :: (DataW.weightsAll P e (elems.map (·.1)) ++ DataW.weightsAll P e (rest.map (·.1))) := by
          simp only [DataW.weights, ht]
        rw [hW] at hw
        have hsz := hw _ (List.mem_cons_self ..)
        simp only [List.length_map] at hsz
        have hlr : len ≤ reachBytes := by
          have h6 : (elems.length + rest.length) * 1 ≤ (elems.length + rest.length) * P.bytesOf e := Nat.mul_le_mul_left _ h4
          omega
        have each : ∀ i, i < len → ∃ x, wf v x ∧ a.spot = none ∧ a.block < w.heap.size ∧ ∃ es, cellsAt w.heap a.block (a.off + i * v.size) v.size = some es ∧ rep w.heap ok v x es := by
          intro i hi
          have h5 := hel i hi
          rw [h2] at h5
          rw [List.getElem?_eq_getElem (by omega)] at h5
          obtain ⟨es, hc, hd2⟩ := Option.bind_eq_some_iff.1 h5
          obtain ⟨x, hx, wx⟩ := rep_of_trod hok n e v h1 m es _ _ hd2 fun b hb => hw b (by
            refine List.mem_cons_of_mem _ (List.mem_append_left _ (weightsAll_mem (d := (elems[i]'(by omega)).1) (List.mem_map.2 ⟨_, List.getElem_mem (by omega), rfl⟩) b hb)))
          obtain ⟨s1, s2, s3⟩ := cells_at h3 hc
          by_cases hz : i * v.size = 0
          · simp only [Addr.add, hz, if_true] at s1 s2 s3
            exact ⟨x, wx, s1, s2, es, by simpa [hz] using s3, hx⟩
          · simp only [Addr.add, hz, if_false] at s1 s2 s3
            obtain ⟨es0, hc0, _⟩ := Option.bind_eq_some_iff.1 (show ((w.cells? 0 (a.add (0 * P.cellsOf e)) (P.cellsOf e)).bind (DataW.trod enc P w 0 sp held m e)) = some (elems[0]'(by omega)) by rw [hel 0 (by omega), List.getElem?_eq_getElem (by omega)])
            rw [h2] at hc0
            have s0 := (cells_at h3 hc0).1
            simp only [Nat.zero_mul, Addr.add, if_true] at s0
            exact ⟨x, wx, s0, s2, es, s3, hx⟩
        obtain ⟨xs, hxl, hxs⟩ := list_of_each len each
        refine ⟨xs, ⟨some a, cap, by simp [hxl], by omega, fun i x hi => ?_⟩, by omega, fun x hx => ?_⟩
        · obtain ⟨_, s1, s2, es, s3, s4⟩ := hxs i x hi
          refine ⟨a.block, a.off, es, ?_, hok _ s2, s3, s4⟩
          obtain ⟨b, o, s⟩ := a
          simp only at s1
          subst s1; rfl
        · obtain ⟨i, hi, rfl⟩ := List.mem_iff_getElem.1 hx
          exact (hxs i _ (List.getElem?_eq_getElem hi)).1
    · rename_i fs ht
      simp only [Bool.and_eq_true] at h
      have h2 := Nat.eq_of_beq_eq_true h.2
      obtain ⟨xs, m, rfl, hx, hl, hlen, hf⟩ := DataW.trod_struct ht hd
      simp only [Prod.mk.injEq] at hx
      obtain ⟨rfl, rfl⟩ := hx
      have hW : DataW.weights P t (.agg (xs.map (·.1)) : DataW H) = DataW.weightsEach P (fs.toList.map (·.type)) (xs.map (·.1)) := by simp only [DataW.weights, ht]
      rw [hW] at hw
      have := fields_rep (cs := cs) (m := m) (fun t u hu fuel cs d ps hd hw => rep_of_trod hok n t u hu fuel cs d ps hd hw) fs.toList 0 u h.1 xs (by simpa using hlen) (fun i f hi => hf i f (by simpa using hi)) hw
      rwa [List.drop_zero, List.take_of_length_le (by omega)] at this
    · cases h
end

def aggIs (P : Program) (t : TypeId) : Bool := match P.underlying t with | some (.struct _) => true | _ => false
theorem relG_of {P : Program} {W : World} {base n : Nat} {t : TypeId} {u : Ty} {v : Value} (h : tyIs P n t u = true) (hv : Value.okWide P W .any base t v) : relG (aggIs P t) v v.cells.toList := by
  cases n with
  | zero => cases h
  | succ n =>
    unfold tyIs at h
    unfold aggIs
    split at h
    · rename_i ht
      simp only [Value.okWide, ht, Cell.okWide, Cell.ok] at hv ⊢
      cases v <;> first | rfl | exact absurd hv (by simp)
    · rename_i ht
      simp only [Value.okWide, ht, Cell.okWide, Cell.ok] at hv ⊢
      cases v <;> first | rfl | exact absurd hv (by simp)
    · rename_i ht
      simp only [Value.okWide, ht, Cell.okWide, Cell.ok] at hv ⊢
      cases v <;> first | rfl | exact absurd hv (by simp)
    · rename_i ht
      simp only [Value.okWide, ht, Cell.okWide, Cell.ok] at hv ⊢
      cases v <;> first | rfl | exact absurd hv (by simp)
    · rename_i ht
      simp only [Value.okWide, ht] at hv ⊢
      obtain ⟨cs, rfl, _, _⟩ := hv
      exact ⟨cs, rfl, rfl⟩
    · cases h

/-- the parameters' types, as modes -/
def parsAre (P : Program) (n : Nat) : List TypeId → List MG → Bool
  | [], [] => true
  | t :: ts, (g, .dat u) :: ms => tyIs P n t u && (aggIs P t == g) && P.readableRec t && Nat.blt t P.types.size && parsAre P n ts ms
  | _, _ => false
def wfM : (m : M) → m.den → Prop
  | .dat t, x => wf t x
  | _, _ => True
def wfTup : (ms : List MG) → tupDen ms → Prop
  | [], _ => True
  | [m], x => wfM m.2 x
  | m :: m' :: r, x => wfM m.2 x.1 ∧ wfTup (m' :: r) x.2

section
variable {H : Type} {enc : TypeId × Value → H} {P : Program} {W : World} {base n : Nat} {ok : Nat → Prop}

theorem relTup_of (hok : ∀ b, b < W.heap.size → ok b) : ∀ {ts : List TypeId} {ms : List MG} {vs : List Value} {ds : List (DataW H)} {ps : List MemPlace}, parsAre P n ts ms = true → DataW.TrodAll enc P W 0 (fun _ => true) true ts vs ds ps →
    (∀ (j : Nat) t v, ts[j]? = some t → vs[j]? = some v → Value.okWide P W .any base t v) → (∀ b ∈ DataW.weightsEach P ts ds, b ≤ reachBytes) → ∃ x, relTup W.heap ok ms x vs [] ∧ wfTup ms x
  | [], [], vs, ds, ps, h, hd, hv, hw => by
    obtain ⟨rfl, rfl, rfl⟩ := trodAll_nil hd
    exact ⟨(), ⟨rfl, rfl⟩, trivial⟩
  | [], _ :: _, _, _, _, h, _, _, _ => by simp [parsAre] at h
  | _ :: _, [], _, _, _, h, _, _, _ => by simp [parsAre] at h
  | t :: ts, (g, m) :: ms, vs, ds, ps, h, hd, hv, hw => by
    cases m <;> simp only [parsAre, Bool.and_eq_true] at h <;> try (cases h; done)
    rename_i u
    obtain ⟨⟨⟨⟨h1, h2⟩, _⟩, _⟩, h3⟩ := h
    have h2 := eq_of_beq h2
    subst h2
    obtain ⟨v, vs', d, ds', p, q, rfl, rfl, rfl, ⟨fuel, h4⟩, h5⟩ := trodAll_cons hd
    have hw' : ∀ b ∈ d.weights P t ++ DataW.weightsEach P ts ds', b ≤ reachBytes := by simpa only [DataW.weightsEach] using hw
    obtain ⟨x, hx, wx⟩ := rep_of_trod (ok := ok) hok n t u h1 _ _ _ _ h4 fun b hb => hw' b (List.mem_append_left _ hb)
    have hg := relG_of h1 (hv 0 t v rfl rfl)
    obtain ⟨y, hy, wy⟩ := relTup_of hok h3 h5 (fun j t v hj hk => hv (j + 1) t v (by simpa using hj) (by simpa using hk)) fun b hb => hw' b (List.mem_append_right _ hb)
    cases ms with
    | nil =>
      cases ts with
      | cons _ _ => simp [parsAre] at h3
      | nil =>
        obtain ⟨rfl, rfl, rfl⟩ := trodAll_nil h5
        exact ⟨x, ⟨v, _, rfl, hg, hx, rfl⟩, wx⟩
    | cons m' ms => exact ⟨(x, y), ⟨v, _, vs', [], [], rfl, rfl, hg, ⟨hx, rfl⟩, hy⟩, wx, wy⟩

theorem trodAll_stays (hl : laidOutB P = true) {W' : World} (hb : Below W.heap.size W W') {sp : Nat → Bool} : ∀ {ts : List TypeId} {ms : List MG} {vs : List Value} {ds : List (DataW H)} {ps : List MemPlace}, parsAre P n ts ms = true →
    DataW.TrodAll enc P W 0 (fun _ => true) true ts vs ds ps → (∀ x ∈ ps, x.block < W.heap.size) → (∀ x ∈ ps, sp x.block = true) → DataW.TrodAll enc P W' 0 sp true ts vs ds ps
  | [], ms, vs, ds, ps, h, hd, _, _ => by
    obtain ⟨rfl, rfl, rfl⟩ := trodAll_nil hd
    rfl
  | _ :: _, [], _, _, _, h, _, _, _ => by simp [parsAre] at h
  | t :: ts, (g, m) :: ms, vs, ds, ps, h, hd, hlt, hsp => by
    cases m <;> simp only [parsAre, Bool.and_eq_true] at h <;> try (cases h; done)
    obtain ⟨⟨⟨⟨h1, h2⟩, h6⟩, h7⟩, h3⟩ := h
    rw [Nat.blt_eq] at h7
    obtain ⟨v, vs', d, ds', p, q, rfl, rfl, rfl, h4, h5⟩ := trodAll_cons hd
    exact ⟨p, q, WideElems.Trod_stays hl h6 h7 h4 (fun x hx => hb.same (hlt x (List.mem_append_left _ hx))) (fun x hx => hsp x (List.mem_append_left _ hx)),
      trodAll_stays hl hb h3 h5 (fun x hx => hlt x (List.mem_append_right _ hx)) (fun x hx => hsp x (List.mem_append_right _ hx)), rfl⟩
end

/-- a package variable's table, as a listed variable gives it -/
theorem glOk_tab {P : Program} {W : World} {name : String} {g : Nat} {k : IntKind} {zs : List Int} (hg : P.globalNamed name = some g) (hz : 0 < zs.length) (h : Lib.TabIs P W name k zs) :
    GlOk ⟨W.heap, fun b => b < W.heap.size, fun _ => none⟩ g (.int k) zs := by
  have hc : ∀ i z, zs[i]? = some z → W.cell? ⟨g, i, none⟩ = some (.int k z) := fun i z hi => by
    have := World.var?_cell hg h i
    rw [this]; simp [hi]
  have key : ∀ i z, zs[i]? = some z → g < W.heap.size ∧ cellsAt W.heap g i 1 = some [.int k z] := fun i z hi => by
    have h1 := hc i z hi
    have h2 : W.cells? 0 ⟨g, i, none⟩ 1 = some [.int k z] := by
      simp [World.cells?, List.range_succ, Addr.add, h1]
    obtain ⟨_, s2, s3⟩ := cells_at (by omega) h2
    exact ⟨s2, s3⟩
  refine ⟨(key 0 zs[0] (List.getElem?_eq_getElem hz)).1, ?_, fun i z hi => ⟨_, ?_, rfl⟩⟩
  · unfold Lib.TabIs World.var? at h
    simp only [hg, Option.bind_some] at h
    split at h
    · rename_i cs T f hb
      simp only [Option.some.injEq] at h
      subst h
      exact ⟨_, T, f, hb, by simp [Ty.size]⟩
    · cases h
  · have := (key i z hi).2
    simpa [Ty.size] using this
/-- .. and back -/
theorem tab_of_glOk {P : Program} {w : World} {ok : Nat → Prop} {m : Nat → Option Loc} {name : String} {g : Nat} {k : IntKind} {zs : List Int} (hg : P.globalNamed name = some g) (h : GlOk ⟨w.heap, ok, m⟩ g (.int k) zs) : Lib.TabIs P w name k zs := by
  obtain ⟨_, ⟨c, T, f, hb, hl⟩, hz⟩ := h
  unfold Lib.TabIs World.var?
  simp only [hg, Option.bind_some, hb, Option.some.injEq]
  simp only [Ty.size, Nat.mul_one] at hl
  apply Array.ext
  · simp [hl]
  · intro i h1 h2
    have hi : i < zs.length := by simpa using h2
    obtain ⟨es, he, hr⟩ := hz i zs[i] (List.getElem?_eq_getElem hi)
    rw [cellsAt_mk hb _ _ (by simp [Ty.size]; omega)] at he
    simp only [Ty.size, Nat.mul_one, Option.some.injEq] at he
    have h3 : es = [.int k zs[i]] := hr
    rw [h3] at he
    have h4 := congrArg (fun l => l[0]?) he
    simp only [List.getElem?_take_of_lt (show 0 < 1 by omega), List.getElem?_drop, Nat.add_zero, List.getElem?_cons_zero] at h4
    rw [Array.getElem?_toList, Array.getElem?_eq_getElem h1] at h4
    simpa using h4
/-- THE CONTRACT OF A LAW OUT OF ITS PURE FORM -/
theorem law_contract {H : Type} {enc : TypeId × Value → H} {P : Program} {gl : List (Nat × (t : Ty) × List t.den)} {f : FuncId} {fn : Func} {s : ChangeSpec} {ms : List MG} {F : tupDen ms → Option Bool} {tb : TypeId}
    (hlaid : laidOutB P = true) (hF : FSound P gl f ⟨ms, [(false, .dat .bool)], [], F⟩) (law : ∀ x, wfTup ms x → F x = some true) (hpars : parsAre P 30 fn.params.toList ms = true) (hres : fn.resultTypes = #[tb]) (hbool : P.underlying tb = some .bool)
    (hvars : s.vars = []) (hsfn : ∀ ds : List (DataW H), ds.length = ms.length → s.fn H ds = { results := [.lit (.bool true)], args := ds })
    {W : World} {base : Nat} {args : Array Value} {ds gs : List (DataW H)} {before : List MemPlace} {apart fresh handsOn again : Bool}
    (hgl : ∀ g u, assoc gl g = some u → GlOk ⟨W.heap, fun b => b < W.heap.size, fun _ => none⟩ g u.1 u.2)
    (hval : ∀ (j : Nat) t v, fn.params[j]? = some t → args[j]? = some v → Value.okWide P W .any base t v)
    (hW : DataW.Whole enc P fn.params.toList s.vars apart W args.toList ds gs before)
    (hz : (DataW.weightsEach P (fn.params.toList ++ s.plain.varTypes P) (ds ++ gs)).all (· ≤ reachBytes) = true) :
    Calls P f args W fun e W' => ∃ v, e = .returned v ∧ s.post enc P fn apart fresh handsOn again W args v W' := by
  have hW' := hW
  obtain ⟨p, q, hA, hV, rfl, hfz, hnd⟩ := hW
  rw [hvars] at hV
  obtain ⟨rfl, rfl⟩ := trodVars_none hV
  have hlen : ds.length = ms.length := by
    have : ∀ {ts : List TypeId} {ms : List MG} {vs : List Value} {ds : List (DataW H)} {ps : List MemPlace}, parsAre P 30 ts ms = true → DataW.TrodAll enc P W 0 (fun _ => true) true ts vs ds ps → ds.length = ms.length := by
      intro ts
      induction ts with
      | nil =>
        intro ms vs ds ps h hd
        obtain ⟨rfl, rfl, rfl⟩ := trodAll_nil hd
        cases ms with
        | nil => rfl
        | cons _ _ => simp [parsAre] at h
      | cons t ts ih =>
        intro ms vs ds ps h hd
        obtain ⟨v, vs', d, ds', p, q, rfl, rfl, rfl, h4, h5⟩ := trodAll_cons hd
        cases ms with
        | nil => simp [parsAre] at h
        | cons m ms =>
          obtain ⟨g, m⟩ := m
          cases m <;> simp only [parsAre, Bool.and_eq_true] at h <;> try (cases h; done)
          simp [ih h.2 h5]
    exact this hpars hA
  have hvt : s.plain.varTypes P = [] := by simp [ChangeSpec.plain, DataSpec.varTypes, hvars]
  rw [hvt] at hz
  simp only [List.append_nil, List.all_eq_true, decide_eq_true_eq] at hz
  obtain ⟨x, hx, wx⟩ := relTup_of (ok := fun b => b < W.heap.size) (fun b hb => hb) hpars hA (fun j t v hj hv => hval j t v (by simpa using hj) (by simpa using hv)) hz
  have hc := hF W (fun b => b < W.heap.size) [] args.toList x true (fun b hb => hb) List.nodup_nil (fun b hb => by cases hb) hgl hx (law x wx)
  simp only [Array.toArray_toList] at hc
  refine hc.mono fun e W' ⟨v, ok', O', rs, os, B, he, hfr, _, _, _, _, hrv, hos, hrel⟩ => ?_
  subst he
  have hnoos : os = [] := by
    have : ∀ {ms : List MG} {vs : List Value} {ts : List TypeId}, parsAre P 30 ts ms = true → OutsOk W'.heap ms vs os B → os = [] := by
      intro ms
      induction ms with
      | nil =>
        intro vs ts h ho
        cases vs with
        | nil => exact ho.1
        | cons _ _ => exact absurd ho (by simp [OutsOk])
      | cons m ms ih =>
        intro vs ts h ho
        obtain ⟨g, m⟩ := m
        cases ts with
        | nil => simp [parsAre] at h
        | cons t ts =>
          cases m <;> simp only [parsAre, Bool.and_eq_true] at h <;> try (cases h; done)
          cases vs with
          | nil => exact absurd ho (by simp [OutsOk])
          | cons v vs => exact ih h.2 ho
    exact this hpars hos
  subst hnoos
  obtain ⟨v1, cs, hvs, hg, ⟨hrep, _⟩⟩ := hrel
  simp only [List.append_nil] at hvs
  subst hvs
  have hv1 : v1 = .bool true := by
    have h1 : cs = [v1] := hg
    have h2 : cs = [.bool true] := hrep
    rw [h1] at h2
    exact (List.cons.inj h2).1
  subst hv1
  have hv : v = .bool true := hrv.2
  subst hv
  have hbel : Below W.heap.size W W' := ⟨hfr.os, hfr.tape, hfr.output, hfr.size, fun k hk => hfr.block k hk (by simp)⟩
  simp only [List.append_nil] at hW' hfz
  have hlt : ∀ x ∈ p, x.block < W.heap.size := fun x hx => by simpa using hW'.lt x hx
  have hres1 : ∀ (b : Nat) (sp : Nat → Bool) (hd : Bool), DataW.TrodAll enc P W' b sp hd fn.resultTypes.toList ((Value.bool true).resultList fn.resultTypes.size) (s.fn H (ds ++ [])).results [] := fun b sp hd => by
    rw [List.append_nil, hsfn ds hlen, hres]
    exact trodAll_cons_mk (shut_bool hbool _) trodAll_mk0
  have hargs1 : ∀ sp : Nat → Bool, (∀ x ∈ p, sp x.block = true) → DataW.TrodAll enc P W' 0 sp true fn.params.toList args.toList (s.fn H (ds ++ [])).args p := fun sp hs => by
    rw [List.append_nil, hsfn ds hlen]
    exact trodAll_stays hlaid hbel hpars hA hlt hs
  have hvars1 : ∀ sp : Nat → Bool, DataW.TrodVars enc P W' sp s.vars (s.fn H (ds ++ [])).vars [] := fun sp => by
    rw [List.append_nil, hsfn ds hlen, hvars]
    rfl
  refine ⟨_, rfl, ds, [], p, [], p, [], hW', hres1 _ _ _, hargs1 _ (fun x hx => by simpa using hlt x hx), hvars1 _, World.keptBut_mono (fun x hx => ⟨hx, .inr (.inl hx)⟩) (hbel.frame (· ∈ p)), fun _ => ⟨ok_one hres rfl (okWide_bool_mk hbool _), _, _, ([] ++ p) ++ [], ⟨[] ++ p, [], trodAll_append (hargs1 _ (fun _ _ => rfl)) (hres1 _ _ _), hvars1 _, rfl, ?_, ?_⟩, ?_⟩⟩
  · intro b off hp
    simp only [List.nil_append, List.append_nil] at hp
    rw [hbel.frozen (hlt _ hp)]
    exact hfz b off hp
  · intro ha
    obtain ⟨_, _, _, _, _, _, hn⟩ := hW'
    simpa using hn ha
  · intro x hx _
    simpa using hx
end Go.GP
