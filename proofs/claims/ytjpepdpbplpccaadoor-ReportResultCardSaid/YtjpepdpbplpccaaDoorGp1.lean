import Derived.Test.YtjpepdpbplpccaaDoorGp0
import Derived.Below
/- WHAT A PURE VALUE STANDS FOR IN A WORLD. -/
namespace Go.GP
open RowKit
set_option linter.unusedVariables false
set_option linter.unusedSimpArgs false

/-! ### data in memory -/
def cellsAt (h : Array Obj) (blk off n : Nat) : Option (List Value) :=
  match h[blk]? with
  | some (.cells c _ _) => if off + n ≤ c.size then some ((c.toList.drop off).take n) else none
  | _ => none

theorem cellsAt_congr {h h' : Array Obj} {blk : Nat} (e : h'[blk]? = h[blk]?) (off n : Nat) : cellsAt h' blk off n = cellsAt h blk off n := by
  simp [cellsAt, e]
theorem cellsAt_length {h : Array Obj} {blk off n : Nat} {es : List Value} (e : cellsAt h blk off n = some es) : es.length = n := by
  unfold cellsAt at e
  split at e
  · split at e
    · cases e; simp; omega
    · cases e
  · cases e
theorem cellsAt_lt {h : Array Obj} {blk off n : Nat} {es : List Value} (e : cellsAt h blk off n = some es) : blk < h.size := by
  unfold cellsAt at e
  split at e
  · rename_i hb; exact (Array.getElem?_eq_some_iff.1 hb).1
  · cases e
theorem cellsAt_mk {h : Array Obj} {blk : Nat} {c : Array Value} {T : TypeId} {f : Nat × Nat} (hb : h[blk]? = some (.cells c T f)) (off n : Nat) (hn : off + n ≤ c.size) :
    cellsAt h blk off n = some ((c.toList.drop off).take n) := by simp [cellsAt, hb, hn]
theorem cellsAt_of {h : Array Obj} {blk off n : Nat} {es : List Value} (e : cellsAt h blk off n = some es) :
    ∃ c T f, h[blk]? = some (.cells c T f) ∧ off + n ≤ c.size ∧ es = (c.toList.drop off).take n := by
  unfold cellsAt at e
  split at e
  · rename_i c T f hb
    split at e
    · cases e; exact ⟨c, T, f, hb, by assumption, rfl⟩
    · cases e
  · cases e
/-- a part of the cells -/
theorem cellsAt_sub {h : Array Obj} {blk off n : Nat} {es : List Value} (e : cellsAt h blk off n = some es) (a k : Nat) (hk : a + k ≤ n) :
    cellsAt h blk (off + a) k = some ((es.drop a).take k) := by
  obtain ⟨c, T, f, hb, hn, rfl⟩ := cellsAt_of e
  rw [cellsAt_mk hb _ _ (by omega)]
  congr 1
  rw [List.drop_take, List.take_take, List.drop_drop]
  congr 1; omega

def rep (h : Array Obj) (ok : Nat → Prop) : (t : Ty) → t.den → List Value → Prop
  | .bool, x, cs => cs = [.bool x]
  | .int k, n, cs => cs = [.int k n]
  | .str, l, cs => cs = [.string ⟨l.toArray⟩]
  | .prod a b, x, cs => ∃ c d, cs = c ++ d ∧ rep h ok a x.1 c ∧ rep h ok b x.2 d
  | .unit, _, cs => cs = []
  | .sl t, xs, cs => ∃ a cap, cs = [.slice a xs.length cap] ∧ xs.length ≤ cap ∧
      ∀ i x, xs[i]? = some x → ∃ blk off es, a = some ⟨blk, off, none⟩ ∧ ok blk ∧ cellsAt h blk (off + i * t.size) t.size = some es ∧ rep h ok t x es

theorem rep_length {h : Array Obj} {ok : Nat → Prop} : ∀ {t : Ty} {x : t.den} {cs : List Value}, rep h ok t x cs → cs.length = t.size
  | .bool, _, _, e => by simp [rep] at e; simp [e, Ty.size]
  | .int _, _, _, e => by simp [rep] at e; simp [e, Ty.size]
  | .str, _, _, e => by simp [rep] at e; simp [e, Ty.size]
  | .unit, _, _, e => by simp [rep] at e; simp [e, Ty.size]
  | .prod a b, _, _, e => by
    obtain ⟨c, d, rfl, h1, h2⟩ := e
    simp [rep_length h1, rep_length h2, Ty.size]
  | .sl t, _, _, e => by
    obtain ⟨a, cap, rfl, _⟩ := e
    simp [Ty.size]

theorem rep_mono {h h' : Array Obj} {ok ok' : Nat → Prop} (hok : ∀ b, ok b → ok' b) (hh : ∀ b, ok b → h'[b]? = h[b]?) :
    ∀ {t : Ty} {x : t.den} {cs : List Value}, rep h ok t x cs → rep h' ok' t x cs
  | .bool, _, _, e => e
  | .int _, _, _, e => e
  | .str, _, _, e => e
  | .unit, _, _, e => e
  | .prod a b, _, _, e => by
    obtain ⟨c, d, rfl, h1, h2⟩ := e
    exact ⟨c, d, rfl, rep_mono hok hh h1, rep_mono hok hh h2⟩
  | .sl t, xs, _, e => by
    obtain ⟨a, cap, rfl, hc, hx⟩ := e
    refine ⟨a, cap, rfl, hc, fun i x hi => ?_⟩
    obtain ⟨blk, off, es, ha, hb, he, hr⟩ := hx i x hi
    exact ⟨blk, off, es, ha, hok _ hb, by rw [cellsAt_congr (hh _ hb)]; exact he, rep_mono hok hh hr⟩

theorem rep_flat {h h' : Array Obj} {ok ok' : Nat → Prop} : ∀ {t : Ty} {x : t.den} {cs : List Value}, t.flat = true → rep h ok t x cs → rep h' ok' t x cs
  | .bool, _, _, _, e => e
  | .int _, _, _, _, e => e
  | .str, _, _, _, e => e
  | .unit, _, _, _, e => e
  | .prod a b, _, _, f, e => by
    simp [Ty.flat] at f
    obtain ⟨c, d, rfl, h1, h2⟩ := e
    exact ⟨c, d, rfl, rep_flat f.1 h1, rep_flat f.2 h2⟩
  | .sl t, xs, _, f, e => by simp [Ty.flat] at f

theorem rep_oneCell {h : Array Obj} {ok : Nat → Prop} : ∀ {t : Ty} {x : t.den} {cs : List Value}, rep h ok t x cs → ∀ v ∈ cs, v.oneCell' = true
  | .bool, _, _, e => by simp [rep] at e; subst e; simp [Value.oneCell']
  | .int _, _, _, e => by simp [rep] at e; subst e; simp [Value.oneCell']
  | .str, _, _, e => by simp [rep] at e; subst e; simp [Value.oneCell']
  | .unit, _, _, e => by simp [rep] at e; subst e; simp
  | .prod a b, _, _, e => by
    obtain ⟨c, d, rfl, h1, h2⟩ := e
    intro v hv
    rcases List.mem_append.1 hv with hv | hv
    · exact rep_oneCell h1 v hv
    · exact rep_oneCell h2 v hv
  | .sl t, xs, _, e => by
    obtain ⟨a, cap, rfl, _⟩ := e
    simp [Value.oneCell']

/-! ### places -/
inductive Loc where
  | nil | arr (blk off len cap sz : Nat) | st (blk : Nat)
structure Cx where
  h : Array Obj
  ok : Nat → Prop
  m : Nat → Option Loc

def Loc.view : Loc → Option (Nat × Nat) → Value → Prop
  | .nil, none, v => v = .slice none 0 0
  | .nil, some (lo, hi), v => lo = 0 ∧ hi = 0 ∧ v = .slice none 0 0
  | .arr blk off len cap _, none, v => v = .slice (some ⟨blk, off, none⟩) len cap
  | .arr blk off len cap sz, some (lo, hi), v => lo ≤ hi ∧ hi ≤ len ∧ v = .slice (some (if cap = lo then ⟨blk, off, none⟩ else ⟨blk, off + lo * sz, none⟩)) (hi - lo) (cap - lo)
  | .st _, _, _ => False

def relC (C : Cx) : V → Value → Prop
  | .undef, _ => True
  | .un, v => v = Go.undef
  | .b x, v => v = .bool x
  | .i k n, v => v = .int k n
  | .s l, v => v = .string ⟨l.toArray⟩
  | .nl, v => v = .slice none 0 0
  | .sl t xs, v => rep C.h C.ok (.sl t) xs [v]
  | .own bx vw, v => ∃ loc, C.m bx = some loc ∧ loc.view vw v
  | .ptr bx o, v => ∃ blk, C.m bx = some (.st blk) ∧ v = .pointer (some ⟨blk, o, none⟩)
  | .ep bx ix o, v => ∃ blk off len cap sz, C.m bx = some (.arr blk off len cap sz) ∧ ix < len ∧ v = .pointer (some ⟨blk, off + ix * sz + o, none⟩)
  | .dp t x o, v => ∃ blk off es, v = .pointer (some ⟨blk, off + o, none⟩) ∧ C.ok blk ∧ cellsAt C.h blk off t.size = some es ∧ rep C.h C.ok t x es
  | .glob g, v => v = .pointer (some ⟨g, 0, none⟩)
  | .fnv f, v => v = .func (.func f) #[] #[]
  | _, _ => False

def relL (C : Cx) : List V → List Value → Prop
  | [], vs => vs = []
  | c :: cs, vs => ∃ v r, vs = v :: r ∧ relC C c v ∧ v.oneCell' = true ∧ relL C cs r

def relA (C : Cx) : V → Value → Prop
  | .agg cs, v => ∃ arr, v = .agg arr ∧ relL C cs arr.toList
  | c, v => relC C c v
def relT (C : Cx) : List V → List Value → Prop
  | [], vs => vs = []
  | c :: cs, vs => ∃ v r, vs = v :: r ∧ relA C c v ∧ relT C cs r
def relV (C : Cx) : V → Value → Prop
  | .tup cs, v => ∃ arr, v = .tuple arr ∧ relT C cs arr.toList
  | c, v => relA C c v

def arrOk (C : Cx) (t : Ty) (xs : List t.den) : Loc → Prop
  | .nil => xs = []
  | .arr blk off len cap sz => sz = t.size ∧ len = xs.length ∧ len ≤ cap ∧ ∃ c T, C.h[blk]? = some (.cells c T (0, 0)) ∧ off + cap * sz ≤ c.size ∧
      ∀ i x, xs[i]? = some x → ∃ es, cellsAt C.h blk (off + i * sz) sz = some es ∧ rep C.h C.ok t x es
  | .st _ => False

def relB (C : Cx) (n : Nat) : V → Prop
  | .bcells cs => ∃ blk arr T, C.m n = some (.st blk) ∧ C.h[blk]? = some (.cells arr T (0, 0)) ∧ relL C cs arr.toList
  | .barr t xs => ∃ loc, C.m n = some loc ∧ arrOk C t xs loc
  | .bfrz t xs => ∃ loc, C.m n = some loc ∧ arrOk C t xs loc ∧ (∀ blk off len cap sz, loc = .arr blk off len cap sz → C.ok blk)
  | _ => True

/-- the block that a box owns -/
def ownB (m : Nat → Option Loc) (n : Nat) : V → Option Nat
  | .bcells _ => match m n with | some (.st blk) => some blk | _ => none
  | .barr _ _ => match m n with | some (.arr blk _ _ _ _) => some blk | _ => none
  | _ => none

/-! ### what is kept as the world grows -/
structure Cx.le (C D : Cx) : Prop where
  ok : ∀ b, C.ok b → D.ok b
  h : ∀ b, C.ok b → D.h[b]? = C.h[b]?
  m : ∀ n l, C.m n = some l → D.m n = some l

theorem Cx.le.refl (C : Cx) : C.le C := ⟨fun _ h => h, fun _ _ => rfl, fun _ _ h => h⟩
theorem Cx.le.trans {A B C : Cx} (h : A.le B) (k : B.le C) : A.le C :=
  ⟨fun b x => k.ok _ (h.ok _ x), fun b x => (k.h _ (h.ok _ x)).trans (h.h _ x), fun n l x => k.m _ _ (h.m _ _ x)⟩

theorem relC_le {C D : Cx} (h : C.le D) : ∀ {c : V} {v : Value}, relC C c v → relC D c v := by
  intro c v hr
  cases c <;> simp only [relC] at hr ⊢ <;> try exact hr
  case sl t xs => exact rep_mono h.ok h.h hr
  case own bx vw => obtain ⟨l, hm, hv⟩ := hr; exact ⟨l, h.m _ _ hm, hv⟩
  case ptr bx o => obtain ⟨b, hm, hv⟩ := hr; exact ⟨b, h.m _ _ hm, hv⟩
  case ep bx ix o => obtain ⟨b, o', l, c, s, hm, hv⟩ := hr; exact ⟨b, o', l, c, s, h.m _ _ hm, hv⟩
  case dp t x o => obtain ⟨b, o', es, hv, hb, hc, hp⟩ := hr; exact ⟨b, o', es, hv, h.ok _ hb, by rw [cellsAt_congr (h.h _ hb)]; exact hc, rep_mono h.ok h.h hp⟩
theorem relL_le {C D : Cx} (h : C.le D) : ∀ {cs : List V} {vs : List Value}, relL C cs vs → relL D cs vs
  | [], _, hr => hr
  | _ :: _, _, ⟨v, r, e, h1, h2, h3⟩ => ⟨v, r, e, relC_le h h1, h2, relL_le h h3⟩
theorem relA_le {C D : Cx} (h : C.le D) {c : V} {v : Value} (hr : relA C c v) : relA D c v := by
  cases c <;> simp only [relA] at hr ⊢ <;> try exact relC_le h hr
  case agg cs => obtain ⟨arr, e, hl⟩ := hr; exact ⟨arr, e, relL_le h hl⟩
theorem relT_le {C D : Cx} (h : C.le D) : ∀ {cs : List V} {vs : List Value}, relT C cs vs → relT D cs vs
  | [], _, hr => hr
  | _ :: _, _, ⟨v, r, e, h1, h3⟩ => ⟨v, r, e, relA_le h h1, relT_le h h3⟩
theorem relV_le {C D : Cx} (h : C.le D) {c : V} {v : Value} (hr : relV C c v) : relV D c v := by
  cases c <;> simp only [relV] at hr ⊢ <;> try exact relA_le h hr
  case tup cs => obtain ⟨arr, e, hl⟩ := hr; exact ⟨arr, e, relT_le h hl⟩

theorem arrOk_le {C D : Cx} (h : C.le D) {t : Ty} {xs : List t.den} {l : Loc} (hb : ∀ blk off len cap sz, l = .arr blk off len cap sz → D.h[blk]? = C.h[blk]?) (hr : arrOk C t xs l) : arrOk D t xs l := by
  cases l with
  | nil => exact hr
  | st b => exact hr
  | arr blk off len cap sz =>
    have e := hb _ _ _ _ _ rfl
    obtain ⟨h1, h2, h3, c, T, h4, h5, h6⟩ := hr
    refine ⟨h1, h2, h3, c, T, by rw [e]; exact h4, h5, fun i x hi => ?_⟩
    obtain ⟨es, he, hp⟩ := h6 i x hi
    exact ⟨es, by rw [cellsAt_congr e]; exact he, rep_mono h.ok h.h hp⟩
theorem relB_le {C D : Cx} (h : C.le D) {n : Nat} {v : V} (hb : ∀ b, ownB C.m n v = some b → D.h[b]? = C.h[b]?) (hr : relB C n v) : relB D n v := by
  cases v <;> simp only [relB] at hr ⊢
  case bcells cs =>
    obtain ⟨blk, arr, T, hm, hh, hl⟩ := hr
    exact ⟨blk, arr, T, h.m _ _ hm, by rw [hb blk (by simp [ownB, hm])]; exact hh, relL_le h hl⟩
  case barr t xs =>
    obtain ⟨l, hm, ha⟩ := hr
    refine ⟨l, h.m _ _ hm, arrOk_le h ?_ ha⟩
    rintro blk off len cap sz rfl
    exact hb blk (by simp [ownB, hm])
  case bfrz t xs =>
    obtain ⟨l, hm, ha, hok⟩ := hr
    refine ⟨l, h.m _ _ hm, arrOk_le h ?_ ha, fun blk off len cap sz e => h.ok _ (hok _ _ _ _ _ e)⟩
    rintro blk off len cap sz rfl
    exact h.h _ (hok _ _ _ _ _ rfl)

/-! ### lists of cells -/
theorem relL_length {C : Cx} : ∀ {cs : List V} {vs : List Value}, relL C cs vs → cs.length = vs.length
  | [], _, h => by simp [relL] at h; simp [h]
  | _ :: _, _, ⟨v, r, e, _, _, h3⟩ => by subst e; simp [relL_length h3]
theorem relL_append {C : Cx} : ∀ {a : List V} {va : List Value} {b : List V} {vb : List Value}, relL C a va → relL C b vb → relL C (a ++ b) (va ++ vb)
  | [], _, _, _, h, k => by simp [relL] at h; subst h; exact k
  | _ :: _, _, _, _, ⟨v, r, e, h1, h2, h3⟩, k => by subst e; exact ⟨v, r ++ _, rfl, h1, h2, relL_append h3 k⟩
theorem relL_one {C : Cx} : ∀ {cs : List V} {vs : List Value}, relL C cs vs → ∀ v ∈ vs, v.oneCell' = true
  | [], _, h => by simp [relL] at h; simp [h]
  | _ :: _, _, ⟨v, r, e, _, h2, h3⟩ => by
    subst e; intro u hu
    rcases List.mem_cons.1 hu with rfl | hu
    · exact h2
    · exact relL_one h3 u hu
theorem relL_drop {C : Cx} : ∀ (n : Nat) {cs : List V} {vs : List Value}, relL C cs vs → relL C (cs.drop n) (vs.drop n)
  | 0, _, _, h => by simpa using h
  | n + 1, [], _, h => by simp [relL] at h; subst h; simp [relL]
  | n + 1, _ :: _, _, ⟨v, r, e, _, _, h3⟩ => by subst e; simpa using relL_drop n h3
theorem relL_take {C : Cx} : ∀ (n : Nat) {cs : List V} {vs : List Value}, relL C cs vs → relL C (cs.take n) (vs.take n)
  | 0, _, _, h => by simp [relL]
  | n + 1, [], _, h => by simp [relL] at h; subst h; simp [relL]
  | n + 1, _ :: _, _, ⟨v, r, e, h1, h2, h3⟩ => by subst e; exact ⟨v, r.take n, by simp, h1, h2, relL_take n h3⟩

theorem flat_append : ∀ (t : Ty) (x : t.den) (r : List V), flat t x r = flat t x [] ++ r
  | .bool, _, _ => rfl
  | .int _, _, _ => rfl
  | .str, _, _ => rfl
  | .sl _, _, _ => rfl
  | .unit, _, _ => rfl
  | .prod a b, x, r => by
    simp only [flat]
    rw [flat_append a x.1 (flat b x.2 r), flat_append b x.2 r, flat_append a x.1 (flat b x.2 [])]
    simp
theorem relL_flat {C : Cx} : ∀ {t : Ty} {x : t.den} {cs : List Value}, rep C.h C.ok t x cs → relL C (flat t x []) cs
  | .bool, x, _, h => by simp [rep] at h; subst h; exact ⟨_, _, rfl, rfl, rfl, rfl⟩
  | .int _, x, _, h => by simp [rep] at h; subst h; exact ⟨_, _, rfl, rfl, rfl, rfl⟩
  | .str, x, _, h => by simp [rep] at h; subst h; exact ⟨_, _, rfl, rfl, rfl, rfl⟩
  | .unit, _, _, h => by simp [rep] at h; subst h; rfl
  | .sl t, xs, _, h => by
    have h' := h
    obtain ⟨a, cap, rfl, _⟩ := h
    exact ⟨_, _, rfl, h', rfl, rfl⟩
  | .prod a b, x, _, h => by
    obtain ⟨c, d, rfl, h1, h2⟩ := h
    simp only [flat]
    rw [flat_append a]
    exact relL_append (relL_flat h1) (relL_flat h2)
theorem flat_length : ∀ (t : Ty) (x : t.den), (flat t x []).length = t.size
  | .bool, _ => rfl
  | .int _, _ => rfl
  | .str, _ => rfl
  | .sl _, _ => rfl
  | .unit, _ => rfl
  | .prod a b, x => by
    simp only [flat, Ty.size]
    rw [flat_append a, List.length_append, flat_length a x.1, flat_length b x.2]

/-- an own slice, or a view of it, read as data -/
theorem rep_of_arr {C : Cx} {ok' : Nat → Prop} {t : Ty} {xs : List t.den} {l : Loc} {vw : Option (Nat × Nat)} {v : Value} (ha : arrOk C t xs l) (hv : l.view vw v)
    (hok : ∀ b, C.ok b → ok' b) (hb : ∀ blk off len cap sz, l = .arr blk off len cap sz → ok' blk) : rep C.h ok' (.sl t) (viewOf vw xs) [v] := by
  cases l with
  | st b => cases ha
  | nil =>
    simp only [arrOk] at ha; subst ha
    cases vw with
    | none => simp only [Loc.view] at hv; subst hv; exact ⟨none, 0, rfl, Nat.le_refl _, fun i x hi => by simp [viewOf] at hi⟩
    | some p =>
      obtain ⟨lo, hi⟩ := p
      obtain ⟨rfl, rfl, rfl⟩ := hv
      exact ⟨none, 0, by simp [viewOf, lview], by simp [viewOf, lview], fun i x hi => by simp [viewOf, lview] at hi⟩
  | arr blk off len cap sz =>
    obtain ⟨rfl, rfl, hc, c, T, hh, hs, hx⟩ := ha
    have hbk := hb _ _ _ _ _ rfl
    cases vw with
    | none =>
      simp only [Loc.view] at hv; subst hv
      refine ⟨_, cap, rfl, hc, fun i x hi => ?_⟩
      obtain ⟨es, he, hr⟩ := hx i x hi
      exact ⟨blk, off, es, rfl, hbk, he, rep_mono hok (fun _ _ => rfl) hr⟩
    | some p =>
      obtain ⟨lo, hi⟩ := p
      obtain ⟨h1, h2, rfl⟩ := hv
      have hl : (viewOf (some (lo, hi)) xs).length = hi - lo := by simp [viewOf, lview]; omega
      refine ⟨_, cap - lo, by rw [hl], by rw [hl]; omega, fun i x hix => ?_⟩
      have hi' : i < hi - lo := by rw [← hl]; exact (List.getElem?_eq_some_iff.1 hix).1
      have hx' : xs[lo + i]? = some x := by
        simp only [viewOf, lview, List.getElem?_drop, List.getElem?_take] at hix
        split at hix
        · exact hix
        · cases hix
      obtain ⟨es, he, hr⟩ := hx _ x hx'
      have hne : cap ≠ lo := by omega
      refine ⟨blk, off + lo * t.size, es, by simp [hne], hbk, ?_, rep_mono hok (fun _ _ => rfl) hr⟩
      rw [← he]; congr 1; rw [Nat.add_mul]; omega
end Go.GP
