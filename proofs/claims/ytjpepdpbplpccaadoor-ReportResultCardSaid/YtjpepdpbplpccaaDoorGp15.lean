import Derived.Test.YtjpepdpbplpccaaDoorGp14
/- CALLS. -/
namespace Go.GP
set_option linter.unusedVariables false
set_option linter.unusedSimpArgs false

theorem splitC_eq : ∀ (n : Nat) (vs a b : List V), splitC n vs = some (a, b) → vs = a ++ b ∧ a.length = n
  | 0, vs, a, b, h => by simp [splitC] at h; obtain ⟨rfl, rfl⟩ := h; simp
  | n + 1, [], a, b, h => by simp [splitC] at h
  | n + 1, v :: vs, a, b, h => by
    unfold splitC at h
    cases hs : splitC n vs with
    | none => simp [hs] at h
    | some p =>
      obtain ⟨a', b'⟩ := p
      simp only [hs, Option.some.injEq, Prod.mk.injEq] at h
      obtain ⟨rfl, rfl⟩ := h
      obtain ⟨rfl, hl⟩ := splitC_eq n vs _ _ hs
      exact ⟨rfl, by simp [hl]⟩

theorem relVs_split {C : Cx} : ∀ {a b : List V} {xs ys : List Value}, a.length = xs.length → relVs C (a ++ b) (xs ++ ys) → relVs C a xs ∧ relVs C b ys
  | [], b, xs, ys, hl, h => by
    have : xs = [] := by cases xs <;> simp at hl ⊢
    subst this
    exact ⟨rfl, h⟩
  | c :: a, b, xs, ys, hl, h => by
    cases xs with
    | nil => simp at hl
    | cons x xs =>
      obtain ⟨v, r, e, h1, h2⟩ := h
      simp only [List.cons_append, List.cons.injEq] at e
      obtain ⟨rfl, rfl⟩ := e
      obtain ⟨h3, h4⟩ := relVs_split (by simpa using hl) h2
      exact ⟨⟨_, _, rfl, h1, h3⟩, h4⟩

theorem relT_of {C : Cx} : ∀ {a : List V} {xs : List Value}, anyTup a = false → relVs C a xs → relT C a xs
  | [], xs, _, h => h
  | c :: a, xs, ht, ⟨v, r, e, h1, h2⟩ => by
    have ht2 : anyTup a = false := by cases c <;> first | exact ht | (simp [anyTup] at ht)
    refine ⟨v, r, e, ?_, relT_of ht2 h2⟩
    cases c <;> first | exact h1 | (simp [anyTup] at ht)

theorem resV_rel {C : Cx} {a : List V} {xs : List Value} {n : Nat} {v : Value} (ht : anyTup a = false) (h : relVs C a xs) (hr : RetV n v xs) : relV C (resV a) v := by
  obtain ⟨_, hv⟩ := hr
  cases a with
  | nil =>
    simp only [relVs] at h; subst h
    simp only at hv; subst hv
    exact ⟨_, rfl, rfl⟩
  | cons c a =>
    obtain ⟨x, r, rfl, h1, h2⟩ := h
    cases a with
    | nil =>
      simp only [relVs] at h2; subst h2
      simp only at hv; subst hv
      exact h1
    | cons d a =>
      obtain ⟨y, r', rfl, h3, h4⟩ := h2
      simp only at hv; subst hv
      exact ⟨_, rfl, relT_of ht ⟨_, _, rfl, h1, _, _, rfl, h3, h4⟩⟩

theorem relM_closed {h : Array Obj} {ok ok' : Nat → Prop} {m : M} {x : m.den} {cs : List Value} {O : List Nat} (hc : closedM m = true) (hr : relM h ok m x cs O) : relM h ok' m x cs O := by
  cases m with
  | dat t => exact ⟨rep_flat hc hr.1, hr.2⟩
  | unit => exact hr
  | pair a b => simp [closedM] at hc
  | box m => simp [closedM] at hc
  | own t =>
    obtain ⟨l, v, e, hv, ha, ho⟩ := hr
    refine ⟨l, v, e, hv, ?_, ho⟩
    cases l with
    | nil => exact ha
    | st b => exact ha
    | arr blk off len cap sz =>
      obtain ⟨h1, h2, h3, c, T, h4, h5, h6⟩ := ha
      refine ⟨h1, h2, h3, c, T, h4, h5, fun i y hi => ?_⟩
      obtain ⟨es, he, hp⟩ := h6 i y hi
      exact ⟨es, he, rep_flat hc hp⟩
theorem relTup_closed {h : Array Obj} {ok ok' : Nat → Prop} : ∀ {ms : List MG} {x : tupDen ms} {vs : List Value} {O : List Nat}, (∀ m ∈ ms, closedM m.2 = true) → relTup h ok ms x vs O → relTup h ok' ms x vs O
  | [], _, _, _, _, e => e
  | [m], _, _, _, hc, ⟨v, cs, e, hg, hr⟩ => ⟨v, cs, e, hg, relM_closed (hc m (by simp)) hr⟩
  | m :: m' :: r, _, _, _, hc, ⟨v, cs, vs', O1, O2, e, eo, hg, h1, h2⟩ =>
    ⟨v, cs, vs', O1, O2, e, eo, hg, relM_closed (hc m (by simp)) h1, relTup_closed (fun k hk => hc k (by simp at hk ⊢; exact .inr hk)) h2⟩

theorem relTup_length {h : Array Obj} {ok : Nat → Prop} : ∀ {ms : List MG} {x : tupDen ms} {vs : List Value} {O : List Nat}, relTup h ok ms x vs O → vs.length = ms.length
  | [], _, _, _, e => by simp [e.1]
  | [m], _, _, _, ⟨v, cs, e, hg, hr⟩ => by simp [e]
  | m :: m' :: r, _, _, _, ⟨v, cs, vs', O1, O2, e, eo, hg, h1, h2⟩ => by
    have := relTup_length h2
    subst e; simp [this]

section
variable {X : Fx} {cl ch : Nat} {S : Sm} {m : Nat → Option Loc} {ok : Nat → Prop} {a : Act} {w : World} {o : Oper}

/-- a box that was handed in comes back -/
theorem Rel.back (R : Rel X cl ch S m ok a w) {n blk : Nat} {cs : List V} {arr : Array Value} {T : TypeId} {B : List Nat} (hn : S (BOX + n) = .dead) (hm : m n = some (.st blk))
    (hT : Tk X S m ok w (blk :: B)) (hh : w.heap[blk]? = some (.cells arr T (0, 0))) (hl : relL ⟨w.heap, ok, m⟩ cs arr.toList) :
    Rel X cl ch (upd S (BOX + n) (.bcells cs)) m ok a w ∧ Tk X (upd S (BOX + n) (.bcells cs)) m ok w B := by
  have hob : ∀ k, k ≠ n → ownB m k (upd S (BOX + n) (.bcells cs) (BOX + k)) = ownB m k (S (BOX + k)) := fun k e => by
    rw [upd_other _ _ (by omega)]
  have hobn : ownB m n (upd S (BOX + n) (.bcells cs) (BOX + n)) = some blk := by rw [upd_same]; simp [ownB, hm]
  obtain ⟨f1, f2, f3, f4⟩ := hT.free blk (by simp)
  refine ⟨{ size := R.size, nodef := R.nodef, okLt := R.okLt, okIn := R.okIn, okOut := R.okOut, frame := R.frame, strict := R.strict, gl := R.gl,
            slot := fun k hk => (by rw [upd_other _ _ (by omega)]; exact R.slot k hk), box := fun k => ?_, inj := fun k k' b h h' => ?_, sep := fun k b h => ?_, fresh := fun k h1 h2 => ?_ }, ?_⟩
  · by_cases e : k = n
    · subst e; rw [upd_same]; exact ⟨blk, arr, T, hm, hh, hl⟩
    · rw [upd_other _ _ (by omega)]; exact R.box k
  · by_cases e : k = n
    · by_cases e' : k' = n
      · rw [e, e']
      · subst e
        rw [hobn] at h; cases h
        rw [hob k' e'] at h'
        exact absurd h' (f4 k')
    · by_cases e' : k' = n
      · subst e'
        rw [hobn] at h'; cases h'
        rw [hob k e] at h
        exact absurd h (f4 k)
      · rw [hob k e] at h; rw [hob k' e'] at h'
        exact R.inj k k' b h h'
  · by_cases e : k = n
    · subst e; rw [hobn] at h; cases h
      exact ⟨f1, f2, f3⟩
    · rw [hob k e] at h; exact R.sep k b h
  · by_cases e : k = n
    · subst e; rw [upd_same] at h2; cases h2
    · rw [upd_other _ _ (by omega)] at h2; exact R.fresh k h1 h2
  · refine ⟨(List.nodup_cons.1 hT.nodup).2, fun b hb => ?_⟩
    obtain ⟨g1, g2, g3, g4⟩ := hT.free b (by simp [hb])
    refine ⟨g1, g2, g3, fun k e => ?_⟩
    by_cases ek : k = n
    · subst ek; rw [hobn] at e; cases e
      exact (List.nodup_cons.1 hT.nodup).1 hb
    · rw [hob k ek] at e; exact g4 k e

theorem backC_post {α : Type} {Q : α → Sm → Prop} {h0 : Array Obj} {ok0 : Nat → Prop} {m0 : Nat → Option Loc} : ∀ (ms : List MG) {vs : List V} {vals : List Value} {ws : List V} {os : List Value} {B : List Nat} {K : Cmd α} {S : Sm}
    (R : Rel X cl ch S m ok a w) (hm : ∀ k l, m0 k = some l → m k = some l) (hT : Tk X S m ok w B) (hv : relVs ⟨h0, ok0, m0⟩ vs vals) (ho : OutsOk w.heap ms vals os B) (hw : relVs ⟨w.heap, ok, m⟩ ws os)
    (hK : ∀ S', Rel X cl ch S' m ok a w → K.post S' Q), (backC ms vs ws K).post S Q
  | [], vs, vals, ws, os, B, K, S, R, hm, hT, hv, ho, hw, hK => by
    cases vs with
    | cons _ _ => unfold backC; trivial
    | nil =>
      cases ws with
      | cons _ _ => unfold backC; trivial
      | nil => unfold backC; exact hK S R
  | (g, .dat t) :: ms, vs, vals, ws, os, B, K, S, R, hm, hT, hv, ho, hw, hK => by
    cases vs with
    | nil => unfold backC; trivial
    | cons v vs =>
      obtain ⟨x, r, rfl, h1, h2⟩ := hv
      unfold backC
      exact backC_post ms R hm hT h2 ho hw hK
  | (g, .own t) :: ms, vs, vals, ws, os, B, K, S, R, hm, hT, hv, ho, hw, hK => by
    cases vs with
    | nil => unfold backC; trivial
    | cons v vs =>
      obtain ⟨x, r, rfl, h1, h2⟩ := hv
      unfold backC
      exact backC_post ms R hm hT h2 ho hw hK
  | (g, .pair p q) :: ms, vs, vals, ws, os, B, K, S, R, hm, hT, hv, ho, hw, hK => by
    cases vs with
    | nil => unfold backC; trivial
    | cons v vs =>
      obtain ⟨x, r, rfl, h1, h2⟩ := hv
      unfold backC
      exact backC_post ms R hm hT h2 ho hw hK
  | (g, .unit) :: ms, vs, vals, ws, os, B, K, S, R, hm, hT, hv, ho, hw, hK => by
    cases vs with
    | nil => unfold backC; trivial
    | cons v vs =>
      obtain ⟨x, r, rfl, h1, h2⟩ := hv
      unfold backC
      exact backC_post ms R hm hT h2 ho hw hK
  | (g, .box md) :: ms, vs, vals, ws, os, B, K, S, R, hm, hT, hv, ho, hw, hK => by
    cases vs with
    | nil => unfold backC; trivial
    | cons v0 vs =>
    cases v0 <;> try (unfold backC; trivial)
    case ptr bx off =>
    cases ws with
    | nil => unfold backC; trivial
    | cons o0 ws =>
    cases o0 <;> try (unfold backC; trivial)
    case agg cs =>
      unfold backC
      refine get_post ?_
      split <;> try trivial
      rename_i hS
      refine set_post ?_
      obtain ⟨x, r, rfl, h1, h2⟩ := hv
      obtain ⟨y, r', rfl, h3, h4⟩ := hw
      obtain ⟨b, arr, T, os', B', e1, hh, e2, rfl, ho'⟩ := ho
      simp only [List.cons.injEq] at e2
      obtain ⟨rfl, rfl⟩ := e2
      obtain ⟨blk, hmb, e3⟩ := h1
      subst e1
      simp only [Value.pointer.injEq, Option.some.injEq, Addr.mk.injEq, and_true] at e3
      obtain ⟨rfl, rfl⟩ := e3
      obtain ⟨arr', e4, hl⟩ := h3
      simp only [Value.agg.injEq] at e4
      subst e4
      obtain ⟨R', T'⟩ := R.back hS (hm _ _ hmb) hT hh hl
      exact backC_post ms R' hm T' h2 ho' h4 hK

theorem run_callFunc {P : Program} {w : World} {f : FuncId} {fn : Func} (hf : P.funcs[f]? = some fn) (hb : fn.body.isSome = true) (hn : (fn.name == "runtime.NumGoroutine") = false) (args : Array Value) :
    (callFunc f args).run P w = .ok (.enter f args) w := by
  have hb' : ¬ fn.body = none := by intro e; rw [e] at hb; cases hb
  have hn' : ¬ fn.name = "runtime.NumGoroutine" := by intro e; rw [e] at hn; simp at hn
  simp [callFunc, hf, hn', hb']

/-- behind the call -/
theorem call_tail (H : FxOk X) {q : Nat} (R : Rel X (CB * q) (CB * q + CB) S m ok a w) {h0 : Array Obj} {ok0 : Nat → Prop} {s : FSpec} {vs : List V} {vals : List Value} {r : tupDen (s.rs ++ s.outs)} {rs os : List Value} {O' B : List Nat} {v : Value}
    (hT : Tk X S m ok w (O' ++ B)) (hv : relVs ⟨h0, ok0, m⟩ vs vals) (hret : RetV s.rs.length v rs) (ho : OutsOk w.heap s.ps vals os B) (hr : relTup w.heap ok (s.rs ++ s.outs) r (rs ++ os) O') {Q : Unit → Sm → Prop}
    (hK : ∀ S' m', Rel X (CB * q) (CB * q + CB) S' m' ok (a.put o.dst v) w → (∀ k l, m k = some l → m' k = some l) → Q () S') :
    (emTup (s.rs ++ s.outs) r (boxName q o.dst) fun ws n' => bif Nat.ble n' (boxName q o.dst + 64) then (match splitC s.rs.length ws with
        | some (a, o') => bif anyTup a then .fail else backC s.ps vs o' (dstC X.E o.dst (resV a))
        | none => .fail) else .fail).post S Q := by
  have hcl : CB * q ≤ boxName q o.dst := by
    cases o.dst with
    | none => exact Nat.le_add_right _ _
    | some t => exact Nat.le_add_right _ _
  refine emTup_post (T := B) _ R hcl hT hr fun S1 m1 ws n1 ch1 R1 c1 T1 k1 s1 l1 e1 => bif_post fun hle => ?_
  have hle' := Nat.le_of_ble_eq_true hle
  split <;> try trivial
  rename_i p p' hsp
  obtain ⟨rfl, hpl⟩ := splitC_eq _ _ _ _ hsp
  obtain ⟨l2, l3⟩ := relVs_split (by rw [hpl, hret.1]) l1
  cases ht : anyTup p
  · simp only [cond_false]
    refine backC_post s.ps R1 k1 T1 hv ho l3 fun S2 R2 => ?_
    have hres := resV_rel ht l2 hret
    cases hd : o.dst with
    | none =>
      have hin := boxName_in H (q := q) none (fun t h => by cases h)
      rw [hd] at hle' hK
      exact hK S2 m1 (R2.chmono (by generalize CB * q = Z at *; generalize boxName q none = N at *; omega)) k1
    | some t =>
      unfold dstC
      refine bif_post fun hb => ?_
      have hin := boxName_in H (q := q) (some t) (fun t' h => by cases h; exact blt_lt hb)
      rw [hd] at hle' hK
      have R3 : Rel X (CB * q) (CB * q + CB) S2 m1 ok a w := R2.chmono (by generalize CB * q = Z at *; generalize boxName q (some t) = N at *; omega)
      exact hK _ m1 (R3.put H.ntB (blt_lt hb) hres) k1
  · trivial

theorem op_call (H : FxOk X) {q : Nat} (R : Rel X (CB * q) (CB * q + CB) S m ok a w) {c : Call} {f : FuncId} (ho : o.op = .call c) (hc : c.callee = .value (.func f)) : (opCmd X.E q o).post S (fun _ S' => OpOk X (CB * q) (CB * q + CB) o a w m ok S') := by
  obtain ⟨cal, args, ats⟩ := c
  simp only at hc; subst hc
  unfold opCmd
  simp only [ho]
  refine opnds_post R _ fun vs hvs => ?_
  unfold callC
  split
  · trivial
  rename_i s hs
  have hF := H.fs f s hs
  obtain ⟨fn, hf, hb, hnm⟩ := H.fn f s hs
  have hrun : (execOp a.eval o).run X.P w = .ok (.enter f (args.toList.map a.eval).toArray) w := by
    have := run_callFunc (P := X.P) (w := w) hf hb hnm (args.map a.eval)
    have e : args.map a.eval = (args.toList.map a.eval).toArray := by apply Array.ext'; simp
    rw [e] at this
    simp [execOp, ho, resolve, Deferred.ofValue, Act.eval, invoke, e, this]
  -- what is left, once the call's end is known
  have key : ∀ {S1 : Sm} {okc : Nat → Prop} {O : List Nat} {x : tupDen s.ps} {r : tupDen (s.rs ++ s.outs)} {ok1 : Nat → Prop}, Rel X (CB * q) (CB * q + CB) S1 m ok1 a w → (∀ b, ok b → ok1 b) → Tk X S1 m ok1 w O → (∀ b, ok1 b → okc b) → (∀ b, okc b → b < w.heap.size) → (∀ b ∈ O, ¬ okc b) →
      relTup w.heap okc s.ps x (args.toList.map a.eval) O → s.fn x = some r →
      (∀ ok' : Nat → Prop, ∀ w' : World, (∀ b, okc b → ok' b) → (∀ b, ok' b → b < w'.heap.size ∧ (okc b ∨ w.heap.size ≤ b ∨ b ∈ O)) → Frame' w w' O → ∃ okf : Nat → Prop, (∀ b, ok1 b → okf b) ∧ Rel X (CB * q) (CB * q + CB) S1 m okf a w' ∧ (∀ b, ¬ ok' b → w.heap.size ≤ b ∨ b ∈ O → b < w'.heap.size → ¬ okf b ∧ (X.w0.heap.size ≤ b ∨ b ∈ X.O) ∧ ∀ n, ownB m n (S1 (BOX + n)) ≠ some b) ∧
        (∀ vs' O', relTup w'.heap ok' (s.rs ++ s.outs) r vs' O' → relTup w'.heap okf (s.rs ++ s.outs) r vs' O')) →
      (emTup (s.rs ++ s.outs) r (boxName q o.dst) fun ws n' => bif Nat.ble n' (boxName q o.dst + 64) then (match splitC s.rs.length ws with
        | some (a, o') => bif anyTup a then .fail else backC s.ps vs o' (dstC X.E o.dst (resV a))
        | none => .fail) else .fail).post S1 (fun _ S' => OpOk X (CB * q) (CB * q + CB) o a w m ok S') := by
    intro S1 okc O x r ok1 R1 k1 T1 hokc hlt hfree hrel hfn hafter
    have hC := hF w okc O _ x r hlt T1.nodup (fun b hb => ⟨hfree b hb, (T1.free b hb).2.1⟩) (fun g u hg => by
      obtain ⟨g1, g3, g2⟩ := R1.gl g u hg
      refine ⟨hokc _ g1, g3, fun i y hi => ?_⟩
      obtain ⟨es, he, hr⟩ := g2 i y hi
      exact ⟨es, he, rep_mono hokc (fun _ _ => rfl) hr⟩) hrel hfn
    revert hC
    generalize hPost : (fun (e : Ending) (w' : World) => ∃ v ok' O' rs os B, e = .returned v ∧ Frame' w w' O ∧ (∀ b, okc b → ok' b) ∧ (∀ b, ok' b → b < w'.heap.size ∧ (okc b ∨ w.heap.size ≤ b ∨ b ∈ O)) ∧
      (O' ++ B).Nodup ∧ (∀ b ∈ O' ++ B, ¬ ok' b ∧ b < w'.heap.size ∧ (w.heap.size ≤ b ∨ b ∈ O)) ∧
      RetV s.rs.length v rs ∧ OutsOk w'.heap s.ps (args.toList.map a.eval) os B ∧ relTup w'.heap ok' (s.rs ++ s.outs) r (rs ++ os) O') = Post
    intro hC
    have hall : ∀ p : { p : Ending × World // Post p.1 p.2 }, (emTup (s.rs ++ s.outs) r (boxName q o.dst) fun ws n' => bif Nat.ble n' (boxName q o.dst + 64) then (match splitC s.rs.length ws with
        | some (a, o') => bif anyTup a then .fail else backC s.ps vs o' (dstC X.E o.dst (resV a))
        | none => .fail) else .fail).post S1 (fun _ S' => ∃ v m' okf, p.1.1 = .returned v ∧ Rel X (CB * q) (CB * q + CB) S' m' okf (a.put o.dst v) p.1.2 ∧ (∀ k l, m k = some l → m' k = some l) ∧ (∀ b, ok b → okf b)) := by
      rintro ⟨⟨e, w'⟩, hp⟩
      rw [← hPost] at hp
      obtain ⟨v, ok', O', rs, os, B, rfl, fr, k2, hok', hnd, hfr, hret, houts, hrel'⟩ := hp
      obtain ⟨okf, k3, R2, hf2, hrel2⟩ := hafter ok' w' k2 hok' fr
      refine call_tail H R2 (h0 := w.heap) (ok0 := ok) (vals := args.toList.map a.eval) (rs := rs) (os := os) (O' := O') (B := B) (v := v) ⟨hnd, fun b hb => ?_⟩ hvs hret houts (hrel2 _ _ hrel') fun S' m' R' km => ⟨v, m', okf, rfl, R', km, fun b hb => k3 b (k1 b hb)⟩
      obtain ⟨g1, g2, g3⟩ := hfr b hb
      obtain ⟨f1, f2, f3⟩ := hf2 b g1 g3 g2
      exact ⟨f1, g2, f2, f3⟩
    refine post_mono ?_ (post_all hall)
    intro _ S' hS' next Q hn
    unfold Oper.wp
    rw [hrun, Oper.upon_enter]
    refine Calls.mono hC fun e w' hp => ?_
    obtain ⟨v, m', okf, he, R', km, kok⟩ := hS' ⟨(e, w'), hp⟩
    simp only at he; subst he
    exact hn m' okf _ w' R' km kok
  cases hcl : (s.rs.all (fun m => closedM m.2) && s.outs.isEmpty)
  · refine exAll_false (T := []) s.ps R Tk.nil hvs fun S1 ok1 x O R1 T1 k1 s1 hrel => opt_post fun r hr => ?_
    simp only [List.nil_append] at T1
    refine key R1 k1 T1 (fun _ h => h) R1.okLt (fun b hb => (T1.free b hb).1) hrel hr fun ok' w' k2 hok' fr => ?_
    have hown : ∀ b, (w.heap.size ≤ b ∨ b ∈ O) → (X.w0.heap.size ≤ b ∨ b ∈ X.O) ∧ ∀ n, ownB m n (S1 (BOX + n)) ≠ some b := fun b hb => by
      rcases hb with hb | hb
      · have := R1.frame.size
        exact ⟨.inl (by omega), fun n e => by have := (R1.sep n b e).2.1; omega⟩
      · exact (T1.free b hb).2.2
    refine ⟨ok', k2, R1.world fr.os fr.tape fr.output fr.size (fun b hb h => fr.block b hb fun hO => ?_) k2 (fun b hb => ⟨(hok' b hb).1, ?_⟩), fun b h1 h2 h3 => ⟨h1, hown b h2⟩, fun _ _ h => h⟩
    · obtain ⟨f1, f2, f3, f4⟩ := T1.free b hO
      rcases h with h | ⟨n, h⟩ | h
      · exact f1 h
      · exact f4 n h
      · exact h f3
    · rcases (hok' b hb).2 with h | h
      · exact .inl h
      · exact .inr (hown b h)
  · simp only [Bool.and_eq_true] at hcl
    refine exAll_true (T := []) s.ps R Tk.nil hvs fun S1 x O R1 T1 s1 hrel => opt_post fun r hr => ?_
    simp only [List.nil_append] at T1
    have hlt : ∀ b, okAll S1 m ok b → b < w.heap.size := fun b hb => by
      rcases hb with hb | ⟨n, hb⟩
      · exact R1.okLt b hb
      · exact (R1.sep n b hb).2.1
    refine key R1 (fun _ h => h) T1 (fun _ h => .inl h) hlt (fun b hb h => ?_) hrel hr fun ok' w' k2 hok' fr => ?_
    · obtain ⟨f1, f2, f3, f4⟩ := T1.free b hb
      rcases h with h | ⟨n, h⟩
      · exact f1 h
      · exact f4 n h
    · refine ⟨ok, fun _ h => h, R1.world fr.os fr.tape fr.output fr.size (fun b hb h => fr.block b hb fun hO => ?_) (fun _ h => h) (fun b hb => ⟨by have := R1.okLt b hb; have := fr.size; omega, .inl hb⟩), fun b h1 h2 h3 => ⟨fun h => h1 (k2 b (.inl h)), ?_, fun n e => h1 (k2 b (.inr ⟨n, e⟩))⟩, fun vs' O' hr' => ?_⟩
      · obtain ⟨f1, f2, f3, f4⟩ := T1.free b hO
        rcases h with h | ⟨n, h⟩ | h
        · exact f1 h
        · exact f4 n h
        · exact h f3
      · rcases h2 with h2 | h2
        · have := R1.frame.size
          exact .inl (by omega)
        · exact (T1.free b h2).2.2.1
      · refine relTup_closed (fun k hk => ?_) hr'
        have hout : s.outs = [] := by simpa using hcl.2
        rw [hout, List.append_nil] at hk
        exact List.all_eq_true.1 hcl.1 k hk
end
end Go.GP
