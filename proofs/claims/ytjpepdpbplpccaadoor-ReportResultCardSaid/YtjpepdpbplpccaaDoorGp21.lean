import Derived.Test.YtjpepdpbplpccaaDoorGp20
/- A FUNCTION'S PURE READING IS WHAT ITS CALL RETURNS. -/
namespace Go.GP
set_option linter.unusedVariables false
set_option linter.unusedSimpArgs false

structure EnvOk (P : Program) (E : Env) : Prop where
  nt : 64 * E.nt ≤ 999936
  tt : ∀ t i, assoc E.tt t = some i → TiOk P t i
  fs : ∀ f s, assoc E.fs f = some s → FSound P E.gl f s
  eqs : ∀ t, memN t E.eqs = true → EqSound P t
  fn : ∀ f s, assoc E.fs f = some s → ∃ fn, P.funcs[f]? = some fn ∧ fn.body.isSome = true ∧ (fn.name == "runtime.NumGoroutine") = false

theorem relVs_append {C : Cx} : ∀ {a : List V} {xs : List Value} {b : List V} {ys : List Value}, relVs C a xs → relVs C b ys → relVs C (a ++ b) (xs ++ ys)
  | [], _, _, _, h, k => by simp only [relVs] at h; subst h; exact k
  | c :: a, _, _, _, ⟨v, r, e, h1, h2⟩, k => by subst e; exact ⟨v, r ++ _, rfl, h1, relVs_append h2 k⟩
theorem relVs_length {C : Cx} : ∀ {a : List V} {xs : List Value}, relVs C a xs → a.length = xs.length
  | [], _, h => by simp only [relVs] at h; simp [h]
  | c :: a, _, ⟨v, r, e, h1, h2⟩ => by subst e; simp [relVs_length h2]

def resOne (tmps : Array Value) : ResultVar → Sem Value
  | .tmp t => pure (tmps.getD t undef)
  | .cell a t => do loadVar t (← asAddr (tmps.getD a undef))

def OutN (h : Array Obj) (m : Nat → Option Loc) : List Nat → List Value → List Nat → Prop
  | [], os, B => os = [] ∧ B = []
  | bx :: ns, os, B => ∃ b arr T os' B', m bx = some (.st b) ∧ h[b]? = some (.cells arr T (0, 0)) ∧ os = .agg arr :: os' ∧ B = b :: B' ∧ OutN h m ns os' B'

section
variable {X : Fx} {cl ch : Nat} {m : Nat → Option Loc} {a : Act} {w : World}

theorem resAll_post {α : Type} {Q : α → Sm → Prop} (H : FxOk X) {S : Sm} {ok : Nat → Prop} (R : Rel X cl ch S m ok a w) : ∀ (l : List ResultVar) {K : List V → Cmd α}
    (hK : ∀ vs rvs, relVs ⟨w.heap, ok, m⟩ vs rvs → rvs.length = l.length → (l.mapM (resOne a.tmps)).run X.P w = .ok rvs w → (K vs).post S Q), (resAll X.E l K).post S Q
  | [], K, hK => hK [] [] rfl rfl (by simp)
  | .tmp t :: l, K, hK => by
    unfold resAll
    refine bif_post fun hb => get_post ?_
    refine resAll_post H R l fun vs rvs hr hl hrun => ?_
    refine hK _ (a.tmps.getD t undef :: rvs) ⟨_, _, rfl, R.slot t (blt_lt hb), hr⟩ (by simp [hl]) ?_
    simp only [List.mapM_cons, Sem.run_bind, resOne, Sem.run_pure, Result.andThen_ok, hrun]
  | .cell p t :: l, K, hK => by
    unfold resAll
    refine bif_post fun hb => get_post ?_
    refine loadC_post H R (R.slot p (blt_lt hb)) fun v u ad hv hx hload => ?_
    refine resAll_post H R l fun vs rvs hr hl hrun => ?_
    refine hK _ (u :: rvs) ⟨_, _, rfl, hv, hr⟩ (by simp [hl]) ?_
    simp only [List.mapM_cons, Sem.run_bind, resOne, hx, asAddr, Sem.run_pure, Result.andThen_ok, hload, hrun]

theorem outAll_post {α : Type} {Q : α → Sm → Prop} : ∀ (ns : List Nat) {S : Sm} {ok : Nat → Prop} {T : List Nat} {K : List V → Cmd α} (R : Rel X cl ch S m ok a w) (hT : Tk X S m ok w T)
    (hK : ∀ S' ws os B, Rel X cl ch S' m ok a w → Tk X S' m ok w (T ++ B) → OutN w.heap m ns os B → relVs ⟨w.heap, ok, m⟩ ws os → (K ws).post S' Q), (outAll ns K).post S Q
  | [], S, ok, T, K, R, hT, hK => hK S [] [] [] R (by simpa using hT) ⟨rfl, rfl⟩ rfl
  | bx :: ns, S, ok, T, K, R, hT, hK => by
    unfold outAll
    refine get_post ?_
    split <;> try trivial
    rename_i cs hS
    obtain ⟨blk, arr, Ty, hm, hh, hl⟩ := R.own_cells hS
    refine set_post ?_
    have hT1 : Tk X (upd S (BOX + bx) .dead) m ok w (T ++ [blk]) := hT.kill R bx (fun b hb => by simp at hb; subst hb; simp [ownB, hS, hm]) (by simp)
    refine outAll_post ns (R.kill bx) hT1 fun S' ws os B R' T' ho hw => ?_
    exact hK S' _ (.agg arr :: os) (blk :: B) R' (by simpa using T') ⟨blk, arr, Ty, os, B, hm, hh, rfl, rfl, ho⟩ ⟨_, _, rfl, ⟨arr, rfl, hl⟩, hw⟩
end

theorem outsOk_of {h h0 : Array Obj} {ok0 : Nat → Prop} {mE m : Nat → Option Loc} (km : ∀ k l, mE k = some l → m k = some l) : ∀ (ms : List MG) {vs : List V} {vals : List Value} {ns : List Nat} {os : List Value} {B : List Nat},
    ptrsAre ms vs ns = true → relVs ⟨h0, ok0, mE⟩ vs vals → OutN h m ns os B → OutsOk h ms vals os B
  | [], vs, vals, ns, os, B, hp, hv, ho => by
    cases vs with
    | cons _ _ => simp [ptrsAre] at hp
    | nil =>
      cases ns with
      | cons _ _ => simp [ptrsAre] at hp
      | nil => simp only [relVs] at hv; subst hv; exact ho
  | (g, .dat t) :: ms, vs, vals, ns, os, B, hp, hv, ho => by
    cases vs with
    | nil => simp [ptrsAre] at hp
    | cons v vs => obtain ⟨x, r, rfl, h1, h2⟩ := hv; unfold ptrsAre at hp; exact outsOk_of km ms (vals := r) hp h2 ho
  | (g, .own t) :: ms, vs, vals, ns, os, B, hp, hv, ho => by
    cases vs with
    | nil => simp [ptrsAre] at hp
    | cons v vs => obtain ⟨x, r, rfl, h1, h2⟩ := hv; unfold ptrsAre at hp; exact outsOk_of km ms (vals := r) hp h2 ho
  | (g, .pair p q) :: ms, vs, vals, ns, os, B, hp, hv, ho => by
    cases vs with
    | nil => simp [ptrsAre] at hp
    | cons v vs => obtain ⟨x, r, rfl, h1, h2⟩ := hv; unfold ptrsAre at hp; exact outsOk_of km ms (vals := r) hp h2 ho
  | (g, .unit) :: ms, vs, vals, ns, os, B, hp, hv, ho => by
    cases vs with
    | nil => simp [ptrsAre] at hp
    | cons v vs => obtain ⟨x, r, rfl, h1, h2⟩ := hv; unfold ptrsAre at hp; exact outsOk_of km ms (vals := r) hp h2 ho
  | (g, .box md) :: ms, vs, vals, ns, os, B, hp, hv, ho => by
    cases vs with
    | nil => simp [ptrsAre] at hp
    | cons v vs =>
    cases v <;> try (simp [ptrsAre] at hp; done)
    case ptr bx off =>
    cases off with
    | succ _ => simp [ptrsAre] at hp
    | zero =>
    cases ns with
    | nil => simp [ptrsAre] at hp
    | cons n ns =>
      unfold ptrsAre at hp
      simp only [Bool.and_eq_true] at hp
      have hn := Nat.eq_of_beq_eq_true hp.1
      subst hn
      obtain ⟨x, r, rfl, ⟨blk, hm, hx⟩, h2⟩ := hv
      obtain ⟨b, arr, T, os', B', hmb, hh, e1, e2, ho'⟩ := ho
      have := km _ _ hm
      rw [this] at hmb
      simp only [Option.some.injEq, Loc.st.injEq] at hmb
      subst hmb
      exact ⟨blk, arr, T, os', B', hx, hh, e1, e2, outsOk_of km ms hp.2 h2 ho'⟩

theorem run_results {P : Program} {w : World} {fn : Func} {tmps : Array Value} {rvs : List Value} (h : (fn.results.toList.mapM (resOne tmps)).run P w = .ok rvs w) :
    ∃ v, (results fn tmps).run P w = .ok v w ∧ RetV rvs.length v rvs := by
  have hm : (fn.results.mapM (resOne tmps)).run P w = .ok rvs.toArray w := by
    rw [Array.mapM_eq_mapM_toList]
    simp [h]
  have e : results fn tmps = (do let vs ← fn.results.mapM (resOne tmps); pure (if h : vs.size = 1 then vs[0] else .tuple vs) : Sem Value) := by
    unfold results
    congr 1
  rw [e, Sem.run_bind, hm]
  clear h hm e
  rcases rvs with _ | ⟨x, _ | ⟨y, r⟩⟩
  · exact ⟨.tuple #[], rfl, rfl, rfl⟩
  · exact ⟨x, rfl, rfl, rfl⟩
  · exact ⟨.tuple (x :: y :: r).toArray, by simp, rfl, rfl⟩

theorem denF_sound {P : Program} {E : Env} {f : FuncId} {fn : Func} {c : Code} {ps : List MG} {rt : Ret} {an : Ann} {F : tupDen ps → Option rt.den} (hf : P.funcs[f]? = some fn) (hb : fn.body = some c) (hnt : fn.ntmps = E.nt)
    (hres : fn.results.toList = rt.rs.map (·.1)) (hE : EnvOk P E) (hF : ∀ x r, F x = some r → denF E ps rt c an x = some r) :
    FSound P E.gl f ⟨ps, rt.rs.map (·.2), rt.outs.map (·.2), F⟩ := by
  intro w ok O vals x r hlt hnd hO hgl hrel hfn
  have hden := hF x r hfn
  clear hfn hF
  let X : Fx := ⟨P, E, w, O, ok⟩
  have H : FxOk X := ⟨hE.nt, hE.tt, hE.fs, hE.eqs, hE.fn⟩
  refine calls_of_wp hf hb ?_
  simp only [List.size_toArray]
  rw [hnt]
  generalize hact : ({ tmps := vals.toArray ++ Array.replicate (E.nt - vals.length) undef, defers := [] } : Act) = act
  have hvl : vals.length = ps.length := relTup_length hrel
  unfold denF at hden
  cases hle0 : Nat.ble ps.length E.nt
  · simp [hle0] at hden
  simp only [hle0, cond_true] at hden
  have hle1 := Nat.le_of_ble_eq_true hle0
  obtain ⟨u, s, tr, he, hk⟩ := runK_eval hden
  have hsize : act.tmps.size = E.nt := by subst hact; simp; omega
  have hslots : ∀ n, n < vals.length → act.tmps.getD n undef = vals.getD n undef := fun n hn => by
    subst hact
    simp only [Array.getD_eq_getD_getElem?]
    rw [Array.getElem?_append_left (by simpa using hn)]
    simp [List.getD_eq_getElem?_getD]
  have R0 : Rel X 0 0 (look []) (fun _ => none) ok act w := {
    size := hsize, nodef := (by subst hact; rfl), slot := fun n _ => trivial, box := fun n => trivial, inj := fun n n' b h => (by simp [look, ownB] at h), sep := fun n b h => (by simp [look, ownB] at h),
    okLt := hlt, okIn := fun b h => h, okOut := fun b h => .inl h, frame := Frame'.refl w O, fresh := fun _ _ _ => rfl, strict := fun _ _ => rfl, gl := hgl }
  have T0 : Tk X (look []) (fun _ => none) ok w (O ++ []) := ⟨by simpa using hnd, fun b hb => by
    simp only [List.append_nil] at hb
    obtain ⟨h1, h2⟩ := hO b hb
    exact ⟨h1, h2, .inr hb, fun n e => by simp [look, ownB] at e⟩⟩
  have key := post_eval (emTup_post (T := []) ps (Q := fun _ S' => ∃ m' vs, Rel X 0 CB S' m' ok act w ∧ relVs ⟨w.heap, ok, m'⟩ vs vals ∧ ptrsAre ps vs (rt.outs.map (·.1)) = true) R0 (Nat.le_refl 0) T0 hrel
    (K := fun vs n => bif Nat.ble n CB && ptrsAre ps vs (rt.outs.map (·.1)) then setAll (List.range vs.length) vs else .fail) fun S1 m1 vs n1 ch1 R1 c1 T1 k1 s1 l1 e1 => bif_post fun hb => by
      simp only [Bool.and_eq_true] at hb
      have hn1 := Nat.le_of_ble_eq_true hb.1
      have hvs := relVs_length l1
      have hr : vals = (List.range vs.length).map fun n => act.tmps.getD n Go.undef := by
        apply List.ext_getElem
        · simp [hvs]
        · intro i h1 h2
          simp only [List.getElem_map, List.getElem_range]
          rw [hslots i h1, List.getD_eq_getElem?_getD, List.getElem?_eq_getElem h1]; rfl
      refine setAll_post _ (R1.chmono (ch' := CB) (by omega)) (by rw [← hr]; exact l1) fun S' R' => ⟨m1, vs, R', l1, hb.2⟩) he
  obtain ⟨mE, vs, RE, hvs, hptr⟩ := key
  have Rq : Rel X (CB * 1) (CB * 1) (look s) mE ok act w := (RE.climb (Nat.zero_le _)).chmono (by rw [Nat.mul_one]; exact Nat.le_refl _)
  -- the end
  let RetP : rt.den → Act → World → Prop := fun r a' w' => a'.defers = [] ∧ ∃ v, (results fn a'.tmps).run P w' = .ok v w' ∧
    ∃ v' ok' O' rs os B, (Ending.returned v) = .returned v' ∧ Frame' w w' O ∧ (∀ b, ok b → ok' b) ∧ (∀ b, ok' b → b < w'.heap.size ∧ (ok b ∨ w.heap.size ≤ b ∨ b ∈ O)) ∧
      (O' ++ B).Nodup ∧ (∀ b ∈ O' ++ B, ¬ ok' b ∧ b < w'.heap.size ∧ (w.heap.size ≤ b ∨ b ∈ O)) ∧
      RetV (rt.rs.map (·.2)).length v' rs ∧ OutsOk w'.heap ps vals os B ∧ relTup w'.heap ok' (rt.rs.map (·.2) ++ rt.outs.map (·.2)) r (rs ++ os) O'
  have hret : RetHyp X rt mE RetP := by
    intro s R K r h
    obtain ⟨x, s', tr, he, hk⟩ := runK_eval h
    refine ⟨x, hk, fun {cl ch m ok1 a1 w1} R1 km => ?_⟩
    refine post_eval (Q := fun x _ => RetP x a1 w1) ?_ he
    unfold retC
    refine resAll_post H R1 _ fun vs1 rvs hv1 hl1 hrun => outAll_post (T := []) _ R1 Tk.nil fun S2 ws os B R2 T2 hout hws => ?_
    refine exAll_false _ R2 T2 (relVs_append hv1 hws) fun S3 ok3 y O3 R3 T3 k3 s3 hy => ?_
    simp only [List.nil_append] at T3
    have hp : (B ++ O3).Perm (O3 ++ B) := List.perm_append_comm
    rw [← hres] at hrun
    obtain ⟨v, hv, hrv⟩ := run_results hrun
    refine ⟨R3.nodef, v, hv, v, ok3, O3, rvs, os, B, rfl, R3.frame, R3.okIn, fun b hb => ⟨R3.okLt b hb, R3.okOut b hb⟩, hp.nodup_iff.1 T3.nodup, fun b hb => ?_, ?_, outsOk_of km ps hptr hvs hout, hy⟩
    · obtain ⟨f1, f2, f3, _⟩ := T3.free b (hp.mem_iff.2 hb)
      exact ⟨f1, f2, f3⟩
    · refine ⟨by rw [hl1]; simp, hrv.2⟩
  have hwp := (den_sound H hret c).run hk Rq (fun _ _ h => h)
  refine wp_mono hwp ?_
  rintro e a' w' ⟨fl, s', wr', hk2, hfl⟩
  cases fl with
  | ex id => cases hk2
  | rt y =>
    cases hk2
    obtain ⟨rfl, h1, v, h2, h3⟩ := hfl
    exact ⟨h1, v, h2, h3⟩
  | nm =>
    obtain ⟨rfl, m', ok', R', k1, _, _⟩ := hfl
    obtain ⟨y, hy, hp⟩ := hret (K := some) hk2
    cases hy
    obtain ⟨h1, v, h2, h3⟩ := hp R' k1
    exact ⟨h1, v, h2, h3⟩
end Go.GP
