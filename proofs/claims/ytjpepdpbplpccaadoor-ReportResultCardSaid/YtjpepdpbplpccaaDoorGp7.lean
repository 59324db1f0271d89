import Derived.Test.YtjpepdpbplpccaaDoorGp6
/- OPERATIONS THAT ONLY COMPUTE, MORE. -/
namespace Go.GP
set_option linter.unusedVariables false
set_option linter.unusedSimpArgs false
section
variable {X : Fx} {cl ch : Nat} {S : Sm} {m : Nat → Option Loc} {ok : Nat → Prop} {a : Act} {w : World} {o : Oper}

theorem tiC_post {α : Type} {Q : α → Sm → Prop} (H : FxOk X) {t : Nat} {K : TI → Cmd α} (hK : ∀ i, TiOk X.P t i → (K i).post S Q) : (tiC X.E t K).post S Q := by
  unfold tiC
  cases hi : assoc X.E.tt t with
  | none => trivial
  | some i => exact hK i (H.tt t i hi)
theorem tdOk_some {P : Program} {t : TypeId} : ∀ {d : TD}, tdOk P t d → ∃ e, P.underlying t = some e
  | .bool, h => ⟨_, h⟩
  | .int _, h => ⟨_, h⟩
  | .str, h => ⟨_, h⟩
  | .sl _, h => ⟨_, h⟩
  | .ptr _, h => ⟨_, h⟩
  | .struct _, ⟨_, h, _⟩ => ⟨_, h⟩
  | .arr _ _, h => ⟨_, h⟩
  | .other, ⟨_, h, _⟩ => ⟨_, h⟩

theorem op_binOp (H : FxOk X) (R : Rel X cl ch S m ok a w) {op : BinOp} {t : TypeId} {x y : Operand} {yt : TypeId} {q : Nat} (ho : o.op = .binOp op t x y yt) :
    (opCmd X.E q o).post S (fun _ S' => OpOk X cl ch o a w m ok S') := by
  unfold opCmd
  simp only [ho]
  refine opnd_post R fun u hu => opnd_post R fun v hv => ?_
  cases u <;> try (unfold binC; trivial)
  case b p =>
    cases v <;> try (unfold binC; trivial)
    exact op_binBool H R ho (relV_b hu) (relV_b hv)
  case i k p =>
    cases v <;> try (unfold binC; trivial)
    exact op_binInt H R ho (relV_i hu) (relV_i hv)
  case s p =>
    cases v <;> try (unfold binC; trivial)
    exact op_binStr H R ho (relV_s hu) (relV_s hv)
  case agg cs =>
    cases v <;> try (unfold binC; trivial)
    case agg ds =>
    obtain ⟨xs, hx, hl⟩ := hu
    obtain ⟨ys, hy, hl'⟩ := hv
    unfold binC
    simp only []
    refine bif_post fun hm => ?_
    have hE := H.eqs t hm
    cases he : eqCells cs ds with
    | none => cases op <;> trivial
    | some e =>
      cases op <;> try trivial
      case eql =>
        refine pure_ok H R (v := .b e) (x := .bool e) rfl ?_
        have h := hE w _ cs ds xs ys e .eql x y hl hl' he (.inl rfl)
        simp only [execOp, ho, hx, hy]
        rw [Sem.run_bind, h]; rfl
      case neq =>
        refine pure_ok H R (v := .b (bnot e)) (x := .bool (!e)) rfl ?_
        have h := hE w _ cs ds xs ys e .neq x y hl hl' he (.inr rfl)
        simp only [execOp, ho, hx, hy]
        rw [Sem.run_bind, h]; rfl

theorem op_unOp (H : FxOk X) (R : Rel X cl ch S m ok a w) {op : UnOp} {t : TypeId} {x : Operand} {q : Nat} (ho : o.op = .unOp op t x) :
    (opCmd X.E q o).post S (fun _ S' => OpOk X cl ch o a w m ok S') := by
  unfold opCmd
  simp only [ho]
  refine opnd_post R fun u hu => ?_
  cases u <;> cases op <;> try (unfold unC; trivial)
  case b.not p => exact pure_ok H R (v := .b (bnot p)) (x := .bool (!p)) rfl (by simp [execOp, ho, relV_b hu, Op.unary])
  case i.neg k p => exact pure_ok H R (v := .i k (isub k 0 p)) (x := .int k (k.wrap (0 - p))) rfl (by simp [execOp, ho, relV_i hu, Op.unary, Op.intArith])
  case i.xor k p => exact pure_ok H R (v := .i k (ixor k (bif k.signed then -1 else k.max) p)) rfl (by
      simp only [execOp, ho, relV_i hu, Op.unary, Op.intBits, ixor]
      cases k.signed <;> simp)

theorem op_convert (H : FxOk X) (R : Rel X cl ch S m ok a w) {src t : TypeId} {x : Operand} {q : Nat} (ho : o.op = .convert src t x) :
    (opCmd X.E q o).post S (fun _ S' => OpOk X cl ch o a w m ok S') := by
  unfold opCmd
  simp only [ho]
  refine opnd_post R fun u hu => tiC_post H fun j hj => tiC_post H fun i hi => ?_
  obtain ⟨e, he⟩ := tdOk_some hj.td
  have hd := hi.td
  split <;> try trivial
  · rename_i k' n k htd
    rw [htd] at hd
    exact pure_ok H R (v := .i k (wrap k n)) (x := .int k (k.wrap n)) rfl (by simp [execOp, ho, relV_i hu, convert, run_underlying he, run_underlying (show X.P.underlying t = some (.int k) from hd), Conv.intToInt])
  · rename_i l htd
    rw [htd] at hd
    refine pure_ok H R (v := .s l) (x := .string ⟨l.toArray⟩) rfl ?_
    simp only [execOp, ho, relV_s hu, convert, Sem.run_bind, run_underlying he, run_underlying (show X.P.underlying t = some .string from hd), Result.andThen_ok]
    cases e <;> simp
  · rename_i hns htd
    rw [htd] at hd
    split <;> try trivial
    rename_i el hjd
    have hjs := hj.td
    rw [hjd] at hjs
    refine tiC_post H fun k hk => ?_
    have hkd := hk.td
    split <;> try trivial
    rename_i hke
    rw [hke] at hkd
    refine cellsG_post hu fun cs us hg hL => toData_true R (.sl (.int .u8)) hL fun xs r us1 us2 he1 hr hL2 => ?_
    split <;> try trivial
    simp only [relL] at hL2
    subst hL2
    have hus : us = [a.eval x] := hg
    rw [hus, List.append_nil] at he1
    subst he1
    obtain ⟨ad, cap, hv, hcap, hcells⟩ := hr
    have hv := (List.cons.inj hv).1
    refine pure_ok H R (v := .s (bstr xs)) (x := .string ⟨(bstr xs).toArray⟩) rfl ?_
    have hh : (convert src t (a.eval x)).run X.P w = .ok (.string ⟨(bstr xs).toArray⟩) w := by
      rw [hv]
      cases xs with
      | nil =>
        have := run_convert_bytes_nil (P := X.P) w src el hjs hkd 0 cap t hd
        cases ad with
        | none => exact this
        | some ad =>
          obtain ⟨b, o, s⟩ := ad
          rw [run_convert_bytes_string w src t el _ _ cap hjs hkd hd]
          simp [Conv.bytesToString, bstr]
          rfl
      | cons y ys =>
        obtain ⟨blk, off, es, rfl, _, _, _⟩ := hcells 0 y rfl
        have := run_convert_bytes_arg (P := X.P) w src el hjs hkd blk off (y :: ys).length cap (y :: ys) rfl (fun i hi => ?_) t hd
        · exact this
        · obtain ⟨blk2, off2, es2, e2, _, hc, hr2⟩ := hcells i _ (List.getElem?_eq_getElem hi)
          simp only [Option.some.injEq, Addr.mk.injEq] at e2
          obtain ⟨rfl, rfl, _⟩ := e2
          obtain ⟨c, T, f, hb, hn, rfl⟩ := cellsAt_of hc
          have hr3 : ((c.toList.drop (off + i * 1)).take 1) = [.int .u8 (y :: ys)[i]] := hr2
          have h5 := congrArg (fun l => l[0]?) hr3
          simp only [List.getElem?_take_of_lt (show 0 < 1 by omega), List.getElem?_drop, Nat.add_zero, Nat.mul_one, List.getElem?_cons_zero, Array.getElem?_toList] at h5
          simp only [World.cell?, hb, h5, Option.isSome_none]
          simp [List.getD, List.getElem?_eq_getElem hi]
    simp only [execOp, ho]
    rw [Sem.run_bind, hh]
    rfl

theorem op_extract (H : FxOk X) (R : Rel X cl ch S m ok a w) {x : Operand} {n : Nat} {q : Nat} (ho : o.op = .extract x n) :
    (opCmd X.E q o).post S (fun _ S' => OpOk X cl ch o a w m ok S') := by
  unfold opCmd
  simp only [ho]
  refine opnd_post R fun u hu => ?_
  cases u <;> try trivial
  case tup vs =>
  obtain ⟨arr, hx, hl⟩ := hu
  have key : ∀ (vs : List V) (us : List Value) (n : Nat) (v : V), relT ⟨w.heap, ok, m⟩ vs us → vs[n]? = some v → ∃ u, us[n]? = some u ∧ relV ⟨w.heap, ok, m⟩ v u := by
    intro vs
    induction vs with
    | nil => intro us n v _ h; simp at h
    | cons c cs ih =>
      rintro us n v ⟨u, r, rfl, h1, h2⟩ h
      cases n with
      | zero =>
        simp at h; subst h
        refine ⟨u, rfl, ?_⟩
        cases c <;> first | exact h1 | exact h1.elim
      | succ n => simpa using ih r n v h2 (by simpa using h)
  simp only []
  split
  · rename_i v hv
    obtain ⟨u, hu, hr⟩ := key vs arr.toList n v hl hv
    refine pure_ok H R hr ?_
    have : arr[n]? = some u := by simpa using hu
    simp [execOp, ho, hx, Instr.extract, this]
  · trivial

theorem op_index (H : FxOk X) (R : Rel X cl ch S m ok a w) {t : TypeId} {x ix : Operand} {q : Nat} (ho : o.op = .index t x ix) :
    (opCmd X.E q o).post S (fun _ S' => OpOk X cl ch o a w m ok S') := by
  unfold opCmd
  simp only [ho]
  refine opnd_post R fun u hu => opnd_post R fun v hv => tiC_post H fun i hi => ?_
  have hd := hi.td
  split <;> try trivial
  rename_i l k n htd
  rw [htd] at hd
  refine opt_post fun c hc => ?_
  unfold sat at hc
  split at hc
  · rename_i h0
    cases hl : l[n.toNat]? with
    | none => simp [hl] at hc
    | some b =>
      simp [hl] at hc; subst hc
      refine pure_ok H R (v := .i .u8 b.toNat) (x := .int .u8 b.toNat) rfl ?_
      have e : (⟨l.toArray⟩ : ByteArray)[n.toNat]? = some b := by
        obtain ⟨h1, h2⟩ := List.getElem?_eq_some_iff.1 hl
        have hs : n.toNat < (⟨l.toArray⟩ : ByteArray).size := by simpa [ByteArray.size] using h1
        show decidableGetElem? _ _ = _
        unfold decidableGetElem?
        rw [dif_pos hs, ← h2]; rfl
      simp [execOp, ho, relV_s hu, relV_i hv, Instr.index, asIntOf, run_underlying (show X.P.underlying t = some .string from hd), h0, e]
  · cases hc

theorem op_nilCheck (H : FxOk X) (R : Rel X cl ch S m ok a w) {x : Operand} {q : Nat} (ho : o.op = .nilCheck x) :
    (opCmd X.E q o).post S (fun _ S' => OpOk X cl ch o a w m ok S') := by
  unfold opCmd
  simp only [ho]
  refine opnd_post R fun u hu => ?_
  cases u <;> try trivial
  case ptr bx f =>
    obtain ⟨b, h1, h2⟩ := hu
    exact pure_ok H R (v := .ptr bx f) ⟨b, h1, h2⟩ (by simp [execOp, ho, h2])
  case ep bx ix f =>
    obtain ⟨_, _, _, _, _, h1, h2, h3⟩ := hu
    exact pure_ok H R (v := .ep bx ix f) ⟨_, _, _, _, _, h1, h2, h3⟩ (by simp [execOp, ho, h3])
  case dp u y f =>
    obtain ⟨_, _, _, h1, h2⟩ := hu
    exact pure_ok H R (v := .dp u y f) ⟨_, _, _, h1, h2⟩ (by simp [execOp, ho, h1])
  case glob g => exact pure_ok H R (v := .glob g) hu (by have hu : a.eval x = _ := hu; simp [execOp, ho, hu])
end
end Go.GP
