import Derived.Test.YtjpepdpbplpccaaDoorPl6
/- PLAIN LAWS: what the guards of the laws ask and give. -/
namespace Gt
open Go Go.GP
set_option linter.unusedVariables false
set_option linter.unusedSimpArgs false

/-- a loop over the elements that asks each one; what a pass gives is kept -/
theorem loopO_each {α ρ ε : Type} (l : List α) (r : ρ) (e : ε) (f : Int → Option (Out Int ε ρ)) (P : α → Prop) (hl : l.length < 18446744073709551616)
    (hin : ∀ (i : Nat) (a : α), l[i]? = some a → (f (i : Int) = some (.nx ((i + 1 : Nat) : Int)) ∧ P a) ∨ f (i : Int) = some (.rt r)) (hend : f (l.length : Int) = some (.ex e)) :
    (loopO f 0 = some (.inl e) ∧ ∀ a ∈ l, P a) ∨ loopO f 0 = some (.inr r) := by
  rcases loopO_rule (f := f) (s := 0) (fun s => ∃ i : Nat, s = i ∧ i ≤ l.length ∧ ∀ j a, j < i → l[j]? = some a → P a) (fun x => x = e ∧ ∀ a ∈ l, P a) (fun x => x = r) (fun s => l.length - s.toNat) ⟨0, rfl, by omega, fun j a h => by omega⟩ (by simp; omega) (by
    rintro s ⟨i, rfl, hi, hp⟩
    by_cases h : i < l.length
    · have hg := List.getElem?_eq_getElem h
      rcases hin i _ hg with ⟨h1, h2⟩ | h1
      · refine .inl ⟨_, h1, ⟨i + 1, rfl, by omega, fun j a hj ha => ?_⟩, by simp; omega⟩
        by_cases hji : j = i
        · subst hji; rw [hg] at ha; cases ha; exact h2
        · exact hp j a (by omega) ha
      · exact .inr (.inr ⟨_, h1, rfl⟩)
    · have : i = l.length := by omega
      subst this
      refine .inr (.inl ⟨_, hend, rfl, fun a ha => ?_⟩)
      obtain ⟨j, hj, rfl⟩ := List.mem_iff_getElem.1 ha
      exact hp j _ hj (List.getElem?_eq_getElem hj)) with ⟨x, h1, h2, h3⟩ | ⟨x, h1, h2⟩
  · subst h2; exact .inl ⟨h1, h3⟩
  · subst h2; exact .inr h1
/-- the same, with a sum that is carried and bounded -/
theorem loopO_sum {α ρ ε : Type} (l : List α) (r : ρ) (e : ε) (f : Int × Int → Option (Out (Int × Int) ε ρ)) (P : α → Prop) (c : α → Nat) (B : Nat) (hl : l.length < 18446744073709551616)
    (hin : ∀ (k i : Nat) (a : α), k ≤ B → l[i]? = some a → (f ((k : Int), (i : Int)) = some (.nx (((k + c a : Nat) : Int), ((i + 1 : Nat) : Int))) ∧ P a ∧ k + c a ≤ B) ∨ f ((k : Int), (i : Int)) = some (.rt r))
    (hend : ∀ k : Nat, f ((k : Int), (l.length : Int)) = some (.ex e)) :
    (loopO f (0, 0) = some (.inl e) ∧ (∀ a ∈ l, P a) ∧ (l.map c).sum ≤ B) ∨ loopO f (0, 0) = some (.inr r) := by
  rcases loopO_rule (f := f) (s := (0, 0)) (fun s => ∃ i : Nat, s = (((((l.take i).map c).sum : Nat) : Int), (i : Int)) ∧ i ≤ l.length ∧ ((l.take i).map c).sum ≤ B ∧ ∀ j a, j < i → l[j]? = some a → P a) (fun x => x = e ∧ (∀ a ∈ l, P a) ∧ (l.map c).sum ≤ B) (fun x => x = r) (fun s => l.length - s.2.toNat) ⟨0, rfl, by omega, by simp, fun j a h => by omega⟩ (by simp; omega) (by
    rintro s ⟨i, rfl, hi, hb, hp⟩
    by_cases h : i < l.length
    · have hg := List.getElem?_eq_getElem h
      have hs : ((l.take (i + 1)).map c).sum = ((l.take i).map c).sum + c l[i] := by
        rw [List.take_add_one, hg, Option.toList_some, List.map_append, List.sum_append]; simp
      rcases hin _ i _ hb hg with ⟨h1, h2, h3⟩ | h1
      · refine .inl ⟨_, h1, ⟨i + 1, by rw [hs], by omega, by omega, fun j a hj ha => ?_⟩, by simp; omega⟩
        by_cases hji : j = i
        · subst hji; rw [hg] at ha; cases ha; exact h2
        · exact hp j a (by omega) ha
      · exact .inr (.inr ⟨_, h1, rfl⟩)
    · have : i = l.length := by omega
      subst this
      refine .inr (.inl ⟨_, hend _, rfl, fun a ha => ?_, by rw [List.take_length] at hb; exact hb⟩)
      obtain ⟨j, hj, rfl⟩ := List.mem_iff_getElem.1 ha
      exact hp j _ hj (List.getElem?_eq_getElem hj)) with ⟨x, h1, h2, h3⟩ | ⟨x, h1, h2⟩
  · subst h2; exact .inl ⟨h1, h3⟩
  · subst h2; exact .inr h1

structure SmallRule (r : TRule) : Prop where
  name : r.1.length ≤ 80
  source : r.2.2.2.2.2.2.2.length ≤ 80
  guard : r.2.2.2.2.2.1.length ≤ 50
  value : r.2.2.2.2.2.2.1.length ≤ 50
structure SmallSc (s : TScope) : Prop where
  name : s.1.length ≤ 80
  inputs : s.2.2.1.length ≤ 14
  defs : s.2.2.2.1.length ≤ 14
  rules : s.2.2.2.2.length ≤ 60
  inp : ∀ f ∈ s.2.2.1, f.1.length ≤ 80
  dfs : ∀ f ∈ s.2.2.2.1, f.1.length ≤ 80
  rls : ∀ r ∈ s.2.2.2.2, SmallRule r
structure SmallL (l : TLaw) : Prop where
  enums : l.1.length ≤ 9
  tables : l.2.1.length ≤ 9
  scopes : l.2.2.length ≤ 5
  enm : ∀ e ∈ l.1, e.1.length ≤ 80 ∧ e.2.length ≤ 20 ∧ ∀ m ∈ e.2, m.length ≤ 80
  tab : ∀ t ∈ l.2.1, t.1.length ≤ 80
  rows : (l.2.1.map fun t => t.2.2.2.length).sum ≤ 150
  sco : ∀ s ∈ l.2.2, SmallSc s
  rls : (l.2.2.map fun s => s.2.2.2.2.length).sum ≤ 60

theorem smallScope_ok (s : TScope) : ∃ b, same_smallScope s = some b ∧ (b = true → SmallSc s) := by
  unfold same_smallScope
  by_cases h1 : s.1.length ≤ 80
  case neg => rw [bcond_t (ilt_t (by unfold llen; omega))]; exact ⟨false, rfl, fun h => by cases h⟩
  rw [bcond_f (ilt_f (by unfold llen; omega))]
  by_cases h2 : s.2.2.1.length ≤ 14
  case neg => rw [bcond_t (ilt_t (by unfold llen; omega))]; exact ⟨false, rfl, fun h => by cases h⟩
  rw [bcond_f (ilt_f (by unfold llen; omega))]
  by_cases h3 : s.2.2.2.1.length ≤ 14
  case neg => rw [bcond_t (ilt_t (by unfold llen; omega))]; exact ⟨false, rfl, fun h => by cases h⟩
  rw [bcond_f (ilt_f (by unfold llen; omega))]
  by_cases h4 : s.2.2.2.2.length ≤ 60
  case neg => rw [bcond_t (ilt_t (by unfold llen; omega))]; exact ⟨false, rfl, fun h => by cases h⟩
  rw [bcond_f (ilt_f (by unfold llen; omega)), osome, sumK_inl]
  have names : ∀ l : List TField, l.length ≤ 14 → (loopO (fun (x : Int) => bcond (ilt x (llen l)) (obind (lat l x) fun (x_1 : TField) => bcond (ilt 80 (llen x_1.1)) (some (Out.rt false)) (some (Out.nx (iadd IntKind.i64 x 1)))) (some (Out.ex PUnit.unit))) 0 = some (.inl PUnit.unit) ∧ ∀ f ∈ l, f.1.length ≤ 80)
      ∨ loopO (fun (x : Int) => bcond (ilt x (llen l)) (obind (lat l x) fun (x_1 : TField) => bcond (ilt 80 (llen x_1.1)) (some (Out.rt false)) (some (Out.nx (iadd IntKind.i64 x 1)))) (some (Out.ex PUnit.unit))) 0 = some (.inr false) := by
    intro l hl
    refine loopO_each l false PUnit.unit _ (fun f => f.1.length ≤ 80) (by omega) (fun i a ha => ?_) ?_
    · obtain ⟨_, hi⟩ := mem_of_get? ha
      simp only [lat_nat, ha, osome]
      rw [ilt_t (by unfold llen; omega), bcond_true, iadd_nat (by omega)]
      by_cases h : a.1.length ≤ 80
      · left; exact ⟨by rw [bcond_f (ilt_f (by unfold llen; omega))], h⟩
      · right; rw [bcond_t (ilt_t (by unfold llen; omega))]
    · rw [ilt_f (by unfold llen; omega)]; rfl
  rcases names _ h2 with ⟨e, n1⟩ | e
  case inr => rw [e]; exact ⟨false, rfl, fun h => by cases h⟩
  rw [e, osome, sumK_inl]
  rcases names _ h3 with ⟨e, n2⟩ | e
  case inr => rw [e]; exact ⟨false, rfl, fun h => by cases h⟩
  rw [e, osome, sumK_inl]
  rcases loopO_each s.2.2.2.2 false PUnit.unit (fun (x : Int) =>
                            bcond (ilt x (llen s.2.2.2.2))
                        (obind (lat s.2.2.2.2 x) fun (x_1 : TRule) =>
                            bcond (ilt 80 (llen x_1.1)) (some (Out.rt false))
                              (bcond (ilt 80 (llen x_1.2.2.2.2.2.2.2)) (some (Out.rt false))
                                (bcond (ilt 50 (llen x_1.2.2.2.2.2.1)) (some (Out.rt false))
                                  (bcond (ilt 50 (llen x_1.2.2.2.2.2.2.1)) (some (Out.rt false))
                                    (some (Out.nx (iadd IntKind.i64 x 1)))))))
                          (some (Out.ex PUnit.unit))) SmallRule (by omega) (fun i a ha => by
      obtain ⟨_, hi⟩ := mem_of_get? ha
      simp only [lat_nat, ha, osome]
      rw [ilt_t (by unfold llen; omega), bcond_true, iadd_nat (by omega)]
      by_cases g1 : a.1.length ≤ 80
      case neg => right; rw [bcond_t (ilt_t (by unfold llen; omega))]
      rw [bcond_f (ilt_f (by unfold llen; omega))]
      by_cases g2 : a.2.2.2.2.2.2.2.length ≤ 80
      case neg => right; rw [bcond_t (ilt_t (by unfold llen; omega))]
      rw [bcond_f (ilt_f (by unfold llen; omega))]
      by_cases g3 : a.2.2.2.2.2.1.length ≤ 50
      case neg => right; rw [bcond_t (ilt_t (by unfold llen; omega))]
      rw [bcond_f (ilt_f (by unfold llen; omega))]
      by_cases g4 : a.2.2.2.2.2.2.1.length ≤ 50
      case neg => right; rw [bcond_t (ilt_t (by unfold llen; omega))]
      rw [bcond_f (ilt_f (by unfold llen; omega))]
      exact .inl ⟨rfl, g1, g2, g3, g4⟩) (by rw [ilt_f (by unfold llen; omega)]; rfl) with ⟨e, n3⟩ | e
  case inr => rw [e]; exact ⟨false, rfl, fun h => by cases h⟩
  rw [e]
  exact ⟨true, rfl, fun _ => ⟨h1, h2, h3, h4, n1, n2, n3⟩⟩

/-- the lists of a law fit memory -/
structure LensOk (l : TLaw) : Prop where
  rows : ∀ t ∈ l.2.1, t.2.2.2.length ≤ reachBytes
  rules : ∀ s ∈ l.2.2, s.2.2.2.2.length ≤ reachBytes

theorem smallLaw_ok {l : TLaw} (hL : LensOk l) : ∃ b, same_SmallLaw l = some b ∧ (b = true → SmallL l) := by
  have hr := reach_val
  unfold same_SmallLaw
  by_cases h1 : l.1.length ≤ 9
  case neg => rw [bcond_t (ilt_t (by unfold llen; omega))]; exact ⟨false, rfl, fun h => by cases h⟩
  rw [bcond_f (ilt_f (by unfold llen; omega))]
  by_cases h2 : l.2.1.length ≤ 9
  case neg => rw [bcond_t (ilt_t (by unfold llen; omega))]; exact ⟨false, rfl, fun h => by cases h⟩
  rw [bcond_f (ilt_f (by unfold llen; omega))]
  by_cases h3 : l.2.2.length ≤ 5
  case neg => rw [bcond_t (ilt_t (by unfold llen; omega))]; exact ⟨false, rfl, fun h => by cases h⟩
  rw [bcond_f (ilt_f (by unfold llen; omega)), osome, sumK_inl]
  rcases loopO_each l.1 false PUnit.unit (fun (x : Int) =>
            bcond (ilt x (llen l.1))
              (obind (lat l.1 x) fun (x_1 : TEnum) =>
                bcond (ilt 80 (llen x_1.1)) (some (Out.rt false))
                  (obind (lat l.1 x) fun (x_2 : TEnum) =>
                    bcond (ilt 20 (llen x_2.2)) (some (Out.rt false))
                      (obind
                        (loopO
                          (fun (x_3 : Int) =>
                            obind (lat l.1 x) fun (x_4 : TEnum) =>
                              bcond (ilt x_3 (llen x_4.2))
                                (obind (lat l.1 x) fun (x : TEnum) =>
                                  obind (lat x.2 x_3) fun (x : List UInt8) =>
                                    bcond (ilt 80 (llen x)) (some (Out.rt false))
                                      (some (Out.nx (iadd IntKind.i64 x_3 1))))
                                (some (Out.ex PUnit.unit)))
                          0)
                        fun (o : PUnit ⊕ Bool) =>
                        sumK o (fun (y : PUnit) => some (Out.nx (iadd IntKind.i64 x 1))) fun (r : Bool) =>
                          some (Out.rt r))))
              (some (Out.ex PUnit.unit))) (fun e => e.1.length ≤ 80 ∧ e.2.length ≤ 20 ∧ ∀ m ∈ e.2, m.length ≤ 80) (by omega) (fun i a ha => by
      obtain ⟨_, hi⟩ := mem_of_get? ha
      simp only [lat_nat, ha, osome]
      rw [ilt_t (by unfold llen; omega), bcond_true, iadd_nat (by omega)]
      by_cases g1 : a.1.length ≤ 80
      case neg => right; rw [bcond_t (ilt_t (by unfold llen; omega))]
      rw [bcond_f (ilt_f (by unfold llen; omega))]
      by_cases g2 : a.2.length ≤ 20
      case neg => right; rw [bcond_t (ilt_t (by unfold llen; omega))]
      rw [bcond_f (ilt_f (by unfold llen; omega))]
      rcases loopO_each a.2 false PUnit.unit (fun (x_3 : Int) => bcond (ilt x_3 (llen a.2)) (obind (lat a.2 x_3) fun (x : List UInt8) => bcond (ilt 80 (llen x)) (some (Out.rt false)) (some (Out.nx (iadd IntKind.i64 x_3 1)))) (some (Out.ex PUnit.unit))) (fun m => m.length ≤ 80) (by omega) (fun j m hm => by
        obtain ⟨_, hj⟩ := mem_of_get? hm
        simp only [lat_nat, hm, osome]
        rw [ilt_t (by unfold llen; omega), bcond_true, iadd_nat (by omega)]
        by_cases g3 : m.length ≤ 80
        · left; exact ⟨by rw [bcond_f (ilt_f (by unfold llen; omega))], g3⟩
        · right; rw [bcond_t (ilt_t (by unfold llen; omega))]) (by rw [ilt_f (by unfold llen; omega)]; rfl) with ⟨e, n⟩ | e
      · left; rw [e]; exact ⟨rfl, g1, g2, n⟩
      · right; rw [e]; rfl) (by rw [ilt_f (by unfold llen; omega)]; rfl) with ⟨e, n1⟩ | e
  case inr => rw [e]; exact ⟨false, rfl, fun h => by cases h⟩
  rw [e, osome, sumK_inl]
  rcases loopO_sum l.2.1 false PUnit.unit (fun (x : TType) =>
                  bcond (ilt x.2 (llen l.2.1))
                    (obind (lat l.2.1 x.2) fun (x_1 : TTable) =>
                      obind (lat l.2.1 x.2) fun (x_2 : TTable) =>
                        bcond (ilt 80 (llen x_2.1)) (some (Out.rt false))
                          (bcond (ilt 150 (iadd IntKind.i64 x.1 (llen x_1.2.2.2))) (some (Out.rt false))
                            (some (Out.nx (iadd IntKind.i64 x.1 (llen x_1.2.2.2), iadd IntKind.i64 x.2 1)))))
                    (some (Out.ex PUnit.unit))) (fun t => t.1.length ≤ 80) (fun t => t.2.2.2.length) 150 (by omega) (fun k i a hk ha => by
      obtain ⟨hm, hi⟩ := mem_of_get? ha
      have hrow := hL.rows a hm
      simp only [lat_nat, ha, osome]
      rw [ilt_t (by unfold llen; omega), bcond_true, iadd_nat (by omega)]
      by_cases g1 : a.1.length ≤ 80
      case neg => right; rw [bcond_t (ilt_t (by unfold llen; omega))]
      have e : iadd .i64 (k : Int) (llen a.2.2.2) = ((k + a.2.2.2.length : Nat) : Int) := by unfold llen; rw [iadd_i64 (by unfold I64; omega)]; omega
      rw [bcond_f (ilt_f (by unfold llen; omega)), e]
      by_cases g2 : k + a.2.2.2.length ≤ 150
      · left; exact ⟨by rw [bcond_f (ilt_f (by omega))], g1, g2⟩
      · right; rw [bcond_t (ilt_t (by omega))]) (fun k => by rw [ilt_f (by unfold llen; omega)]; rfl) with ⟨e, n2, n3⟩ | e
  case inr => rw [e]; exact ⟨false, rfl, fun h => by cases h⟩
  rw [e, osome, sumK_inl]
  rcases loopO_sum l.2.2 false PUnit.unit (fun (x : TType) =>
                        bcond (ilt x.2 (llen l.2.2))
                          (obind (lat l.2.2 x.2) fun (x_1 : TScope) =>
                            bcond (ilt 60 (iadd IntKind.i64 x.1 (llen x_1.2.2.2.2))) (some (Out.rt false))
                              (obind (lat l.2.2 x.2) fun (x_2 : TScope) =>
                                obind (same_smallScope x_2) fun (x_3 : Bool) =>
                                  bcond (bnot x_3) (some (Out.rt false))
                                    (some (Out.nx (iadd IntKind.i64 x.1 (llen x_1.2.2.2.2), iadd IntKind.i64 x.2 1)))))
                          (some (Out.ex PUnit.unit))) SmallSc (fun s => s.2.2.2.2.length) 60 (by omega) (fun k i a hk ha => by
      obtain ⟨hm, hi⟩ := mem_of_get? ha
      have hrow := hL.rules a hm
      simp only [lat_nat, ha, osome]
      rw [ilt_t (by unfold llen; omega), bcond_true, iadd_nat (by omega)]
      have e : iadd .i64 (k : Int) (llen a.2.2.2.2) = ((k + a.2.2.2.2.length : Nat) : Int) := by unfold llen; rw [iadd_i64 (by unfold I64; omega)]; omega
      rw [e]
      by_cases g2 : k + a.2.2.2.2.length ≤ 60
      case neg => right; rw [bcond_t (ilt_t (by omega))]
      rw [bcond_f (ilt_f (by omega))]
      obtain ⟨b, hb, hb2⟩ := smallScope_ok a
      rw [hb, osome]
      cases b
      · right; rfl
      · left; exact ⟨rfl, hb2 rfl, g2⟩) (fun k => by rw [ilt_f (by unfold llen; omega)]; rfl) with ⟨e, n4, n5⟩ | e
  case inr => rw [e]; exact ⟨false, rfl, fun h => by cases h⟩
  rw [e]
  exact ⟨true, rfl, fun _ => ⟨h1, h2, h3, n1, n2, n3, n4, n5⟩⟩
end Gt
namespace Gt
open Go Go.GP
/-! ### the types of the laws' arguments, and what every input keeps -/
def i64T : Ty := .int .i64
def typeT : Ty := .prod i64T i64T
def valueT : Ty := .prod i64T (.prod i64T i64T)
def enumT : Ty := .prod .str (.sl .str)
def rowT : Ty := .prod typeT valueT
def tableT : Ty := .prod .str (.prod typeT (.prod typeT (.sl rowT)))
def fieldT : Ty := .prod .str typeT
def ruleT : Ty := .prod .str (.prod i64T (.prod i64T (.prod i64T (.prod typeT (.prod (.sl typeT) (.prod (.sl typeT) .str))))))
def scopeT : Ty := .prod .str (.prod i64T (.prod (.sl fieldT) (.prod (.sl fieldT) (.sl ruleT))))
def lawT : Ty := .prod (.sl enumT) (.prod (.sl tableT) (.sl scopeT))
def memberT : Ty := .prod (.sl valueT) (.sl i64T)
def resultT : Ty := .prod (.sl valueT) (.prod (.sl i64T) (.sl memberT))
def fourT : Ty := .prod i64T (.prod i64T (.prod i64T i64T))
theorem wf_names {l : TLaw} (h : wf lawT l) : NamesOk l ∧ LensOk l := by
  obtain ⟨h1, h2, h3⟩ := (show wf (.sl enumT) l.1 ∧ wf (.sl tableT) l.2.1 ∧ wf (.sl scopeT) l.2.2 from h)
  have s3 : ∀ s ∈ l.2.2, wf .str s.1 ∧ wf i64T s.2.1 ∧ wf (.sl fieldT) s.2.2.1 ∧ wf (.sl fieldT) s.2.2.2.1 ∧ wf (.sl ruleT) s.2.2.2.2 := fun s hs => h3.2 s hs
  refine ⟨⟨fun s hs d hd => ?_, fun s hs d hd => ?_, fun e he => ?_⟩, ⟨fun t ht => ?_, fun s hs => ?_⟩⟩
  · exact ((s3 s hs).2.2.2.1.2 d hd).1
  · exact ((s3 s hs).2.2.2.2.2 d hd).1
  · exact ⟨(h1.2 e he).2.1, fun m hm => (h1.2 e he).2.2 m hm⟩
  · exact (show wf .str t.1 ∧ wf typeT t.2.1 ∧ wf typeT t.2.2.1 ∧ wf (.sl rowT) t.2.2.2 from h2.2 t ht).2.2.2.1
  · exact (s3 s hs).2.2.2.2.1
theorem wf_value {v : TValue} (h : wf valueT v) : I64 v.2.2 := wf_i64 h.2.2
theorem wf_result {r : TResult} (h : wf resultT r) : r.2.2.length ≤ reachBytes ∧ (∀ v ∈ r.1, I64 v.2.2) ∧ ∀ m ∈ r.2.2, ∀ v ∈ m.1, I64 v.2.2 := by
  obtain ⟨h1, h2, h3⟩ := (show wf (.sl valueT) r.1 ∧ wf (.sl i64T) r.2.1 ∧ wf (.sl memberT) r.2.2 from h)
  exact ⟨h3.1, fun v hv => wf_value (h1.2 v hv), fun m hm v hv => wf_value ((h3.2 m hm).1.2 v hv)⟩
theorem wf_four {e : TEvalError} (h : wf fourT e) : I64 e.1 ∧ I64 e.2.1 ∧ I64 e.2.2.1 ∧ I64 e.2.2.2 := ⟨wf_i64 h.1, wf_i64 h.2.1, wf_i64 h.2.2.1, wf_i64 h.2.2.2⟩
theorem wf_fours {l : List TEvalError} (h : wf (.sl fourT) l) : ∀ b ∈ l, I64 b.1 ∧ I64 b.2.1 ∧ I64 b.2.2.1 ∧ I64 b.2.2.2 := fun b hb => wf_four (h.2 b hb)
end Gt
