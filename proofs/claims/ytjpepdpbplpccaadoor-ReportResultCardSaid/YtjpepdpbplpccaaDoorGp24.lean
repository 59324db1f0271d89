import Derived.Test.YtjpepdpbplpccaaDoorGp23
import Derived.Lib.ItoaNum
import Derived.Lib.ItoaMem
import Derived.Lib.Repeat
import Derived.Sort.Grow
/- THE LIBRARY's FUNCTIONS strconv.Itoa AND strings.Repeat, out of the shelf's contracts, as pure functions. -/
namespace Go.GP
open Go.RowKit
set_option linter.unusedVariables false
set_option linter.unusedSimpArgs false

theorem below_grow (w : World) (k : Nat) (os : Array Obj) : Below w.heap.size w (Sort.grow (w.drewN k) os) :=
  ⟨rfl, rfl, rfl, by simp [Sort.grow, World.drewN], fun i hi => by
    show ((w.drewN k).heap ++ os)[i]? = _
    rw [Array.getElem?_append_left (by exact hi)]; rfl⟩

/-- a call that leaves old memory alone and returns one value of one cell that lies in no memory -/
theorem leaf_end {P : Program} {w w' : World} (hb : Below w.heap.size w w') {ok : Nat → Prop} (hlt : ∀ b, ok b → b < w.heap.size) {ps : List MG} {vals : List Value} (hps : OutsOk w'.heap ps vals [] []) {t : Ty} {x : t.den} {v : Value} (hr : rep w'.heap ok t x [v]) :
    ∃ v' ok' O' rs os B, (Ending.returned v) = .returned v' ∧ Frame' w w' [] ∧ (∀ b, ok b → ok' b) ∧ (∀ b, ok' b → b < w'.heap.size ∧ (ok b ∨ w.heap.size ≤ b ∨ b ∈ ([] : List Nat))) ∧
      (O' ++ B).Nodup ∧ (∀ b ∈ O' ++ B, ¬ ok' b ∧ b < w'.heap.size ∧ (w.heap.size ≤ b ∨ b ∈ ([] : List Nat))) ∧
      RetV 1 v' rs ∧ OutsOk w'.heap ps vals os B ∧ relTup w'.heap ok' ([(false, .dat t)] ++ []) x (rs ++ os) O' :=
  ⟨v, ok, [], [v], [], [], rfl, ⟨hb.os, hb.tape, hb.output, hb.size, fun b h _ => hb.block b h⟩, fun b h => h, fun b h => ⟨Nat.lt_of_lt_of_le (hlt b h) hb.size, .inl h⟩, by simp, by simp, ⟨rfl, rfl⟩, hps, ⟨v, [v], rfl, rfl, hr, rfl⟩⟩

def Lib_itoa (n : Int) : Option (List UInt8) := if -9223372036854775808 ≤ n ∧ n ≤ 9223372036854775807 then some (Lib.itoa n) else none
def Lib_repeat (s : List UInt8) (c : Int) : Option (List UInt8) := if 0 ≤ c ∧ c ≤ 9223372036854775807 ∧ s.length * c.toNat ≤ 140737488355328 then some (Lib.repeatL s c.toNat) else none

theorem itoa_sound {P : Program} {f g : Nat} {gl : List (Nat × (t : Ty) × List t.den)}
    (hC : ∀ (n : Int) (h0 : -9223372036854775808 ≤ n) (h1 : n ≤ 9223372036854775807) (w : World) (htab : Lib.TabIs P w "internal/strconv.uint64pow10" .u64 Lib.pow10Tab),
      Calls P f #[.int .i64 n] w fun e w' => e = .returned (.string ⟨(Lib.itoa n).toArray⟩) ∧ ∃ k os, w' = Sort.grow (w.drewN k) os)
    (hg : P.globalNamed "internal/strconv.uint64pow10" = some g) (hgl : assoc gl g = some ⟨.int .u64, Lib.pow10Tab⟩) :
    FSound P gl f ⟨[(false, .dat (.int .i64))], [(false, .dat .str)], [], fun x => Lib_itoa x⟩ := by
  intro w ok O vals x r hlt _ _ hgls hrel hfn
  obtain ⟨v, cs, rfl, h1, h2, rfl⟩ := hrel
  have h1 : cs = [v] := h1
  subst h1
  have h2 : [v] = [.int .i64 x] := h2
  obtain rfl := (List.cons.inj h2).1
  simp only [Lib_itoa] at hfn
  split at hfn
  · rename_i hx
    cases hfn
    refine (hC x hx.1 hx.2 w (tab_of_glOk hg (hgls _ _ hgl))).mono fun e w' ⟨he, k, os, hw⟩ => ?_
    subst he
    subst hw
    exact leaf_end (P := P) (t := .str) (x := Lib.itoa x) (ps := [(false, .dat (.int .i64))]) (vals := [.int .i64 x]) (below_grow w k os) hlt ⟨rfl, rfl⟩ rfl
  · cases hfn

theorem repeat_sound {P : Program} {f : Nat} {gl : List (Nat × (t : Ty) × List t.den)}
    (hC : ∀ (s : ByteArray) (c : Nat) (w : World) (hc : c ≤ 9223372036854775807) (hlen : s.size * c ≤ 140737488355328),
      Calls P f #[.string s, .int .i64 c] w fun e w' => e = .returned (.string ⟨(Lib.repeatL s.data.toList c).toArray⟩) ∧ Below w.heap.size w w') :
    FSound P gl f ⟨[(false, .dat .str), (false, .dat (.int .i64))], [(false, .dat .str)], [], fun x => Lib_repeat x.1 x.2⟩ := by
  intro w ok O vals x r hlt _ _ _ hrel hfn
  obtain ⟨v, cs, vs', O1, O2, rfl, rfl, h1, ⟨h2, rfl⟩, v2, cs2, rfl, h3, h4, rfl⟩ := hrel
  have h1 : cs = [v] := h1
  subst h1
  have h3 : cs2 = [v2] := h3
  subst h3
  have h2 : [v] = [.string ⟨x.1.toArray⟩] := h2
  have h4 : [v2] = [.int .i64 x.2] := h4
  obtain rfl := (List.cons.inj h2).1
  obtain rfl := (List.cons.inj h4).1
  simp only [Lib_repeat] at hfn
  split at hfn
  · rename_i hx
    cases hfn
    obtain ⟨a, c⟩ := x
    simp only at hx ⊢
    obtain ⟨n, rfl⟩ : ∃ n : Nat, c = n := ⟨c.toNat, (Int.toNat_of_nonneg hx.1).symm⟩
    have hh := hC ⟨a.toArray⟩ n w (by have := hx.2.1; omega) (by have h5 := hx.2.2; rw [Int.toNat_natCast] at h5; simpa [ByteArray.size] using h5)
    refine Calls.mono hh fun e w' ⟨he, hb⟩ => ?_
    subst he
    exact leaf_end (P := P) (t := .str) (x := Lib.repeatL a (n : Int).toNat) (ps := [(false, .dat .str), (false, .dat (.int .i64))]) (vals := [.string ⟨a.toArray⟩, .int .i64 n]) hb hlt ⟨rfl, rfl⟩ (by simp [rep])
  · cases hfn
end Go.GP
namespace Go.GP
/-- of each package variable of a list -/
def GlAll (Q : Nat → ((t : Ty) × List t.den) → Prop) : List (Nat × (t : Ty) × List t.den) → Prop
  | [] => True
  | (g, u) :: r => Q g u ∧ GlAll Q r
theorem GlAll_spec {Q : Nat → ((t : Ty) × List t.den) → Prop} : ∀ {l : List (Nat × (t : Ty) × List t.den)}, GlAll Q l → ∀ g u, assoc l g = some u → Q g u
  | [], _, g, u, h => by simp [assoc] at h
  | (k, v) :: r, hc, g, u, h => by
    unfold assoc at h
    cases hb : Nat.beq k g
    · simp only [hb, cond_false] at h
      exact GlAll_spec hc.2 g u h
    · simp only [hb, cond_true, Option.some.injEq] at h
      have := Nat.eq_of_beq_eq_true hb
      subst this; subst h
      exact hc.1
end Go.GP
