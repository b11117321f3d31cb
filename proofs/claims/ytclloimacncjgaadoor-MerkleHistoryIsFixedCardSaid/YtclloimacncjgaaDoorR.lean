/- Lemmas: an abstract interpreter, and what the functions compute. -/
import Derived.Test.YtclloimacncjgaaDoorQ
import Derived.Test.YtclloimacncjgaaDoorP
import Derived.Test.YtclloimacncjgaaDoorE
set_option linter.unusedSimpArgs false
set_option linter.unusedVariables false
set_option linter.unusedSectionVars false
section
namespace Go.Abs
set_option maxRecDepth 100000
theorem bl16 {l : List UInt8} (h : l.length = 16) : (bys l).length = 16 := by simpa using h
end Go.Abs
end

section
namespace Go.Abs
theorem vb_of {P : Nat × Bool → Prop} {l m : List (Nat × Bool)} (h : l.all (fun p => m.contains p) = true) (hm : ∀ p ∈ m, P p) : ∀ p ∈ l, P p := fun p hp => by
  have := List.all_eq_true.1 h p hp
  exact hm p (by simpa using this)
theorem vb_rec {P : Nat × Bool → Prop} {f : Nat} {l m : List (Nat × Bool)} (h : l.all (fun p => p == (f, false) || m.contains p) = true) (hm : ∀ p ∈ m, P p) : ∀ p ∈ l, p ≠ (f, false) → P p := fun p hp hn => by
  have := List.all_eq_true.1 h p hp
  rw [Bool.or_eq_true] at this
  rcases this with h1 | h1
  · exact absurd (by simpa using h1) hn
  · exact hm p (by simpa using h1)
def db32T : List UInt8 := [0, 1, 28, 2, 29, 14, 24, 3, 30, 22, 20, 15, 25, 17, 4, 8, 31, 27, 13, 23, 21, 19, 16, 7, 26, 12, 18, 6, 11, 5, 10, 9]
theorem has_dgs {cs : List AVal} (h : (GT.sl (.arr 16 (.int .u8))).has cs) : ∃ l : List (List UInt8), is16 l ∧ cs = [dgsA none l] := by
  obtain ⟨ess, h1, rfl, h3⟩ := h
  suffices H : ∃ l : List (List UInt8), is16 l ∧ l.length = ess.length ∧ ess.flatten = bys (dgs l) by
    obtain ⟨l, k1, k2, k3⟩ := H
    exact ⟨l, k1, by rw [dgsA, k2, k3]⟩
  clear h3
  induction ess with
  | nil => exact ⟨[], is16_nil, rfl, rfl⟩
  | cons e ess ih =>
    obtain ⟨l, k1, k2, k3⟩ := ih fun c hc => h1 c (by simp [hc])
    obtain ⟨x, a0, rfl⟩ := has_arr8 (h1 e (by simp))
    exact ⟨x :: l, is16_cons.2 ⟨a0, k1⟩, by simp [k2], by rw [List.flatten_cons, k3, dgs_cons, bys_append]⟩
end Go.Abs
end

section
namespace Go.Abs
end Go.Abs
end
