/- Lemmas: an abstract interpreter, and what the functions compute. -/
import Derived.Test.YtclloimacncjgaaDoorQ
import Derived.Test.YtclloimacncjgaaDoorP
import Derived.Test.YtclloimacncjgaaDoorE
set_option linter.unusedSimpArgs false
set_option linter.unusedVariables false
set_option linter.unusedSectionVars false
section
namespace Go.Abs
set_option maxRecDepth 100000
def inL (o r : List UInt8) (n i : Int) (d : List UInt8) (s : AVal) : List AVal := bys o ++ (bys r ++ (i64 n :: i64 i :: (bys d ++ [s])))
theorem bl16 {l : List UInt8} (h : l.length = 16) : (bys l).length = 16 := by simpa using h
theorem inL_len {o r d : List UInt8} {n i : Int} {s : AVal} (ho : o.length = 16) (hr : r.length = 16) (hd : d.length = 16) : (inL o r n i d s).length = 51 := by simp [inL, ho, hr, hd]
theorem inL_d16 {o r d : List UInt8} {n i : Int} {s : AVal} (ho : o.length = 16) : (inL o r n i d s).drop 16 = bys r ++ (i64 n :: i64 i :: (bys d ++ [s])) := by
  rw [inL, ← bl16 ho, List.drop_left]
theorem inL_16 {o r d : List UInt8} {n i : Int} {s : AVal} (ho : o.length = 16) (hr : r.length = 16) : ((inL o r n i d s).drop 16).take 16 = bys r := by
  rw [inL_d16 ho, ← bl16 hr, List.take_left]
theorem inL_d32 {o r d : List UInt8} {n i : Int} {s : AVal} (ho : o.length = 16) (hr : r.length = 16) : (inL o r n i d s).drop 32 = i64 n :: i64 i :: (bys d ++ [s]) := by
  rw [show 32 = 16 + 16 from rfl, ← List.drop_drop, inL_d16 ho, ← bl16 hr, List.drop_left]
theorem inL_32 {o r d : List UInt8} {n i : Int} {s : AVal} (ho : o.length = 16) (hr : r.length = 16) : hdA ((inL o r n i d s).drop 32) = i64 n := by rw [inL_d32 ho hr]; rfl
theorem inL_33 {o r d : List UInt8} {n i : Int} {s : AVal} (ho : o.length = 16) (hr : r.length = 16) : hdA ((inL o r n i d s).drop 33) = i64 i := by
  rw [show 33 = 32 + 1 from rfl, ← List.drop_drop, inL_d32 ho hr]; rfl
theorem inL_34 {o r d : List UInt8} {n i : Int} {s : AVal} (ho : o.length = 16) (hr : r.length = 16) (hd : d.length = 16) : ((inL o r n i d s).drop 34).take 16 = bys d := by
  rw [show 34 = 32 + 2 from rfl, ← List.drop_drop, inL_d32 ho hr, List.drop_succ_cons, List.drop_succ_cons, List.drop_zero, ← bl16 hd, List.take_left]
theorem inL_50 {o r d : List UInt8} {n i : Int} {s : AVal} (ho : o.length = 16) (hr : r.length = 16) (hd : d.length = 16) : hdA ((inL o r n i d s).drop 50) = s := by
  rw [show 50 = 32 + 18 from rfl, ← List.drop_drop, inL_d32 ho hr, show (i64 n :: i64 i :: (bys d ++ [s])).drop 18 = (bys d ++ [s]).drop 16 from rfl, ← bl16 hd, List.drop_left]; rfl
theorem inL_cell {o r d : List UInt8} {n i : Int} {m : Mode} {nl : Option Bool} {k : Nat} {cs : List AVal} : ∀ c ∈ inL o r n i d (.sl m nl k cs), isCell c := by
  simp [inL, or_imp, forall_and]
theorem inL_own {o r d : List UInt8} {n i : Int} {nl : Option Bool} {k : Nat} {cs : List AVal} : ∀ c ∈ inL o r n i d (.sl .plain nl k cs), ownTop c = false := by
  simp [inL, or_imp, forall_and]
theorem inL_pure {o r d : List UInt8} {n i : Int} {m : Mode} {nl : Option Bool} {k : Nat} {cs : List AVal} : pureL (inL o r n i d (.sl m nl k cs)) = true := by
  simp [inL]
theorem inL_refs {o r d : List UInt8} {n i : Int} {m : Mode} {nl : Option Bool} {k : Nat} {cs : List AVal} : refsL (inL o r n i d (.sl m nl k cs)) = [] := by
  simp [inL]
end Go.Abs
end

section
namespace Go.Abs
theorem vb_of {P : Nat × Bool → Prop} {l m : List (Nat × Bool)} (h : l.all (fun p => m.contains p) = true) (hm : ∀ p ∈ m, P p) : ∀ p ∈ l, P p := fun p hp => by
  have := List.all_eq_true.1 h p hp
  exact hm p (by simpa using this)
theorem vb_rec {P : Nat × Bool → Prop} {f : Nat} {l m : List (Nat × Bool)} (h : l.all (fun p => p == (f, false) || m.contains p) = true) (hm : ∀ p ∈ m, P p) : ∀ p ∈ l, p ≠ (f, false) → P p := fun p hp hn => by
  have := List.all_eq_true.1 h p hp
  rw [Bool.or_eq_true] at this
  rcases this with h1 | h1
  · exact absurd (by simpa using h1) hn
  · exact hm p (by simpa using h1)
def db32T : List UInt8 := [0, 1, 28, 2, 29, 14, 24, 3, 30, 22, 20, 15, 25, 17, 4, 8, 31, 27, 13, 23, 21, 19, 16, 7, 26, 12, 18, 6, 11, 5, 10, 9]
theorem has_dgs {cs : List AVal} (h : (GT.sl (.arr 16 (.int .u8))).has cs) : ∃ l : List (List UInt8), is16 l ∧ cs = [dgsA none l] := by
  obtain ⟨ess, h1, rfl, h3⟩ := h
  suffices H : ∃ l : List (List UInt8), is16 l ∧ l.length = ess.length ∧ ess.flatten = bys (dgs l) by
    obtain ⟨l, k1, k2, k3⟩ := H
    exact ⟨l, k1, by rw [dgsA, k2, k3]⟩
  clear h3
  induction ess with
  | nil => exact ⟨[], is16_nil, rfl, rfl⟩
  | cons e ess ih =>
    obtain ⟨l, k1, k2, k3⟩ := ih fun c hc => h1 c (by simp [hc])
    obtain ⟨x, a0, rfl⟩ := has_arr8 (h1 e (by simp))
    exact ⟨x :: l, is16_cons.2 ⟨a0, k1⟩, by simp [k2], by rw [List.flatten_cons, k3, dgs_cons, bys_append]⟩
end Go.Abs
end

section
namespace Go.Abs
def vinG : GT := .st [.arr 16 (.int .u8), .arr 16 (.int .u8), .int .i64, .int .i64, .arr 16 (.int .u8), .sl (.arr 16 (.int .u8))]
theorem has_vin {cs : List AVal} (h : vinG.has cs) : ∃ (o r : List UInt8) (n i : Int) (d : List UInt8) (p : List (List UInt8)), o.length = 16 ∧ r.length = 16 ∧ inI n ∧ inI i ∧ d.length = 16 ∧ is16 p ∧ cs = inL o r n i d (dgsA none p) := by
  simp only [vinG, GT.has, GT.hasL] at h
  obtain ⟨a1, r1, rfl, h1, a2, r2, rfl, h2, a3, r3, rfl, h3, a4, r4, rfl, h4, a5, r5, rfl, h5, a6, r6, rfl, h6, rfl⟩ := h
  obtain ⟨o, ho, rfl⟩ := has_arr8 (n := 16) (by simpa only [GT.has] using h1)
  obtain ⟨r, hr, rfl⟩ := has_arr8 (n := 16) (by simpa only [GT.has] using h2)
  obtain ⟨n, n0, n1, rfl⟩ := has_i64 (by simpa only [GT.has] using h3)
  obtain ⟨i, i0, i1, rfl⟩ := has_i64 (by simpa only [GT.has] using h4)
  obtain ⟨d, hd, rfl⟩ := has_arr8 (n := 16) (by simpa only [GT.has] using h5)
  obtain ⟨p, hp, rfl⟩ := has_dgs (by simpa only [GT.has] using h6)
  exact ⟨o, r, n, i, d, p, ho, hr, ⟨n0, n1⟩, ⟨i0, i1⟩, hd, hp, by simp [inL]⟩
end Go.Abs
end
