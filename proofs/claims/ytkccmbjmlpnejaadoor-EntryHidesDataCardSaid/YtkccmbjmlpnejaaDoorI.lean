/- Lemmas: an abstract interpreter, and what the functions compute. -/
import Derived.Test.YtkccmbjmlpnejaaDoorE
set_option linter.unusedSimpArgs false
set_option linter.unusedVariables false
set_option linter.unusedSectionVars false
section
namespace Go.Abs
theorem z2tb {n : Nat} (h0 : n ≠ 0) (h1 : n < 256) : z3V n = [UInt8.ofNat n] := by rw [z7x h0, Nat.div_eq_of_lt h1, z5p]
theorem dig1 : z3V 1 = [1] := z2tb (by decide) (by decide)
theorem dig2 : z3V 2 = [2] := z2tb (by decide) (by decide)
theorem enc0 : z7m 0 = [128] := by simp [z7m, mag, flp, z5p]
theorem enc1 : z7m 1 = [129, 1] := by simp [z7m, mag, flp, dig1]
theorem enc2 : z7m 2 = [129, 2] := by simp [z7m, mag, flp, dig2]
def exD : List UInt8 := [1, 2, 0, 0, 0, 0, 0, 0, 0, 0, 0, 0, 0, 0, 0, 0]
theorem x1 : z0l [130, 1, 0, 9] = (256, 3, 0) := by decide
theorem x2 : z0l [130, 1] = (0, 0, 5) := by decide
theorem x3 : z0l [129, 0] = (0, 0, 6) := by decide
theorem x4 : z9ia [129, 2, 97, 98, 7] = ([97, 98], 4, 0) := by decide
theorem x5 : z0v z0l 1 [129, 2, 129, 1, 127] = ([1, -1], 5, 0) := by decide
theorem x6 : z3Ac (z8Dc 1 exD) = (exD, 18, 0) := by rw [z8Dc, show ((1 : Nat) : Int) = 1 from rfl, enc1]; decide
theorem x7 : z0v z9ia 1 [129, 2, 128, 129, 1, 97, 5] = ([[], [97]], 6, 0) := by decide
theorem x8 : z9Jc [[], [97]] = [129, 2, 128, 129, 1, 97] := by simp [z9Jc, z1P, enc0, enc1, enc2]
theorem f1 (x : UInt8) : [u8 x] = bys [x] := rfl
theorem f2 (x : UInt8) (l : List UInt8) : u8 x :: bys l = bys (x :: l) := rfl
theorem f3 (x : List UInt8) : [st x] = sts [x] := rfl
theorem f4 (x : List UInt8) (l : List (List UInt8)) : st x :: sts l = sts (x :: l) := rfl
theorem f5 (x : Int) : [i64 x] = z3i [x] := rfl
theorem f6 (x : Int) (l : List Int) : i64 x :: z3i l = z3i (x :: l) := rfl
end Go.Abs
end

section
namespace Go.Abs
theorem z0kb {n s : Nat} (hn : n ≤ 9223372036854775807) (hs : 0 < s) {r : List UInt8} (h : n * s ≤ r.length) : z4Ra (z7m n ++ r) s = 0 ∧ z0l (z7m n ++ r) = ((n : Int), (z7m n).length, 0) := by
 have hg := z0La (z6Ca hn) r
 refine ⟨?_, hg⟩
 unfold z4Ra
 rw [hg]
 simp only [ne_eq, not_true_eq_false, if_false, Int.toNat_natCast, List.length_append, Nat.add_sub_cancel_left]
 rw [if_neg (by omega), if_neg]
 rw [Nat.not_lt, Nat.le_div_iff_mul_le hs]
 exact h
theorem z9yb {s : List UInt8} (h : s.length ≤ 9223372036854775807) (r : List UInt8) : z9ia (z1P s ++ r) = (s, (z1P s).length, 0) := by
 obtain ⟨h1, h2⟩ := z0kb h (s := 1) (by decide) (r := s ++ r) (by simp)
 rw [z1P, List.append_assoc, z9ia, if_pos h1, h2]
 simp only [Int.toNat_natCast, List.drop_left, List.take_left, List.length_append]
theorem z87a {α : Type} {f : List UInt8 → α × Nat × Nat} {enc : α → List UInt8} : ∀ (l : List α) (p r : List UInt8), (∀ x ∈ l, ∀ r, f (enc x ++ r) = (x, (enc x).length, 0)) →
  z7ba f l.length (p ++ (l.flatMap enc ++ r)) p.length = (l, p.length + (l.flatMap enc).length, 0)
 | [], p, r, _ => by simp [z7ba]
 | x :: l, p, r, h => by
  have h1 := h x (by simp) (l.flatMap enc ++ r)
  have ih := z87a l (p ++ enc x) r fun y hy => h y (by simp [hy])
  have e : p ++ ((x :: l).flatMap enc ++ r) = (p ++ enc x) ++ (l.flatMap enc ++ r) := by simp
  have e2 : (p ++ ((x :: l).flatMap enc ++ r)).drop p.length = enc x ++ (l.flatMap enc ++ r) := by rw [List.drop_left]; simp
  rw [List.length_append] at ih
  rw [List.length_cons, z7ba, e2, h1]
  simp only [ne_eq, not_true_eq_false, if_false]
  rw [e, ih]
  simp only [ne_eq, not_true_eq_false, if_false, List.flatMap_cons, List.length_append, Prod.mk.injEq, and_true, true_and]
  omega
theorem z75a {α : Type} {enc : α → List UInt8} (h : ∀ x, 0 < (enc x).length) : ∀ l : List α, l.length ≤ (l.flatMap enc).length
 | [] => by simp
 | x :: l => by
  have := z75a h l
  have := h x
  simp only [List.flatMap_cons, List.length_append, List.length_cons]; omega
theorem z4Ab (n : Int) : 0 < (z7m n).length := by simp [z7m]
theorem z3lb {α : Type} {f : List UInt8 → α × Nat × Nat} {enc : α → List UInt8} {l : List α} (hp : ∀ x, 0 < (enc x).length) (hl : l.length ≤ 9223372036854775807) (h : ∀ x ∈ l, ∀ r, f (enc x ++ r) = (x, (enc x).length, 0)) (r : List UInt8) :
  z0v f 1 (z7m l.length ++ l.flatMap enc ++ r) = (l, (z7m l.length ++ l.flatMap enc).length, 0) := by
 have h0 := z75a hp l
 obtain ⟨h1, h2⟩ := z0kb hl (s := 1) (by decide) (r := l.flatMap enc ++ r) (by simp only [List.length_append]; omega)
 rw [List.append_assoc, z0v, if_pos h1, h2, Int.toNat_natCast, z87a l (z7m l.length) r h, List.length_append]
theorem z5qb {l : List Int} (hl : l.length ≤ 9223372036854775807) (h : ∀ x ∈ l, z3f x) (r : List UInt8) : z0v z0l 1 (z3j l ++ r) = (l, (z3j l).length, 0) :=
 z3lb z4Ab hl (fun x hx r => z0La (h x hx) r) r
def z15c (x : List (List UInt8)) : Nat := (x.map fun s => s.length + 1).sum
def z5wc : z4a := ⟨fun ds => ∃ nl x, z15c x ≤ 100000000 ∧ ds = [.sl .plain nl x.length (sts x)], fun ds => bo (decide (z15c (gSs (gCs (nth ds 0))) ≤ 2000))⟩
@[simp] theorem z2wc (m : z7ja) (nl : Option Bool) (n : Nat) (x : List (List UInt8)) : z5wc.post [.sl m nl n (sts x)] = bo (decide (z15c x ≤ 2000)) := by simp [z5wc]
end Go.Abs
end

section
namespace Go.Abs
theorem z7fb {α : Type} {f : List UInt8 → α × Nat × Nat} {enc : α → List UInt8} {P : α → Prop} (hf : ∀ c, (f c).2.2 = 0 → (f c).2.1 ≤ c.length ∧ c.take (f c).2.1 = enc (f c).1 ∧ P (f c).1) :
  ∀ (n : Nat) (b : List UInt8) (i : Nat), i ≤ b.length → (z7ba f n b i).2.2 = 0 →
   i ≤ (z7ba f n b i).2.1 ∧ (z7ba f n b i).2.1 ≤ b.length ∧ (z7ba f n b i).1.length = n ∧ (b.drop i).take ((z7ba f n b i).2.1 - i) = (z7ba f n b i).1.flatMap enc ∧ ∀ x ∈ (z7ba f n b i).1, P x
 | 0, b, i, hi, _ => by simp [z7ba, hi]
 | n + 1, b, i, hi, h => by
  rw [z7ba] at h ⊢
  by_cases h1 : (f (b.drop i)).2.2 = 0
  ·rw [if_neg (by simpa using h1)] at h ⊢
   obtain ⟨k1, k2, k3⟩ := hf _ h1
   rw [List.length_drop] at k1
   by_cases h2 : (z7ba f n b (i + (f (b.drop i)).2.1)).2.2 = 0
   ·rw [if_neg (by simpa using h2)]
    obtain ⟨j1, j2, j3, j4, j5⟩ := z7fb hf n b (i + (f (b.drop i)).2.1) (by omega) h2
    simp only
    refine ⟨by omega, j2, by simp [j3], ?_, fun x hx => ?_⟩
    ·generalize (z7ba f n b (i + (f (b.drop i)).2.1)).2.1 = w at *
     rw [List.flatMap_cons, ← j4, ← k2, show w - i = (f (b.drop i)).2.1 + (w - (i + (f (b.drop i)).2.1)) by omega, List.take_add, List.drop_drop]
    ·rcases List.mem_cons.1 hx with rfl | hx
     ·exact k3
     ·exact j5 x hx
   ·rw [if_pos h2] at h
    exact absurd h h2
  ·rw [if_pos h1] at h
   exact absurd h h1
theorem z7Lb {α : Type} {f : List UInt8 → α × Nat × Nat} {enc : α → List UInt8} {P : α → Prop} (hf : ∀ c, (f c).2.2 = 0 → (f c).2.1 ≤ c.length ∧ c.take (f c).2.1 = enc (f c).1 ∧ P (f c).1) {b : List UInt8} (h : (z0v f 1 b).2.2 = 0) :
  (z0v f 1 b).2.1 ≤ b.length ∧ b.take (z0v f 1 b).2.1 = z7m (z0v f 1 b).1.length ++ (z0v f 1 b).1.flatMap enc ∧ ∀ x ∈ (z0v f 1 b).1, P x := by
 unfold z0v at h ⊢
 rcases z8oa b 1 (by decide) with (hE | hE) | ⟨hE, n, u, hg, hu, hn, hu9⟩
 ·rw [hE] at h; simp at h
 ·rw [hE] at h; simp at h
 ·rw [if_pos hE, hg] at h ⊢
  simp only [Int.toNat_natCast] at h ⊢
  obtain ⟨j1, j2, j3, j4, j5⟩ := z7fb hf n b u hu h
  obtain ⟨e1, e2, e3, e4⟩ := z8za hg
  refine ⟨j2, ?_, j5⟩
  rw [j3, ← e3, ← j4]
  generalize (z7ba f n b u).2.1 = w at *
  rw [show w = u + (w - u) by omega, List.take_add, show u + (w - u) - u = w - u by omega]
theorem z5vb (c : List UInt8) (h : (z0l c).2.2 = 0) : (z0l c).2.1 ≤ c.length ∧ c.take (z0l c).2.1 = z7m (z0l c).1 ∧ z3f (z0l c).1 := by
 obtain ⟨n, u, e⟩ : ∃ n u, z0l c = (n, u, 0) := ⟨_, _, Prod.ext rfl (Prod.ext rfl h)⟩
 obtain ⟨e1, e2, e3, e4⟩ := z8za e
 rw [e]; exact ⟨e2, e3, e1⟩
def isV (c : List UInt8) (u : Int) (e : Int) (b : List UInt8) : Bool := e != 0 || (decide (0 ≤ u) && decide (u ≤ b.length) && c == b.take u.toNat)
def isC : z4a := ⟨fun ds => ∃ (nc nl : Option Bool) (c b : List UInt8) (u e : Int), c.length ≤ 1000000000 ∧ b.length ≤ 1000000000 ∧ ds = [.sl .plain nc c.length (bys c), i64 u, i64 e, .ep [.sl .plain nl b.length (bys b)]],
 fun ds => bo (isV (gBs (gCs (nth ds 0))) (asI (nth ds 1)) (asI (nth ds 2)) (gBs (gCs (hdA (gCs (nth ds 3))))))⟩
@[simp] theorem z4Xc (m m' : z7ja) (nc nl : Option Bool) (k n : Nat) (c b : List UInt8) (u e : Int) : isC.post [.sl m nc k (bys c), i64 u, i64 e, .ep [.sl m' nl n (bys b)]] = bo (isV c u e b) := by simp [isC]
end Go.Abs
end
