/- Lemmas: an abstract interpreter, and what the functions compute. -/
import Derived.Test.YtkccmbjmlpnejaaDoorE
import Derived.Test.YtkccmbjmlpnejaaDoorT
import Derived.Test.YtkccmbjmlpnejaaDoorI
import Derived.Test.YtkccmbjmlpnejaaDoorD
set_option linter.unusedSimpArgs false
set_option linter.unusedVariables false
set_option linter.unusedSectionVars false
section
namespace Go.Abs
@[simp] theorem z1Cc (c : Cmd) (nl nb : Option Bool) (b : List UInt8) : z4k (z8ba c nl b nb) = [] := by simp [z8ba, z2k, z4k]
end Go.Abs
end

section
namespace Go.Abs
end Go.Abs
end

section
namespace Go.Abs
@[simp] theorem gC9 (a b c d e f : Int) (s : List UInt8) (nl : Option Bool) (n : Nat) (l : List Int) (x : z2a) : z7Ca [i64 a, i64 b, i64 c, i64 d, i64 e, i64 f, st s, .sl .plain nl n (z3i l), x] = ⟨a, b, c, d, e, f, s, l⟩ := by simp [z7Ca, nth]
@[simp] theorem z49c : z3Zb.bx = [0] := rfl
@[simp] theorem z5Xc : z3Zb.nb = [] := rfl
@[simp] theorem z6Ec (x y z : z2a) : z3Zb.post [x, y, z] = i64 (asI z) := rfl
end Go.Abs
end

section
namespace Go.Abs
end Go.Abs
end

section
namespace Go.Abs
theorem z9Fc {n : Nat} {b : List UInt8} (h : (z0l b).2.2 ≠ 0) : z5ta (n + 1) b = ([], b, (z0l b).2.2) := by simp [z5ta, h]
theorem z5Pb {n : Nat} {b : List UInt8} (h : (z0l b).2.2 = 0) : z5ta (n + 1) b = ((z0l b).1 :: (z5ta n (b.drop (z0l b).2.1)).1, (z5ta n (b.drop (z0l b).2.1)).2) := by simp [z5ta, h]
def z4fb (L : List Int) (c : Cmd) : List Int := L ++ (six c).drop L.length
theorem z8Kb {L : List Int} {c : Cmd} (h : L.length ≤ 6) : (z4fb L c).length = 6 := by simp [z4fb, six]; omega
theorem z91c {l : List Int} (h : l.length = 6) : ∃ a b c d e f, l = [a, b, c, d, e, f] := by
 match l, h with
 | [a, b, c, d, e, f], _ => exact ⟨a, b, c, d, e, f, rfl⟩
theorem z1yc {L : List Int} {c : Cmd} (h : L.length = 6) : z4fb L c = L := by
 obtain ⟨a, b, d, e, f, g, rfl⟩ := z91c h
 rfl
theorem z4wb {L : List Int} {c : Cmd} {n : Int} (h : L.length < 6) : (z4fb L c).set L.length n = z4fb (L ++ [n]) c := by
 have h6 : L.length < (six c).length := h
 have e := List.drop_eq_getElem_cons h6
 rw [z4fb, List.set_append_right _ _ (Nat.le_refl _), Nat.sub_self, e]
 simp only [z4fb, List.set_cons_zero, List.length_append, List.length_singleton, List.append_assoc, List.singleton_append]
theorem z2Ya {l : List Int} {n : Nat} {x : Int} (h : n < l.length) : splice (z3i l) n [i64 x] = z3i (l.set n x) := by
 simp only [splice, z3i, ← List.map_take, ← List.map_drop, List.length_singleton]
 rw [List.set_eq_take_append_cons_drop, if_pos h]
 simp
theorem z0Qa (m : List (Nat × Nat)) : ∀ (l : List Int) (r : List z2a), z1xa m (z3i l ++ r) = z3i l ++ z1xa m r
 | [], _ => rfl
 | n :: l, r => congrArg (i64 n :: ·) (z0Qa m l r)
def rt (d : List UInt8) (nl nb : Option Bool) (ls : List Int) (b : List UInt8) : List z2a := [st d, .sl .plain nl ls.length (z3i ls), .sl .plain nb b.length (bys b)]
end Go.Abs
end

section
namespace Go.Abs
@[simp] theorem z43c (E : Env) (a b : z5a) (Q : z8q → ASt → Prop) (s : ASt) : awp E (.alt a b) Q s = (awp E a Q s ∨ awp E b Q s) := rfl
@[simp] theorem z5uc (f : Nat) (x y : List z2a) : z3g (.fn f x y) = false := rfl
def d1 (b : List UInt8) : List Int × List UInt8 × Nat := z5ta 6 b
def c1 (b : List UInt8) : Cmd := z54c z9y (d1 b).1
def b1 (b : List UInt8) : List UInt8 := (d1 b).2.1
def d2 (b : List UInt8) : List UInt8 × Nat × Nat := z9ia (b1 b)
def c2 (b : List UInt8) : Cmd := { c1 b with data := (d2 b).1 }
def b2 (b : List UInt8) : List UInt8 := aft (b1 b) (d2 b).2.1 (d2 b).2.2
def d3 (b : List UInt8) : List Int × Nat × Nat := z0v z0l 1 (b2 b)
def c3 (b : List UInt8) : Cmd := { c2 b with list := (d3 b).1 }
def b3 (b : List UInt8) : List UInt8 := aft (b2 b) (d3 b).2.1 (d3 b).2.2
def dst (b : List UInt8) : Nat → Cmd × List UInt8
 | 0 => (z9y, b)
 | 1 => (c1 b, b1 b)
 | 2 => (c2 b, b2 b)
 | _ => (c3 b, b3 b)
@[simp] theorem rM_bx : z2ga.bx = [0] ∧ z0fb.bx = [0] ∧ z8cb.bx = [0] ∧ z2fc.bx = [0] ∧ z2ga.nb = [] ∧ z0fb.nb = [] ∧ z8cb.nb = [] ∧ z2fc.nb = [] := ⟨rfl, rfl, rfl, rfl, rfl, rfl, rfl, rfl⟩
@[simp] theorem z4Qb (c : Cmd) (nl nb : Option Bool) (b : List UInt8) : z2ga.post [.ep (z8ba c nl b nb)] = i64 (z5ta 6 b).2.2 := by simp [z2ga]
@[simp] theorem z0Bc (c : Cmd) (nl nb : Option Bool) (b : List UInt8) : z0fb.post [.ep (z8ba c nl b nb)] = i64 (z9ia b).2.2 := by simp [z0fb]
@[simp] theorem z5Ac (c : Cmd) (nl nb : Option Bool) (b : List UInt8) : z8cb.post [.ep (z8ba c nl b nb)] = i64 (z0v z0l 1 b).2.2 := by simp [z8cb]
@[simp] theorem z7Lc (c : Cmd) (nl nb : Option Bool) (b : List UInt8) : z2fc.post [.ep (z8ba c nl b nb)] = i64 ((if 0 < b.length then 6 else z7gc c : Nat) : Int) := by
 simp only [z2fc, z13b, z78b]
 split <;> rfl
@[simp] theorem z52b (c : Cmd) (nl nb : Option Bool) (b : List UInt8) (j : Nat) : z2ga.out [.ep (z8ba c nl b nb)] j = z8ba (z54c c (z5ta 6 b).1) nl (z5ta 6 b).2.1 nb := by simp [z2ga]
@[simp] theorem z3Lc (c : Cmd) (nl nb : Option Bool) (b : List UInt8) (j : Nat) : z0fb.out [.ep (z8ba c nl b nb)] j = z8ba { c with data := (z9ia b).1 } nl (aft b (z9ia b).2.1 (z9ia b).2.2) nb := by simp [z0fb]
@[simp] theorem z6Nc (c : Cmd) (nl nb : Option Bool) (b : List UInt8) (j : Nat) : z8cb.out [.ep (z8ba c nl b nb)] j = z8ba { c with list := (z0v z0l 1 b).1 } none (aft b (z0v z0l 1 b).2.1 (z0v z0l 1 b).2.2) nb := by simp [z8cb]
@[simp] theorem z95c (c : Cmd) (nl nb : Option Bool) (b : List UInt8) (j : Nat) : z2fc.out [.ep (z8ba c nl b nb)] j = z8ba c nl b nb := by simp [z2fc]
@[simp] theorem z6Rc (c : Cmd) (nl nb : Option Bool) (b : List UInt8) : (z8ba c nl b nb).length = 9 := rfl
@[simp] theorem z4qc (c : Cmd) (nl nb : Option Bool) (b : List UInt8) : z5h (z8ba c nl b nb) = true := by simp [z8ba, z2k, z5h]
@[simp] theorem z2sc (c : Cmd) (nl nb : Option Bool) (b : List UInt8) : (z8ba c nl b nb).take 8 = z2k c nl := rfl
@[simp] theorem z5Wc (m : List (Nat × Nat)) (c : Cmd) (nl nb : Option Bool) (b : List UInt8) : z1xa m (z8ba c nl b nb) = z8ba c nl b nb := by simp [z8ba, z2k]
end Go.Abs
end

section
namespace Go.Abs
theorem z7Fa {zs : List z2a} (c : Cmd) (nl : Option Bool) (h : zs.length = 8) : splice zs 0 (z2k c nl) = z2k c nl := z0f (by rw [h]; rfl)
end Go.Abs
end
