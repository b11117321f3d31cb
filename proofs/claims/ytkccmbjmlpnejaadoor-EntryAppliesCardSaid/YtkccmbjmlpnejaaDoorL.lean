/- Lemmas: an abstract interpreter, and what the functions compute. -/
import Derived.Test.YtkccmbjmlpnejaaDoorE
import Derived.Test.YtkccmbjmlpnejaaDoorT
import Derived.Test.YtkccmbjmlpnejaaDoorI
import Derived.Test.YtkccmbjmlpnejaaDoorD
set_option linter.unusedSimpArgs false
set_option linter.unusedVariables false
set_option linter.unusedSectionVars false
section
namespace Go.Abs
@[simp] theorem z8Hc (c : Cmd) (nl nb : Option Bool) (b : List UInt8) : z2i (z4da c nl b nb) = [] := by simp [z4da, z2o, z2i]
end Go.Abs
end

section
namespace Go.Abs
end Go.Abs
end

section
namespace Go.Abs
@[simp] theorem gC9 (a b c d e f : Int) (s : List UInt8) (nl : Option Bool) (n : Nat) (l : List Int) (x : z2a) : z0Ga [i64 a, i64 b, i64 c, i64 d, i64 e, i64 f, st s, .sl .plain nl n (z6j l), x] = ⟨a, b, c, d, e, f, s, l⟩ := by simp [z0Ga, nth]
@[simp] theorem z1bd : z2jc.bx = [0] := rfl
@[simp] theorem z0ed : z2jc.nb = [] := rfl
@[simp] theorem z8Ec (x y z : z2a) : z2jc.post [x, y, z] = i64 (asI z) := rfl
end Go.Abs
end

section
namespace Go.Abs
end Go.Abs
end

section
namespace Go.Abs
theorem z2Kc {n : Nat} {b : List UInt8} (h : (z0m b).2.2 ≠ 0) : z6wa (n + 1) b = ([], b, (z0m b).2.2) := by simp [z6wa, h]
theorem z3tc {n : Nat} {b : List UInt8} (h : (z0m b).2.2 = 0) : z6wa (n + 1) b = ((z0m b).1 :: (z6wa n (b.drop (z0m b).2.1)).1, (z6wa n (b.drop (z0m b).2.1)).2) := by simp [z6wa, h]
def z4jb (L : List Int) (c : Cmd) : List Int := L ++ (six c).drop L.length
theorem z3Cb {L : List Int} {c : Cmd} (h : L.length ≤ 6) : (z4jb L c).length = 6 := by simp [z4jb, six]; omega
theorem z55c {l : List Int} (h : l.length = 6) : ∃ a b c d e f, l = [a, b, c, d, e, f] := by
 match l, h with
 | [a, b, c, d, e, f], _ => exact ⟨a, b, c, d, e, f, rfl⟩
theorem z2Ac {L : List Int} {c : Cmd} (h : L.length = 6) : z4jb L c = L := by
 obtain ⟨a, b, d, e, f, g, rfl⟩ := z55c h
 rfl
theorem z2Pb {L : List Int} {c : Cmd} {n : Int} (h : L.length < 6) : (z4jb L c).set L.length n = z4jb (L ++ [n]) c := by
 have h6 : L.length < (six c).length := h
 have e := List.drop_eq_getElem_cons h6
 rw [z4jb, List.set_append_right _ _ (Nat.le_refl _), Nat.sub_self, e]
 simp only [z4jb, List.set_cons_zero, List.length_append, List.length_singleton, List.append_assoc, List.singleton_append]
theorem z7Za {l : List Int} {n : Nat} {x : Int} (h : n < l.length) : splice (z6j l) n [i64 x] = z6j (l.set n x) := by
 simp only [splice, z6j, ← List.map_take, ← List.map_drop, List.length_singleton]
 rw [List.set_eq_take_append_cons_drop, if_pos h]
 simp
theorem z0Ra (m : List (Nat × Nat)) : ∀ (l : List Int) (r : List z2a), z4ua m (z6j l ++ r) = z6j l ++ z4ua m r
 | [], _ => rfl
 | n :: l, r => congrArg (i64 n :: ·) (z0Ra m l r)
def rt (d : List UInt8) (nl nb : Option Bool) (ls : List Int) (b : List UInt8) : List z2a := [st d, .sl .plain nl ls.length (z6j ls), .sl .plain nb b.length (bys b)]
end Go.Abs
end

section
namespace Go.Abs
@[simp] theorem z24c (E : Env) (a b : z4a) (Q : z9p → ASt → Prop) (s : ASt) : awp E (.alt a b) Q s = (awp E a Q s ∨ awp E b Q s) := rfl
@[simp] theorem z5zc (f : Nat) (x y : List z2a) : z2f (.fn f x y) = false := rfl
def d1 (b : List UInt8) : List Int × List UInt8 × Nat := z6wa 6 b
def c1 (b : List UInt8) : Cmd := z17c z8C (d1 b).1
def b1 (b : List UInt8) : List UInt8 := (d1 b).2.1
def d2 (b : List UInt8) : List UInt8 × Nat × Nat := z0ma (b1 b)
def c2 (b : List UInt8) : Cmd := { c1 b with data := (d2 b).1 }
def b2 (b : List UInt8) : List UInt8 := aft (b1 b) (d2 b).2.1 (d2 b).2.2
def d3 (b : List UInt8) : List Int × Nat × Nat := z8z z0m 1 (b2 b)
def c3 (b : List UInt8) : Cmd := { c2 b with list := (d3 b).1 }
def b3 (b : List UInt8) : List UInt8 := aft (b2 b) (d3 b).2.1 (d3 b).2.2
def dst (b : List UInt8) : Nat → Cmd × List UInt8
 | 0 => (z8C, b)
 | 1 => (c1 b, b1 b)
 | 2 => (c2 b, b2 b)
 | _ => (c3 b, b3 b)
@[simp] theorem rM_bx : z5ha.bx = [0] ∧ z0fb.bx = [0] ∧ z5fb.bx = [0] ∧ z7pc.bx = [0] ∧ z5ha.nb = [] ∧ z0fb.nb = [] ∧ z5fb.nb = [] ∧ z7pc.nb = [] := ⟨rfl, rfl, rfl, rfl, rfl, rfl, rfl, rfl⟩
@[simp] theorem z0Rb (c : Cmd) (nl nb : Option Bool) (b : List UInt8) : z5ha.post [.ep (z4da c nl b nb)] = i64 (z6wa 6 b).2.2 := by simp [z5ha]
@[simp] theorem z5vc (c : Cmd) (nl nb : Option Bool) (b : List UInt8) : z0fb.post [.ep (z4da c nl b nb)] = i64 (z0ma b).2.2 := by simp [z0fb]
@[simp] theorem z7Oc (c : Cmd) (nl nb : Option Bool) (b : List UInt8) : z5fb.post [.ep (z4da c nl b nb)] = i64 (z8z z0m 1 b).2.2 := by simp [z5fb]
@[simp] theorem z9Rc (c : Cmd) (nl nb : Option Bool) (b : List UInt8) : z7pc.post [.ep (z4da c nl b nb)] = i64 ((if 0 < b.length then 6 else z0oc c : Nat) : Int) := by
 simp only [z7pc, z3ic, z9ic]
 split <;> rfl
@[simp] theorem z9hc (c : Cmd) (nl nb : Option Bool) (b : List UInt8) (j : Nat) : z5ha.out [.ep (z4da c nl b nb)] j = z4da (z17c c (z6wa 6 b).1) nl (z6wa 6 b).2.1 nb := by simp [z5ha]
@[simp] theorem z4Uc (c : Cmd) (nl nb : Option Bool) (b : List UInt8) (j : Nat) : z0fb.out [.ep (z4da c nl b nb)] j = z4da { c with data := (z0ma b).1 } nl (aft b (z0ma b).2.1 (z0ma b).2.2) nb := by simp [z0fb]
@[simp] theorem z43c (c : Cmd) (nl nb : Option Bool) (b : List UInt8) (j : Nat) : z5fb.out [.ep (z4da c nl b nb)] j = z4da { c with list := (z8z z0m 1 b).1 } none (aft b (z8z z0m 1 b).2.1 (z8z z0m 1 b).2.2) nb := by simp [z5fb]
@[simp] theorem z69c (c : Cmd) (nl nb : Option Bool) (b : List UInt8) (j : Nat) : z7pc.out [.ep (z4da c nl b nb)] j = z4da c nl b nb := by simp [z7pc]
@[simp] theorem z2Uc (c : Cmd) (nl nb : Option Bool) (b : List UInt8) : (z4da c nl b nb).length = 9 := rfl
@[simp] theorem z4Lc (c : Cmd) (nl nb : Option Bool) (b : List UInt8) : z7h (z4da c nl b nb) = true := by simp [z4da, z2o, z7h]
@[simp] theorem z7yc (c : Cmd) (nl nb : Option Bool) (b : List UInt8) : (z4da c nl b nb).take 8 = z2o c nl := rfl
@[simp] theorem z72c (m : List (Nat × Nat)) (c : Cmd) (nl nb : Option Bool) (b : List UInt8) : z4ua m (z4da c nl b nb) = z4da c nl b nb := by simp [z4da, z2o]
end Go.Abs
end

section
namespace Go.Abs
theorem z6Ha {zs : List z2a} (c : Cmd) (nl : Option Bool) (h : zs.length = 8) : splice zs 0 (z2o c nl) = z2o c nl := z9f (by rw [h]; rfl)
end Go.Abs
end
