/- Lemmas: an abstract interpreter, and what the functions compute. -/
import Derived.Test.YtkccmbjmlpnejaaDoorP
import Derived.Test.YtkccmbjmlpnejaaDoorQ
import Derived.Test.YtkccmbjmlpnejaaDoorN
import Derived.Test.YtkccmbjmlpnejaaDoorD
import Derived.KernelRfl
import Derived.Test.YtkccmbjmlpnejaaDoorT
set_option linter.unusedSimpArgs false
set_option linter.unusedVariables false
set_option linter.unusedSectionVars false
section
namespace Go.Abs
set_option maxRecDepth 100000
theorem z9Ib {m : z4j} (h : z3f m.uses) : z2ha m = true ↔ 1 ≤ m.id ∧ m.id ≤ 2147483647 ∧ 1 ≤ m.ver ∧ m.ver ≤ 2147483647 ∧ 0 ≤ m.par ∧ m.par ≤ 2147483647 ∧ 0 ≤ m.ty ∧ m.ty ≤ 31 ∧ z1Nb m.uses 956 = m.uses ∧ 0 ≤ m.beg ∧ m.beg ≤ m.fin ∧ 0 ≤ m.fin ∧ m.fin ≤ 1099511627776 := by
 simp only [z2ha, z13, z8mb h, Bool.and_eq_true, beq_iff_eq]
 simp only [z0ua, z1Za, and_assoc]
theorem z3Dc {p : z4j → Bool} {l : List z4j} {i : Nat} (h : i < l.length) (hp : p (atD l i) = false) : l.all p = false := by
 cases ha : l.all p with
 | false => rfl
 | true =>
  have := List.all_eq_true.1 ha _ (z7qa h)
  rw [hp] at this
  cases this
theorem z27b {p : z4j → Bool} {l : List z4j} (h : ∀ j < l.length, p (atD l j) = true) : l.all p = true := by
 rw [List.all_eq_true]
 intro x hx
 obtain ⟨i, hi, rfl⟩ := List.mem_iff_getElem.1 hx
 rw [← z2ka hi]
 exact h i hi
theorem z9wb (c : Cmd) : z2la c (z4la c) = (!z7La c.kind || decide (c.data = [])) := by
 unfold z4la
 cases hs : z7La c.kind
 ·simp [z2la]
 ·obtain ⟨k1, k2, k3, k4, k5, k6, dt, ls⟩ := c
  simp [z2la]
  cases dt <;> rfl
set_option maxHeartbeats 16000000 in
theorem z58b (E : Env) (h149 : E.G 149 = z4X) (h327 : E.G 327 = z2Na) : ∀ ds, z9Ya.pre ds → ds.length = z5g.n ∧ awp E z5g.body (z9t z5g.res (z9Ya.post ds)) (z6c z5g.wr ds) := by
 rintro _ ⟨nc, nm, ng, x, hx, rfl⟩
 rw [z1ha hx]
 have h16 := hx.1.2.2.2.2.2.2.1
 have hd := hx.1.2.2.2.2.2.1
 have hml := hx.2.2.1
 have hgl := hx.2.2.2
 have hl := z9c (nc := nc) (nm := nm) (ng := ng) hd
 have e28 := z9ba (nc := nc) (nm := nm) (ng := ng) hd
 have e29 := z1fa (nc := nc) (nm := nm) (ng := ng) hd
 have hg := z19 (nc := nc) (nm := nm) (ng := ng) hd
 have hlen := z6p (z0h h16)
 obtain ⟨Z, hZ⟩ : ∃ Z, Z = okE x := ⟨_, rfl⟩
 rw [← hZ]
 have hzl : ¬ (0 ≤ x.time ∧ x.time ≤ 1099511627776 ∧ 0 ≤ x.req ∧ x.req ≤ 2147483647 ∧ 1 ≤ x.mode ∧ x.mode ≤ 5 ∧ x.made.length ≤ 4096 ∧ x.gone.length ≤ 4096) → Z = false := fun h => by
  cases hc : okE x
  ·rw [hZ, hc]
  ·exact absurd (z3la hc) h
 refine ⟨rfl, ?_⟩
 simp only [z5g]
 refine z3a fun Q9 hQ9 => ?_
 refine z9j fun B hB => ?_
 simp (maxSteps := 1000000) (disch := first | omega | (simp; done) | (simp; omega)) [z7a, z1a, z0a, hl]
 rw [hB]; clear hB
 rw [z8y]
 refine z3a fun Q1 hQ1 => ?_
 rw [z8y]
 refine z3a fun Q2 hQ2 => ?_
 rw [z2r]
 refine z2b fun T hT => ?_
 simp (maxSteps := 1000000) (disch := first | omega | (simp; done) | (simp; omega)) [z7a, z1a, z0a, z9J, hl, e28, e29]
 by_cases b1 : x.time < 0
 ·refine z7b true 10 46 (by simp [b1]) (by rw [hT]; kernel_rfl) (by rw [hT]; kernel_rfl) ?_
  have hz : Z = false := hzl (by omega)
  simp (maxSteps := 1000000) (disch := first | omega | (simp; done) | (simp; omega)) [z7a, z1a, z0a, hQ2, hQ1, hQ9, kT, hz]
 rw [hT]; clear hT
 refine z2b fun T hT => ?_
 simp (maxSteps := 1000000) (disch := first | omega | (simp; done) | (simp; omega)) [z7a, z1a, z0a, z0M, hl, e28, e29, b1]
 by_cases b2 : 1099511627776 < x.time
 ·refine z7b true 15 46 (by simp [b2]) (by rw [hT]; kernel_rfl) (by rw [hT]; kernel_rfl) ?_
  have hz : Z = false := hzl (by omega)
  simp (maxSteps := 1000000) (disch := first | omega | (simp; done) | (simp; omega)) [z7a, z1a, z0a, hQ2, hQ1, hQ9, kT, hz]
 rw [hT]; clear hT
 refine z2b fun T hT => ?_
 simp (maxSteps := 1000000) (disch := first | omega | (simp; done) | (simp; omega)) [z7a, z1a, z0a, z3L, hl, e28, e29, b1, b2]
 by_cases b3 : x.req < 0
 ·refine z7b true 20 46 (by simp [b3]) (by rw [hT]; kernel_rfl) (by rw [hT]; kernel_rfl) ?_
  have hz : Z = false := hzl (by omega)
  simp (maxSteps := 1000000) (disch := first | omega | (simp; done) | (simp; omega)) [z7a, z1a, z0a, hQ2, hQ1, hQ9, kT, hz]
 rw [hT]; clear hT
 refine z2b fun T hT => ?_
 simp (maxSteps := 1000000) (disch := first | omega | (simp; done) | (simp; omega)) [z7a, z1a, z0a, z0L, hl, e28, e29, b1, b2, b3]
 by_cases b4 : 2147483647 < x.req
 ·refine z7b true 25 46 (by simp [b4]) (by rw [hT]; kernel_rfl) (by rw [hT]; kernel_rfl) ?_
  have hz : Z = false := hzl (by omega)
  simp (maxSteps := 1000000) (disch := first | omega | (simp; done) | (simp; omega)) [z7a, z1a, z0a, hQ2, hQ1, hQ9, kT, hz]
 rw [hT]; clear hT
 refine z2b fun T hT => ?_
 simp (maxSteps := 1000000) (disch := first | omega | (simp; done) | (simp; omega)) [z7a, z1a, z0a, z1K, hl, e28, e29, b1, b2, b3, b4]
 by_cases b5 : x.mode < 1
 ·refine z7b true 30 46 (by simp [b5]) (by rw [hT]; kernel_rfl) (by rw [hT]; kernel_rfl) ?_
  have hz : Z = false := hzl (by omega)
  simp (maxSteps := 1000000) (disch := first | omega | (simp; done) | (simp; omega)) [z7a, z1a, z0a, hQ2, hQ1, hQ9, kT, hz]
 rw [hT]; clear hT
 refine z2b fun T hT => ?_
 simp (maxSteps := 1000000) (disch := first | omega | (simp; done) | (simp; omega)) [z7a, z1a, z0a, z4K, hl, e28, e29, b1, b2, b3, b4, b5]
 by_cases b6 : 5 < x.mode
 ·refine z7b true 35 46 (by simp [b6]) (by rw [hT]; kernel_rfl) (by rw [hT]; kernel_rfl) ?_
  have hz : Z = false := hzl (by omega)
  simp (maxSteps := 1000000) (disch := first | omega | (simp; done) | (simp; omega)) [z7a, z1a, z0a, hQ2, hQ1, hQ9, kT, hz]
 rw [hT]; clear hT
 refine z2b fun T hT => ?_
 simp (maxSteps := 1000000) (disch := first | omega | (simp; done) | (simp; omega)) [z7a, z1a, z0a, z4M, hl, e28, e29, b1, b2, b3, b4, b5, b6]
 by_cases b7 : 4096 < (x.made.length : Int)
 ·refine z7b true 41 46 (by simp [b7]) (by rw [hT]; kernel_rfl) (by rw [hT]; kernel_rfl) ?_
  have hz : Z = false := hzl (by omega)
  simp (maxSteps := 1000000) (disch := first | omega | (simp; done) | (simp; omega)) [z7a, z1a, z0a, hQ2, hQ1, hQ9, kT, hz]
 rw [hT]; clear hT
 by_cases b8 : 4096 < (x.gone.length : Int)
 ·have hz : Z = false := hzl (by omega)
  simp (maxSteps := 1000000) (disch := first | omega | (simp; done) | (simp; omega)) [z7a, z1a, z0a, hQ2, hQ1, hQ9, kT, hz, z3t, hl, e28, e29, b1, b2, b3, b4, b5, b6, b7, b8]
 simp (maxSteps := 1000000) (disch := first | omega | (simp; done) | (simp; omega)) [z7a, z1a, z0a, z3t, hl, e28, e29, b1, b2, b3, b4, b5, b6, b7, b8, hQ2, hQ1, kF]
 simp (maxSteps := 1000000) (disch := first | omega | (simp; done) | (simp; omega)) [z7a, z1a, z0a, z1L]
 refine z3a fun Q3 hQ3 => ?_
 refine z3d (fun i : Nat => ⟨[(0, .agg (z5k nc nm ng x))], [(1, .bp 1 0), (3, i64 i)], [(1, some (z5k nc nm ng x))]⟩)
  (fun i => x.made.length - i) (fun i => i ≤ x.made.length ∧ ∀ j < i, z2ha (atD x.made j) = true) 0 (by simp) (by simp) fun i hi => ?_
 obtain ⟨hi, he⟩ := hi
 refine z3a fun Q4 hQ4 => ?_
 by_cases h1 : i < x.made.length
 ·have hm := h16 _ (z7qa h1)
  have hmd := hm.2.2.2.2.2.2.2
  have ha := z6Oa h16 h1
  have hmll := z9p hmd
  have hle : 24 ≤ x.made.length * 24 - i * 24 := by omega
  have hle2 : i * 24 ≤ x.made.length * 24 := by omega
  have hno : z2ha (atD x.made i) = false → Z = false := fun h => by
   have := z3Dc (p := z2ha) h1 h
   rw [hZ]
   simp only [okE, this]
   simp
  have hst : ∀ j < i + 1, j < i ∨ j = i := fun j hj => by omega
  obtain ⟨m, hX⟩ : ∃ m, m = atD x.made i := ⟨_, rfl⟩
  rw [← hX] at hm hmd ha hmll hno
  have sp : splice (i64 0 :: i64 0 :: i64 0 :: i64 0 :: i64 0 :: i64 0 :: i64 0 :: bo false :: bys (z2c 16)) 0 (z8u m) = z8u m := z0ra hmd rfl
  have hiff := z9Ib hm.2.2.1
  have hno2 : ¬ (1 ≤ m.id ∧ m.id ≤ 2147483647 ∧ 1 ≤ m.ver ∧ m.ver ≤ 2147483647 ∧ 0 ≤ m.par ∧ m.par ≤ 2147483647 ∧ 0 ≤ m.ty ∧ m.ty ≤ 31 ∧ z1Nb m.uses 956 = m.uses ∧ 0 ≤ m.beg ∧ m.beg ≤ m.fin ∧ 0 ≤ m.fin ∧ m.fin ≤ 1099511627776) → Z = false := fun h => hno (by
   cases hc : z2ha m
   ·rfl
   ·exact absurd (hiff.1 hc) h)
  simp (maxSteps := 1000000) (disch := first | omega | (simp; done) | (simp; omega)) [z7a, z1a, z0a, z4t, kT, kF, dT, dF, h1, e28, hl]
  simp only [z4L]
  rw [z8y]
  refine z3a fun Q5 hQ5 => ?_
  rw [z3dc]
  refine z3a fun Q6 hQ6 => ?_
  refine z9j fun B hB => ?_
  simp (maxSteps := 1000000) (disch := first | omega | (simp; done) | (simp; omega)) [z7a, z1a, z0a, e28, hl, hlen, hle, hle2, ha, sp, hmll, z5L, z9Y, h1]
  rw [hB]; clear hB
  rw [z8y]
  refine z3a fun Q7 hQ7 => ?_
  rw [z2r]
  refine z2b fun T hT => ?_
  simp (maxSteps := 1000000) (disch := first | omega | (simp; done) | (simp; omega)) [z7a, z1a, z0a, z1M, hmll]
  by_cases c1 : m.id < 1
  ·refine z7b true 62 121 (by simp [c1]) (by rw [hT]; kernel_rfl) (by rw [hT]; kernel_rfl) ?_
   have hz : Z = false := hno2 (by omega)
   simp (maxSteps := 1000000) (disch := first | omega | (simp; done) | (simp; omega)) [z7a, z1a, z0a, hQ7, hQ6, hQ5, hQ4, hQ3, hQ9, kT, hz]
  rw [hT]; clear hT
  refine z2b fun T hT => ?_
  simp (maxSteps := 1000000) (disch := first | omega | (simp; done) | (simp; omega)) [z7a, z1a, z0a, z3J, hmll, c1]
  by_cases c2 : 2147483647 < m.id
  ·refine z7b true 67 121 (by simp [c2]) (by rw [hT]; kernel_rfl) (by rw [hT]; kernel_rfl) ?_
   have hz : Z = false := hno2 (by omega)
   simp (maxSteps := 1000000) (disch := first | omega | (simp; done) | (simp; omega)) [z7a, z1a, z0a, hQ7, hQ6, hQ5, hQ4, hQ3, hQ9, kT, hz]
  rw [hT]; clear hT
  refine z2b fun T hT => ?_
  simp (maxSteps := 1000000) (disch := first | omega | (simp; done) | (simp; omega)) [z7a, z1a, z0a, z8E, hmll, c1, c2]
  by_cases c3 : m.ver < 1
  ·refine z7b true 72 121 (by simp [c3]) (by rw [hT]; kernel_rfl) (by rw [hT]; kernel_rfl) ?_
   have hz : Z = false := hno2 (by omega)
   simp (maxSteps := 1000000) (disch := first | omega | (simp; done) | (simp; omega)) [z7a, z1a, z0a, hQ7, hQ6, hQ5, hQ4, hQ3, hQ9, kT, hz]
  rw [hT]; clear hT
  refine z2b fun T hT => ?_
  simp (maxSteps := 1000000) (disch := first | omega | (simp; done) | (simp; omega)) [z7a, z1a, z0a, z8I, hmll, c1, c2, c3]
  by_cases c4 : 2147483647 < m.ver
  ·refine z7b true 77 121 (by simp [c4]) (by rw [hT]; kernel_rfl) (by rw [hT]; kernel_rfl) ?_
   have hz : Z = false := hno2 (by omega)
   simp (maxSteps := 1000000) (disch := first | omega | (simp; done) | (simp; omega)) [z7a, z1a, z0a, hQ7, hQ6, hQ5, hQ4, hQ3, hQ9, kT, hz]
  rw [hT]; clear hT
  refine z2b fun T hT => ?_
  simp (maxSteps := 1000000) (disch := first | omega | (simp; done) | (simp; omega)) [z7a, z1a, z0a, z0I, hmll, c1, c2, c3, c4]
  by_cases c5 : m.par < 0
  ·refine z7b true 82 121 (by simp [c5]) (by rw [hT]; kernel_rfl) (by rw [hT]; kernel_rfl) ?_
   have hz : Z = false := hno2 (by omega)
   simp (maxSteps := 1000000) (disch := first | omega | (simp; done) | (simp; omega)) [z7a, z1a, z0a, hQ7, hQ6, hQ5, hQ4, hQ3, hQ9, kT, hz]
  rw [hT]; clear hT
  refine z2b fun T hT => ?_
  simp (maxSteps := 1000000) (disch := first | omega | (simp; done) | (simp; omega)) [z7a, z1a, z0a, z2G, hmll, c1, c2, c3, c4, c5]
  by_cases c6 : 2147483647 < m.par
  ·refine z7b true 87 121 (by simp [c6]) (by rw [hT]; kernel_rfl) (by rw [hT]; kernel_rfl) ?_
   have hz : Z = false := hno2 (by omega)
   simp (maxSteps := 1000000) (disch := first | omega | (simp; done) | (simp; omega)) [z7a, z1a, z0a, hQ7, hQ6, hQ5, hQ4, hQ3, hQ9, kT, hz]
  rw [hT]; clear hT
  refine z2b fun T hT => ?_
  simp (maxSteps := 1000000) (disch := first | omega | (simp; done) | (simp; omega)) [z7a, z1a, z0a, z4F, hmll, c1, c2, c3, c4, c5, c6]
  by_cases c7 : m.ty < 0
  ·refine z7b true 92 121 (by simp [c7]) (by rw [hT]; kernel_rfl) (by rw [hT]; kernel_rfl) ?_
   have hz : Z = false := hno2 (by omega)
   simp (maxSteps := 1000000) (disch := first | omega | (simp; done) | (simp; omega)) [z7a, z1a, z0a, hQ7, hQ6, hQ5, hQ4, hQ3, hQ9, kT, hz]
  rw [hT]; clear hT
  refine z2b fun T hT => ?_
  simp (maxSteps := 1000000) (disch := first | omega | (simp; done) | (simp; omega)) [z7a, z1a, z0a, z0G, hmll, c1, c2, c3, c4, c5, c6, c7]
  by_cases c8 : 31 < m.ty
  ·refine z7b true 97 121 (by simp [c8]) (by rw [hT]; kernel_rfl) (by rw [hT]; kernel_rfl) ?_
   have hz : Z = false := hno2 (by omega)
   simp (maxSteps := 1000000) (disch := first | omega | (simp; done) | (simp; omega)) [z7a, z1a, z0a, hQ7, hQ6, hQ5, hQ4, hQ3, hQ9, kT, hz]
  rw [hT]; clear hT
  refine z2b fun T hT => ?_
  simp (maxSteps := 1000000) (disch := first | omega | (simp; done) | (simp; omega)) [z7a, z1a, z0a, z5E, hmll, c1, c2, c3, c4, c5, c6, c7, c8]
  by_cases c9 : z1Nb m.uses 956 = m.uses
  rotate_left
  ·refine z7b true 105 121 (by simp [c9]) (by rw [hT]; kernel_rfl) (by rw [hT]; kernel_rfl) ?_
   have hz : Z = false := hno2 (by omega)
   simp (maxSteps := 1000000) (disch := first | omega | (simp; done) | (simp; omega)) [z7a, z1a, z0a, hQ7, hQ6, hQ5, hQ4, hQ3, hQ9, kT, hz]
  rw [hT]; clear hT
  refine z2b fun T hT => ?_
  simp (maxSteps := 1000000) (disch := first | omega | (simp; done) | (simp; omega)) [z7a, z1a, z0a, z7F, hmll, c1, c2, c3, c4, c5, c6, c7, c8, c9]
  by_cases c10 : m.beg < 0
  ·refine z7b true 110 121 (by simp [c10]) (by rw [hT]; kernel_rfl) (by rw [hT]; kernel_rfl) ?_
   have hz : Z = false := hno2 (by omega)
   simp (maxSteps := 1000000) (disch := first | omega | (simp; done) | (simp; omega)) [z7a, z1a, z0a, hQ7, hQ6, hQ5, hQ4, hQ3, hQ9, kT, hz]
  rw [hT]; clear hT
  refine z2b fun T hT => ?_
  simp (maxSteps := 1000000) (disch := first | omega | (simp; done) | (simp; omega)) [z7a, z1a, z0a, z4I, hmll, c1, c2, c3, c4, c5, c6, c7, c8, c9, c10]
  by_cases c11 : m.fin < m.beg
  ·refine z7b true 117 121 (by simp [c11]) (by rw [hT]; kernel_rfl) (by rw [hT]; kernel_rfl) ?_
   have hz : Z = false := hno2 (by omega)
   simp (maxSteps := 1000000) (disch := first | omega | (simp; done) | (simp; omega)) [z7a, z1a, z0a, hQ7, hQ6, hQ5, hQ4, hQ3, hQ9, kT, hz]
  rw [hT]; clear hT
  by_cases c12 : 1099511627776 < m.fin
  ·have hz : Z = false := hno2 (by omega)
   simp (maxSteps := 1000000) (disch := first | omega | (simp; done) | (simp; omega)) [z7a, z1a, z0a, hQ7, hQ6, hQ5, hQ4, hQ3, hQ9, kT, hz, z0s, hmll, c1, c2, c3, c4, c5, c6, c7, c8, c9, c10, c11, c12]
  simp (maxSteps := 1000000) (disch := first | omega | (simp; done) | (simp; omega)) [z7a, z1a, z0a, z0s, hmll, c1, c2, c3, c4, c5, c6, c7, c8, c9, c10, c11, c12, hQ7, hQ6, hQ5, hQ4, kF]
  have hyes : z2ha m = true := hiff.2 (by omega)
  refine ⟨i + 1, by omega, ⟨by omega, fun j hj => ?_⟩, by omega⟩
  rcases hst j hj with h | h
  ·exact he j h
  ·rw [h, ← hX]; exact hyes
 ·obtain rfl : i = x.made.length := by omega
  have hall := z27b he
  have hzz : Z = if x.kind = 0 then z2L x (z1sa x.time x.mode) else inR x.kind 1 27 && (x.cmd.kind == x.kind) && (!z7La x.kind || decide (x.cmd.data = [])) := by
   have q1 : inR x.time 0 z1Za = true := (z13 _ _ _).2 (by simp only [z1Za]; omega)
   have q2 : inR x.req 0 z0ua = true := (z13 _ _ _).2 (by simp only [z0ua]; omega)
   have q3 : inR x.mode 1 5 = true := (z13 _ _ _).2 (by omega)
   have q4 : decide (x.made.length ≤ 4096) = true := by simp only [decide_eq_true_eq]; omega
   have q5 : decide (x.gone.length ≤ 4096) = true := by simp only [decide_eq_true_eq]; omega
   simp only [hZ, okE, q1, q2, q3, q4, q5, hall, Bool.true_and]
  simp (maxSteps := 1000000) (disch := first | omega | (simp; done) | (simp; omega)) [z7a, z1a, z0a, z4t, kF, kT, dT, dF, hQ4, hQ3, e28, hl]
  have hzp := z2ea (nl := nc) (nl' := none) hx.2.1 z68
  have hzq := z5Q x.cmd z9y nc none
  rw [show z2k z9y none = [i64 0, i64 0, i64 0, i64 0, i64 0, i64 0, st [], .sl .plain none 0 []] from rfl] at hzp hzq
  by_cases hk : x.kind = 0
  ·rw [if_pos hk] at hzz
   have eqz : z7J (ks8 16) (bys x.dig) (bys (z2c 16)) = decide (x.dig = z6Tb) := z1b hd rfl
   simp only [z6t]
   rw [z8y]
   refine z3a fun Q1 hQ1 => ?_
   refine z9j fun B hB => ?_
   simp (maxSteps := 1000000) (disch := first | omega | (simp; done) | (simp; omega)) [z7a, z1a, z0a, hl, hk]
   rw [hB]; clear hB
   rw [z5b]
   refine ⟨by simp, fun _ => ?_, fun h => by simp at h⟩
   refine z9j fun B hB => ?_
   simp (maxSteps := 1000000) (disch := first | omega | (simp; done) | (simp; omega)) [z7a, z1a, z0a, hl, h149, hzp, hzq]
   rw [hB]; clear hB
   rw [z8y]
   refine z3a fun Q2 hQ2 => ?_
   rw [z2r]
   refine z2b fun T hT => ?_
   simp (maxSteps := 1000000) (disch := first | omega | (simp; done) | (simp; omega)) [z7a, z1a, z0a, z0J, hl, e28, e29, hg, eqz, hd]
   by_cases d1 : x.req = 0
   rotate_left
   ·refine z7b false 132 2 (by simp [d1]) (by rw [hT]; kernel_rfl) (by rw [hT]; kernel_rfl) ?_
    have hz : Z = false := by rw [hzz]; simp [z2L, z1sa, d1]
    simp (maxSteps := 1000000) (disch := first | omega | (simp; done) | (simp; omega)) [z7a, z1a, z0a, hQ2, hQ1, hQ9, hz]
   rw [hT]; clear hT
   refine z2b fun T hT => ?_
   simp (maxSteps := 1000000) (disch := first | omega | (simp; done) | (simp; omega)) [z7a, z1a, z0a, z9I, hl, e28, e29, hg, eqz, hd, d1]
   by_cases d2 : z2la x.cmd z9y = true
   rotate_left
   ·refine z7b false 135 2 (by simp [d2]) (by rw [hT]; kernel_rfl) (by rw [hT]; kernel_rfl) ?_
    have hz : Z = false := by rw [hzz]; simp [z2L, z1sa, d2]
    simp (maxSteps := 1000000) (disch := first | omega | (simp; done) | (simp; omega)) [z7a, z1a, z0a, hQ2, hQ1, hQ9, hz]
   rw [hT]; clear hT
   refine z2b fun T hT => ?_
   simp (maxSteps := 1000000) (disch := first | omega | (simp; done) | (simp; omega)) [z7a, z1a, z0a, z0H, hl, e28, e29, hg, eqz, hd, d1, d2]
   by_cases d3 : x.dig = z6Tb
   rotate_left
   ·refine z7b false 141 2 (by simp [d3]) (by rw [hT]; kernel_rfl) (by rw [hT]; kernel_rfl) ?_
    have hz : Z = false := by rw [hzz]; simp [z2L, z1sa, d3]
    simp (maxSteps := 1000000) (disch := first | omega | (simp; done) | (simp; omega)) [z7a, z1a, z0a, hQ2, hQ1, hQ9, hz]
   rw [hT]; clear hT
   refine z2b fun T hT => ?_
   simp (maxSteps := 1000000) (disch := first | omega | (simp; done) | (simp; omega)) [z7a, z1a, z0a, z5F, hl, e28, e29, hg, eqz, hd, d1, d2, d3]
   by_cases d4 : x.made = []
   rotate_left
   ·refine z7b false 147 2 (by simp [d4]) (by rw [hT]; kernel_rfl) (by rw [hT]; kernel_rfl) ?_
    have hz : Z = false := by rw [hzz]; simp [z2L, z1sa, d4]
    simp (maxSteps := 1000000) (disch := first | omega | (simp; done) | (simp; omega)) [z7a, z1a, z0a, hQ2, hQ1, hQ9, hz]
   rw [hT]; clear hT
   by_cases d5 : x.gone = []
   rotate_left
   ·have hz : Z = false := by rw [hzz]; simp [z2L, z1sa, d5]
    simp (maxSteps := 1000000) (disch := first | omega | (simp; done) | (simp; omega)) [z7a, z1a, z0a, hQ2, hQ1, hQ9, hz, z5r, hl, e28, e29, hg, eqz, hd, d1, d2, d3, d4, d5]
   have hz : Z = true := by rw [hzz]; simp [z2L, z1sa, d1, d2, d3, d4, d5, hk]
   simp (maxSteps := 1000000) (disch := first | omega | (simp; done) | (simp; omega)) [z7a, z1a, z0a, z5r, hl, e28, e29, hg, eqz, hd, d1, d2, d3, d4, d5, hQ2, hQ1, hQ9, hz]
  ·rw [if_neg hk] at hzz
   have hp2 := z6La (nl := nc) hx.2.1
   have hq2 := z7ma x.cmd nc
   have hp3 := z2ea (nl := nc) (nl' := nc) hx.2.1 (z4ga hx.2.1)
   have hq3 := z5Q x.cmd (z4la x.cmd) nc nc
   simp only [z6t]
   rw [z8y]
   refine z3a fun Q1 hQ1 => ?_
   refine z9j fun B hB => ?_
   simp (maxSteps := 1000000) (disch := first | omega | (simp; done) | (simp; omega)) [z7a, z1a, z0a, hl, hk]
   rw [hB]; clear hB
   rw [z5b]
   refine ⟨by simp [hk], fun h => by simp [hk] at h, fun _ => ?_⟩
   simp (maxSteps := 1000000) (disch := first | omega | (simp; done) | (simp; omega)) [z7a, z1a, z0a, hQ1]
   simp only [z5K]
   refine z9j fun B hB => ?_
   simp (maxSteps := 1000000) (disch := first | omega | (simp; done) | (simp; omega)) [z7a, z1a, z0a, hl, h149, h327, hp2, hq2, hp3, hq3]
   rw [hB]; clear hB
   rw [z8y]
   refine z3a fun Q2 hQ2 => ?_
   rw [z2r]
   refine z2b fun T hT => ?_
   simp (maxSteps := 1000000) (disch := first | omega | (simp; done) | (simp; omega)) [z7a, z1a, z0a, z4E, hl]
   by_cases d1 : 1 ≤ x.kind
   rotate_left
   ·refine z7b false 162 2 (by simp [d1]) (by rw [hT]; kernel_rfl) (by rw [hT]; kernel_rfl) ?_
    have hz : Z = false := by rw [hzz]; simp [inR, d1]
    simp (maxSteps := 1000000) (disch := first | omega | (simp; done) | (simp; omega)) [z7a, z1a, z0a, hQ2, hQ9, hz]
   rw [hT]; clear hT
   refine z2b fun T hT => ?_
   simp (maxSteps := 1000000) (disch := first | omega | (simp; done) | (simp; omega)) [z7a, z1a, z0a, z6E, hl, d1]
   by_cases d2 : x.kind ≤ 27
   rotate_left
   ·refine z7b false 167 2 (by simp [d2]) (by rw [hT]; kernel_rfl) (by rw [hT]; kernel_rfl) ?_
    have hz : Z = false := by rw [hzz]; simp [inR, d2]
    simp (maxSteps := 1000000) (disch := first | omega | (simp; done) | (simp; omega)) [z7a, z1a, z0a, hQ2, hQ9, hz]
   rw [hT]; clear hT
   refine z2b fun T hT => ?_
   simp (maxSteps := 1000000) (disch := first | omega | (simp; done) | (simp; omega)) [z7a, z1a, z0a, z3H, hl, d1, d2]
   by_cases d3 : x.cmd.kind = x.kind
   rotate_left
   ·refine z7b false 175 2 (by simp [d3]) (by rw [hT]; kernel_rfl) (by rw [hT]; kernel_rfl) ?_
    have hz : Z = false := by rw [hzz]; simp [inR, d3]
    simp (maxSteps := 1000000) (disch := first | omega | (simp; done) | (simp; omega)) [z7a, z1a, z0a, hQ2, hQ9, hz]
   rw [hT]; clear hT
   have hz : Z = z2la x.cmd (z4la x.cmd) := by rw [hzz, z9wb, d3]; simp [inR, d1, d2]
   simp (maxSteps := 1000000) (disch := first | omega | (simp; done) | (simp; omega)) [z7a, z1a, z0a, z8G, hl, d1, d2, d3, hQ2, hQ9, hz]
end Go.Abs
end

section
namespace Go.Abs
set_option maxRecDepth 100000
theorem z27a {α : Type} {a b : List α} {i : Nat} (h1 : i < a.length) (h2 : i < b.length) (he : a.take i = b.take i) (h : a[i] = b[i]) : a.take (i + 1) = b.take (i + 1) := by
 rw [List.take_succ_eq_append_getElem h1, List.take_succ_eq_append_getElem h2, he, h]
theorem z85a {α : Type} {a b : List α} (h : a.length = b.length) (he : a.take a.length = b.take a.length) : a = b := by
 rw [List.take_length, h, List.take_length] at he
 exact he
set_option maxHeartbeats 16000000 in
theorem z2Kb (E : Env) (h149 : E.G 149 = z4X) : ∀ ds, z8ha.pre ds → ds.length = z4h.n ∧ awp E z4h.body (z9t z4h.res (z8ha.post ds)) (z6c z4h.wr ds) := by
 rintro _ ⟨nc, nm, ng, nc', nm', ng', x, y, hx, hy, rfl⟩
 rw [z3M hx hy]
 have hd := hx.1.2.2.2.2.2.1
 have hd' := hy.1.2.2.2.2.2.1
 have hl := z9c (nc := nc) (nm := nm) (ng := ng) hd
 have hl' := z9c (nc := nc') (nm := nm') (ng := ng') hd'
 have e28 := z9ba (nc := nc) (nm := nm) (ng := ng) hd
 have e29 := z1fa (nc := nc) (nm := nm) (ng := ng) hd
 have e28' := z9ba (nc := nc') (nm := nm') (ng := ng') hd'
 have e29' := z1fa (nc := nc') (nm := nm') (ng := ng') hd'
 have hg := z19 (nc := nc) (nm := nm) (ng := ng) hd
 have hg' := z19 (nc := nc') (nm := nm') (ng := ng') hd'
 have h16 := hx.1.2.2.2.2.2.2.1
 have h16' := hy.1.2.2.2.2.2.2.1
 have hlen := z6p (z0h h16)
 have hlen' := z6p (z0h h16')
 have hml := hx.2.2.1
 have hgl := hx.2.2.2
 have eqd := z1b hd hd'
 have hp3 := z2ea (nl := nc) (nl' := nc') hx.2.1 hy.2.1
 have hq3 := z5Q x.cmd y.cmd nc nc'
 obtain ⟨Z, hZ⟩ : ∃ Z, Z = z2L x y := ⟨_, rfl⟩
 rw [← hZ]
 have hzn : x ≠ y → Z = false := fun h => by
  cases hc : z2L x y
  ·rw [hZ, hc]
  ·exact absurd ((z9Ba x y).1 hc) h
 refine ⟨rfl, ?_⟩
 simp only [z4h]
 refine z3a fun Q9 hQ9 => ?_
 refine z9j fun B hB => ?_
 simp (maxSteps := 1000000) (disch := first | omega | (simp; done) | (simp; omega)) [z7a, z1a, z0a, hl, hl']
 rw [hB]; clear hB
 rw [z8y]
 refine z3a fun Q1 hQ1 => ?_
 rw [z8y]
 refine z3a fun Q2 hQ2 => ?_
 rw [z2r]
 refine z2b fun T hT => ?_
 simp (maxSteps := 1000000) (disch := first | omega | (simp; done) | (simp; omega)) [z7a, z1a, z0a, z7N, hl, hl', e28, e29, e28', e29', hg, hg', eqd, hd, hd']
 by_cases b1 : x.time = y.time
 rotate_left
 ·refine z7b true 12 57 (by simp [b1]) (by rw [hT]; kernel_rfl) (by rw [hT]; kernel_rfl) ?_
  have hz : Z = false := hzn (fun e => by rw [e] at b1; exact b1 rfl)
  simp (maxSteps := 1000000) (disch := first | omega | (simp; done) | (simp; omega)) [z7a, z1a, z0a, hQ2, hQ1, hQ9, kT, hz]
 rw [hT]; clear hT
 refine z2b fun T hT => ?_
 simp (maxSteps := 1000000) (disch := first | omega | (simp; done) | (simp; omega)) [z7a, z1a, z0a, z0O, hl, hl', e28, e29, e28', e29', hg, hg', eqd, hd, hd', b1]
 by_cases b2 : x.kind = y.kind
 rotate_left
 ·refine z7b true 19 57 (by simp [b2]) (by rw [hT]; kernel_rfl) (by rw [hT]; kernel_rfl) ?_
  have hz : Z = false := hzn (fun e => by rw [e] at b2; exact b2 rfl)
  simp (maxSteps := 1000000) (disch := first | omega | (simp; done) | (simp; omega)) [z7a, z1a, z0a, hQ2, hQ1, hQ9, kT, hz]
 rw [hT]; clear hT
 refine z2b fun T hT => ?_
 simp (maxSteps := 1000000) (disch := first | omega | (simp; done) | (simp; omega)) [z7a, z1a, z0a, z6N, hl, hl', e28, e29, e28', e29', hg, hg', eqd, hd, hd', b1, b2]
 by_cases b3 : x.req = y.req
 rotate_left
 ·refine z7b true 26 57 (by simp [b3]) (by rw [hT]; kernel_rfl) (by rw [hT]; kernel_rfl) ?_
  have hz : Z = false := hzn (fun e => by rw [e] at b3; exact b3 rfl)
  simp (maxSteps := 1000000) (disch := first | omega | (simp; done) | (simp; omega)) [z7a, z1a, z0a, hQ2, hQ1, hQ9, kT, hz]
 rw [hT]; clear hT
 refine z2b fun T hT => ?_
 simp (maxSteps := 1000000) (disch := first | omega | (simp; done) | (simp; omega)) [z7a, z1a, z0a, z9N, hl, hl', e28, e29, e28', e29', hg, hg', eqd, hd, hd', b1, b2, b3]
 by_cases b4 : x.mode = y.mode
 rotate_left
 ·refine z7b true 33 57 (by simp [b4]) (by rw [hT]; kernel_rfl) (by rw [hT]; kernel_rfl) ?_
  have hz : Z = false := hzn (fun e => by rw [e] at b4; exact b4 rfl)
  simp (maxSteps := 1000000) (disch := first | omega | (simp; done) | (simp; omega)) [z7a, z1a, z0a, hQ2, hQ1, hQ9, kT, hz]
 rw [hT]; clear hT
 refine z2b fun T hT => ?_
 simp (maxSteps := 1000000) (disch := first | omega | (simp; done) | (simp; omega)) [z7a, z1a, z0a, z1O, hl, hl', e28, e29, e28', e29', hg, hg', eqd, hd, hd', b1, b2, b3, b4]
 by_cases b5 : x.dig = y.dig
 rotate_left
 ·refine z7b true 40 57 (by simp [b5]) (by rw [hT]; kernel_rfl) (by rw [hT]; kernel_rfl) ?_
  have hz : Z = false := hzn (fun e => by rw [e] at b5; exact b5 rfl)
  simp (maxSteps := 1000000) (disch := first | omega | (simp; done) | (simp; omega)) [z7a, z1a, z0a, hQ2, hQ1, hQ9, kT, hz]
 rw [hT]; clear hT
 refine z2b fun T hT => ?_
 simp (maxSteps := 1000000) (disch := first | omega | (simp; done) | (simp; omega)) [z7a, z1a, z0a, z9M, hl, hl', e28, e29, e28', e29', hg, hg', eqd, hd, hd', b1, b2, b3, b4, b5]
 by_cases b6 : (x.made.length : Int) = y.made.length
 rotate_left
 ·refine z7b true 49 57 (by simp [b6]) (by rw [hT]; kernel_rfl) (by rw [hT]; kernel_rfl) ?_
  have hz : Z = false := hzn (fun e => by rw [e] at b6; exact b6 rfl)
  simp (maxSteps := 1000000) (disch := first | omega | (simp; done) | (simp; omega)) [z7a, z1a, z0a, hQ2, hQ1, hQ9, kT, hz]
 rw [hT]; clear hT
 by_cases b7 : (x.gone.length : Int) = y.gone.length
 rotate_left
 ·have hz : Z = false := hzn (fun e => by rw [e] at b7; exact b7 rfl)
  simp (maxSteps := 1000000) (disch := first | omega | (simp; done) | (simp; omega)) [z7a, z1a, z0a, hQ2, hQ1, hQ9, kT, hz, z5v, hl, hl', e28, e29, e28', e29', hg, hg', eqd, hd, hd', b1, b2, b3, b4, b5, b6, b7]
 simp (maxSteps := 1000000) (disch := first | omega | (simp; done) | (simp; omega)) [z7a, z1a, z0a, z5v, hl, hl', e28, e29, e28', e29', hg, hg', eqd, hd, hd', b1, b2, b3, b4, b5, b6, b7, hQ2, hQ1, kF]
 simp (maxSteps := 1000000) (disch := first | omega | (simp; done) | (simp; omega)) [z7a, z1a, z0a, z4N]
 refine z3a fun Q3 hQ3 => ?_
 refine z3d (fun i : Nat => ⟨[(0, .agg (z5k nc nm ng x)), (1, .agg (z5k nc' nm' ng' y))], [(2, .bp 2 0), (3, .bp 3 0), (5, i64 i)], [(2, some (z5k nc nm ng x)), (3, some (z5k nc' nm' ng' y))]⟩)
  (fun i => x.made.length - i) (fun i => i ≤ x.made.length ∧ x.made.take i = y.made.take i) 0 (by simp) (by simp) fun i hi => ?_
 obtain ⟨hi, he⟩ := hi
 refine z3a fun Q4 hQ4 => ?_
 by_cases h1 : i < x.made.length
 ·have h3 : i < y.made.length := by omega
  have a1 := z2xa h16 h1
  have a2 := z2xa h16' h3
  have l1 : 24 ≤ x.made.length * 24 - i * 24 := by omega
  have l2 : 24 ≤ y.made.length * 24 - i * 24 := by omega
  have l3 : i * 24 ≤ x.made.length * 24 := by omega
  have l4 : i * 24 ≤ y.made.length * 24 := by omega
  have d1 := (h16 _ (z4Ba h1)).2.2.2.2.2.2.2
  have d2 := (h16' _ (z4Ba h3)).2.2.2.2.2.2.2
  have hq := eqM d1 d2
  have ho1 := z8Sc d1
  have ho2 := z8Sc d2
  by_cases h2 : atM x.made i = atM y.made i
  ·have h2' : x.made[i] = y.made[i] := by rw [← z49 h1, ← z49 h3, h2]
   rw [← h2] at a2 ho2 hq
   simp only [decide_true] at hq
   simp (maxSteps := 1000000) (disch := first | omega | (simp; done) | (simp; omega)) [z7a, z1a, z0a, z5o, z4v, kT, kF, dT, dF, h1, h3, e28, e28', hl, hl', hlen, hlen', a1, a2, l1, l2, l3, l4, hq, ho1, hQ4]
   exact ⟨i + 1, by omega, ⟨by omega, z27a h1 h3 he h2'⟩, by omega⟩
  ·have hz : Z = false := hzn (fun e => h2 (by rw [e]))
   have hq' : z7J kM (z8u (atM x.made i)) (z8u (atM y.made i)) = false := by rw [hq]; simpa using h2
   simp (maxSteps := 1000000) (disch := first | omega | (simp; done) | (simp; omega)) [z7a, z1a, z0a, z5o, z4v, kT, kF, dT, dF, h1, h3, e28, e28', hl, hl', hlen, hlen', a1, a2, l1, l2, l3, l4, hq', ho1, ho2, hQ4, hQ3, hQ9, hz]
 ·have hie : i = x.made.length := by omega
  rw [hie] at he
  have hmade : x.made = y.made := z85a (by omega) he
  simp (maxSteps := 1000000) (disch := first | omega | (simp; done) | (simp; omega)) [z7a, z1a, z0a, z5o, kT, kF, dT, dF, h1, e28, hl, hQ4, hQ3, z3N]
  refine z3a fun Q5 hQ5 => ?_
  refine z3d (fun i : Nat => ⟨[(0, .agg (z5k nc nm ng x)), (1, .agg (z5k nc' nm' ng' y))], [(2, .bp 2 0), (3, .bp 3 0), (6, i64 i)], [(2, some (z5k nc nm ng x)), (3, some (z5k nc' nm' ng' y))]⟩)
   (fun i => x.gone.length - i) (fun i => i ≤ x.gone.length ∧ x.gone.take i = y.gone.take i) 0 (by simp) (by simp) fun j hj => ?_
  obtain ⟨hj, hf⟩ := hj
  refine z3a fun Q6 hQ6 => ?_
  by_cases g1 : j < x.gone.length
  ·have g3 : j < y.gone.length := by omega
   by_cases g2 : atI x.gone j = atI y.gone j
   ·have g2' : x.gone[j] = y.gone[j] := by simpa [atI, List.getD, List.getElem?_eq_getElem g1, List.getElem?_eq_getElem g3] using g2
    simp (maxSteps := 1000000) (disch := first | omega | (simp; done) | (simp; omega)) [z7a, z1a, z0a, z6o, z7v, kT, kF, dT, dF, z03, g1, g3, g2, e29, e29', hl, hl', hQ6]
    exact ⟨by omega, by omega, j + 1, by omega, ⟨by omega, z27a g1 g3 hf g2'⟩, by omega⟩
   ·have hz : Z = false := hzn (fun e => g2 (by rw [e]))
    simp (maxSteps := 1000000) (disch := first | omega | (simp; done) | (simp; omega)) [z7a, z1a, z0a, z6o, z7v, kT, kF, dT, dF, z03, g1, g3, g2, e29, e29', hl, hl', hQ6, hQ5, hQ9, hz]
    exact ⟨by omega, by omega⟩
  ·have hje : j = x.gone.length := by omega
   rw [hje] at hf
   have hgone : x.gone = y.gone := z85a (by omega) hf
   have hz : Z = z2la x.cmd y.cmd := by
    rw [hZ]
    simp [z2L, b1, b2, b3, b4, b5, hmade, hgone]
   simp (maxSteps := 1000000) (disch := first | omega | (simp; done) | (simp; omega)) [z7a, z1a, z0a, z6o, kT, kF, dT, dF, g1, e29, hl, hQ6, hQ5, z5N, hl', h149, hp3, hq3, hQ9, hz]
end Go.Abs
end
