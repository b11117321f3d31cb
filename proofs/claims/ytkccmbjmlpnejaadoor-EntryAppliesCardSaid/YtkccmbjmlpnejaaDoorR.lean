/- Lemmas: an abstract interpreter, and what the functions compute. -/
import Derived.Test.YtkccmbjmlpnejaaDoorP
import Derived.Test.YtkccmbjmlpnejaaDoorQ
import Derived.Test.YtkccmbjmlpnejaaDoorN
import Derived.Test.YtkccmbjmlpnejaaDoorD
import Derived.KernelRfl
import Derived.Test.YtkccmbjmlpnejaaDoorT
set_option linter.unusedSimpArgs false
set_option linter.unusedVariables false
set_option linter.unusedSectionVars false
section
namespace Go.Abs
set_option maxRecDepth 100000
theorem z5Gb {m : z0f} (h : z6k m.uses) : z3ha m = true ↔ 1 ≤ m.id ∧ m.id ≤ 2147483647 ∧ 1 ≤ m.ver ∧ m.ver ≤ 2147483647 ∧ 0 ≤ m.par ∧ m.par ≤ 2147483647 ∧ 0 ≤ m.ty ∧ m.ty ≤ 31 ∧ z5hb m.uses 956 = m.uses ∧ 0 ≤ m.beg ∧ m.beg ≤ m.fin ∧ 0 ≤ m.fin ∧ m.fin ≤ 1099511627776 := by
 simp only [z3ha, z15, z1ub h, Bool.and_eq_true, beq_iff_eq]
 simp only [z9la, z13a, and_assoc]
theorem z7Pc {p : z0f → Bool} {l : List z0f} {i : Nat} (h : i < l.length) (hp : p (atD l i) = false) : l.all p = false := by
 cases ha : l.all p with
 | false => rfl
 | true =>
  have := List.all_eq_true.1 ha _ (z4fa h)
  rw [hp] at this
  cases this
theorem z50b {p : z0f → Bool} {l : List z0f} (h : ∀ j < l.length, p (atD l j) = true) : l.all p = true := by
 rw [List.all_eq_true]
 intro x hx
 obtain ⟨i, hi, rfl⟩ := List.mem_iff_getElem.1 hx
 rw [← z4ba hi]
 exact h i hi
theorem z3Pb (c : Cmd) : z6za c (z9Da c) = (!z8cb c.kind || decide (c.data = [])) := by
 unfold z9Da
 cases hs : z8cb c.kind
 ·simp [z6za]
 ·obtain ⟨k1, k2, k3, k4, k5, k6, dt, ls⟩ := c
  simp [z6za]
  cases dt <;> rfl
set_option maxHeartbeats 16000000 in
theorem z46b (E : Env) (h149 : E.G 149 = z08) (h327 : E.G 327 = z41a) : ∀ ds, z47a.pre ds → ds.length = z5h.n ∧ awp E z5h.body (z9u z5h.res (z47a.post ds)) (z8c z5h.wr ds) := by
 rintro _ ⟨nc, nm, ng, x, hx, rfl⟩
 rw [z2ha hx]
 have h16 := hx.1.2.2.2.2.2.2.1
 have hd := hx.1.2.2.2.2.2.1
 have hml := hx.2.2.1
 have hgl := hx.2.2.2
 have hl := z6d (nc := nc) (nm := nm) (ng := ng) hd
 have e28 := z2ka (nc := nc) (nm := nm) (ng := ng) hd
 have e29 := z9sa (nc := nc) (nm := nm) (ng := ng) hd
 have hg := z5za (nc := nc) (nm := nm) (ng := ng) hd
 have hlen := z0d (z6b h16)
 obtain ⟨Z, hZ⟩ : ∃ Z, Z = okE x := ⟨_, rfl⟩
 rw [← hZ]
 have hzl : ¬ (0 ≤ x.time ∧ x.time ≤ 1099511627776 ∧ 0 ≤ x.req ∧ x.req ≤ 2147483647 ∧ 1 ≤ x.mode ∧ x.mode ≤ 5 ∧ x.made.length ≤ 4096 ∧ x.gone.length ≤ 4096) → Z = false := fun h => by
  cases hc : okE x
  ·rw [hZ, hc]
  ·exact absurd (z4ga hc) h
 refine ⟨rfl, ?_⟩
 simp only [z5h]
 refine z3a fun Q9 hQ9 => ?_
 refine z2s fun B hB => ?_
 simp (maxSteps := 1000000) (disch := first | omega | (simp; done) | (simp; omega)) [z7a, z1a, z0a, hl]
 rw [hB]; clear hB
 rw [z9F]
 refine z3a fun Q1 hQ1 => ?_
 rw [z9F]
 refine z3a fun Q2 hQ2 => ?_
 rw [z0x]
 refine z4b fun T hT => ?_
 simp (maxSteps := 1000000) (disch := first | omega | (simp; done) | (simp; omega)) [z7a, z1a, z0a, z7N, hl, e28, e29]
 by_cases b1 : x.time < 0
 ·refine z7c true 10 46 (by simp [b1]) (by rw [hT]; kernel_rfl) (by rw [hT]; kernel_rfl) ?_
  have hz : Z = false := hzl (by omega)
  simp (maxSteps := 1000000) (disch := first | omega | (simp; done) | (simp; omega)) [z7a, z1a, z0a, hQ2, hQ1, hQ9, kT, hz]
 rw [hT]; clear hT
 refine z4b fun T hT => ?_
 simp (maxSteps := 1000000) (disch := first | omega | (simp; done) | (simp; omega)) [z7a, z1a, z0a, z4O, hl, e28, e29, b1]
 by_cases b2 : 1099511627776 < x.time
 ·refine z7c true 15 46 (by simp [b2]) (by rw [hT]; kernel_rfl) (by rw [hT]; kernel_rfl) ?_
  have hz : Z = false := hzl (by omega)
  simp (maxSteps := 1000000) (disch := first | omega | (simp; done) | (simp; omega)) [z7a, z1a, z0a, hQ2, hQ1, hQ9, kT, hz]
 rw [hT]; clear hT
 refine z4b fun T hT => ?_
 simp (maxSteps := 1000000) (disch := first | omega | (simp; done) | (simp; omega)) [z7a, z1a, z0a, z4M, hl, e28, e29, b1, b2]
 by_cases b3 : x.req < 0
 ·refine z7c true 20 46 (by simp [b3]) (by rw [hT]; kernel_rfl) (by rw [hT]; kernel_rfl) ?_
  have hz : Z = false := hzl (by omega)
  simp (maxSteps := 1000000) (disch := first | omega | (simp; done) | (simp; omega)) [z7a, z1a, z0a, hQ2, hQ1, hQ9, kT, hz]
 rw [hT]; clear hT
 refine z4b fun T hT => ?_
 simp (maxSteps := 1000000) (disch := first | omega | (simp; done) | (simp; omega)) [z7a, z1a, z0a, z3N, hl, e28, e29, b1, b2, b3]
 by_cases b4 : 2147483647 < x.req
 ·refine z7c true 25 46 (by simp [b4]) (by rw [hT]; kernel_rfl) (by rw [hT]; kernel_rfl) ?_
  have hz : Z = false := hzl (by omega)
  simp (maxSteps := 1000000) (disch := first | omega | (simp; done) | (simp; omega)) [z7a, z1a, z0a, hQ2, hQ1, hQ9, kT, hz]
 rw [hT]; clear hT
 refine z4b fun T hT => ?_
 simp (maxSteps := 1000000) (disch := first | omega | (simp; done) | (simp; omega)) [z7a, z1a, z0a, z1O, hl, e28, e29, b1, b2, b3, b4]
 by_cases b5 : x.mode < 1
 ·refine z7c true 30 46 (by simp [b5]) (by rw [hT]; kernel_rfl) (by rw [hT]; kernel_rfl) ?_
  have hz : Z = false := hzl (by omega)
  simp (maxSteps := 1000000) (disch := first | omega | (simp; done) | (simp; omega)) [z7a, z1a, z0a, hQ2, hQ1, hQ9, kT, hz]
 rw [hT]; clear hT
 refine z4b fun T hT => ?_
 simp (maxSteps := 1000000) (disch := first | omega | (simp; done) | (simp; omega)) [z7a, z1a, z0a, z6O, hl, e28, e29, b1, b2, b3, b4, b5]
 by_cases b6 : 5 < x.mode
 ·refine z7c true 35 46 (by simp [b6]) (by rw [hT]; kernel_rfl) (by rw [hT]; kernel_rfl) ?_
  have hz : Z = false := hzl (by omega)
  simp (maxSteps := 1000000) (disch := first | omega | (simp; done) | (simp; omega)) [z7a, z1a, z0a, hQ2, hQ1, hQ9, kT, hz]
 rw [hT]; clear hT
 refine z4b fun T hT => ?_
 simp (maxSteps := 1000000) (disch := first | omega | (simp; done) | (simp; omega)) [z7a, z1a, z0a, z9O, hl, e28, e29, b1, b2, b3, b4, b5, b6]
 by_cases b7 : 4096 < (x.made.length : Int)
 ·refine z7c true 41 46 (by simp [b7]) (by rw [hT]; kernel_rfl) (by rw [hT]; kernel_rfl) ?_
  have hz : Z = false := hzl (by omega)
  simp (maxSteps := 1000000) (disch := first | omega | (simp; done) | (simp; omega)) [z7a, z1a, z0a, hQ2, hQ1, hQ9, kT, hz]
 rw [hT]; clear hT
 by_cases b8 : 4096 < (x.gone.length : Int)
 ·have hz : Z = false := hzl (by omega)
  simp (maxSteps := 1000000) (disch := first | omega | (simp; done) | (simp; omega)) [z7a, z1a, z0a, hQ2, hQ1, hQ9, kT, hz, z1v, hl, e28, e29, b1, b2, b3, b4, b5, b6, b7, b8]
 simp (maxSteps := 1000000) (disch := first | omega | (simp; done) | (simp; omega)) [z7a, z1a, z0a, z1v, hl, e28, e29, b1, b2, b3, b4, b5, b6, b7, b8, hQ2, hQ1, kF]
 simp (maxSteps := 1000000) (disch := first | omega | (simp; done) | (simp; omega)) [z7a, z1a, z0a, z3O]
 refine z3a fun Q3 hQ3 => ?_
 refine z7d (fun i : Nat => ⟨[(0, .agg (z7k nc nm ng x))], [(1, .bp 1 0), (3, i64 i)], [(1, some (z7k nc nm ng x))]⟩)
  (fun i => x.made.length - i) (fun i => i ≤ x.made.length ∧ ∀ j < i, z3ha (atD x.made j) = true) 0 (by simp) (by simp) fun i hi => ?_
 obtain ⟨hi, he⟩ := hi
 refine z3a fun Q4 hQ4 => ?_
 by_cases h1 : i < x.made.length
 ·have hm := h16 _ (z4fa h1)
  have hmd := hm.2.2.2.2.2.2.2
  have ha := z8xa h16 h1
  have hmll := z3o hmd
  have hle : 24 ≤ x.made.length * 24 - i * 24 := by omega
  have hle2 : i * 24 ≤ x.made.length * 24 := by omega
  have hno : z3ha (atD x.made i) = false → Z = false := fun h => by
   have := z7Pc (p := z3ha) h1 h
   rw [hZ]
   simp only [okE, this]
   simp
  have hst : ∀ j < i + 1, j < i ∨ j = i := fun j hj => by omega
  obtain ⟨m, hX⟩ : ∃ m, m = atD x.made i := ⟨_, rfl⟩
  rw [← hX] at hm hmd ha hmll hno
  have sp : splice (i64 0 :: i64 0 :: i64 0 :: i64 0 :: i64 0 :: i64 0 :: i64 0 :: bo false :: bys (z9c 16)) 0 (z2q m) = z2q m := z8la hmd rfl
  have hiff := z5Gb hm.2.2.1
  have hno2 : ¬ (1 ≤ m.id ∧ m.id ≤ 2147483647 ∧ 1 ≤ m.ver ∧ m.ver ≤ 2147483647 ∧ 0 ≤ m.par ∧ m.par ≤ 2147483647 ∧ 0 ≤ m.ty ∧ m.ty ≤ 31 ∧ z5hb m.uses 956 = m.uses ∧ 0 ≤ m.beg ∧ m.beg ≤ m.fin ∧ 0 ≤ m.fin ∧ m.fin ≤ 1099511627776) → Z = false := fun h => hno (by
   cases hc : z3ha m
   ·rfl
   ·exact absurd (hiff.1 hc) h)
  simp (maxSteps := 1000000) (disch := first | omega | (simp; done) | (simp; omega)) [z7a, z1a, z0a, z8u, kT, kF, dT, dF, h1, e28, hl]
  simp only [z6N]
  rw [z9F]
  refine z3a fun Q5 hQ5 => ?_
  rw [z0ac]
  refine z3a fun Q6 hQ6 => ?_
  refine z2s fun B hB => ?_
  simp (maxSteps := 1000000) (disch := first | omega | (simp; done) | (simp; omega)) [z7a, z1a, z0a, e28, hl, hlen, hle, hle2, ha, sp, hmll, z3F, z4Q, h1]
  rw [hB]; clear hB
  rw [z9F]
  refine z3a fun Q7 hQ7 => ?_
  rw [z0x]
  refine z4b fun T hT => ?_
  simp (maxSteps := 1000000) (disch := first | omega | (simp; done) | (simp; omega)) [z7a, z1a, z0a, z1M, hmll]
  by_cases c1 : m.id < 1
  ·refine z7c true 62 121 (by simp [c1]) (by rw [hT]; kernel_rfl) (by rw [hT]; kernel_rfl) ?_
   have hz : Z = false := hno2 (by omega)
   simp (maxSteps := 1000000) (disch := first | omega | (simp; done) | (simp; omega)) [z7a, z1a, z0a, hQ7, hQ6, hQ5, hQ4, hQ3, hQ9, kT, hz]
  rw [hT]; clear hT
  refine z4b fun T hT => ?_
  simp (maxSteps := 1000000) (disch := first | omega | (simp; done) | (simp; omega)) [z7a, z1a, z0a, z1N, hmll, c1]
  by_cases c2 : 2147483647 < m.id
  ·refine z7c true 67 121 (by simp [c2]) (by rw [hT]; kernel_rfl) (by rw [hT]; kernel_rfl) ?_
   have hz : Z = false := hno2 (by omega)
   simp (maxSteps := 1000000) (disch := first | omega | (simp; done) | (simp; omega)) [z7a, z1a, z0a, hQ7, hQ6, hQ5, hQ4, hQ3, hQ9, kT, hz]
  rw [hT]; clear hT
  refine z4b fun T hT => ?_
  simp (maxSteps := 1000000) (disch := first | omega | (simp; done) | (simp; omega)) [z7a, z1a, z0a, z5G, hmll, c1, c2]
  by_cases c3 : m.ver < 1
  ·refine z7c true 72 121 (by simp [c3]) (by rw [hT]; kernel_rfl) (by rw [hT]; kernel_rfl) ?_
   have hz : Z = false := hno2 (by omega)
   simp (maxSteps := 1000000) (disch := first | omega | (simp; done) | (simp; omega)) [z7a, z1a, z0a, hQ7, hQ6, hQ5, hQ4, hQ3, hQ9, kT, hz]
  rw [hT]; clear hT
  refine z4b fun T hT => ?_
  simp (maxSteps := 1000000) (disch := first | omega | (simp; done) | (simp; omega)) [z7a, z1a, z0a, z4J, hmll, c1, c2, c3]
  by_cases c4 : 2147483647 < m.ver
  ·refine z7c true 77 121 (by simp [c4]) (by rw [hT]; kernel_rfl) (by rw [hT]; kernel_rfl) ?_
   have hz : Z = false := hno2 (by omega)
   simp (maxSteps := 1000000) (disch := first | omega | (simp; done) | (simp; omega)) [z7a, z1a, z0a, hQ7, hQ6, hQ5, hQ4, hQ3, hQ9, kT, hz]
  rw [hT]; clear hT
  refine z4b fun T hT => ?_
  simp (maxSteps := 1000000) (disch := first | omega | (simp; done) | (simp; omega)) [z7a, z1a, z0a, z6I, hmll, c1, c2, c3, c4]
  by_cases c5 : m.par < 0
  ·refine z7c true 82 121 (by simp [c5]) (by rw [hT]; kernel_rfl) (by rw [hT]; kernel_rfl) ?_
   have hz : Z = false := hno2 (by omega)
   simp (maxSteps := 1000000) (disch := first | omega | (simp; done) | (simp; omega)) [z7a, z1a, z0a, hQ7, hQ6, hQ5, hQ4, hQ3, hQ9, kT, hz]
  rw [hT]; clear hT
  refine z4b fun T hT => ?_
  simp (maxSteps := 1000000) (disch := first | omega | (simp; done) | (simp; omega)) [z7a, z1a, z0a, z9J, hmll, c1, c2, c3, c4, c5]
  by_cases c6 : 2147483647 < m.par
  ·refine z7c true 87 121 (by simp [c6]) (by rw [hT]; kernel_rfl) (by rw [hT]; kernel_rfl) ?_
   have hz : Z = false := hno2 (by omega)
   simp (maxSteps := 1000000) (disch := first | omega | (simp; done) | (simp; omega)) [z7a, z1a, z0a, hQ7, hQ6, hQ5, hQ4, hQ3, hQ9, kT, hz]
  rw [hT]; clear hT
  refine z4b fun T hT => ?_
  simp (maxSteps := 1000000) (disch := first | omega | (simp; done) | (simp; omega)) [z7a, z1a, z0a, z5J, hmll, c1, c2, c3, c4, c5, c6]
  by_cases c7 : m.ty < 0
  ·refine z7c true 92 121 (by simp [c7]) (by rw [hT]; kernel_rfl) (by rw [hT]; kernel_rfl) ?_
   have hz : Z = false := hno2 (by omega)
   simp (maxSteps := 1000000) (disch := first | omega | (simp; done) | (simp; omega)) [z7a, z1a, z0a, hQ7, hQ6, hQ5, hQ4, hQ3, hQ9, kT, hz]
  rw [hT]; clear hT
  refine z4b fun T hT => ?_
  simp (maxSteps := 1000000) (disch := first | omega | (simp; done) | (simp; omega)) [z7a, z1a, z0a, z5I, hmll, c1, c2, c3, c4, c5, c6, c7]
  by_cases c8 : 31 < m.ty
  ·refine z7c true 97 121 (by simp [c8]) (by rw [hT]; kernel_rfl) (by rw [hT]; kernel_rfl) ?_
   have hz : Z = false := hno2 (by omega)
   simp (maxSteps := 1000000) (disch := first | omega | (simp; done) | (simp; omega)) [z7a, z1a, z0a, hQ7, hQ6, hQ5, hQ4, hQ3, hQ9, kT, hz]
  rw [hT]; clear hT
  refine z4b fun T hT => ?_
  simp (maxSteps := 1000000) (disch := first | omega | (simp; done) | (simp; omega)) [z7a, z1a, z0a, z1H, hmll, c1, c2, c3, c4, c5, c6, c7, c8]
  by_cases c9 : z5hb m.uses 956 = m.uses
  rotate_left
  ·refine z7c true 105 121 (by simp [c9]) (by rw [hT]; kernel_rfl) (by rw [hT]; kernel_rfl) ?_
   have hz : Z = false := hno2 (by omega)
   simp (maxSteps := 1000000) (disch := first | omega | (simp; done) | (simp; omega)) [z7a, z1a, z0a, hQ7, hQ6, hQ5, hQ4, hQ3, hQ9, kT, hz]
  rw [hT]; clear hT
  refine z4b fun T hT => ?_
  simp (maxSteps := 1000000) (disch := first | omega | (simp; done) | (simp; omega)) [z7a, z1a, z0a, z6H, hmll, c1, c2, c3, c4, c5, c6, c7, c8, c9]
  by_cases c10 : m.beg < 0
  ·refine z7c true 110 121 (by simp [c10]) (by rw [hT]; kernel_rfl) (by rw [hT]; kernel_rfl) ?_
   have hz : Z = false := hno2 (by omega)
   simp (maxSteps := 1000000) (disch := first | omega | (simp; done) | (simp; omega)) [z7a, z1a, z0a, hQ7, hQ6, hQ5, hQ4, hQ3, hQ9, kT, hz]
  rw [hT]; clear hT
  refine z4b fun T hT => ?_
  simp (maxSteps := 1000000) (disch := first | omega | (simp; done) | (simp; omega)) [z7a, z1a, z0a, z8I, hmll, c1, c2, c3, c4, c5, c6, c7, c8, c9, c10]
  by_cases c11 : m.fin < m.beg
  ·refine z7c true 117 121 (by simp [c11]) (by rw [hT]; kernel_rfl) (by rw [hT]; kernel_rfl) ?_
   have hz : Z = false := hno2 (by omega)
   simp (maxSteps := 1000000) (disch := first | omega | (simp; done) | (simp; omega)) [z7a, z1a, z0a, hQ7, hQ6, hQ5, hQ4, hQ3, hQ9, kT, hz]
  rw [hT]; clear hT
  by_cases c12 : 1099511627776 < m.fin
  ·have hz : Z = false := hno2 (by omega)
   simp (maxSteps := 1000000) (disch := first | omega | (simp; done) | (simp; omega)) [z7a, z1a, z0a, hQ7, hQ6, hQ5, hQ4, hQ3, hQ9, kT, hz, z5t, hmll, c1, c2, c3, c4, c5, c6, c7, c8, c9, c10, c11, c12]
  simp (maxSteps := 1000000) (disch := first | omega | (simp; done) | (simp; omega)) [z7a, z1a, z0a, z5t, hmll, c1, c2, c3, c4, c5, c6, c7, c8, c9, c10, c11, c12, hQ7, hQ6, hQ5, hQ4, kF]
  have hyes : z3ha m = true := hiff.2 (by omega)
  refine ⟨i + 1, by omega, ⟨by omega, fun j hj => ?_⟩, by omega⟩
  rcases hst j hj with h | h
  ·exact he j h
  ·rw [h, ← hX]; exact hyes
 ·obtain rfl : i = x.made.length := by omega
  have hall := z50b he
  have hzz : Z = if x.kind = 0 then z80 x (z1wa x.time x.mode) else inR x.kind 1 27 && (x.cmd.kind == x.kind) && (!z8cb x.kind || decide (x.cmd.data = [])) := by
   have q1 : inR x.time 0 z13a = true := (z15 _ _ _).2 (by simp only [z13a]; omega)
   have q2 : inR x.req 0 z9la = true := (z15 _ _ _).2 (by simp only [z9la]; omega)
   have q3 : inR x.mode 1 5 = true := (z15 _ _ _).2 (by omega)
   have q4 : decide (x.made.length ≤ 4096) = true := by simp only [decide_eq_true_eq]; omega
   have q5 : decide (x.gone.length ≤ 4096) = true := by simp only [decide_eq_true_eq]; omega
   simp only [hZ, okE, q1, q2, q3, q4, q5, hall, Bool.true_and]
  simp (maxSteps := 1000000) (disch := first | omega | (simp; done) | (simp; omega)) [z7a, z1a, z0a, z8u, kF, kT, dT, dF, hQ4, hQ3, e28, hl]
  have hzp := z3za (nl := nc) (nl' := none) hx.2.1 z1ba
  have hzq := z09 x.cmd z8C nc none
  rw [show z2o z8C none = [i64 0, i64 0, i64 0, i64 0, i64 0, i64 0, st [], .sl .plain none 0 []] from rfl] at hzp hzq
  by_cases hk : x.kind = 0
  ·rw [if_pos hk] at hzz
   have eqz : z1P (ks8 16) (bys x.dig) (bys (z9c 16)) = decide (x.dig = z6Wb) := z2b hd rfl
   simp only [z4v]
   rw [z9F]
   refine z3a fun Q1 hQ1 => ?_
   refine z2s fun B hB => ?_
   simp (maxSteps := 1000000) (disch := first | omega | (simp; done) | (simp; omega)) [z7a, z1a, z0a, hl, hk]
   rw [hB]; clear hB
   rw [z3b]
   refine ⟨by simp, fun _ => ?_, fun h => by simp at h⟩
   refine z2s fun B hB => ?_
   simp (maxSteps := 1000000) (disch := first | omega | (simp; done) | (simp; omega)) [z7a, z1a, z0a, hl, h149, hzp, hzq]
   rw [hB]; clear hB
   rw [z9F]
   refine z3a fun Q2 hQ2 => ?_
   rw [z0x]
   refine z4b fun T hT => ?_
   simp (maxSteps := 1000000) (disch := first | omega | (simp; done) | (simp; omega)) [z7a, z1a, z0a, z1L, hl, e28, e29, hg, eqz, hd]
   by_cases d1 : x.req = 0
   rotate_left
   ·refine z7c false 132 2 (by simp [d1]) (by rw [hT]; kernel_rfl) (by rw [hT]; kernel_rfl) ?_
    have hz : Z = false := by rw [hzz]; simp [z80, z1wa, d1]
    simp (maxSteps := 1000000) (disch := first | omega | (simp; done) | (simp; omega)) [z7a, z1a, z0a, hQ2, hQ1, hQ9, hz]
   rw [hT]; clear hT
   refine z4b fun T hT => ?_
   simp (maxSteps := 1000000) (disch := first | omega | (simp; done) | (simp; omega)) [z7a, z1a, z0a, z8K, hl, e28, e29, hg, eqz, hd, d1]
   by_cases d2 : z6za x.cmd z8C = true
   rotate_left
   ·refine z7c false 135 2 (by simp [d2]) (by rw [hT]; kernel_rfl) (by rw [hT]; kernel_rfl) ?_
    have hz : Z = false := by rw [hzz]; simp [z80, z1wa, d2]
    simp (maxSteps := 1000000) (disch := first | omega | (simp; done) | (simp; omega)) [z7a, z1a, z0a, hQ2, hQ1, hQ9, hz]
   rw [hT]; clear hT
   refine z4b fun T hT => ?_
   simp (maxSteps := 1000000) (disch := first | omega | (simp; done) | (simp; omega)) [z7a, z1a, z0a, z8G, hl, e28, e29, hg, eqz, hd, d1, d2]
   by_cases d3 : x.dig = z6Wb
   rotate_left
   ·refine z7c false 141 2 (by simp [d3]) (by rw [hT]; kernel_rfl) (by rw [hT]; kernel_rfl) ?_
    have hz : Z = false := by rw [hzz]; simp [z80, z1wa, d3]
    simp (maxSteps := 1000000) (disch := first | omega | (simp; done) | (simp; omega)) [z7a, z1a, z0a, hQ2, hQ1, hQ9, hz]
   rw [hT]; clear hT
   refine z4b fun T hT => ?_
   simp (maxSteps := 1000000) (disch := first | omega | (simp; done) | (simp; omega)) [z7a, z1a, z0a, z9H, hl, e28, e29, hg, eqz, hd, d1, d2, d3]
   by_cases d4 : x.made = []
   rotate_left
   ·refine z7c false 147 2 (by simp [d4]) (by rw [hT]; kernel_rfl) (by rw [hT]; kernel_rfl) ?_
    have hz : Z = false := by rw [hzz]; simp [z80, z1wa, d4]
    simp (maxSteps := 1000000) (disch := first | omega | (simp; done) | (simp; omega)) [z7a, z1a, z0a, hQ2, hQ1, hQ9, hz]
   rw [hT]; clear hT
   by_cases d5 : x.gone = []
   rotate_left
   ·have hz : Z = false := by rw [hzz]; simp [z80, z1wa, d5]
    simp (maxSteps := 1000000) (disch := first | omega | (simp; done) | (simp; omega)) [z7a, z1a, z0a, hQ2, hQ1, hQ9, hz, z4s, hl, e28, e29, hg, eqz, hd, d1, d2, d3, d4, d5]
   have hz : Z = true := by rw [hzz]; simp [z80, z1wa, d1, d2, d3, d4, d5, hk]
   simp (maxSteps := 1000000) (disch := first | omega | (simp; done) | (simp; omega)) [z7a, z1a, z0a, z4s, hl, e28, e29, hg, eqz, hd, d1, d2, d3, d4, d5, hQ2, hQ1, hQ9, hz]
  ·rw [if_neg hk] at hzz
   have hp2 := z5Hb (nl := nc) hx.2.1
   have hq2 := z2Sa x.cmd nc
   have hp3 := z3za (nl := nc) (nl' := nc) hx.2.1 (z3ib hx.2.1)
   have hq3 := z09 x.cmd (z9Da x.cmd) nc nc
   simp only [z4v]
   rw [z9F]
   refine z3a fun Q1 hQ1 => ?_
   refine z2s fun B hB => ?_
   simp (maxSteps := 1000000) (disch := first | omega | (simp; done) | (simp; omega)) [z7a, z1a, z0a, hl, hk]
   rw [hB]; clear hB
   rw [z3b]
   refine ⟨by simp [hk], fun h => by simp [hk] at h, fun _ => ?_⟩
   simp (maxSteps := 1000000) (disch := first | omega | (simp; done) | (simp; omega)) [z7a, z1a, z0a, hQ1]
   simp only [z5M]
   refine z2s fun B hB => ?_
   simp (maxSteps := 1000000) (disch := first | omega | (simp; done) | (simp; omega)) [z7a, z1a, z0a, hl, h149, h327, hp2, hq2, hp3, hq3]
   rw [hB]; clear hB
   rw [z9F]
   refine z3a fun Q2 hQ2 => ?_
   rw [z0x]
   refine z4b fun T hT => ?_
   simp (maxSteps := 1000000) (disch := first | omega | (simp; done) | (simp; omega)) [z7a, z1a, z0a, z5L, hl]
   by_cases d1 : 1 ≤ x.kind
   rotate_left
   ·refine z7c false 162 2 (by simp [d1]) (by rw [hT]; kernel_rfl) (by rw [hT]; kernel_rfl) ?_
    have hz : Z = false := by rw [hzz]; simp [inR, d1]
    simp (maxSteps := 1000000) (disch := first | omega | (simp; done) | (simp; omega)) [z7a, z1a, z0a, hQ2, hQ9, hz]
   rw [hT]; clear hT
   refine z4b fun T hT => ?_
   simp (maxSteps := 1000000) (disch := first | omega | (simp; done) | (simp; omega)) [z7a, z1a, z0a, z6J, hl, d1]
   by_cases d2 : x.kind ≤ 27
   rotate_left
   ·refine z7c false 167 2 (by simp [d2]) (by rw [hT]; kernel_rfl) (by rw [hT]; kernel_rfl) ?_
    have hz : Z = false := by rw [hzz]; simp [inR, d2]
    simp (maxSteps := 1000000) (disch := first | omega | (simp; done) | (simp; omega)) [z7a, z1a, z0a, hQ2, hQ9, hz]
   rw [hT]; clear hT
   refine z4b fun T hT => ?_
   simp (maxSteps := 1000000) (disch := first | omega | (simp; done) | (simp; omega)) [z7a, z1a, z0a, z4K, hl, d1, d2]
   by_cases d3 : x.cmd.kind = x.kind
   rotate_left
   ·refine z7c false 175 2 (by simp [d3]) (by rw [hT]; kernel_rfl) (by rw [hT]; kernel_rfl) ?_
    have hz : Z = false := by rw [hzz]; simp [inR, d3]
    simp (maxSteps := 1000000) (disch := first | omega | (simp; done) | (simp; omega)) [z7a, z1a, z0a, hQ2, hQ9, hz]
   rw [hT]; clear hT
   have hz : Z = z6za x.cmd (z9Da x.cmd) := by rw [hzz, z3Pb, d3]; simp [inR, d1, d2]
   simp (maxSteps := 1000000) (disch := first | omega | (simp; done) | (simp; omega)) [z7a, z1a, z0a, z0J, hl, d1, d2, d3, hQ2, hQ9, hz]
end Go.Abs
end

section
namespace Go.Abs
set_option maxRecDepth 100000
end Go.Abs
end
