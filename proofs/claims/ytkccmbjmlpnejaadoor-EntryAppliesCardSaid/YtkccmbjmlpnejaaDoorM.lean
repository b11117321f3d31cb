/- Lemmas: an abstract interpreter, and what the functions compute. -/
import Derived.Test.YtkccmbjmlpnejaaDoorK
import Derived.Test.YtkccmbjmlpnejaaDoorT
import Derived.Test.YtkccmbjmlpnejaaDoorD
set_option linter.unusedSimpArgs false
set_option linter.unusedVariables false
set_option linter.unusedSectionVars false
section
namespace Go.Abs
def z03b (r : Row) : List z2a := [st r.name, bo (z2Tb r.uses 1), bo (z2Tb r.uses 2), bo (z2Tb r.uses 4), bo (z2Tb r.uses 8), bo (z2Tb r.uses 16), i64 r.least, i64 r.most]
def z7Tb : List z2a := z8Uc.flatMap z03b
def z5Wb : z5a := ⟨fun ds => ds = [], fun _ => .sl (.own 8) (some false) 27 z7Tb⟩
@[simp] theorem z9Mc : z5Wb.pre [] = True := eq_true rfl
@[simp] theorem z1rc (ds : List z2a) : z5Wb.post ds = .sl (.own 8) (some false) 27 z7Tb := rfl
def inRc (n : Int) (u : Bool) (m : Int) : Bool := decide (0 ≤ n) && decide (n ≤ if u then m else 0)
def z8hd : z5a := ⟨fun ds => ∃ (n : Int) (u : Bool) (m : Int), ds = [i64 n, bo u, i64 m], fun ds => bo (inRc (asI (nth ds 0)) (asB (nth ds 1)) (asI (nth ds 2)))⟩
@[simp] theorem z89c (n m : Int) (u : Bool) : z8hd.pre [i64 n, bo u, i64 m] = True := eq_true ⟨n, u, m, rfl⟩
@[simp] theorem z5Wc (n m : Int) (u : Bool) : z8hd.post [i64 n, bo u, i64 m] = bo (inRc n u m) := by simp [z8hd, nth]
def lsOk (l : List Int) (u : Bool) : Bool := if u then z07c 0 l && decide (0 < l.length) else decide (l.length = 0)
def isLC : z5a := ⟨fun ds => ∃ (nl : Option Bool) (l : List Int) (u : Bool), l.length ≤ 1000000000 ∧ ds = [.sl .plain nl l.length (z6j l), bo u], fun ds => bo (lsOk (gIs (gCs (nth ds 0))) (asB (nth ds 1)))⟩
@[simp] theorem z3Uc (nl : Option Bool) (n : Nat) (l : List Int) (u : Bool) : isLC.post [.sl .plain nl n (z6j l), bo u] = bo (lsOk l u) := by simp [isLC, nth]
@[simp] theorem z6lc (r : Row) : z7h (z03b r) = true := by simp [z03b, z7h]
end Go.Abs
end

section
namespace Go.Abs
set_option maxHeartbeats 4000000 in
theorem z7bc (E : Env) (h29 : E.G 29 = z7ba) (h30 : E.G 30 = z1Fa) (h40 : E.G 40 = z7pa) : ∀ ds, z9ma.pre ds → ds.length = z5g.n ∧ awp E z5g.body (z9u z5g.res (z9ma.post ds)) (z8c z5g.wr ds) := by
 rintro _ ⟨c, nl, hc, rfl⟩
 rw [z9xa]
 obtain ⟨k1, k2, k3, k4, k5, k6, dt, ls⟩ := c
 obtain ⟨ho, hd, hll⟩ := hc
 simp only at hd hll
 simp (maxSteps := 1000000) (disch := first | omega | (simp; done) | (simp; omega)) [z7a, z1a, z0a, z5g, z9G, z1J, z2o]
 refine z3a fun Q0 hQ0 => ?_
 simp (maxSteps := 1000000) (disch := first | omega | (simp; done) | (simp; omega)) [z7a, z1a, z0a, z4I]
 have h6 := z6wb ho
 obtain ⟨L, hL⟩ : ∃ L : List Int, L = [k1, k2, k3, k4, k5, k6] := ⟨_, rfl⟩
 have hLl : L.length = 6 := by rw [hL]; rfl
 rw [show [i64 k1, i64 k2, i64 k3, i64 k4, i64 k5, i64 k6] = z6j L by rw [hL]; rfl]
 rw [← hL] at h6
 refine z7d (fun i : Nat => ⟨[(0, .agg [i64 k1, i64 k2, i64 k3, i64 k4, i64 k5, i64 k6, st dt, .sl .plain nl ls.length (z6j ls)])], [(1, .bp 1 0), (3, .sl (.own 1) none ((L.take i).flatMap z7v).length (bys ((L.take i).flatMap z7v))), (4, .sl (.own 1) (some false) 6 (z6j L)), (5, i64 i)], [(1, some [i64 k1, i64 k2, i64 k3, i64 k4, i64 k5, i64 k6, st dt, .sl .plain nl ls.length (z6j ls)])]⟩) (fun i => 6 - i) (· ≤ 6) 0 (by simp) (by simp) fun i hi => ?_
 refine z3a fun Q1 hQ1 => ?_
 by_cases h1 : i < 6
 ·have h1' : i < L.length := by omega
  have hs := z5p L z7v 0 h1'
  rw [show L.getD i 0 = atI L i from rfl] at hs
  have ha := h6 _ (z7qa h1')
  have g2 := z8l ha
  have g3 := z8f (l := L.take i) fun x hx => h6 x (List.mem_of_mem_take hx)
  have g4 : (L.take i).length ≤ 6 := by rw [List.length_take]; omega
  generalize hF : (L.take i).flatMap z7v = F at *
  generalize hX : atI L i = x at *
  have hg : hdA (z6j (L.drop i)) = i64 x := by rw [← hX]; exact z1ga h1'
  simp (maxSteps := 1000000) (disch := first | omega | (simp; done) | (simp; omega)) [z7a, z1a, z0a, z1t, z0t, z9I, kT, kF, dT, dF, h1, hg, hLl, h30, z9wa ha.1 ha.2, hQ1, -List.length_flatMap]
  exact ⟨by omega, by omega, by omega, i + 1, by omega, by omega, ⟨by rw [hs, List.length_append], hs.symm⟩, by omega⟩
 ·obtain rfl : i = 6 := by omega
  have hT : L.take 6 = L := by rw [← hLl, List.take_length]
  have h6l := z8f h6
  have e1 := z8l (n := (dt.length : Int)) (by constructor <;> omega)
  have e2 := z8l (n := (ls.length : Int)) (by constructor <;> omega)
  have e3 := z8f (l := ls) ho.2.2.2.2.2.2
  have hip : z7pa.pre [.sl .plain nl ls.length (z6j ls)] = True := z2Ja hll ho.2.2.2.2.2.2 rfl
  have hiq : z7pa.post [.sl .plain nl ls.length (z6j ls)] = .sl (.own 1) none (z9q ls).length (bys (z9q ls)) := by rw [z7pa, z9ea]; rfl
  have hE : z96 ⟨k1, k2, k3, k4, k5, k6, dt, ls⟩ = L.flatMap z7v ++ (z90 dt ++ z9q ls) := by rw [hL]; rfl
  rw [hE] at hQ0
  simp (maxSteps := 1000000) (disch := first | omega | (simp; done) | (simp; omega)) [z7a, z1a, z0a, z1t, z0t, kT, kF, dT, dF, hQ1, hQ0, hT, z7G, z7H, h29, z8Ha, h40, hip, hiq, -z1a, -List.length_append, -List.length_flatMap]
  have e4 : (z90 dt).length = (z7v dt.length).length + dt.length := by rw [z90, List.length_append]
  have e5 : (z9q ls).length = (z7v ls.length).length + (ls.flatMap z7v).length := by rw [z9q, List.length_append]
  refine ⟨by omega, by simp only [List.length_append] at *; omega, by simp only [List.length_append]; omega, by simp only [z2R]⟩
  --, List.length_append] at *; omega, by simp only [List.length_append]; omega, by simp only [bys_append]⟩
theorem z1cc (E : Env) (h147 : E.G 147 = z9ma) (h20 : E.G 20 = z6rb) : ∀ ds, z0la.pre ds → ds.length = z4g.n ∧ awp E z4g.body (z9u z4g.res (z0la.post ds)) (z8c z4g.wr ds) := by
 rintro _ ⟨c, nl, hc, rfl⟩
 rw [z4oa]
 have hl := z0xa hc
 have hp : z6rb.pre [i64 7, .sl .plain (some false) 1 [st (z96 c)]] = True := z11b (l := [z96 c]) rfl (by rw [z25c]; omega)
 have hq : z6rb.post [i64 7, .sl .plain (some false) 1 [st (z96 c)]] = .agg (bys (z7L 7 [z96 c])) := z59a 7 _ 1 [z96 c]
 simp (maxSteps := 1000000) (disch := first | omega | (simp; done) | (simp; omega)) [z7a, z1a, z0a, z4g, z4G, h147, z0Pa hc, h20, hp, hq, z1o, z0s, z3A, z5Ma, z3E]
end Go.Abs
end

section
namespace Go.Abs
set_option maxHeartbeats 8000000 in
theorem z9Kb (E : Env) (h54 : E.G 54 = z1K) : ∀ ds, z08.pre ds → ds.length = z7i.n ∧ awp E z7i.body (z9u z7i.res (z08.post ds)) (z8c z7i.wr ds) := by
 rintro _ ⟨c, d, nl, nl', hc, hd, rfl⟩
 rw [z09]
 obtain ⟨k1, k2, k3, k4, k5, k6, dt, ls⟩ := c
 obtain ⟨j1, j2, j3, j4, j5, j6, dt', ls'⟩ := d
 have hll := hc.2.2
 simp only at hll
 simp (maxSteps := 1000000) (disch := first | omega | (simp; done) | (simp; omega)) [z7a, z1a, z0a, z7i, z2o]
 refine z3a fun Q0 hQ0 => ?_
 simp only [z6za] at hQ0
 cases c1 : k1 == j1
 ·rw [c1] at hQ0
  simp (maxSteps := 1000000) (disch := first | omega | (simp; done) | (simp; omega)) [z7a, z1a, z0a, z3e, c1, hQ0]
 rw [c1] at hQ0
 cases c2 : k2 == j2
 ·rw [c2] at hQ0
  simp (maxSteps := 1000000) (disch := first | omega | (simp; done) | (simp; omega)) [z7a, z1a, z0a, z3e, c1, c2, hQ0]
 rw [c2] at hQ0
 cases c3 : k3 == j3
 ·rw [c3] at hQ0
  simp (maxSteps := 1000000) (disch := first | omega | (simp; done) | (simp; omega)) [z7a, z1a, z0a, z3e, c1, c2, c3, hQ0]
 rw [c3] at hQ0
 cases c4 : k4 == j4
 ·rw [c4] at hQ0
  simp (maxSteps := 1000000) (disch := first | omega | (simp; done) | (simp; omega)) [z7a, z1a, z0a, z3e, c1, c2, c3, c4, hQ0]
 rw [c4] at hQ0
 cases c5 : k5 == j5
 ·rw [c5] at hQ0
  simp (maxSteps := 1000000) (disch := first | omega | (simp; done) | (simp; omega)) [z7a, z1a, z0a, z3e, c1, c2, c3, c4, c5, hQ0]
 rw [c5] at hQ0
 cases c6 : k6 == j6
 ·rw [c6] at hQ0
  simp (maxSteps := 1000000) (disch := first | omega | (simp; done) | (simp; omega)) [z7a, z1a, z0a, z3e, c1, c2, c3, c4, c5, c6, hQ0]
 rw [c6] at hQ0
 cases c7 : dt == dt'
 ·rw [c7] at hQ0
  have d7 : (dt = dt') = False := by simpa using c7
  simp (maxSteps := 1000000) (disch := first | omega | (simp; done) | (simp; omega)) [z7a, z1a, z0a, z3e, c1, c2, c3, c4, c5, c6, d7, hQ0]
 rw [c7] at hQ0
 have d7 : (dt = dt') = True := by simpa using c7
 simp (maxSteps := 1000000) (disch := first | omega | (simp; done) | (simp; omega)) [z7a, z1a, z0a, z3e, c1, c2, c3, c4, c5, c6, d7, h54, z1za, hQ0]
end Go.Abs
end
