/- Lemmas: an abstract interpreter, and what the functions compute. -/
import Derived.Test.YtkccmbjmlpnejaaDoorK
import Derived.Test.YtkccmbjmlpnejaaDoorT
import Derived.Test.YtkccmbjmlpnejaaDoorD
set_option linter.unusedSimpArgs false
set_option linter.unusedVariables false
set_option linter.unusedSectionVars false
section
namespace Go.Abs
def z1dc (r : Row) : List z2a := [st r.name, bo (z2Qb r.uses 1), bo (z2Qb r.uses 2), bo (z2Qb r.uses 4), bo (z2Qb r.uses 8), bo (z2Qb r.uses 16), i64 r.least, i64 r.most]
def z0Pb : List z2a := z4Sc.flatMap z1dc
def z8Mb : z4a := ⟨fun ds => ds = [], fun _ => .sl (.own 8) (some false) 27 z0Pb⟩
@[simp] theorem z3sc : z8Mb.pre [] = True := eq_true rfl
@[simp] theorem z6kc (ds : List z2a) : z8Mb.post ds = .sl (.own 8) (some false) 27 z0Pb := rfl
def inRc (n : Int) (u : Bool) (m : Int) : Bool := decide (0 ≤ n) && decide (n ≤ if u then m else 0)
def z2Zc : z4a := ⟨fun ds => ∃ (n : Int) (u : Bool) (m : Int), ds = [i64 n, bo u, i64 m], fun ds => bo (inRc (asI (nth ds 0)) (asB (nth ds 1)) (asI (nth ds 2)))⟩
@[simp] theorem z2Yc (n m : Int) (u : Bool) : z2Zc.pre [i64 n, bo u, i64 m] = True := eq_true ⟨n, u, m, rfl⟩
@[simp] theorem z5Uc (n m : Int) (u : Bool) : z2Zc.post [i64 n, bo u, i64 m] = bo (inRc n u m) := by simp [z2Zc, nth]
def lsOk (l : List Int) (u : Bool) : Bool := if u then z88c 0 l && decide (0 < l.length) else decide (l.length = 0)
def isLC : z4a := ⟨fun ds => ∃ (nl : Option Bool) (l : List Int) (u : Bool), l.length ≤ 1000000000 ∧ ds = [.sl .plain nl l.length (z3i l), bo u], fun ds => bo (lsOk (gIs (gCs (nth ds 0))) (asB (nth ds 1)))⟩
@[simp] theorem z0Oc (nl : Option Bool) (n : Nat) (l : List Int) (u : Bool) : isLC.post [.sl .plain nl n (z3i l), bo u] = bo (lsOk l u) := by simp [isLC, nth]
@[simp] theorem z6lc (r : Row) : z5h (z1dc r) = true := by simp [z1dc, z5h]
end Go.Abs
end

section
namespace Go.Abs
set_option maxHeartbeats 4000000 in
theorem z80b (E : Env) (h29 : E.G 29 = z72) (h30 : E.G 30 = z5Ba) (h40 : E.G 40 = z5J) : ∀ ds, z0la.pre ds → ds.length = z4f.n ∧ awp E z4f.body (z9t z4f.res (z0la.post ds)) (z6c z4f.wr ds) := by
 rintro _ ⟨c, nl, hc, rfl⟩
 rw [z3oa]
 obtain ⟨k1, k2, k3, k4, k5, k6, dt, ls⟩ := c
 obtain ⟨ho, hd, hll⟩ := hc
 simp only at hd hll
 simp (maxSteps := 1000000) (disch := first | omega | (simp; done) | (simp; omega)) [z7a, z1a, z0a, z4f, z6I, z0F, z2k]
 refine z3a fun Q0 hQ0 => ?_
 simp (maxSteps := 1000000) (disch := first | omega | (simp; done) | (simp; omega)) [z7a, z1a, z0a, z1H]
 have h6 := z4mb ho
 obtain ⟨L, hL⟩ : ∃ L : List Int, L = [k1, k2, k3, k4, k5, k6] := ⟨_, rfl⟩
 have hLl : L.length = 6 := by rw [hL]; rfl
 rw [show [i64 k1, i64 k2, i64 k3, i64 k4, i64 k5, i64 k6] = z3i L by rw [hL]; rfl]
 rw [← hL] at h6
 refine z3d (fun i : Nat => ⟨[(0, .agg [i64 k1, i64 k2, i64 k3, i64 k4, i64 k5, i64 k6, st dt, .sl .plain nl ls.length (z3i ls)])], [(1, .bp 1 0), (3, .sl (.own 1) none ((L.take i).flatMap z7m).length (bys ((L.take i).flatMap z7m))), (4, .sl (.own 1) (some false) 6 (z3i L)), (5, i64 i)], [(1, some [i64 k1, i64 k2, i64 k3, i64 k4, i64 k5, i64 k6, st dt, .sl .plain nl ls.length (z3i ls)])]⟩) (fun i => 6 - i) (· ≤ 6) 0 (by simp) (by simp) fun i hi => ?_
 refine z3a fun Q1 hQ1 => ?_
 by_cases h1 : i < 6
 ·have h1' : i < L.length := by omega
  have hs := z0o L z7m 0 h1'
  rw [show L.getD i 0 = atI L i from rfl] at hs
  have ha := h6 _ (z1ra h1')
  have g2 := z6l ha
  have g3 := z7e (l := L.take i) fun x hx => h6 x (List.mem_of_mem_take hx)
  have g4 : (L.take i).length ≤ 6 := by rw [List.length_take]; omega
  generalize hF : (L.take i).flatMap z7m = F at *
  generalize hX : atI L i = x at *
  have hg : hdA (z3i (L.drop i)) = i64 x := by rw [← hX]; exact z03 h1'
  simp (maxSteps := 1000000) (disch := first | omega | (simp; done) | (simp; omega)) [z7a, z1a, z0a, z9r, z6r, z9G, kT, kF, dT, dF, h1, hg, hLl, h30, z4ma ha.1 ha.2, hQ1, -List.length_flatMap]
  exact ⟨by omega, by omega, by omega, i + 1, by omega, by omega, ⟨by rw [hs, List.length_append], hs.symm⟩, by omega⟩
 ·obtain rfl : i = 6 := by omega
  have hT : L.take 6 = L := by rw [← hLl, List.take_length]
  have h6l := z7e h6
  have e1 := z6l (n := (dt.length : Int)) (by constructor <;> omega)
  have e2 := z6l (n := (ls.length : Int)) (by constructor <;> omega)
  have e3 := z7e (l := ls) ho.2.2.2.2.2.2
  have hip : z5J.pre [.sl .plain nl ls.length (z3i ls)] = True := z0wa hll ho.2.2.2.2.2.2 rfl
  have hiq : z5J.post [.sl .plain nl ls.length (z3i ls)] = .sl (.own 1) none (z3j ls).length (bys (z3j ls)) := by rw [z5J, z06]; rfl
  have hE : z3P ⟨k1, k2, k3, k4, k5, k6, dt, ls⟩ = L.flatMap z7m ++ (z1P dt ++ z3j ls) := by rw [hL]; rfl
  rw [hE] at hQ0
  simp (maxSteps := 1000000) (disch := first | omega | (simp; done) | (simp; omega)) [z7a, z1a, z0a, z9r, z6r, kT, kF, dT, dF, hQ1, hQ0, hT, z7H, z3I, h29, z1qa, h40, hip, hiq, -z1a, -List.length_append, -List.length_flatMap]
  have e4 : (z1P dt).length = (z7m dt.length).length + dt.length := by rw [z1P, List.length_append]
  have e5 : (z3j ls).length = (z7m ls.length).length + (ls.flatMap z7m).length := by rw [z3j, List.length_append]
  refine ⟨by omega, by simp only [List.length_append] at *; omega, by simp only [List.length_append]; omega, by simp only [z2P]⟩
  --, List.length_append] at *; omega, by simp only [List.length_append]; omega, by simp only [bys_append]⟩
theorem z7cc (E : Env) (h147 : E.G 147 = z0la) (h20 : E.G 20 = z2Ja) : ∀ ds, z2ia.pre ds → ds.length = z7f.n ∧ awp E z7f.body (z9t z7f.res (z2ia.post ds)) (z6c z7f.wr ds) := by
 rintro _ ⟨c, nl, hc, rfl⟩
 rw [z7ca]
 have hl := z78 hc
 have hp : z2Ja.pre [i64 7, .sl .plain (some false) 1 [st (z3P c)]] = True := z1Ka (l := [z3P c]) rfl (by rw [z4lc]; omega)
 have hq : z2Ja.post [i64 7, .sl .plain (some false) 1 [st (z3P c)]] = .agg (bys (z2p 7 [z3P c])) := z1pa 7 _ 1 [z3P c]
 simp (maxSteps := 1000000) (disch := first | omega | (simp; done) | (simp; omega)) [z7a, z1a, z0a, z7f, z9E, h147, z3wa hc, h20, hp, hq, z7q, z2z, z0t, z4va, z8m]
end Go.Abs
end

section
namespace Go.Abs
set_option maxHeartbeats 8000000 in
theorem z1Cb (E : Env) (h54 : E.G 54 = z4H) : ∀ ds, z4X.pre ds → ds.length = z1i.n ∧ awp E z1i.body (z9t z1i.res (z4X.post ds)) (z6c z1i.wr ds) := by
 rintro _ ⟨c, d, nl, nl', hc, hd, rfl⟩
 rw [z5Q]
 obtain ⟨k1, k2, k3, k4, k5, k6, dt, ls⟩ := c
 obtain ⟨j1, j2, j3, j4, j5, j6, dt', ls'⟩ := d
 have hll := hc.2.2
 simp only at hll
 simp (maxSteps := 1000000) (disch := first | omega | (simp; done) | (simp; omega)) [z7a, z1a, z0a, z1i, z2k]
 refine z3a fun Q0 hQ0 => ?_
 simp only [z2la] at hQ0
 cases c1 : k1 == j1
 ·rw [c1] at hQ0
  simp (maxSteps := 1000000) (disch := first | omega | (simp; done) | (simp; omega)) [z7a, z1a, z0a, z5d, c1, hQ0]
 rw [c1] at hQ0
 cases c2 : k2 == j2
 ·rw [c2] at hQ0
  simp (maxSteps := 1000000) (disch := first | omega | (simp; done) | (simp; omega)) [z7a, z1a, z0a, z5d, c1, c2, hQ0]
 rw [c2] at hQ0
 cases c3 : k3 == j3
 ·rw [c3] at hQ0
  simp (maxSteps := 1000000) (disch := first | omega | (simp; done) | (simp; omega)) [z7a, z1a, z0a, z5d, c1, c2, c3, hQ0]
 rw [c3] at hQ0
 cases c4 : k4 == j4
 ·rw [c4] at hQ0
  simp (maxSteps := 1000000) (disch := first | omega | (simp; done) | (simp; omega)) [z7a, z1a, z0a, z5d, c1, c2, c3, c4, hQ0]
 rw [c4] at hQ0
 cases c5 : k5 == j5
 ·rw [c5] at hQ0
  simp (maxSteps := 1000000) (disch := first | omega | (simp; done) | (simp; omega)) [z7a, z1a, z0a, z5d, c1, c2, c3, c4, c5, hQ0]
 rw [c5] at hQ0
 cases c6 : k6 == j6
 ·rw [c6] at hQ0
  simp (maxSteps := 1000000) (disch := first | omega | (simp; done) | (simp; omega)) [z7a, z1a, z0a, z5d, c1, c2, c3, c4, c5, c6, hQ0]
 rw [c6] at hQ0
 cases c7 : dt == dt'
 ·rw [c7] at hQ0
  have d7 : (dt = dt') = False := by simpa using c7
  simp (maxSteps := 1000000) (disch := first | omega | (simp; done) | (simp; omega)) [z7a, z1a, z0a, z5d, c1, c2, c3, c4, c5, c6, d7, hQ0]
 rw [c7] at hQ0
 have d7 : (dt = dt') = True := by simpa using c7
 simp (maxSteps := 1000000) (disch := first | omega | (simp; done) | (simp; omega)) [z7a, z1a, z0a, z5d, c1, c2, c3, c4, c5, c6, d7, h54, z6za, hQ0]
end Go.Abs
end
