/- Lemmas: an abstract interpreter, and what the functions compute. -/
import Derived.Test.YtkccmbjmlpnejaaDoorE
import Derived.Test.YtkccmbjmlpnejaaDoorT
import Derived.Test.YtkccmbjmlpnejaaDoorH
set_option linter.unusedSimpArgs false
set_option linter.unusedVariables false
set_option linter.unusedSectionVars false
section
namespace Go.Abs
@[simp] theorem z5nc (r : Row) : z5h (z5pa r) = true := by simp [z5pa, z5h]
end Go.Abs
end

section
namespace Go.Abs
@[simp] theorem z3Uc (c : Cmd) (nl : Option Bool) : (z2k c nl).length = 8 := rfl
@[simp] theorem z1wc (c : Cmd) (nl : Option Bool) : (∀ x ∈ z2k c nl, z1d x) ↔ True := by simp [z2k]
@[simp] theorem z2Lc (c : Cmd) (nl : Option Bool) : (∀ x ∈ z2k c nl, z3g x = false) ↔ True := by simp [z2k]
@[simp] theorem z6Hc (c : Cmd) (nl : Option Bool) : (z2k c nl).take 8 = z2k c nl := rfl
@[simp] theorem z9uc (c : Cmd) (nl : Option Bool) : z5h (z2k c nl) = true := by simp [z2k, z5h]
@[simp] theorem z1Oc (r : Row) : (z5pa r).length = 4 := rfl
@[simp] theorem z2yc (r : Row) : (∀ c ∈ z5pa r, z1d c) ↔ True := by simp [z5pa]
@[simp] theorem z6Oc (r : Row) : (∀ c ∈ z5pa r, z3g c = false) ↔ True := by simp [z5pa]
@[simp] theorem z8xc (r : Row) : z4k (z5pa r) = [] := by simp [z5pa, z4k]
@[simp] theorem z2vc (r : Row) : (z5pa r).take 4 = z5pa r := rfl
@[simp] theorem rowA_1 (r : Row) : hdA ((z5pa r).drop 1) = i64 r.uses := rfl
@[simp] theorem z06c (r : Row) : hdA (z5pa r).tail = i64 r.uses := rfl
@[simp] theorem rowA_2 (r : Row) : hdA ((z5pa r).drop 2) = i64 r.least := rfl
@[simp] theorem rowA_3 (r : Row) : hdA ((z5pa r).drop 3) = i64 r.most := rfl
@[simp] theorem z1Mc (r : Row) : z0d (z5pa r) = true := by simp [z5pa, z0d]
end Go.Abs
end

section
namespace Go.Abs
theorem z6Nb {c : Cmd} (h : c.ok) : ∀ x ∈ six c, z3f x := by
 obtain ⟨h1, h2, h3, h4, h5, h6, _⟩ := h
 intro x hx
 simp only [six, List.mem_cons, List.not_mem_nil, or_false] at hx
 rcases hx with rfl | rfl | rfl | rfl | rfl | rfl <;> assumption
theorem z78 {c : Cmd} (h : c.small) : (z3P c).length ≤ 2000000000 := by
 have h6 := z7e (z6Nb h.1)
 have hl := z7e (l := c.list) h.1.2.2.2.2.2.2
 have e1 := z6l (n := (c.data.length : Int)) (by have := h.2.1; constructor <;> omega)
 have e2 := z6l (n := (c.list.length : Int)) (by have := h.2.2; constructor <;> omega)
 have := h.2.1
 have := h.2.2
 simp only [six, List.length_cons, List.length_nil] at h6
 simp only [z3P, z1P, z3j, List.length_append]
 simp only [six]
 omega
theorem z4pc (E : Env) (h130 : E.G 130 = z0la) (h8 : E.G 8 = ofC) : ∀ ds, z2ia.pre ds → ds.length = z1l.n ∧ awp E z1l.body (z9t z1l.res (z2ia.post ds)) (z6c z1l.wr ds) := by
 rintro _ ⟨c, nl, hc, rfl⟩
 rw [z7ca]
 have hl := z78 hc
 have hp : ofC.pre [i64 7, .sl .plain (some false) 1 [st (z3P c)]] = True := z8Ub (l := [z3P c]) rfl (by rw [z4lc]; omega)
 simp (maxSteps := 1000000) (disch := first | omega | (simp; done) | (simp; omega)) [z7a, z1a, z0a, z1l, z4Y, h130, z3wa hc, h8, hp, z7q, z2z, z0t, z4va, z8m]
set_option maxHeartbeats 8000000 in
theorem z7xb (E : Env) (h132 : E.G 132 = z4H) : ∀ ds, z4X.pre ds → ds.length = z2n.n ∧ awp E z2n.body (z9t z2n.res (z4X.post ds)) (z6c z2n.wr ds) := by
 rintro _ ⟨c, d, nl, nl', hc, hd, rfl⟩
 rw [z5Q]
 obtain ⟨k1, k2, k3, k4, k5, k6, dt, ls⟩ := c
 obtain ⟨j1, j2, j3, j4, j5, j6, dt', ls'⟩ := d
 have hll := hc.2.2
 simp only at hll
 simp (maxSteps := 1000000) (disch := first | omega | (simp; done) | (simp; omega)) [z7a, z1a, z0a, z2n, z45, z2k]
 refine z3a fun Q0 hQ0 => ?_
 simp only [z2la] at hQ0
 cases c1 : k1 == j1
 ·rw [c1] at hQ0
  simp (maxSteps := 1000000) (disch := first | omega | (simp; done) | (simp; omega)) [z7a, z1a, z0a, z4i, c1, hQ0]
 rw [c1] at hQ0
 cases c2 : k2 == j2
 ·rw [c2] at hQ0
  simp (maxSteps := 1000000) (disch := first | omega | (simp; done) | (simp; omega)) [z7a, z1a, z0a, z4i, c1, c2, hQ0]
 rw [c2] at hQ0
 cases c3 : k3 == j3
 ·rw [c3] at hQ0
  simp (maxSteps := 1000000) (disch := first | omega | (simp; done) | (simp; omega)) [z7a, z1a, z0a, z4i, c1, c2, c3, hQ0]
 rw [c3] at hQ0
 cases c4 : k4 == j4
 ·rw [c4] at hQ0
  simp (maxSteps := 1000000) (disch := first | omega | (simp; done) | (simp; omega)) [z7a, z1a, z0a, z4i, c1, c2, c3, c4, hQ0]
 rw [c4] at hQ0
 cases c5 : k5 == j5
 ·rw [c5] at hQ0
  simp (maxSteps := 1000000) (disch := first | omega | (simp; done) | (simp; omega)) [z7a, z1a, z0a, z4i, c1, c2, c3, c4, c5, hQ0]
 rw [c5] at hQ0
 cases c6 : k6 == j6
 ·rw [c6] at hQ0
  simp (maxSteps := 1000000) (disch := first | omega | (simp; done) | (simp; omega)) [z7a, z1a, z0a, z4i, c1, c2, c3, c4, c5, c6, hQ0]
 rw [c6] at hQ0
 cases c7 : dt == dt'
 ·rw [c7] at hQ0
  have d7 : (dt = dt') = False := by simpa using c7
  simp (maxSteps := 1000000) (disch := first | omega | (simp; done) | (simp; omega)) [z7a, z1a, z0a, z4i, c1, c2, c3, c4, c5, c6, d7, hQ0]
 rw [c7] at hQ0
 have d7 : (dt = dt') = True := by simpa using c7
 simp (maxSteps := 1000000) (disch := first | omega | (simp; done) | (simp; omega)) [z7a, z1a, z0a, z4i, c1, c2, c3, c4, c5, c6, d7, h132, z6za, hQ0]
end Go.Abs
end

section
namespace Go.Abs
theorem z7qc (E : Env) : ∀ ds, z4H.pre ds → ds.length = z0m.n ∧ awp E z0m.body (z9t z0m.res (z4H.post ds)) (z6c z0m.wr ds) := by
 rintro _ ⟨nl, nl', a, b, ha, rfl⟩
 by_cases h : a.length = b.length
 rotate_left
 ·have : (a == b) = false := by simpa using fun e : a = b => h (by rw [e])
  have h' : ¬ ((a.length : Int) = b.length) := by omega
  simp (maxSteps := 1000000) (disch := first | omega | (simp; done) | (simp; omega)) [z7a, z1a, z0a, z0m, z0Q, z8O, h', kT, kF, z4H, this]
 have h' : ((a.length : Int) = b.length) := by omega
 simp (maxSteps := 1000000) (disch := first | omega | (simp; done) | (simp; omega)) [z7a, z1a, z0a, z0m, z0Q, z8O, z47, h', kT, kF]
 refine z3a fun Q0 hQ0 => ?_
 simp (maxSteps := 1000000) (disch := first | omega | (simp; done) | (simp; omega)) [z7a, z1a, z0a, z57]
 refine z3d (fun i : Nat => ⟨[(0, .sl .plain nl a.length (z3i a)), (1, .sl .plain nl' b.length (z3i b))], [(12, i64 a.length), (13, i64 i)], []⟩)
  (fun i => a.length - i) (fun i => i ≤ a.length ∧ a.take i = b.take i) 0 (by simp [h']) (by simp) fun i hi => ?_
 obtain ⟨hi, he⟩ := hi
 refine z3a fun Q1 hQ1 => ?_
 by_cases h1' : i < a.length
 ·have h3 : i < b.length := by omega
  by_cases h2 : atI a i = atI b i
  ·simp (maxSteps := 1000000) (disch := first | omega | (simp; done) | (simp; omega)) [z7a, z1a, z0a, z9z, z2A, z7P, z6P, z8Q, kT, kF, dT, dF, z03, h1', h2, hQ1]
   have h4 : a[i] = b[i] := by simpa [atI, List.getD, List.getElem?_eq_getElem h1', List.getElem?_eq_getElem h3] using h2
   exact ⟨by omega, by omega, by omega, i + 1, by omega, ⟨by omega, by rw [List.take_succ_eq_append_getElem h1', List.take_succ_eq_append_getElem h3, he, h4]⟩, by omega⟩
  ·have : (a == b) = false := by simpa using fun e : a = b => h2 (by rw [e])
   simp (maxSteps := 1000000) (disch := first | omega | (simp; done) | (simp; omega)) [z7a, z1a, z0a, z9z, z2A, z7P, z6P, z8Q, kT, kF, dT, dF, z03, h1', h2, hQ1, hQ0, z4H, this]
   omega
 ·have e : i = a.length := by omega
  subst e
  have : (a == b) = true := by
   rw [List.take_length, h, List.take_length] at he
   simpa using he
  simp (maxSteps := 1000000) (disch := first | omega | (simp; done) | (simp; omega)) [z7a, z1a, z0a, z9z, z2A, kT, kF, dT, dF, hQ1, hQ0, z75, z4H, this]
end Go.Abs
end

section
namespace Go.Abs
@[simp] theorem z13c (ps : List (Bool × Option Bool × List UInt8)) : (mls ps).length = ps.length := by simp [mls]
def atP (ps : List (Bool × Option Bool × List UInt8)) (i : Nat) : Bool × Option Bool × List UInt8 := ps.getD i (true, none, [])
theorem z2jb {ps : List (Bool × Option Bool × List UInt8)} {i : Nat} (h : i < ps.length) : atP ps i = ps[i] := by simp [atP, List.getD, List.getElem?_eq_getElem h]
@[simp] theorem z73c (b : Bool) (nl : Option Bool) (n : Nat) (cs : List z2a) : dem (.sl (mdA b) nl n cs) = .sl .plain nl n cs := by cases b <;> rfl
theorem z6Rb {ps : List (Bool × Option Bool × List UInt8)} {i : Nat} (h : i < ps.length) : hdA ((mls ps).drop i) = .sl (mdA (atP ps i).1) (atP ps i).2.1 (atP ps i).2.2.length (bys (atP ps i).2.2) := by
 rw [mls, ← List.map_drop, List.drop_eq_getElem_cons h, List.map_cons, z2jb h]
 rfl
def z5Na (ps : List (Bool × Option Bool × List UInt8)) : Nat := (ps.map fun p => p.2.2.length).sum
theorem z17b (ps : List (Bool × Option Bool × List UInt8)) : z9Sb (ps.map (·.2)) = z5Na ps := by rw [z9Sb, z5Na, List.map_map]; rfl
theorem z08a (a b : List (Bool × Option Bool × List UInt8)) : z5Na (a ++ b) = z5Na a + z5Na b := by
 induction a with
 | nil => simp [z5Na]
 | cons x a ih => simp only [z5Na, List.cons_append, List.map_cons, List.sum_cons] at ih ⊢; omega
theorem z3Da {ps : List (Bool × Option Bool × List UInt8)} {i : Nat} (h : i < ps.length) : z5Na (ps.take (i + 1)) = z5Na (ps.take i) + (atP ps i).2.2.length := by
 rw [List.take_succ_eq_append_getElem h, z08a, z2jb h]
 rfl
theorem z51 (ps : List (Bool × Option Bool × List UInt8)) (i : Nat) : z5Na (ps.take i) ≤ z5Na ps := by
 have := z08a (ps.take i) (ps.drop i)
 rw [List.take_append_drop] at this
 omega
theorem z8Ka {ps : List (Bool × Option Bool × List UInt8)} {i : Nat} (h : i < ps.length) : (ps.take (i + 1)).flatMap (·.2.2) = (ps.take i).flatMap (·.2.2) ++ (atP ps i).2.2 := by
 rw [List.take_succ_eq_append_getElem h, List.flatMap_append, List.flatMap_cons, List.flatMap_nil, List.append_nil, z2jb h]
theorem z56b (ps : List (Bool × Option Bool × List UInt8)) : (ps.flatMap (·.2.2)).length = z5Na ps := by simp [z5Na, List.length_flatMap]
theorem z0nb (E : Env) (h139 : E.G 139 = z0bb) : ∀ ds, z4y.pre ds → ds.length = z3m.n ∧ awp E z3m.body (z9t z3m.res (z4y.post ds)) (z6c z3m.wr ds) := by
 rintro _ ⟨nl, ps, ht, hps, rfl⟩
 rw [z1ea]
 rw [z17b] at ht
 simp (maxSteps := 1000000) (disch := first | omega | (simp; done) | (simp; omega)) [z7a, z1a, z0a, z3m, z01, z61]
 refine z3a fun Q0 hQ0 => ?_
 simp (maxSteps := 1000000) (disch := first | omega | (simp; done) | (simp; omega)) [z7a, z1a, z0a, z41]
 refine z3d (fun i : Nat => ⟨[(0, .sl .plain nl ps.length (mls ps))], [(3, i64 (z5Na (ps.take i) : Nat)), (9, .sl .plain nl ps.length (mls ps)), (10, i64 ps.length), (11, i64 i)], []⟩)
  (fun i => ps.length - i) (fun i => i ≤ ps.length) 0 (by simp [z5Na]) (by simp) fun i hi => ?_
 refine z3a fun Q1 hQ1 => ?_
 have tl := z51 ps i
 by_cases h1 : i < ps.length
 ·have ts := z3Da h1
  have tl' := z51 ps (i + 1)
  generalize hX : atP ps i = x at *
  obtain ⟨xm, xn, xb⟩ := x
  simp only at ts
  have hneg : ¬ ((z5Na (ps.take i) : Int) + xb.length < 0) := by omega
  simp (maxSteps := 1000000) (disch := first | omega | (simp; done) | (simp; omega)) [z7a, z1a, z0a, z9L, z6L, z8Z, z30, z11, z80, kT, kF, dT, dF, h1, z6Rb, hX, hQ1, hneg]
  exact ⟨by omega, i + 1, by omega, by omega, by omega, by omega⟩
 ·obtain rfl : i = ps.length := by omega
  simp (maxSteps := 1000000) (disch := first | omega | (simp; done) | (simp; omega)) [z7a, z1a, z0a, z9L, z6L, kT, kF, dT, dF, hQ1, hQ0, z31, z91, z7Y, h139, z2Hb]
  refine z3d (fun i : Nat => ⟨[(0, .sl .plain nl ps.length (mls ps))], [(6, .sl (.own 1) none ((ps.take i).flatMap (·.2.2)).length (bys ((ps.take i).flatMap (·.2.2)))), (25, .sl .plain nl ps.length (mls ps)), (26, i64 ps.length), (27, i64 i)], []⟩)
   (fun i => ps.length - i) (fun i => i ≤ ps.length) 0 (by simp) (by simp) fun i hi => ?_
  refine z3a fun Q2 hQ2 => ?_
  have tl := z51 ps i
  by_cases h1 : i < ps.length
  ·have cs := z8Ka h1
   have cl := z56b (ps.take (i + 1))
   have tl' := z51 ps (i + 1)
   generalize hX : atP ps i = x at *
   obtain ⟨xm, xn, xb⟩ := x
   simp only at cs
   generalize hF : (ps.take i).flatMap (·.2.2) = F at *
   simp (maxSteps := 1000000) (disch := first | omega | (simp; done) | (simp; omega)) [z7a, z1a, z0a, z9K, z8D, z0Y, z6Y, kT, kF, dT, dF, h1, z6Rb, hX, hQ2]
   have e : z5Na (ps.take (i + 1)) = (List.take (i + 1) (List.map (fun a => a.2.2.length) ps)).sum := by rw [z5Na, List.map_take]
   rw [cs, List.length_append] at cl
   exact ⟨by omega, by omega, i + 1, by omega, by omega, ⟨by rw [← e]; exact cl, cs.symm⟩, by omega⟩
  ·obtain rfl : i = ps.length := by omega
   simp (maxSteps := 1000000) (disch := first | omega | (simp; done) | (simp; omega)) [z7a, z1a, z0a, z9K, z8D, kT, kF, dT, dF, hQ2, z8Y]
end Go.Abs
end

section
namespace Go.Abs
@[simp] theorem z2Jc (c : Cmd) (nl : Option Bool) : (z2k c nl).length = 8 := rfl
theorem z4mb {c : Cmd} (h : c.ok) : ∀ x ∈ [c.kind, c.key, c.other, c.type, c.uses, c.life], z3f x := by
 obtain ⟨h1, h2, h3, h4, h5, h6, _⟩ := h
 intro x hx
 simp only [List.mem_cons, List.not_mem_nil, or_false] at hx
 rcases hx with rfl | rfl | rfl | rfl | rfl | rfl <;> assumption
set_option maxHeartbeats 4000000 in
theorem z20b (E : Env) (h7 : E.G 7 = z4da) (h12 : E.G 12 = z7ab) (h39 : E.G 39 = z4J) (h129 : E.G 129 = z4y) : ∀ ds, z0la.pre ds → ds.length = z9k.n ∧ awp E z9k.body (z9t z9k.res (z0la.post ds)) (z6c z9k.wr ds) := by
 rintro _ ⟨c, nl, hc, rfl⟩
 rw [z3oa]
 obtain ⟨k1, k2, k3, k4, k5, k6, dt, ls⟩ := c
 obtain ⟨ho, hd, hll⟩ := hc
 simp only at hd hll
 simp (maxSteps := 1000000) (disch := first | omega | (simp; done) | (simp; omega)) [z7a, z1a, z0a, z9k, z3X, z8X, z2k]
 refine z3a fun Q0 hQ0 => ?_
 simp (maxSteps := 1000000) (disch := first | omega | (simp; done) | (simp; omega)) [z7a, z1a, z0a, z9X]
 have h6 := z4mb ho
 obtain ⟨L, hL⟩ : ∃ L : List Int, L = [k1, k2, k3, k4, k5, k6] := ⟨_, rfl⟩
 have hLl : L.length = 6 := by rw [hL]; rfl
 rw [show [i64 k1, i64 k2, i64 k3, i64 k4, i64 k5, i64 k6] = z3i L by rw [hL]; rfl]
 rw [← hL] at h6
 refine z3d (fun i : Nat => ⟨[(0, .agg [i64 k1, i64 k2, i64 k3, i64 k4, i64 k5, i64 k6, st dt, .sl .plain nl ls.length (z3i ls)])], [(1, .bp 1 0), (3, .sl (.own 1) none ((L.take i).flatMap z7m).length (bys ((L.take i).flatMap z7m))), (18, .agg (z3i L)), (19, i64 i)], [(1, some [i64 k1, i64 k2, i64 k3, i64 k4, i64 k5, i64 k6, st dt, .sl .plain nl ls.length (z3i ls)])]⟩) (fun i => 6 - i) (· ≤ 6) 0 (by simp) (by simp) fun i hi => ?_
 refine z3a fun Q1 hQ1 => ?_
 by_cases h1 : i < 6
 ·have h1' : i < L.length := by omega
  have hs := z0o L z7m 0 h1'
  rw [show L.getD i 0 = atI L i from rfl] at hs
  have ha := h6 _ (z1ra h1')
  have g2 := z6l ha
  have g3 := z7e (l := L.take i) fun x hx => h6 x (List.mem_of_mem_take hx)
  have g4 : (L.take i).length ≤ 6 := by rw [List.length_take]; omega
  generalize hF : (L.take i).flatMap z7m = F at *
  generalize hX : atI L i = x at *
  have hg : ∀ h : i < (z3i L).length, (z3i L)[i] = i64 x := fun h => by rw [← hX]; simp [z3i, atI, List.getD, List.getElem?_eq_getElem h1']
  simp (maxSteps := 1000000) (disch := first | omega | (simp; done) | (simp; omega)) [z7a, z1a, z0a, z1E, z0E, z5Y, z0X, kT, kF, dT, dF, h1, hg, hLl, h12, z9La ha.1 ha.2, hQ1, -List.length_flatMap]
  exact ⟨⟨by omega, by omega⟩, by omega, i + 1, by omega, by omega, ⟨by rw [hs, List.length_append], hs.symm⟩, by omega⟩
 ·obtain rfl : i = 6 := by omega
  have hT : L.take 6 = L := by rw [← hLl, List.take_length]
  have h6l := z7e h6
  have e1 := z6l (n := (dt.length : Int)) (by constructor <;> omega)
  have e2 := z6l (n := (ls.length : Int)) (by constructor <;> omega)
  have e3 := z7e (l := ls) ho.2.2.2.2.2.2
  have hip : z4J.pre [.sl .plain nl ls.length (z3i ls)] = True := z0wa hll ho.2.2.2.2.2.2 rfl
  have hiq : z4J.post [.sl .plain nl ls.length (z3i ls)] = .sl (.own 1) (some false) (z3j ls).length (bys (z3j ls)) := by rw [z4J, z06]; rfl
  have hcp : z4y.pre [.sl .plain (some false) 3 [.sl (.own 1) none (L.flatMap z7m).length (bys (L.flatMap z7m)), .sl (.own 1) (some false) (z1P dt).length (bys (z1P dt)), .sl (.own 1) (some false) (z3j ls).length (bys (z3j ls))]] = True :=
   z99a (ps := [(none, L.flatMap z7m), (some false, z1P dt), (some false, z3j ls)]) (by simp only [z9Sb, List.map_cons, List.map_nil, List.sum_cons, List.sum_nil, z1P, z3j, List.length_append]; omega) (by simp) rfl
  have hcq : z4y.post [.sl .plain (some false) 3 [.sl (.own 1) none (L.flatMap z7m).length (bys (L.flatMap z7m)), .sl (.own 1) (some false) (z1P dt).length (bys (z1P dt)), .sl (.own 1) (some false) (z3j ls).length (bys (z3j ls))]] = .sl (.own 1) none (L.flatMap z7m ++ (z1P dt ++ z3j ls)).length (bys (L.flatMap z7m ++ (z1P dt ++ z3j ls))) := by
   have := z11a (some false) 3 [(none, L.flatMap z7m), (some false, z1P dt), (some false, z3j ls)]
   simpa [bls, -List.length_append, -List.length_flatMap] using this
  have hE : z3P ⟨k1, k2, k3, k4, k5, k6, dt, ls⟩ = L.flatMap z7m ++ (z1P dt ++ z3j ls) := by rw [hL]; rfl
  rw [hE] at hQ0
  simp (maxSteps := 1000000) (disch := first | omega | (simp; done) | (simp; omega)) [z7a, z1a, z0a, z1E, z0E, kT, kF, dT, dF, hQ1, hQ0, hT, z2X, h7, z5za, h39, hip, hiq, h129, hcp, hcq, -z1a, -List.length_append, -List.length_flatMap]
end Go.Abs
end
