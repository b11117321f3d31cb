/- Lemmas: an abstract interpreter, and what the functions compute. -/
import Derived.Test.YtkccmbjmlpnejaaDoorE
import Derived.Test.YtkccmbjmlpnejaaDoorT
import Derived.Test.YtkccmbjmlpnejaaDoorH
set_option linter.unusedSimpArgs false
set_option linter.unusedVariables false
set_option linter.unusedSectionVars false
section
namespace Go.Abs
@[simp] theorem z9Cc (r : Row) : z7h (z0qa r) = true := by simp [z0qa, z7h]
end Go.Abs
end

section
namespace Go.Abs
@[simp] theorem z1Uc (c : Cmd) (nl : Option Bool) : (z2o c nl).length = 8 := rfl
@[simp] theorem z6Lc (c : Cmd) (nl : Option Bool) : (∀ x ∈ z2o c nl, z5d x) ↔ True := by simp [z2o]
@[simp] theorem z1Vc (c : Cmd) (nl : Option Bool) : (∀ x ∈ z2o c nl, z2f x = false) ↔ True := by simp [z2o]
@[simp] theorem z0xc (c : Cmd) (nl : Option Bool) : (z2o c nl).take 8 = z2o c nl := rfl
@[simp] theorem z5Mc (c : Cmd) (nl : Option Bool) : z7h (z2o c nl) = true := by simp [z2o, z7h]
@[simp] theorem z1Yc (r : Row) : (z0qa r).length = 4 := rfl
@[simp] theorem z1Hc (r : Row) : (∀ c ∈ z0qa r, z5d c) ↔ True := by simp [z0qa]
@[simp] theorem z5Sc (r : Row) : (∀ c ∈ z0qa r, z2f c = false) ↔ True := by simp [z0qa]
@[simp] theorem z8Oc (r : Row) : z2i (z0qa r) = [] := by simp [z0qa, z2i]
@[simp] theorem z2wc (r : Row) : (z0qa r).take 4 = z0qa r := rfl
@[simp] theorem rowA_1 (r : Row) : hdA ((z0qa r).drop 1) = i64 r.uses := rfl
@[simp] theorem z7dd (r : Row) : hdA (z0qa r).tail = i64 r.uses := rfl
@[simp] theorem rowA_2 (r : Row) : hdA ((z0qa r).drop 2) = i64 r.least := rfl
@[simp] theorem rowA_3 (r : Row) : hdA ((z0qa r).drop 3) = i64 r.most := rfl
@[simp] theorem z53c (r : Row) : z4c (z0qa r) = true := by simp [z0qa, z4c]
end Go.Abs
end

section
namespace Go.Abs
theorem z9Lc {c : Cmd} (h : c.ok) : ∀ x ∈ six c, z6k x := by
 obtain ⟨h1, h2, h3, h4, h5, h6, _⟩ := h
 intro x hx
 simp only [six, List.mem_cons, List.not_mem_nil, or_false] at hx
 rcases hx with rfl | rfl | rfl | rfl | rfl | rfl <;> assumption
theorem z0xa {c : Cmd} (h : c.small) : (z96 c).length ≤ 2000000000 := by
 have h6 := z8f (z9Lc h.1)
 have hl := z8f (l := c.list) h.1.2.2.2.2.2.2
 have e1 := z8l (n := (c.data.length : Int)) (by have := h.2.1; constructor <;> omega)
 have e2 := z8l (n := (c.list.length : Int)) (by have := h.2.2; constructor <;> omega)
 have := h.2.1
 have := h.2.2
 simp only [six, List.length_cons, List.length_nil] at h6
 simp only [z96, z90, z9q, List.length_append]
 simp only [six]
 omega
theorem z4Cc (E : Env) (h130 : E.G 130 = z9ma) (h8 : E.G 8 = ofC) : ∀ ds, z0la.pre ds → ds.length = z5l.n ∧ awp E z5l.body (z9u z5l.res (z0la.post ds)) (z8c z5l.wr ds) := by
 rintro _ ⟨c, nl, hc, rfl⟩
 rw [z4oa]
 have hl := z0xa hc
 have hp : ofC.pre [i64 7, .sl .plain (some false) 1 [st (z96 c)]] = True := z7Ub (l := [z96 c]) rfl (by rw [z25c]; omega)
 simp (maxSteps := 1000000) (disch := first | omega | (simp; done) | (simp; omega)) [z7a, z1a, z0a, z5l, z1Y, h130, z0Pa hc, h8, hp, z1o, z0s, z3A, z5Ma, z3E]
set_option maxHeartbeats 8000000 in
theorem z0Qb (E : Env) (h132 : E.G 132 = z1K) : ∀ ds, z08.pre ds → ds.length = z6o.n ∧ awp E z6o.body (z9u z6o.res (z08.post ds)) (z8c z6o.wr ds) := by
 rintro _ ⟨c, d, nl, nl', hc, hd, rfl⟩
 rw [z09]
 obtain ⟨k1, k2, k3, k4, k5, k6, dt, ls⟩ := c
 obtain ⟨j1, j2, j3, j4, j5, j6, dt', ls'⟩ := d
 have hll := hc.2.2
 simp only at hll
 simp (maxSteps := 1000000) (disch := first | omega | (simp; done) | (simp; omega)) [z7a, z1a, z0a, z6o, z2aa, z2o]
 refine z3a fun Q0 hQ0 => ?_
 simp only [z6za] at hQ0
 cases c1 : k1 == j1
 ·rw [c1] at hQ0
  simp (maxSteps := 1000000) (disch := first | omega | (simp; done) | (simp; omega)) [z7a, z1a, z0a, z0j, c1, hQ0]
 rw [c1] at hQ0
 cases c2 : k2 == j2
 ·rw [c2] at hQ0
  simp (maxSteps := 1000000) (disch := first | omega | (simp; done) | (simp; omega)) [z7a, z1a, z0a, z0j, c1, c2, hQ0]
 rw [c2] at hQ0
 cases c3 : k3 == j3
 ·rw [c3] at hQ0
  simp (maxSteps := 1000000) (disch := first | omega | (simp; done) | (simp; omega)) [z7a, z1a, z0a, z0j, c1, c2, c3, hQ0]
 rw [c3] at hQ0
 cases c4 : k4 == j4
 ·rw [c4] at hQ0
  simp (maxSteps := 1000000) (disch := first | omega | (simp; done) | (simp; omega)) [z7a, z1a, z0a, z0j, c1, c2, c3, c4, hQ0]
 rw [c4] at hQ0
 cases c5 : k5 == j5
 ·rw [c5] at hQ0
  simp (maxSteps := 1000000) (disch := first | omega | (simp; done) | (simp; omega)) [z7a, z1a, z0a, z0j, c1, c2, c3, c4, c5, hQ0]
 rw [c5] at hQ0
 cases c6 : k6 == j6
 ·rw [c6] at hQ0
  simp (maxSteps := 1000000) (disch := first | omega | (simp; done) | (simp; omega)) [z7a, z1a, z0a, z0j, c1, c2, c3, c4, c5, c6, hQ0]
 rw [c6] at hQ0
 cases c7 : dt == dt'
 ·rw [c7] at hQ0
  have d7 : (dt = dt') = False := by simpa using c7
  simp (maxSteps := 1000000) (disch := first | omega | (simp; done) | (simp; omega)) [z7a, z1a, z0a, z0j, c1, c2, c3, c4, c5, c6, d7, hQ0]
 rw [c7] at hQ0
 have d7 : (dt = dt') = True := by simpa using c7
 simp (maxSteps := 1000000) (disch := first | omega | (simp; done) | (simp; omega)) [z7a, z1a, z0a, z0j, c1, c2, c3, c4, c5, c6, d7, h132, z1za, hQ0]
end Go.Abs
end

section
namespace Go.Abs
theorem z0Lc (E : Env) : ∀ ds, z1K.pre ds → ds.length = z5m.n ∧ awp E z5m.body (z9u z5m.res (z1K.post ds)) (z8c z5m.wr ds) := by
 rintro _ ⟨nl, nl', a, b, ha, rfl⟩
 by_cases h : a.length = b.length
 rotate_left
 ·have : (a == b) = false := by simpa using fun e : a = b => h (by rw [e])
  have h' : ¬ ((a.length : Int) = b.length) := by omega
  simp (maxSteps := 1000000) (disch := first | omega | (simp; done) | (simp; omega)) [z7a, z1a, z0a, z5m, z3R, z2S, h', kT, kF, z1K, this]
 have h' : ((a.length : Int) = b.length) := by omega
 simp (maxSteps := 1000000) (disch := first | omega | (simp; done) | (simp; omega)) [z7a, z1a, z0a, z5m, z3R, z2S, z37, h', kT, kF]
 refine z3a fun Q0 hQ0 => ?_
 simp (maxSteps := 1000000) (disch := first | omega | (simp; done) | (simp; omega)) [z7a, z1a, z0a, z19]
 refine z7d (fun i : Nat => ⟨[(0, .sl .plain nl a.length (z6j a)), (1, .sl .plain nl' b.length (z6j b))], [(12, i64 a.length), (13, i64 i)], []⟩)
  (fun i => a.length - i) (fun i => i ≤ a.length ∧ a.take i = b.take i) 0 (by simp [h']) (by simp) fun i hi => ?_
 obtain ⟨hi, he⟩ := hi
 refine z3a fun Q1 hQ1 => ?_
 by_cases h1' : i < a.length
 ·have h3 : i < b.length := by omega
  by_cases h2 : atI a i = atI b i
  ·simp (maxSteps := 1000000) (disch := first | omega | (simp; done) | (simp; omega)) [z7a, z1a, z0a, z3B, z1B, z4S, z2Q, z9R, kT, kF, dT, dF, z1ga, h1', h2, hQ1]
   have h4 : a[i] = b[i] := by simpa [atI, List.getD, List.getElem?_eq_getElem h1', List.getElem?_eq_getElem h3] using h2
   exact ⟨by omega, by omega, by omega, i + 1, by omega, ⟨by omega, by rw [List.take_succ_eq_append_getElem h1', List.take_succ_eq_append_getElem h3, he, h4]⟩, by omega⟩
  ·have : (a == b) = false := by simpa using fun e : a = b => h2 (by rw [e])
   simp (maxSteps := 1000000) (disch := first | omega | (simp; done) | (simp; omega)) [z7a, z1a, z0a, z3B, z1B, z4S, z2Q, z9R, kT, kF, dT, dF, z1ga, h1', h2, hQ1, hQ0, z1K, this]
   omega
 ·have e : i = a.length := by omega
  subst e
  have : (a == b) = true := by
   rw [List.take_length, h, List.take_length] at he
   simpa using he
  simp (maxSteps := 1000000) (disch := first | omega | (simp; done) | (simp; omega)) [z7a, z1a, z0a, z3B, z1B, kT, kF, dT, dF, hQ1, hQ0, z47, z1K, this]
end Go.Abs
end

section
namespace Go.Abs
@[simp] theorem z4ed (ps : List (Bool × Option Bool × List UInt8)) : (mls ps).length = ps.length := by simp [mls]
def atP (ps : List (Bool × Option Bool × List UInt8)) (i : Nat) : Bool × Option Bool × List UInt8 := ps.getD i (true, none, [])
theorem z7kb {ps : List (Bool × Option Bool × List UInt8)} {i : Nat} (h : i < ps.length) : atP ps i = ps[i] := by simp [atP, List.getD, List.getElem?_eq_getElem h]
@[simp] theorem z9cd (b : Bool) (nl : Option Bool) (n : Nat) (cs : List z2a) : dem (.sl (mdA b) nl n cs) = .sl .plain nl n cs := by cases b <;> rfl
theorem z9Xb {ps : List (Bool × Option Bool × List UInt8)} {i : Nat} (h : i < ps.length) : hdA ((mls ps).drop i) = .sl (mdA (atP ps i).1) (atP ps i).2.1 (atP ps i).2.2.length (bys (atP ps i).2.2) := by
 rw [mls, ← List.map_drop, List.drop_eq_getElem_cons h, List.map_cons, z7kb h]
 rfl
def z2Pa (ps : List (Bool × Option Bool × List UInt8)) : Nat := (ps.map fun p => p.2.2.length).sum
theorem z0hc (ps : List (Bool × Option Bool × List UInt8)) : z8Sb (ps.map (·.2)) = z2Pa ps := by rw [z8Sb, z2Pa, List.map_map]; rfl
theorem z79a (a b : List (Bool × Option Bool × List UInt8)) : z2Pa (a ++ b) = z2Pa a + z2Pa b := by
 induction a with
 | nil => simp [z2Pa]
 | cons x a ih => simp only [z2Pa, List.cons_append, List.map_cons, List.sum_cons] at ih ⊢; omega
theorem z0Fa {ps : List (Bool × Option Bool × List UInt8)} {i : Nat} (h : i < ps.length) : z2Pa (ps.take (i + 1)) = z2Pa (ps.take i) + (atP ps i).2.2.length := by
 rw [List.take_succ_eq_append_getElem h, z79a, z7kb h]
 rfl
theorem z14 (ps : List (Bool × Option Bool × List UInt8)) (i : Nat) : z2Pa (ps.take i) ≤ z2Pa ps := by
 have := z79a (ps.take i) (ps.drop i)
 rw [List.take_append_drop] at this
 omega
theorem z7Ma {ps : List (Bool × Option Bool × List UInt8)} {i : Nat} (h : i < ps.length) : (ps.take (i + 1)).flatMap (·.2.2) = (ps.take i).flatMap (·.2.2) ++ (atP ps i).2.2 := by
 rw [List.take_succ_eq_append_getElem h, List.flatMap_append, List.flatMap_cons, List.flatMap_nil, List.append_nil, z7kb h]
theorem z7cc (ps : List (Bool × Option Bool × List UInt8)) : (ps.flatMap (·.2.2)).length = z2Pa ps := by simp [z2Pa, List.length_flatMap]
theorem z1vb (E : Env) (h139 : E.G 139 = z7eb) : ∀ ds, z3z.pre ds → ds.length = z6n.n ∧ awp E z6n.body (z9u z6n.res (z3z.post ds)) (z8c z6n.wr ds) := by
 rintro _ ⟨nl, ps, ht, hps, rfl⟩
 rw [z7fa]
 rw [z0hc] at ht
 simp (maxSteps := 1000000) (disch := first | omega | (simp; done) | (simp; omega)) [z7a, z1a, z0a, z6n, z02, z24]
 refine z3a fun Q0 hQ0 => ?_
 simp (maxSteps := 1000000) (disch := first | omega | (simp; done) | (simp; omega)) [z7a, z1a, z0a, z32]
 refine z7d (fun i : Nat => ⟨[(0, .sl .plain nl ps.length (mls ps))], [(3, i64 (z2Pa (ps.take i) : Nat)), (9, .sl .plain nl ps.length (mls ps)), (10, i64 ps.length), (11, i64 i)], []⟩)
  (fun i => ps.length - i) (fun i => i ≤ ps.length) 0 (by simp [z2Pa]) (by simp) fun i hi => ?_
 refine z3a fun Q1 hQ1 => ?_
 have tl := z14 ps i
 by_cases h1 : i < ps.length
 ·have ts := z0Fa h1
  have tl' := z14 ps (i + 1)
  generalize hX : atP ps i = x at *
  obtain ⟨xm, xn, xb⟩ := x
  simp only at ts
  have hneg : ¬ ((z2Pa (ps.take i) : Int) + xb.length < 0) := by omega
  simp (maxSteps := 1000000) (disch := first | omega | (simp; done) | (simp; omega)) [z7a, z1a, z0a, z9M, z5O, z23, z81, z52, z61, kT, kF, dT, dF, h1, z9Xb, hX, hQ1, hneg]
  exact ⟨by omega, i + 1, by omega, by omega, by omega, by omega⟩
 ·obtain rfl : i = ps.length := by omega
  simp (maxSteps := 1000000) (disch := first | omega | (simp; done) | (simp; omega)) [z7a, z1a, z0a, z9M, z5O, kT, kF, dT, dF, hQ1, hQ0, z93, z22, z7Z, h139, z5Pb]
  refine z7d (fun i : Nat => ⟨[(0, .sl .plain nl ps.length (mls ps))], [(6, .sl (.own 1) none ((ps.take i).flatMap (·.2.2)).length (bys ((ps.take i).flatMap (·.2.2)))), (25, .sl .plain nl ps.length (mls ps)), (26, i64 ps.length), (27, i64 i)], []⟩)
   (fun i => ps.length - i) (fun i => i ≤ ps.length) 0 (by simp) (by simp) fun i hi => ?_
  refine z3a fun Q2 hQ2 => ?_
  have tl := z14 ps i
  by_cases h1 : i < ps.length
  ·have cs := z7Ma h1
   have cl := z7cc (ps.take (i + 1))
   have tl' := z14 ps (i + 1)
   generalize hX : atP ps i = x at *
   obtain ⟨xm, xn, xb⟩ := x
   simp only at cs
   generalize hF : (ps.take i).flatMap (·.2.2) = F at *
   simp (maxSteps := 1000000) (disch := first | omega | (simp; done) | (simp; omega)) [z7a, z1a, z0a, z0O, z3G, z3Y, z9Z, kT, kF, dT, dF, h1, z9Xb, hX, hQ2]
   have e : z2Pa (ps.take (i + 1)) = (List.take (i + 1) (List.map (fun a => a.2.2.length) ps)).sum := by rw [z2Pa, List.map_take]
   rw [cs, List.length_append] at cl
   exact ⟨by omega, by omega, i + 1, by omega, by omega, ⟨by rw [← e]; exact cl, cs.symm⟩, by omega⟩
  ·obtain rfl : i = ps.length := by omega
   simp (maxSteps := 1000000) (disch := first | omega | (simp; done) | (simp; omega)) [z7a, z1a, z0a, z0O, z3G, kT, kF, dT, dF, hQ2, z30]
end Go.Abs
end

section
namespace Go.Abs
@[simp] theorem z5Gc (c : Cmd) (nl : Option Bool) : (z2o c nl).length = 8 := rfl
theorem z6wb {c : Cmd} (h : c.ok) : ∀ x ∈ [c.kind, c.key, c.other, c.type, c.uses, c.life], z6k x := by
 obtain ⟨h1, h2, h3, h4, h5, h6, _⟩ := h
 intro x hx
 simp only [List.mem_cons, List.not_mem_nil, or_false] at hx
 rcases hx with rfl | rfl | rfl | rfl | rfl | rfl <;> assumption
set_option maxHeartbeats 4000000 in
theorem z00b (E : Env) (h7 : E.G 7 = z5da) (h12 : E.G 12 = z1eb) (h39 : E.G 39 = z0N) (h129 : E.G 129 = z3z) : ∀ ds, z9ma.pre ds → ds.length = z4l.n ∧ awp E z4l.body (z9u z4l.res (z9ma.post ds)) (z8c z4l.wr ds) := by
 rintro _ ⟨c, nl, hc, rfl⟩
 rw [z9xa]
 obtain ⟨k1, k2, k3, k4, k5, k6, dt, ls⟩ := c
 obtain ⟨ho, hd, hll⟩ := hc
 simp only at hd hll
 simp (maxSteps := 1000000) (disch := first | omega | (simp; done) | (simp; omega)) [z7a, z1a, z0a, z4l, z00, z3Z, z2o]
 refine z3a fun Q0 hQ0 => ?_
 simp (maxSteps := 1000000) (disch := first | omega | (simp; done) | (simp; omega)) [z7a, z1a, z0a, z4Z]
 have h6 := z6wb ho
 obtain ⟨L, hL⟩ : ∃ L : List Int, L = [k1, k2, k3, k4, k5, k6] := ⟨_, rfl⟩
 have hLl : L.length = 6 := by rw [hL]; rfl
 rw [show [i64 k1, i64 k2, i64 k3, i64 k4, i64 k5, i64 k6] = z6j L by rw [hL]; rfl]
 rw [← hL] at h6
 refine z7d (fun i : Nat => ⟨[(0, .agg [i64 k1, i64 k2, i64 k3, i64 k4, i64 k5, i64 k6, st dt, .sl .plain nl ls.length (z6j ls)])], [(1, .bp 1 0), (3, .sl (.own 1) none ((L.take i).flatMap z7v).length (bys ((L.take i).flatMap z7v))), (18, .agg (z6j L)), (19, i64 i)], [(1, some [i64 k1, i64 k2, i64 k3, i64 k4, i64 k5, i64 k6, st dt, .sl .plain nl ls.length (z6j ls)])]⟩) (fun i => 6 - i) (· ≤ 6) 0 (by simp) (by simp) fun i hi => ?_
 refine z3a fun Q1 hQ1 => ?_
 by_cases h1 : i < 6
 ·have h1' : i < L.length := by omega
  have hs := z5p L z7v 0 h1'
  rw [show L.getD i 0 = atI L i from rfl] at hs
  have ha := h6 _ (z7qa h1')
  have g2 := z8l ha
  have g3 := z8f (l := L.take i) fun x hx => h6 x (List.mem_of_mem_take hx)
  have g4 : (L.take i).length ≤ 6 := by rw [List.length_take]; omega
  generalize hF : (L.take i).flatMap z7v = F at *
  generalize hX : atI L i = x at *
  have hg : ∀ h : i < (z6j L).length, (z6j L)[i] = i64 x := fun h => by rw [← hX]; simp [z6j, atI, List.getD, List.getElem?_eq_getElem h1']
  simp (maxSteps := 1000000) (disch := first | omega | (simp; done) | (simp; omega)) [z7a, z1a, z0a, z2G, z1G, z7Y, z8Y, kT, kF, dT, dF, h1, hg, hLl, h12, z0Ka ha.1 ha.2, hQ1, -List.length_flatMap]
  exact ⟨⟨by omega, by omega⟩, by omega, i + 1, by omega, by omega, ⟨by rw [hs, List.length_append], hs.symm⟩, by omega⟩
 ·obtain rfl : i = 6 := by omega
  have hT : L.take 6 = L := by rw [← hLl, List.take_length]
  have h6l := z8f h6
  have e1 := z8l (n := (dt.length : Int)) (by constructor <;> omega)
  have e2 := z8l (n := (ls.length : Int)) (by constructor <;> omega)
  have e3 := z8f (l := ls) ho.2.2.2.2.2.2
  have hip : z0N.pre [.sl .plain nl ls.length (z6j ls)] = True := z2Ja hll ho.2.2.2.2.2.2 rfl
  have hiq : z0N.post [.sl .plain nl ls.length (z6j ls)] = .sl (.own 1) (some false) (z9q ls).length (bys (z9q ls)) := by rw [z0N, z9ea]; rfl
  have hcp : z3z.pre [.sl .plain (some false) 3 [.sl (.own 1) none (L.flatMap z7v).length (bys (L.flatMap z7v)), .sl (.own 1) (some false) (z90 dt).length (bys (z90 dt)), .sl (.own 1) (some false) (z9q ls).length (bys (z9q ls))]] = True :=
   z3eb (ps := [(none, L.flatMap z7v), (some false, z90 dt), (some false, z9q ls)]) (by simp only [z8Sb, List.map_cons, List.map_nil, List.sum_cons, List.sum_nil, z90, z9q, List.length_append]; omega) (by simp) rfl
  have hcq : z3z.post [.sl .plain (some false) 3 [.sl (.own 1) none (L.flatMap z7v).length (bys (L.flatMap z7v)), .sl (.own 1) (some false) (z90 dt).length (bys (z90 dt)), .sl (.own 1) (some false) (z9q ls).length (bys (z9q ls))]] = .sl (.own 1) none (L.flatMap z7v ++ (z90 dt ++ z9q ls)).length (bys (L.flatMap z7v ++ (z90 dt ++ z9q ls))) := by
   have := z24a (some false) 3 [(none, L.flatMap z7v), (some false, z90 dt), (some false, z9q ls)]
   simpa [bls, -List.length_append, -List.length_flatMap] using this
  have hE : z96 ⟨k1, k2, k3, k4, k5, k6, dt, ls⟩ = L.flatMap z7v ++ (z90 dt ++ z9q ls) := by rw [hL]; rfl
  rw [hE] at hQ0
  simp (maxSteps := 1000000) (disch := first | omega | (simp; done) | (simp; omega)) [z7a, z1a, z0a, z2G, z1G, kT, kF, dT, dF, hQ1, hQ0, hT, z10, h7, z2Ba, h39, hip, hiq, h129, hcp, hcq, -z1a, -List.length_append, -List.length_flatMap]
end Go.Abs
end
