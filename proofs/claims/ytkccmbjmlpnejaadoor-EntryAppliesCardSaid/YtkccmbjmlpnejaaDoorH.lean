/- Lemmas: an abstract interpreter, and what the functions compute. -/
import Derived.Test.YtkccmbjmlpnejaaDoorT
import Derived.Test.YtkccmbjmlpnejaaDoorE
set_option linter.unusedSimpArgs false
set_option linter.unusedVariables false
set_option linter.unusedSectionVars false
section
namespace Go.Abs
set_option maxRecDepth 20000
theorem notU {N : Nat} (hN : N < 2 ^ 63) : W (((18446744073709551615 - N : Nat)) : Int) = -1 - (N : Int) := by
 unfold W IntKind.wrap IntKind.bits IntKind.signed
 simp only [Bool.true_and]
 split <;> rename_i h <;> simp at h ⊢ <;> omega
theorem z9vb (E : Env) : ∀ ds, z1Q.pre ds → ds.length = z4o.n ∧ awp E z4o.body (z9u z4o.res (z1Q.post ds)) (z8c z4o.wr ds) := by
 rintro _ ⟨nl, b, hb, rfl⟩
 rw [z1Q, z8Ma]
 cases b with
 | nil =>
  simp (maxSteps := 1000000) (disch := first | omega | (simp; done) | (simp; omega)) [z7a, z1a, z0a, z4o, vI, z0m, z8p]
  rw [z3b]
  refine ⟨by simp, fun h => ?_, fun h => ?_⟩ <;> simp at h
  simp
 | cons h t =>
  simp only [List.length_cons] at hb
  simp (maxSteps := 1000000) (disch := first | omega | (simp; done) | (simp; omega)) [z7a, z1a, z0a, z4o]
  rw [z3b]
  refine ⟨by simp, fun h0 => ?_, fun h0 => ?_⟩ <;> simp at h0
  ·omega
  simp (maxSteps := 1000000) (disch := first | omega | (simp; done) | (simp; omega)) [z7a, z1a, z0a, z6ca, z33a]
  refine z3a fun Q0 hQ0 => ?_
  have hk := z62a h
  have hlt := h.toNat_lt
  have key : Q0 .normal ⟨[(0, .sl .plain nl (t.length + 1) (bys (h :: t)))], [(5, u8 (if h < 128 then 255 else 0))], []⟩ := by
   have hx : h ^^^ (if h < 128 then 255 else 0) = fl h h := z3ub h h
   have hkn : ((fl h h).toNat : Int) - 128 = kOf h := by
    unfold kOf fl
    split
    ·rename_i hh; have := (z4fb h).1 hh; rw [z6bb]; omega
    ·rename_i hh; have : ¬ h.toNat < 128 := fun e => hh ((z4fb h).2 e)
     omega
   have hx1 : at8 t 0 ^^^ (if h < 128 then 255 else 0) = fl h (at8 t 0) := z3ub h _
   have hkb : kOf h ≤ 128 := by rw [hk]; split <;> omega
   generalize hfl : (if h < 128 then (255 : UInt8) else 0) = flip at *
   simp (maxSteps := 1000000) (disch := first | omega | (simp; done) | (simp; omega)) [z7a, z1a, z0a, hQ0, z4ca, hx, z33a, hkn]
   rw [z3b]
   refine ⟨by simp, fun h1 => ?_, fun h1 => ?_⟩ <;> simp at h1
   ·rw [vI, z2vc (by omega)]
    simp (maxSteps := 1000000) (disch := first | omega | (simp; done) | (simp; omega)) [z7a, z1a, z0a, z8p]
   have h1' : ¬ 8 < kOf h := by omega
   simp (maxSteps := 1000000) (disch := first | omega | (simp; done) | (simp; omega)) [z7a, z1a, z0a]
   rw [z3b]
   refine ⟨by simp, fun h2 => ?_, fun h2 => ?_⟩ <;> simp at h2
   ·rw [vI, z6Jc h1' (by omega)]
    simp (maxSteps := 1000000) (disch := first | omega | (simp; done) | (simp; omega)) [z7a, z1a, z0a, z8p]
   have h2' : ¬ t.length < kOf h := by omega
   have hfin : ¬ (0 < kOf h ∧ fl h (at8 t 0) = 0) → awp E z8V (z9u [.t 2, .t 3, .t 4] (vI (h :: t))) ⟨[(0, .sl .plain nl (t.length + 1) (bys (h :: t)))], [(5, u8 flip), (6, i64 (kOf h))], []⟩ := by
    intro h3
    generalize hds : (t.take (kOf h)).map (fl h) = ds
    have hdl : ds.length = kOf h := by rw [← hds]; simp; omega
    have hda : ∀ i, i < kOf h → at8 t i ^^^ flip = at8 ds i := fun i hi => by
     rw [← hfl, z3ub, ← hds]
     simp only [at8, List.getD, List.getElem?_map, List.getElem?_take, if_pos hi, List.getElem?_eq_getElem (show i < t.length by omega)]
     rfl
    have hM : ∀ i, i ≤ 8 → (UInt64.ofNat (z1qa (ds.take i))).toNat = z1qa (ds.take i) := fun i hi => by
     have := z4ta ds i 8 hi
     rw [UInt64.toNat_ofNat']; omega
    simp (maxSteps := 1000000) (disch := first | omega | (simp; done) | (simp; omega)) [z7a, z1a, z0a, z8V]
    refine ⟨by omega, ?_⟩
    refine z3a fun Q1 hQ1 => ?_
    refine z7d (fun i : Nat => ⟨[(0, .sl .plain nl (t.length + 1) (bys (h :: t)))],
      [(5, u8 flip), (6, i64 (kOf h)), (7, u64 (UInt64.ofNat (z1qa (ds.take i)))), (46, .sl .plain nl (kOf h) (bys (t.take (kOf h)))), (47, i64 (kOf h)), (48, i64 i)], []⟩)
     (fun i => kOf h - i) (· ≤ kOf h) 0 rfl (by simp) fun i hi => ?_
    refine z3a fun Q2 hQ2 => ?_
    simp (maxSteps := 1000000) (disch := first | omega | (simp; done) | (simp; omega)) [z7a, z1a, z0a, z0da]
    rw [z3b]
    refine ⟨by simp, fun h5 => ?_, fun h5 => ?_⟩ <;> simp at h5
    ·have hi' : i < kOf h := by omega
     have hi8 : i ≤ 7 := by omega
     have hstep : z7Bb (UInt64.ofNat (z1qa (ds.take i))) 8 ||| (at8 ds i).toUInt64 = UInt64.ofNat (z1qa (ds.take (i + 1))) := by
      apply UInt64.toNat_inj.1
      rw [z2Mc (hM i (by omega)) (z4ta ds i 7 hi8), hM _ (by omega), z4tb (by omega)]
     have hda' := hda i hi'
     simp (maxSteps := 1000000) (disch := first | omega | (simp; done) | (simp; omega)) [z7a, z1a, z0a, z1ca, z2Ia, z6ab, hda', hstep, hQ2]
     refine ⟨by omega, by omega, i + 1, by omega, by omega, by simp⟩
    ·have e : i = kOf h := by omega
     subst e
     have hT : ds.take (kOf h) = ds := List.take_of_length_le (by omega)
     have hM8 := hM (kOf h) (by omega)
     rw [hT] at hM8
     simp (maxSteps := 1000000) (disch := first | omega | (simp; done) | (simp; omega)) [z7a, z1a, z0a, hQ2, hQ1, z0ca, hT]
     have hpos := z7Da (m := 63) hM8
     generalize hV : z1qa ds = V at *
     generalize UInt64.ofNat V = U at *
     rw [z3b]
     refine ⟨by simp, fun h6 => ?_, fun h6 => ?_⟩ <;> simp at h6
     ·rw [vI, z3Fc h1' h2' (by rw [hds, hV]; exact hpos.1 h6)]
      simp (maxSteps := 1000000) (disch := first | omega | (simp; done) | (simp; omega)) [z7a, z1a, z0a, z8p]
     ·have h6' : ¬ 2 ^ 63 ≤ V := fun e => by have := hpos.2 e; rw [h6] at this; exact absurd this (by decide)
      rw [vI, z4Nc h1' h2' h3 (by rw [hds, hV]; exact h6'), hds, hV]
      have hU := notU (N := V) (by omega)
      simp (maxSteps := 1000000) (disch := first | omega | (simp; done) | (simp; omega)) [z7a, z1a, z0a, z1da]
      by_cases hh : h < 128
      ·rw [if_pos hh] at hfl
       subst hfl
       rw [z3b]
       refine ⟨by simp, fun h7 => ?_, fun h7 => ?_⟩ <;> simp at h7
       simp (maxSteps := 1000000) (disch := first | omega | (simp; done) | (simp; omega)) [z7a, z1a, z0a, z0W, hM8, hU, hh, z8p]
      ·rw [if_neg hh] at hfl
       subst hfl
       rw [z3b]
       refine ⟨by simp, fun h7 => ?_, fun h7 => ?_⟩ <;> simp at h7
       simp (maxSteps := 1000000) (disch := first | omega | (simp; done) | (simp; omega)) [z7a, z1a, z0a, z0W, hM8, hU, hh, z8p]
   by_cases hk0 : kOf h = 0
   ·simp (maxSteps := 1000000) (disch := first | omega | (simp; done) | (simp; omega)) [z7a, z1a, z0a, dT, dF, hk0]
    rw [z3b]
    refine ⟨by simp, fun h3 => ?_, fun h3 => ?_⟩ <;> simp at h3
    simp
    rw [hk0] at hfin
    exact hfin (by simp)
   ·simp (maxSteps := 1000000) (disch := first | omega | (simp; done) | (simp; omega)) [z7a, z1a, z0a, dT, dF, z33a, hx1]
    refine ⟨by omega, by omega, ?_⟩
    rw [z3b]
    refine ⟨by simp, fun h3 => ?_, fun h3 => ?_⟩ <;> simp at h3
    ·rw [vI, z5wc h1' h2' ⟨by omega, h3⟩]
     simp (maxSteps := 1000000) (disch := first | omega | (simp; done) | (simp; omega)) [z7a, z1a, z0a, z8p]
    ·simp
     exact hfin (by simp [h3])
  rw [z3b]
  refine ⟨by simp, fun hh => ?_, fun hh => ?_⟩ <;> simp at hh
  ·rw [if_pos hh] at key
   simpa using key
  ·rw [if_neg (by simpa using hh)] at key
   simpa using key
end Go.Abs
end

section
namespace Go.Abs
theorem z5Bc (E : Env) (h45 : E.G 45 = z1Q) : ∀ ds, z9db.pre ds → ds.length = z9o.n ∧ awp E z9o.body (z9u z9o.res (z9db.post ds)) (z8c z9o.wr ds) := by
 rintro _ ⟨nl, b, s, hb, hs0, hs1, rfl⟩
 rw [z9db, z2Jb, Int.toNat_natCast]
 rcases z1La b with ⟨n, u, hg⟩ | hg | hg
 ·obtain ⟨h1, h2, h3, h4⟩ := z4Ca hg
  have hq : ((b.length : Int) - u).tdiv s = (((b.length - u) / s : Nat) : Int) := by
   rw [Int.tdiv_eq_ediv_of_nonneg (by omega), show (b.length : Int) - u = ((b.length - u : Nat) : Int) by omega]; rfl
  have hq2 : (b.length - u) / s ≤ b.length := Nat.le_trans (Nat.div_le_self _ _) (by omega)
  have hE : z54a b s = if n < 0 then 6 else if (b.length - u) / s < n.toNat then 5 else 0 := by unfold z54a; rw [hg]; simp
  rw [hE, hg]
  generalize (b.length - u) / s = q at *
  have hu9 := z8l h1
  simp (maxSteps := 1000000) (disch := first | omega | (simp; done) | (simp; omega)) [z7a, z1a, z0a, z9o, h45, z1Q, z6ka, vI, hg, z8p, hq]
  rw [z3b]
  refine ⟨by simp, fun h => ?_, fun h => ?_⟩ <;> simp at h
  simp (maxSteps := 1000000) (disch := first | omega | (simp; done) | (simp; omega)) [z7a, z1a, z0a]
  rw [z3b]
  refine ⟨by simp, fun h5 => ?_, fun h5 => ?_⟩ <;> simp at h5
  ·simp (maxSteps := 1000000) (disch := first | omega | (simp; done) | (simp; omega)) [z7a, z1a, z0a, h5, z5s]
  simp (maxSteps := 1000000) (disch := first | omega | (simp; done) | (simp; omega)) [z7a, z1a, z0a, hq]
  refine ⟨by omega, ?_⟩
  rw [z3b]
  refine ⟨by simp, fun h6 => ?_, fun h6 => ?_⟩ <;> simp at h6
  ·have e1 : ¬ n < 0 := by omega
   simp (maxSteps := 1000000) (disch := first | omega | (simp; done) | (simp; omega)) [z7a, z1a, z0a, h6, z5s, e1]
  ·have e1 : ¬ n < 0 := by omega
   have e2 : ¬ (q : Int) < n := by omega
   simp (maxSteps := 1000000) (disch := first | omega | (simp; done) | (simp; omega)) [z7a, z1a, z0a, h6, z5s, e1, e2]
 ·simp (maxSteps := 1000000) (disch := first | omega | (simp; done) | (simp; omega)) [z7a, z1a, z0a, z9o, h45, z1Q, z6ka, vI, hg, z54a, z8p]
  rw [z3b]
  refine ⟨by simp, fun h => ?_, fun h => ?_⟩ <;> simp at h
  simp (maxSteps := 1000000) (disch := first | omega | (simp; done) | (simp; omega)) [z7a, z1a, z0a, z5s]
 ·simp (maxSteps := 1000000) (disch := first | omega | (simp; done) | (simp; omega)) [z7a, z1a, z0a, z9o, h45, z1Q, z6ka, vI, hg, z54a, z8p]
  rw [z3b]
  refine ⟨by simp, fun h => ?_, fun h => ?_⟩ <;> simp at h
  simp (maxSteps := 1000000) (disch := first | omega | (simp; done) | (simp; omega)) [z7a, z1a, z0a, z5s]
theorem z50a (E : Env) (h47 : E.G 47 = z9db) : ∀ ds, z6Z.pre ds → ds.length = z7j.n ∧ awp E z7j.body (z9u z7j.res (z6Z.post ds)) (z8c z7j.wr ds) := by
 rintro _ ⟨nl, b, hb, rfl⟩
 rw [z6Z, z8Ma, z0ma]
 rcases z7na b 1 (by decide) with (hE | hE) | ⟨hE, n, u, hg, hu, hn, hu9⟩
 ·simp (maxSteps := 1000000) (disch := first | omega | (simp; done) | (simp; omega)) [z7a, z1a, z0a, z7j, h47, z9db, z8qa, hE, z8p]
  rw [z3b]
  refine ⟨by simp, fun h => ?_, fun h => ?_⟩ <;> simp at h
  simp (maxSteps := 1000000) (disch := first | omega | (simp; done) | (simp; omega)) [z7a, z1a, z0a]
 ·simp (maxSteps := 1000000) (disch := first | omega | (simp; done) | (simp; omega)) [z7a, z1a, z0a, z7j, h47, z9db, z8qa, hE, z8p]
  rw [z3b]
  refine ⟨by simp, fun h => ?_, fun h => ?_⟩ <;> simp at h
  simp (maxSteps := 1000000) (disch := first | omega | (simp; done) | (simp; omega)) [z7a, z1a, z0a]
 ·simp (maxSteps := 1000000) (disch := first | omega | (simp; done) | (simp; omega)) [z7a, z1a, z0a, z7j, h47, z9db, z8qa, hE, hg, z8p]
  rw [z3b]
  refine ⟨by simp, fun h => ?_, fun h => ?_⟩ <;> simp at h
  simp (maxSteps := 1000000) (disch := first | omega | (simp; done) | (simp; omega)) [z7a, z1a, z0a, z11]
  omega
end Go.Abs
end

section
namespace Go.Abs
theorem z22b (E : Env) : ∀ ds p, z3ra.pre ds → ds.length = z5v.n ∧ awp E z5v.body (z61a z5v.res z3ra p ds) (z5la z3ra.bx p ds) := by
 rintro _ p ⟨nl, b, i, hb, hi, rfl⟩
 simp (maxSteps := 1000000) (disch := first | omega | (simp; done) | (simp; omega)) [z7a, z1a, z0a, z5v, z3ra]
theorem z83b (E : Env) (h45 : E.G 45 = z1Q) : ∀ ds p, z7la.pre ds → ds.length = z7p.n ∧ awp E z7p.body (z61a z7p.res z7la p ds) (z5la z7la.bx p ds) := by
 rintro _ p ⟨nl, b, i, hb, hi, rfl⟩
 have hu := z2na (b.drop i)
 rw [List.length_drop] at hu
 have ht : (b.drop i).take (b.length - i) = b.drop i := List.take_of_length_le (by simp)
 simp (maxSteps := 1000000) (disch := first | omega | (simp; done) | (simp; omega)) [z7a, z1a, z0a, z7p, z7la, z7ac, z0Gb, h45, z1Q, z6ka, vI, z8p, ht]
 omega
theorem z5db (E : Env) (h47 : E.G 47 = z9db) (h51 : E.M 51 = z3ra) (h61 : E.M 61 = z7la) : ∀ ds, z9aa.pre ds → ds.length = z0l.n ∧ awp E z0l.body (z9u z0l.res (z9aa.post ds)) (z8c z0l.wr ds) := by
 rintro _ ⟨nl, b, hb, rfl⟩
 rw [z9aa, z8Ma, z8z]
 rcases z7na b 1 (by decide) with (hE | hE) | ⟨hE, n, u, hg, hu, hn, hu9⟩
 ·simp (maxSteps := 1000000) (disch := first | omega | (simp; done) | (simp; omega)) [z7a, z1a, z0a, z0l, h47, z9db, z8qa, hE, z8p, vIs]
  rw [z3b]
  refine ⟨by simp, fun h => ?_, fun h => ?_⟩ <;> simp at h
  simp (maxSteps := 1000000) (disch := first | omega | (simp; done) | (simp; omega)) [z7a, z1a, z0a]
 ·simp (maxSteps := 1000000) (disch := first | omega | (simp; done) | (simp; omega)) [z7a, z1a, z0a, z0l, h47, z9db, z8qa, hE, z8p, vIs]
  rw [z3b]
  refine ⟨by simp, fun h => ?_, fun h => ?_⟩ <;> simp at h
  simp (maxSteps := 1000000) (disch := first | omega | (simp; done) | (simp; omega)) [z7a, z1a, z0a]
 ·have hu' : (u : Int) ≤ b.length := by omega
  rw [if_pos hE, hg, Int.toNat_natCast]
  simp (maxSteps := 1000000) (disch := first | omega | (simp; done) | (simp; omega)) [z7a, z1a, z0a, z0l, h47, z9db, z8qa, hE, hg, z8p]
  rw [z3b]
  refine ⟨by simp, fun h => ?_, fun h => ?_⟩ <;> simp at h
  simp (maxSteps := 1000000) (disch := first | omega | (simp; done) | (simp; omega)) [z7a, z1a, z0a, z28, h51, z1Bb]
  refine z3a fun Q0 hQ0 => ?_
  refine z7d (fun p : Nat × List Int × Nat => ⟨[(0, .sl .plain nl b.length (bys b))],
    [(6, i64 p.2.2), (8, .fn 61 [] [.bp 24 0, .bp 1024 0]), (9, .sl (.own 1) none p.2.1.length (z6j p.2.1)), (25, i64 n), (26, i64 p.1)],
    [(24, some [.sl .plain nl b.length (bys b)]), (1024, some [i64 p.2.2])]⟩)
   (fun p => n - p.1) (fun p => p.1 ≤ n ∧ p.2.1.length = p.1 ∧ p.2.2 ≤ b.length ∧ pre p.2.1 (z3ia z0m (n - p.1) b p.2.2) = z3ia z0m n b u) (0, [], u) rfl ⟨by omega, rfl, hu, z91b _ _ _ _⟩ fun p hp => ?_
  obtain ⟨i, out, c⟩ := p
  obtain ⟨hi, hl, hc, hR⟩ := hp
  simp only at hi hl hc hR
  refine z3a fun Q1 hQ1 => ?_
  simp (maxSteps := 1000000) (disch := first | omega | (simp; done) | (simp; omega)) [z7a, z1a, z0a, z97]
  rw [z3b]
  refine ⟨by simp, fun h1 => ?_, fun h1 => ?_⟩ <;> simp at h1
  ·have h1' : i < n := by omega
   obtain ⟨k, hk⟩ : ∃ k, n - i = k + 1 := ⟨n - i - 1, by omega⟩
   rw [hk] at hR
   have hc' : (c : Int) ≤ b.length := by omega
   obtain ⟨g1, g2, g3⟩ := z2na (b.drop c)
   rw [List.length_drop] at g1
   simp (maxSteps := 1000000) (disch := first | omega | (simp; done) | (simp; omega)) [z7a, z1a, z0a, z0aa, h61, z4Db, z8p]
   rw [z3b]
   refine ⟨by simp, fun h2 => ?_, fun h2 => ?_⟩ <;> simp at h2
   ·have h2' : (z0m (b.drop c)).2.2 ≠ 0 := by omega
    rw [z3Ab h2'] at hR
    simp (maxSteps := 1000000) (disch := first | omega | (simp; done) | (simp; omega)) [z7a, z1a, z0a, hQ1, hQ0, ← hR, vIs, z8p]
   ·have h2' : (z0m (b.drop c)).2.2 = 0 := by omega
    rw [z5Ab h2'] at hR
    simp (maxSteps := 1000000) (disch := first | omega | (simp; done) | (simp; omega)) [z7a, z1a, z0a, z07, hQ1, z8lb]
    refine ⟨by omega, i + 1, by omega, out ++ [(z0m (b.drop c)).1], c + (z0m (b.drop c)).2.1, ⟨by omega, by simp; omega, by omega, ?_⟩, by simp⟩
    rw [show n - (i + 1) = k by omega]
    exact hR
  ·have e : i = n := by omega
   subst e
   rw [Nat.sub_self, z07b] at hR
   simp (maxSteps := 1000000) (disch := first | omega | (simp; done) | (simp; omega)) [z7a, z1a, z0a, hQ1, hQ0, z68, ← hR, vIs, z8p]
end Go.Abs
end

section
namespace Go.Abs
theorem z4gc (E : Env) (h12 : E.G 12 = z1eb) : ∀ ds, z0N.pre ds → ds.length = z0A.n ∧ awp E z0A.body (z9u z0A.res (z0N.post ds)) (z8c z0A.wr ds) := by
 rintro _ ⟨nl, l, hl, hm, rfl⟩
 rw [z0N, z9ea]
 have hi0 := z8l (n := l.length) (z0Ya (by omega))
 simp (maxSteps := 1000000) (disch := first | omega | (simp; done) | (simp; omega)) [z7a, z1a, z0a, z0A, h12, z0Ka]
 refine z3a fun Q0 hQ0 => ?_
 refine z7d (fun i : Nat => ⟨[(0, .sl .plain nl l.length (z6j l))], [(3, .sl (.own 1) (some false) (z7v l.length ++ (l.take i).flatMap z7v).length (bys (z7v l.length ++ (l.take i).flatMap z7v))), (9, .sl .plain nl l.length (z6j l)), (10, i64 l.length), (11, i64 i)], []⟩) (fun i => l.length - i) (· ≤ l.length) 0 (by simp) (by simp) fun i hi => ?_
 refine z3a fun Q1 hQ1 => ?_
 simp (maxSteps := 1000000) (disch := first | omega | (simp; done) | (simp; omega)) [z7a, z1a, z0a, z6ja, -List.length_flatMap]
 rw [z3b]
 refine ⟨by simp, fun h1 => ?_, fun h1 => ?_⟩ <;> simp at h1
 ·have h1' : i < l.length := by omega
  have hs := z5p l z7v 0 h1'
  rw [show l.getD i 0 = atI l i from rfl] at hs
  obtain ⟨g0, g1⟩ := hm _ (z7qa h1')
  have g2 := z8l (hm _ (z7qa h1'))
  have g3 := z8f (l := l.take i) fun x hx => hm x (List.mem_of_mem_take hx)
  rw [List.length_take] at g3
  generalize hF : (l.take i).flatMap z7v = F at *
  generalize hX : atI l i = x at *
  simp (maxSteps := 1000000) (disch := first | omega | (simp; done) | (simp; omega)) [z7a, z1a, z0a, z8ja, z1ga, hX, h12, z0Ka, hQ1, -List.length_flatMap]
  refine ⟨by omega, by omega, by omega, i + 1, by omega, by omega, ⟨?_, hs.symm⟩, by simp⟩
  rw [hs, List.length_append]; omega
 ·have e : i = l.length := by omega
  subst e
  simp (maxSteps := 1000000) (disch := first | omega | (simp; done) | (simp; omega)) [z7a, z1a, z0a, hQ1, hQ0, z9ja, z32c, z9q, -List.length_flatMap]
theorem z2Fb (E : Env) (h30 : E.G 30 = z1Fa) : ∀ ds, z7pa.pre ds → ds.length = z9i.n ∧ awp E z9i.body (z9u z9i.res (z7pa.post ds)) (z8c z9i.wr ds) := by
 rintro _ ⟨nl, l, hl, hm, rfl⟩
 rw [z7pa, z9ea]
 have hi0 := z8l (n := l.length) (z0Ya (by omega))
 simp (maxSteps := 1000000) (disch := first | omega | (simp; done) | (simp; omega)) [z7a, z1a, z0a, z9i, h30, z9wa]
 refine z3a fun Q0 hQ0 => ?_
 refine z7d (fun i : Nat => ⟨[(0, .sl .plain nl l.length (z6j l))], [(3, .sl (.own 1) none (z7v l.length ++ (l.take i).flatMap z7v).length (bys (z7v l.length ++ (l.take i).flatMap z7v))), (4, i64 i)], []⟩) (fun i => l.length - i) (· ≤ l.length) 0 (by simp) (by simp) fun i hi => ?_
 refine z3a fun Q1 hQ1 => ?_
 simp (maxSteps := 1000000) (disch := first | omega | (simp; done) | (simp; omega)) [z7a, z1a, z0a, z6P, -List.length_flatMap]
 rw [z3b]
 refine ⟨by simp, fun h1 => ?_, fun h1 => ?_⟩ <;> simp at h1
 ·have h1' : i < l.length := by omega
  have hs := z5p l z7v 0 h1'
  rw [show l.getD i 0 = atI l i from rfl] at hs
  obtain ⟨g0, g1⟩ := hm _ (z7qa h1')
  have g2 := z8l (hm _ (z7qa h1'))
  have g3 := z8f (l := l.take i) fun x hx => hm x (List.mem_of_mem_take hx)
  rw [List.length_take] at g3
  generalize hF : (l.take i).flatMap z7v = F at *
  generalize hX : atI l i = x at *
  simp (maxSteps := 1000000) (disch := first | omega | (simp; done) | (simp; omega)) [z7a, z1a, z0a, z3P, z1ga, hX, h30, z9wa, hQ1, -List.length_flatMap]
  refine ⟨by omega, by omega, by omega, i + 1, by omega, by omega, ⟨?_, hs.symm⟩, by simp⟩
  rw [hs, List.length_append]; omega
 ·have e : i = l.length := by omega
  subst e
  simp (maxSteps := 1000000) (disch := first | omega | (simp; done) | (simp; omega)) [z7a, z1a, z0a, hQ1, hQ0, z5P, z32c, z9q, -List.length_flatMap]
end Go.Abs
end

section
namespace Go.Abs
theorem z0kb (E : Env) : ∀ ds, z1K.pre ds → ds.length = z1f.n ∧ awp E z1f.body (z9u z1f.res (z1K.post ds)) (z8c z1f.wr ds) := by
 rintro _ ⟨nl, nl', a, b, ha, rfl⟩
 simp (maxSteps := 1000000) (disch := first | omega | (simp; done) | (simp; omega)) [z7a, z1a, z0a, z1f]
 rw [z3b]
 refine ⟨by simp, fun h => ?_, fun h => ?_⟩ <;> simp at h
 ·have : (a == b) = false := by simpa using fun e : a = b => h (by rw [e])
  simp (maxSteps := 1000000) (disch := first | omega | (simp; done) | (simp; omega)) [z7a, z1a, z0a, z1K, this]
 simp (maxSteps := 1000000) (disch := first | omega | (simp; done) | (simp; omega)) [z7a, z1a, z0a, z1C]
 have hl : a.length = b.length := by omega
 refine z3a fun Q0 hQ0 => ?_
 refine z7d (fun i : Nat => ⟨[(0, .sl .plain nl a.length (z6j a)), (1, .sl .plain nl' b.length (z6j b))], [(5, i64 i)], []⟩)
  (fun i => a.length - i) (fun i => i ≤ a.length ∧ a.take i = b.take i) 0 rfl (by simp) fun i hi => ?_
 obtain ⟨hi, he⟩ := hi
 refine z3a fun Q1 hQ1 => ?_
 simp (maxSteps := 1000000) (disch := first | omega | (simp; done) | (simp; omega)) [z7a, z1a, z0a, z5C]
 rw [z3b]
 refine ⟨by simp, fun h1 => ?_, fun h1 => ?_⟩ <;> simp at h1
 ·have h1' : i < a.length := by omega
  simp (maxSteps := 1000000) (disch := first | omega | (simp; done) | (simp; omega)) [z7a, z1a, z0a, z2C, z1ga]
  refine ⟨by omega, by omega, by omega, by omega, ?_⟩
  rw [z3b]
  refine ⟨by simp, fun h2 => ?_, fun h2 => ?_⟩ <;> simp at h2
  ·have : (a == b) = false := by simpa using fun e : a = b => h2 (by rw [e])
   simp (maxSteps := 1000000) (disch := first | omega | (simp; done) | (simp; omega)) [z7a, z1a, z0a, hQ1, hQ0, z1K, this]
  ·simp (maxSteps := 1000000) (disch := first | omega | (simp; done) | (simp; omega)) [z7a, z1a, z0a, hQ1]
   refine ⟨i + 1, by omega, ⟨by omega, ?_⟩, by simp⟩
   have h3 : i < b.length := by omega
   have h4 : a[i] = b[i] := by simpa [atI, List.getD, List.getElem?_eq_getElem h1', List.getElem?_eq_getElem h3] using h2
   rw [List.take_succ_eq_append_getElem h1', List.take_succ_eq_append_getElem h3, he, h4]
 ·have e : i = a.length := by omega
  subst e
  have : (a == b) = true := by
   rw [List.take_length, hl, List.take_length] at he
   simpa using he
  simp (maxSteps := 1000000) (disch := first | omega | (simp; done) | (simp; omega)) [z7a, z1a, z0a, hQ1, hQ0, z9B, z1K, this]
end Go.Abs
end
