/- Lemmas: an abstract interpreter, and what the functions compute. -/
import Derived.Test.YtkccmbjmlpnejaaDoorT
import Derived.Test.YtkccmbjmlpnejaaDoorE
set_option linter.unusedSimpArgs false
set_option linter.unusedVariables false
set_option linter.unusedSectionVars false
section
namespace Go.Abs
set_option maxRecDepth 20000
theorem notU {N : Nat} (hN : N < 2 ^ 63) : W (((18446744073709551615 - N : Nat)) : Int) = -1 - (N : Int) := by
 unfold W IntKind.wrap IntKind.bits IntKind.signed
 simp only [Bool.true_and]
 split <;> rename_i h <;> simp at h ⊢ <;> omega
theorem z5nb (E : Env) : ∀ ds, z4O.pre ds → ds.length = z1n.n ∧ awp E z1n.body (z9t z1n.res (z4O.post ds)) (z6c z1n.wr ds) := by
 rintro _ ⟨nl, b, hb, rfl⟩
 rw [z4O, z7Ma]
 cases b with
 | nil =>
  simp (maxSteps := 1000000) (disch := first | omega | (simp; done) | (simp; omega)) [z7a, z1a, z0a, z1n, vI, z0l, z3o]
  rw [z5b]
  refine ⟨by simp, fun h => ?_, fun h => ?_⟩ <;> simp at h
  simp
 | cons h t =>
  simp only [List.length_cons] at hb
  simp (maxSteps := 1000000) (disch := first | omega | (simp; done) | (simp; omega)) [z7a, z1a, z0a, z1n]
  rw [z5b]
  refine ⟨by simp, fun h0 => ?_, fun h0 => ?_⟩ <;> simp at h0
  ·omega
  simp (maxSteps := 1000000) (disch := first | omega | (simp; done) | (simp; omega)) [z7a, z1a, z0a, z3aa, z4Xa]
  refine z3a fun Q0 hQ0 => ?_
  have hk := z3Ka h
  have hlt := h.toNat_lt
  have key : Q0 .normal ⟨[(0, .sl .plain nl (t.length + 1) (bys (h :: t)))], [(5, u8 (if h < 128 then 255 else 0))], []⟩ := by
   have hx : h ^^^ (if h < 128 then 255 else 0) = fl h h := z5lb h h
   have hkn : ((fl h h).toNat : Int) - 128 = kOf h := by
    unfold kOf fl
    split
    ·rename_i hh; have := (z0Za h).1 hh; rw [z26a]; omega
    ·rename_i hh; have : ¬ h.toNat < 128 := fun e => hh ((z0Za h).2 e)
     omega
   have hx1 : at8 t 0 ^^^ (if h < 128 then 255 else 0) = fl h (at8 t 0) := z5lb h _
   have hkb : kOf h ≤ 128 := by rw [hk]; split <;> omega
   generalize hfl : (if h < 128 then (255 : UInt8) else 0) = flip at *
   simp (maxSteps := 1000000) (disch := first | omega | (simp; done) | (simp; omega)) [z7a, z1a, z0a, hQ0, z89, hx, z4Xa, hkn]
   rw [z5b]
   refine ⟨by simp, fun h1 => ?_, fun h1 => ?_⟩ <;> simp at h1
   ·rw [vI, z9Hc (by omega)]
    simp (maxSteps := 1000000) (disch := first | omega | (simp; done) | (simp; omega)) [z7a, z1a, z0a, z3o]
   have h1' : ¬ 8 < kOf h := by omega
   simp (maxSteps := 1000000) (disch := first | omega | (simp; done) | (simp; omega)) [z7a, z1a, z0a]
   rw [z5b]
   refine ⟨by simp, fun h2 => ?_, fun h2 => ?_⟩ <;> simp at h2
   ·rw [vI, z2Gc h1' (by omega)]
    simp (maxSteps := 1000000) (disch := first | omega | (simp; done) | (simp; omega)) [z7a, z1a, z0a, z3o]
   have h2' : ¬ t.length < kOf h := by omega
   have hfin : ¬ (0 < kOf h ∧ fl h (at8 t 0) = 0) → awp E z9U (z9t [.t 2, .t 3, .t 4] (vI (h :: t))) ⟨[(0, .sl .plain nl (t.length + 1) (bys (h :: t)))], [(5, u8 flip), (6, i64 (kOf h))], []⟩ := by
    intro h3
    generalize hds : (t.take (kOf h)).map (fl h) = ds
    have hdl : ds.length = kOf h := by rw [← hds]; simp; omega
    have hda : ∀ i, i < kOf h → at8 t i ^^^ flip = at8 ds i := fun i hi => by
     rw [← hfl, z5lb, ← hds]
     simp only [at8, List.getD, List.getElem?_map, List.getElem?_take, if_pos hi, List.getElem?_eq_getElem (show i < t.length by omega)]
     rfl
    have hM : ∀ i, i ≤ 8 → (UInt64.ofNat (z9na (ds.take i))).toNat = z9na (ds.take i) := fun i hi => by
     have := z2ta ds i 8 hi
     rw [UInt64.toNat_ofNat']; omega
    simp (maxSteps := 1000000) (disch := first | omega | (simp; done) | (simp; omega)) [z7a, z1a, z0a, z9U]
    refine ⟨by omega, ?_⟩
    refine z3a fun Q1 hQ1 => ?_
    refine z3d (fun i : Nat => ⟨[(0, .sl .plain nl (t.length + 1) (bys (h :: t)))],
      [(5, u8 flip), (6, i64 (kOf h)), (7, u64 (UInt64.ofNat (z9na (ds.take i)))), (46, .sl .plain nl (kOf h) (bys (t.take (kOf h)))), (47, i64 (kOf h)), (48, i64 i)], []⟩)
     (fun i => kOf h - i) (· ≤ kOf h) 0 rfl (by simp) fun i hi => ?_
    refine z3a fun Q2 hQ2 => ?_
    simp (maxSteps := 1000000) (disch := first | omega | (simp; done) | (simp; omega)) [z7a, z1a, z0a, z99]
    rw [z5b]
    refine ⟨by simp, fun h5 => ?_, fun h5 => ?_⟩ <;> simp at h5
    ·have hi' : i < kOf h := by omega
     have hi8 : i ≤ 7 := by omega
     have hstep : z3vb (UInt64.ofNat (z9na (ds.take i))) 8 ||| (at8 ds i).toUInt64 = UInt64.ofNat (z9na (ds.take (i + 1))) := by
      apply UInt64.toNat_inj.1
      rw [z0Gc (hM i (by omega)) (z2ta ds i 7 hi8), hM _ (by omega), z1lb (by omega)]
     have hda' := hda i hi'
     simp (maxSteps := 1000000) (disch := first | omega | (simp; done) | (simp; omega)) [z7a, z1a, z0a, z9aa, z4Ca, z53a, hda', hstep, hQ2]
     refine ⟨by omega, by omega, i + 1, by omega, by omega, by simp⟩
    ·have e : i = kOf h := by omega
     subst e
     have hT : ds.take (kOf h) = ds := List.take_of_length_le (by omega)
     have hM8 := hM (kOf h) (by omega)
     rw [hT] at hM8
     simp (maxSteps := 1000000) (disch := first | omega | (simp; done) | (simp; omega)) [z7a, z1a, z0a, hQ2, hQ1, z3ba, hT]
     have hpos := z3ya (m := 63) hM8
     generalize hV : z9na ds = V at *
     generalize UInt64.ofNat V = U at *
     rw [z5b]
     refine ⟨by simp, fun h6 => ?_, fun h6 => ?_⟩ <;> simp at h6
     ·rw [vI, z2Cc h1' h2' (by rw [hds, hV]; exact hpos.1 h6)]
      simp (maxSteps := 1000000) (disch := first | omega | (simp; done) | (simp; omega)) [z7a, z1a, z0a, z3o]
     ·have h6' : ¬ 2 ^ 63 ≤ V := fun e => by have := hpos.2 e; rw [h6] at this; exact absurd this (by decide)
      rw [vI, z3pc h1' h2' h3 (by rw [hds, hV]; exact h6'), hds, hV]
      have hU := notU (N := V) (by omega)
      simp (maxSteps := 1000000) (disch := first | omega | (simp; done) | (simp; omega)) [z7a, z1a, z0a, z69]
      by_cases hh : h < 128
      ·rw [if_pos hh] at hfl
       subst hfl
       rw [z5b]
       refine ⟨by simp, fun h7 => ?_, fun h7 => ?_⟩ <;> simp at h7
       simp (maxSteps := 1000000) (disch := first | omega | (simp; done) | (simp; omega)) [z7a, z1a, z0a, z7U, hM8, hU, hh, z3o]
      ·rw [if_neg hh] at hfl
       subst hfl
       rw [z5b]
       refine ⟨by simp, fun h7 => ?_, fun h7 => ?_⟩ <;> simp at h7
       simp (maxSteps := 1000000) (disch := first | omega | (simp; done) | (simp; omega)) [z7a, z1a, z0a, z7U, hM8, hU, hh, z3o]
   by_cases hk0 : kOf h = 0
   ·simp (maxSteps := 1000000) (disch := first | omega | (simp; done) | (simp; omega)) [z7a, z1a, z0a, dT, dF, hk0]
    rw [z5b]
    refine ⟨by simp, fun h3 => ?_, fun h3 => ?_⟩ <;> simp at h3
    simp
    rw [hk0] at hfin
    exact hfin (by simp)
   ·simp (maxSteps := 1000000) (disch := first | omega | (simp; done) | (simp; omega)) [z7a, z1a, z0a, dT, dF, z4Xa, hx1]
    refine ⟨by omega, by omega, ?_⟩
    rw [z5b]
    refine ⟨by simp, fun h3 => ?_, fun h3 => ?_⟩ <;> simp at h3
    ·rw [vI, z2uc h1' h2' ⟨by omega, h3⟩]
     simp (maxSteps := 1000000) (disch := first | omega | (simp; done) | (simp; omega)) [z7a, z1a, z0a, z3o]
    ·simp
     exact hfin (by simp [h3])
  rw [z5b]
  refine ⟨by simp, fun hh => ?_, fun hh => ?_⟩ <;> simp at hh
  ·rw [if_pos hh] at key
   simpa using key
  ·rw [if_neg (by simpa using hh)] at key
   simpa using key
end Go.Abs
end

section
namespace Go.Abs
theorem z2Ec (E : Env) (h45 : E.G 45 = z4O) : ∀ ds, z1cb.pre ds → ds.length = z9n.n ∧ awp E z9n.body (z9t z9n.res (z1cb.post ds)) (z6c z9n.wr ds) := by
 rintro _ ⟨nl, b, s, hb, hs0, hs1, rfl⟩
 rw [z1cb, z9Jb, Int.toNat_natCast]
 rcases z1Na b with ⟨n, u, hg⟩ | hg | hg
 ·obtain ⟨h1, h2, h3, h4⟩ := z8za hg
  have hq : ((b.length : Int) - u).tdiv s = (((b.length - u) / s : Nat) : Int) := by
   rw [Int.tdiv_eq_ediv_of_nonneg (by omega), show (b.length : Int) - u = ((b.length - u : Nat) : Int) by omega]; rfl
  have hq2 : (b.length - u) / s ≤ b.length := Nat.le_trans (Nat.div_le_self _ _) (by omega)
  have hE : z4Ra b s = if n < 0 then 6 else if (b.length - u) / s < n.toNat then 5 else 0 := by unfold z4Ra; rw [hg]; simp
  rw [hE, hg]
  generalize (b.length - u) / s = q at *
  have hu9 := z6l h1
  simp (maxSteps := 1000000) (disch := first | omega | (simp; done) | (simp; omega)) [z7a, z1a, z0a, z9n, h45, z4O, z8ja, vI, hg, z3o, hq]
  rw [z5b]
  refine ⟨by simp, fun h => ?_, fun h => ?_⟩ <;> simp at h
  simp (maxSteps := 1000000) (disch := first | omega | (simp; done) | (simp; omega)) [z7a, z1a, z0a]
  rw [z5b]
  refine ⟨by simp, fun h5 => ?_, fun h5 => ?_⟩ <;> simp at h5
  ·simp (maxSteps := 1000000) (disch := first | omega | (simp; done) | (simp; omega)) [z7a, z1a, z0a, h5, z8r]
  simp (maxSteps := 1000000) (disch := first | omega | (simp; done) | (simp; omega)) [z7a, z1a, z0a, hq]
  refine ⟨by omega, ?_⟩
  rw [z5b]
  refine ⟨by simp, fun h6 => ?_, fun h6 => ?_⟩ <;> simp at h6
  ·have e1 : ¬ n < 0 := by omega
   simp (maxSteps := 1000000) (disch := first | omega | (simp; done) | (simp; omega)) [z7a, z1a, z0a, h6, z8r, e1]
  ·have e1 : ¬ n < 0 := by omega
   have e2 : ¬ (q : Int) < n := by omega
   simp (maxSteps := 1000000) (disch := first | omega | (simp; done) | (simp; omega)) [z7a, z1a, z0a, h6, z8r, e1, e2]
 ·simp (maxSteps := 1000000) (disch := first | omega | (simp; done) | (simp; omega)) [z7a, z1a, z0a, z9n, h45, z4O, z8ja, vI, hg, z4Ra, z3o]
  rw [z5b]
  refine ⟨by simp, fun h => ?_, fun h => ?_⟩ <;> simp at h
  simp (maxSteps := 1000000) (disch := first | omega | (simp; done) | (simp; omega)) [z7a, z1a, z0a, z8r]
 ·simp (maxSteps := 1000000) (disch := first | omega | (simp; done) | (simp; omega)) [z7a, z1a, z0a, z9n, h45, z4O, z8ja, vI, hg, z4Ra, z3o]
  rw [z5b]
  refine ⟨by simp, fun h => ?_, fun h => ?_⟩ <;> simp at h
  simp (maxSteps := 1000000) (disch := first | omega | (simp; done) | (simp; omega)) [z7a, z1a, z0a, z8r]
theorem z0Xa (E : Env) (h47 : E.G 47 = z1cb) : ∀ ds, z7W.pre ds → ds.length = z9i.n ∧ awp E z9i.body (z9t z9i.res (z7W.post ds)) (z6c z9i.wr ds) := by
 rintro _ ⟨nl, b, hb, rfl⟩
 rw [z7W, z7Ma, z9ia]
 rcases z8oa b 1 (by decide) with (hE | hE) | ⟨hE, n, u, hg, hu, hn, hu9⟩
 ·simp (maxSteps := 1000000) (disch := first | omega | (simp; done) | (simp; omega)) [z7a, z1a, z0a, z9i, h47, z1cb, z9qa, hE, z3o]
  rw [z5b]
  refine ⟨by simp, fun h => ?_, fun h => ?_⟩ <;> simp at h
  simp (maxSteps := 1000000) (disch := first | omega | (simp; done) | (simp; omega)) [z7a, z1a, z0a]
 ·simp (maxSteps := 1000000) (disch := first | omega | (simp; done) | (simp; omega)) [z7a, z1a, z0a, z9i, h47, z1cb, z9qa, hE, z3o]
  rw [z5b]
  refine ⟨by simp, fun h => ?_, fun h => ?_⟩ <;> simp at h
  simp (maxSteps := 1000000) (disch := first | omega | (simp; done) | (simp; omega)) [z7a, z1a, z0a]
 ·simp (maxSteps := 1000000) (disch := first | omega | (simp; done) | (simp; omega)) [z7a, z1a, z0a, z9i, h47, z1cb, z9qa, hE, hg, z3o]
  rw [z5b]
  refine ⟨by simp, fun h => ?_, fun h => ?_⟩ <;> simp at h
  simp (maxSteps := 1000000) (disch := first | omega | (simp; done) | (simp; omega)) [z7a, z1a, z0a, z32]
  omega
end Go.Abs
end

section
namespace Go.Abs
theorem z37b (E : Env) : ∀ ds p, z3qa.pre ds → ds.length = z7t.n ∧ awp E z7t.body (z21a z7t.res z3qa p ds) (z9ka z3qa.bx p ds) := by
 rintro _ p ⟨nl, b, i, hb, hi, rfl⟩
 simp (maxSteps := 1000000) (disch := first | omega | (simp; done) | (simp; omega)) [z7a, z1a, z0a, z7t, z3qa]
theorem z87b (E : Env) (h45 : E.G 45 = z4O) : ∀ ds p, z8ka.pre ds → ds.length = z2o.n ∧ awp E z2o.body (z21a z2o.res z8ka p ds) (z9ka z8ka.bx p ds) := by
 rintro _ p ⟨nl, b, i, hb, hi, rfl⟩
 have hu := z0na (b.drop i)
 rw [List.length_drop] at hu
 have ht : (b.drop i).take (b.length - i) = b.drop i := List.take_of_length_le (by simp)
 simp (maxSteps := 1000000) (disch := first | omega | (simp; done) | (simp; omega)) [z7a, z1a, z0a, z2o, z8ka, z1Xb, z7vb, h45, z4O, z8ja, vI, z3o, ht]
 omega
theorem z9eb (E : Env) (h47 : E.G 47 = z1cb) (h51 : E.M 51 = z3qa) (h61 : E.M 61 = z8ka) : ∀ ds, z48.pre ds → ds.length = z6k.n ∧ awp E z6k.body (z9t z6k.res (z48.post ds)) (z6c z6k.wr ds) := by
 rintro _ ⟨nl, b, hb, rfl⟩
 rw [z48, z7Ma, z0v]
 rcases z8oa b 1 (by decide) with (hE | hE) | ⟨hE, n, u, hg, hu, hn, hu9⟩
 ·simp (maxSteps := 1000000) (disch := first | omega | (simp; done) | (simp; omega)) [z7a, z1a, z0a, z6k, h47, z1cb, z9qa, hE, z3o, vIs]
  rw [z5b]
  refine ⟨by simp, fun h => ?_, fun h => ?_⟩ <;> simp at h
  simp (maxSteps := 1000000) (disch := first | omega | (simp; done) | (simp; omega)) [z7a, z1a, z0a]
 ·simp (maxSteps := 1000000) (disch := first | omega | (simp; done) | (simp; omega)) [z7a, z1a, z0a, z6k, h47, z1cb, z9qa, hE, z3o, vIs]
  rw [z5b]
  refine ⟨by simp, fun h => ?_, fun h => ?_⟩ <;> simp at h
  simp (maxSteps := 1000000) (disch := first | omega | (simp; done) | (simp; omega)) [z7a, z1a, z0a]
 ·have hu' : (u : Int) ≤ b.length := by omega
  rw [if_pos hE, hg, Int.toNat_natCast]
  simp (maxSteps := 1000000) (disch := first | omega | (simp; done) | (simp; omega)) [z7a, z1a, z0a, z6k, h47, z1cb, z9qa, hE, hg, z3o]
  rw [z5b]
  refine ⟨by simp, fun h => ?_, fun h => ?_⟩ <;> simp at h
  simp (maxSteps := 1000000) (disch := first | omega | (simp; done) | (simp; omega)) [z7a, z1a, z0a, z73, h51, z8Hb]
  refine z3a fun Q0 hQ0 => ?_
  refine z3d (fun p : Nat × List Int × Nat => ⟨[(0, .sl .plain nl b.length (bys b))],
    [(6, i64 p.2.2), (8, .fn 61 [] [.bp 24 0, .bp 1024 0]), (9, .sl (.own 1) none p.2.1.length (z3i p.2.1)), (25, i64 n), (26, i64 p.1)],
    [(24, some [.sl .plain nl b.length (bys b)]), (1024, some [i64 p.2.2])]⟩)
   (fun p => n - p.1) (fun p => p.1 ≤ n ∧ p.2.1.length = p.1 ∧ p.2.2 ≤ b.length ∧ pre p.2.1 (z7ba z0l (n - p.1) b p.2.2) = z7ba z0l n b u) (0, [], u) rfl ⟨by omega, rfl, hu, z02b _ _ _ _⟩ fun p hp => ?_
  obtain ⟨i, out, c⟩ := p
  obtain ⟨hi, hl, hc, hR⟩ := hp
  simp only at hi hl hc hR
  refine z3a fun Q1 hQ1 => ?_
  simp (maxSteps := 1000000) (disch := first | omega | (simp; done) | (simp; omega)) [z7a, z1a, z0a, z95]
  rw [z5b]
  refine ⟨by simp, fun h1 => ?_, fun h1 => ?_⟩ <;> simp at h1
  ·have h1' : i < n := by omega
   obtain ⟨k, hk⟩ : ∃ k, n - i = k + 1 := ⟨n - i - 1, by omega⟩
   rw [hk] at hR
   have hc' : (c : Int) ≤ b.length := by omega
   obtain ⟨g1, g2, g3⟩ := z0na (b.drop c)
   rw [List.length_drop] at g1
   simp (maxSteps := 1000000) (disch := first | omega | (simp; done) | (simp; omega)) [z7a, z1a, z0a, z25, h61, z5Jb, z3o]
   rw [z5b]
   refine ⟨by simp, fun h2 => ?_, fun h2 => ?_⟩ <;> simp at h2
   ·have h2' : (z0l (b.drop c)).2.2 ≠ 0 := by omega
    rw [z1vb h2'] at hR
    simp (maxSteps := 1000000) (disch := first | omega | (simp; done) | (simp; omega)) [z7a, z1a, z0a, hQ1, hQ0, ← hR, vIs, z3o]
   ·have h2' : (z0l (b.drop c)).2.2 = 0 := by omega
    rw [z1Bb h2'] at hR
    simp (maxSteps := 1000000) (disch := first | omega | (simp; done) | (simp; omega)) [z7a, z1a, z0a, z16, hQ1, z5rb]
    refine ⟨by omega, i + 1, by omega, out ++ [(z0l (b.drop c)).1], c + (z0l (b.drop c)).2.1, ⟨by omega, by simp; omega, by omega, ?_⟩, by simp⟩
    rw [show n - (i + 1) = k by omega]
    exact hR
  ·have e : i = n := by omega
   subst e
   rw [Nat.sub_self, z4ac] at hR
   simp (maxSteps := 1000000) (disch := first | omega | (simp; done) | (simp; omega)) [z7a, z1a, z0a, hQ1, hQ0, z14, ← hR, vIs, z3o]
end Go.Abs
end

section
namespace Go.Abs
theorem z0Wb (E : Env) (h12 : E.G 12 = z7ab) : ∀ ds, z4J.pre ds → ds.length = z3z.n ∧ awp E z3z.body (z9t z3z.res (z4J.post ds)) (z6c z3z.wr ds) := by
 rintro _ ⟨nl, l, hl, hm, rfl⟩
 rw [z4J, z06]
 have hi0 := z6l (n := l.length) (z6Ca (by omega))
 simp (maxSteps := 1000000) (disch := first | omega | (simp; done) | (simp; omega)) [z7a, z1a, z0a, z3z, h12, z9La]
 refine z3a fun Q0 hQ0 => ?_
 refine z3d (fun i : Nat => ⟨[(0, .sl .plain nl l.length (z3i l))], [(3, .sl (.own 1) (some false) (z7m l.length ++ (l.take i).flatMap z7m).length (bys (z7m l.length ++ (l.take i).flatMap z7m))), (9, .sl .plain nl l.length (z3i l)), (10, i64 l.length), (11, i64 i)], []⟩) (fun i => l.length - i) (· ≤ l.length) 0 (by simp) (by simp) fun i hi => ?_
 refine z3a fun Q1 hQ1 => ?_
 simp (maxSteps := 1000000) (disch := first | omega | (simp; done) | (simp; omega)) [z7a, z1a, z0a, z1ja, -List.length_flatMap]
 rw [z5b]
 refine ⟨by simp, fun h1 => ?_, fun h1 => ?_⟩ <;> simp at h1
 ·have h1' : i < l.length := by omega
  have hs := z0o l z7m 0 h1'
  rw [show l.getD i 0 = atI l i from rfl] at hs
  obtain ⟨g0, g1⟩ := hm _ (z1ra h1')
  have g2 := z6l (hm _ (z1ra h1'))
  have g3 := z7e (l := l.take i) fun x hx => hm x (List.mem_of_mem_take hx)
  rw [List.length_take] at g3
  generalize hF : (l.take i).flatMap z7m = F at *
  generalize hX : atI l i = x at *
  simp (maxSteps := 1000000) (disch := first | omega | (simp; done) | (simp; omega)) [z7a, z1a, z0a, z6ia, z03, hX, h12, z9La, hQ1, -List.length_flatMap]
  refine ⟨by omega, by omega, by omega, i + 1, by omega, by omega, ⟨?_, hs.symm⟩, by simp⟩
  rw [hs, List.length_append]; omega
 ·have e : i = l.length := by omega
  subst e
  simp (maxSteps := 1000000) (disch := first | omega | (simp; done) | (simp; omega)) [z7a, z1a, z0a, hQ1, hQ0, z4ja, z0Pc, z3j, -List.length_flatMap]
theorem z6Ib (E : Env) (h30 : E.G 30 = z5Ba) : ∀ ds, z5J.pre ds → ds.length = z0i.n ∧ awp E z0i.body (z9t z0i.res (z5J.post ds)) (z6c z0i.wr ds) := by
 rintro _ ⟨nl, l, hl, hm, rfl⟩
 rw [z5J, z06]
 have hi0 := z6l (n := l.length) (z6Ca (by omega))
 simp (maxSteps := 1000000) (disch := first | omega | (simp; done) | (simp; omega)) [z7a, z1a, z0a, z0i, h30, z4ma]
 refine z3a fun Q0 hQ0 => ?_
 refine z3d (fun i : Nat => ⟨[(0, .sl .plain nl l.length (z3i l))], [(3, .sl (.own 1) none (z7m l.length ++ (l.take i).flatMap z7m).length (bys (z7m l.length ++ (l.take i).flatMap z7m))), (4, i64 i)], []⟩) (fun i => l.length - i) (· ≤ l.length) 0 (by simp) (by simp) fun i hi => ?_
 refine z3a fun Q1 hQ1 => ?_
 simp (maxSteps := 1000000) (disch := first | omega | (simp; done) | (simp; omega)) [z7a, z1a, z0a, z2O, -List.length_flatMap]
 rw [z5b]
 refine ⟨by simp, fun h1 => ?_, fun h1 => ?_⟩ <;> simp at h1
 ·have h1' : i < l.length := by omega
  have hs := z0o l z7m 0 h1'
  rw [show l.getD i 0 = atI l i from rfl] at hs
  obtain ⟨g0, g1⟩ := hm _ (z1ra h1')
  have g2 := z6l (hm _ (z1ra h1'))
  have g3 := z7e (l := l.take i) fun x hx => hm x (List.mem_of_mem_take hx)
  rw [List.length_take] at g3
  generalize hF : (l.take i).flatMap z7m = F at *
  generalize hX : atI l i = x at *
  simp (maxSteps := 1000000) (disch := first | omega | (simp; done) | (simp; omega)) [z7a, z1a, z0a, z8N, z03, hX, h30, z4ma, hQ1, -List.length_flatMap]
  refine ⟨by omega, by omega, by omega, i + 1, by omega, by omega, ⟨?_, hs.symm⟩, by simp⟩
  rw [hs, List.length_append]; omega
 ·have e : i = l.length := by omega
  subst e
  simp (maxSteps := 1000000) (disch := first | omega | (simp; done) | (simp; omega)) [z7a, z1a, z0a, hQ1, hQ0, z1N, z0Pc, z3j, -List.length_flatMap]
end Go.Abs
end

section
namespace Go.Abs
theorem z0tb (E : Env) : ∀ ds, z4H.pre ds → ds.length = z3e.n ∧ awp E z3e.body (z9t z3e.res (z4H.post ds)) (z6c z3e.wr ds) := by
 rintro _ ⟨nl, nl', a, b, ha, rfl⟩
 simp (maxSteps := 1000000) (disch := first | omega | (simp; done) | (simp; omega)) [z7a, z1a, z0a, z3e]
 rw [z5b]
 refine ⟨by simp, fun h => ?_, fun h => ?_⟩ <;> simp at h
 ·have : (a == b) = false := by simpa using fun e : a = b => h (by rw [e])
  simp (maxSteps := 1000000) (disch := first | omega | (simp; done) | (simp; omega)) [z7a, z1a, z0a, z4H, this]
 simp (maxSteps := 1000000) (disch := first | omega | (simp; done) | (simp; omega)) [z7a, z1a, z0a, z8A]
 have hl : a.length = b.length := by omega
 refine z3a fun Q0 hQ0 => ?_
 refine z3d (fun i : Nat => ⟨[(0, .sl .plain nl a.length (z3i a)), (1, .sl .plain nl' b.length (z3i b))], [(5, i64 i)], []⟩)
  (fun i => a.length - i) (fun i => i ≤ a.length ∧ a.take i = b.take i) 0 rfl (by simp) fun i hi => ?_
 obtain ⟨hi, he⟩ := hi
 refine z3a fun Q1 hQ1 => ?_
 simp (maxSteps := 1000000) (disch := first | omega | (simp; done) | (simp; omega)) [z7a, z1a, z0a, z4A]
 rw [z5b]
 refine ⟨by simp, fun h1 => ?_, fun h1 => ?_⟩ <;> simp at h1
 ·have h1' : i < a.length := by omega
  simp (maxSteps := 1000000) (disch := first | omega | (simp; done) | (simp; omega)) [z7a, z1a, z0a, z5A, z03]
  refine ⟨by omega, by omega, by omega, by omega, ?_⟩
  rw [z5b]
  refine ⟨by simp, fun h2 => ?_, fun h2 => ?_⟩ <;> simp at h2
  ·have : (a == b) = false := by simpa using fun e : a = b => h2 (by rw [e])
   simp (maxSteps := 1000000) (disch := first | omega | (simp; done) | (simp; omega)) [z7a, z1a, z0a, hQ1, hQ0, z4H, this]
  ·simp (maxSteps := 1000000) (disch := first | omega | (simp; done) | (simp; omega)) [z7a, z1a, z0a, hQ1]
   refine ⟨i + 1, by omega, ⟨by omega, ?_⟩, by simp⟩
   have h3 : i < b.length := by omega
   have h4 : a[i] = b[i] := by simpa [atI, List.getD, List.getElem?_eq_getElem h1', List.getElem?_eq_getElem h3] using h2
   rw [List.take_succ_eq_append_getElem h1', List.take_succ_eq_append_getElem h3, he, h4]
 ·have e : i = a.length := by omega
  subst e
  have : (a == b) = true := by
   rw [List.take_length, hl, List.take_length] at he
   simpa using he
  simp (maxSteps := 1000000) (disch := first | omega | (simp; done) | (simp; omega)) [z7a, z1a, z0a, hQ1, hQ0, z3A, z4H, this]
end Go.Abs
end
