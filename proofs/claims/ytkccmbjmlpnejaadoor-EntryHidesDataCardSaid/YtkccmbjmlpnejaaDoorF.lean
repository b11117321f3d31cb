/- Lemmas: an abstract interpreter, and what the functions compute. -/
import Derived.Test.YtkccmbjmlpnejaaDoorE
set_option linter.unusedSimpArgs false
set_option linter.unusedVariables false
set_option linter.unusedSectionVars false
section
namespace Go.Abs
theorem z6Lb (E : Env) : ∀ ds, z3ma.pre ds → ds.length = z4s.n ∧ awp E z4s.body (z9t z4s.res (z3ma.post ds)) (z6c z4s.wr ds) := by
 rintro _ rfl
 simp [z4s, z3ma, z6z.v, z6z.init, scs, H8.l, z0Aa, z98, z0f, iv, or_imp, forall_and, List.take_of_length_le]
theorem z3Yb (E : Env) : ∀ ds, z6ub.pre ds → ds.length = z6h.n ∧ awp E z6h.body (z9t z6h.res (z6ub.post ds)) (z6c z6h.wr ds) := by
 rintro _ ⟨x, k, rfl⟩
 simp [z6h, z6ub, z33a]
theorem z3Jc (E : Env) (h13 : E.G 13 = z6ub) : ∀ ds, z9Mb.pre ds → ds.length = z1G.n ∧ awp E z1G.body (z9t z1G.res (z9Mb.post ds)) (z6c z1G.wr ds) := by
 rintro _ ⟨x, i, j, k, rfl⟩
 simp [z1G, z9Mb, h13, z6ub]
theorem z2Gb (E : Env) (h13 : E.G 13 = z6ub) : ∀ ds, z1X.pre ds → ds.length = z2m.n ∧ awp E z2m.body (z9t z2m.res (z1X.post ds)) (z6c z2m.wr ds) := by
 rintro _ ⟨nl, b, hb, rfl⟩
 simp [z2m, h13, z6ub, z1X]
 refine z3a fun Q0 hQ0 => ?_
 refine z3d (fun t : Nat => ⟨[(0, .sl .plain nl 64 (bys b))], [(2, .bp 2 0), (3, .bp 3 0), (11, i64 t)], [(2, some (z1o (z8i 64))), (3, some (z1o (z3k b t ++ z8i (64 - t))))]⟩)
  (fun t => 64 - t) (· ≤ 64) 0 rfl (by decide) fun t ht => ?_
 have hl := z7p b t
 refine z3a fun Q1 hQ1 => ?_
 simp (disch := first | omega | (simp; omega)) [z7a]
 rw [z5b]
 refine ⟨by simp, fun h => ?_, fun h => ?_⟩ <;> simp at h
 ·simp (disch := first | omega | (simp; omega)) [z7a]
  rw [z5b]
  refine ⟨by simp, fun h16 => ?_, fun h16 => ?_⟩ <;> simp at h16
  ·simp (disch := first | omega | (simp; omega)) [z7a]
   refine ⟨by omega, ?_⟩
   refine z3a fun Q2 hQ2 => ?_
   refine z3d (fun j : Nat => ⟨[(0, .sl .plain nl 64 (bys b))], [(2, .bp 2 0), (3, .bp 3 0), (4, i64 t), (11, i64 t), (22, .sl .plain nl 4 (bys ((b.drop (4 * t)).take 4))), (23, i64 4), (24, i64 j)],
     [(2, some (z1o (z8i 64))), (3, some (z1o (z3k b t ++ ldw b t j :: z8i (63 - t))))]⟩)
    (fun j => 4 - j) (· ≤ 4) 0 ?_ (by decide) fun j hj => ?_
   ·have e1 : (4 * (t : Int) + 4).toNat - (4 * (t : Int)).toNat = 4 := by omega
    have e2 : (4 * (t : Int)).toNat = 4 * t := by omega
    rw [e1, e2, z5ga (show t < 64 by omega), ldw]
    rfl
   refine z3a fun Q3 hQ3 => ?_
   simp (disch := first | omega | (simp; omega)) [z7a]
   rw [z5b]
   refine ⟨by simp, fun h4 => ?_, fun h4 => ?_⟩ <;> simp at h4
   ·simp (disch := first | omega | (simp; omega)) [z7a, z4Ca, z9W, z53a, z1qb, z9cb, z2E, z2Ca]
    repeat' (first | omega | apply And.intro)
    simp (disch := omega) [hQ3, z7a]
    refine ⟨j + 1, by omega, by omega, by omega, ?_⟩
    rw [ldw]
   ·have e4 : j = 4 := by omega
    subst e4
    simp (disch := omega) [hQ3, hQ2, hQ1, z7a]
    refine ⟨t + 1, by omega, by omega, by omega, ?_⟩
    rw [z3k, z9Ca, if_pos (by omega), show 64 - (t + 1) = 63 - t by omega]
    simp
  ·simp (disch := first | omega | (simp; omega)) [z7a, h13, z6ub, z6Jc, z33b, z5cc, z8ac, z9W, z2E, z83a]
   repeat' (first | omega | apply And.intro)
   simp [hQ1]
   refine ⟨t + 1, by omega, by omega, by omega, ?_⟩
   rw [z3k, z9Ca, if_neg (by omega), show 64 - (t + 1) = 63 - t by omega, z5ga (by omega), show ((t : Int) - 16).toNat = t - 16 by omega, show ((t : Int) - 15).toNat = t - 15 by omega, show ((t : Int) - 7).toNat = t - 7 by omega, show ((t : Int) - 2).toNat = t - 2 by omega]
   simp [sg0, sg1]
 ·have e : t = 64 := by omega
  subst e
  simp (disch := simp [hl]) [hQ1, hQ0, z0f, hl, List.take_of_length_le, z8i]
end Go.Abs
end

section
namespace Go.Abs
theorem z1Ac : kc.length = 64 := rfl
def z4Oa (s : List UInt32) (v e : List UInt32) : Nat → List UInt32
 | 0 => s
 | t + 1 => ((z4Oa s v e t).set t (z0p (z4Oa s v e t) t + z0p v t)).set (t + 4) (z0p ((z4Oa s v e t).set t (z0p (z4Oa s v e t) t + z0p v t)) (t + 4) + z0p e t)
theorem z04a (s v e : List UInt32) : ∀ t, (z4Oa s v e t).length = s.length
 | 0 => rfl
 | t + 1 => by simp [z4Oa, z04a s v e t]
theorem z8Bc (s v : H8) : z4Oa s.l [v.a, v.b, v.c, v.d] [v.e, v.f, v.g, v.h] 4 = (s.add v).l := rfl

theorem z9Lb (E : Env) (hT : E.T 0 = z1o kc) (h10 : E.G 10 = z1X) (h11 : E.G 11 = z9Mb) : ∀ ds, z9sa.pre ds → ds.length = z1m.n ∧ awp E z1m.body (z9t z1m.res (z9sa.post ds)) (z6c z1m.wr ds) := by
 rintro _ ⟨s, nl, b, hb, rfl⟩
 have hl := z7p b 64
 have hk := z1Ac
 simp (disch := first | omega | (simp; omega)) [z1m, h10, h11, z1X, z9Mb, z9sa, hT]
 refine ⟨hb, hl, by omega, ?_⟩
 refine z3a fun Q0 hQ0 => ?_
 refine z3d (fun t : Nat => ⟨[(0, .agg (z1o s.l)), (1, .sl .plain nl 64 (bys b))],
   [(2, .bp 2 0), (4, .bp 4 0), (5, .bp 5 0), (6, .bp 6 0), (7, .bp 7 0), (21, .agg (z1o kc)), (22, i64 t)],
   [(2, some (z1o s.l)), (4, some (z1o (z8i 8))), (5, some (z1o (z3k b 64))),
    (6, some (z1o [(z8Ca (z3k b 64) s t).a, (z8Ca (z3k b 64) s t).b, (z8Ca (z3k b 64) s t).c, (z8Ca (z3k b 64) s t).d])),
    (7, some (z1o [(z8Ca (z3k b 64) s t).e, (z8Ca (z3k b 64) s t).f, (z8Ca (z3k b 64) s t).g, (z8Ca (z3k b 64) s t).h]))]⟩)
  (fun t => 64 - t) (· ≤ 64) 0 ?_ (by decide) fun t ht => ?_
 ·have e : kc.take 64 = kc := rfl
  simp (disch := simp [hl]) [z0f, z8Ca, H8.l, e]
 refine z3a fun Q1 hQ1 => ?_
 simp (disch := first | omega | (simp; omega)) [z7a]
 rw [z5b]
 refine ⟨by simp, fun h => ?_, fun h => ?_⟩ <;> simp at h
 ·generalize hr : z8Ca (z3k b 64) s t = r at *
  simp (maxSteps := 2000000) (disch := first | omega | (simp; omega)) [z7a, z0Aa, h11, z9Mb, z1qc, z16b, z7Vb, z4uc, z15b, z45b, z9W, z8xa, hl, hk, z0f]
  repeat' (first | omega | apply And.intro)
  rw [hQ1]
  simp [z0Aa]
  refine ⟨t + 1, by omega, by omega, by omega, ?_⟩
  have sf : ∀ a b c d x y z w : z2a, splice [a, b, c, d] 0 [x, y, z, w] = [x, y, z, w] := fun a b c d x y z w => rfl
  simp only [z8Ca, hr, sf, rnd, and_self]
 ·have e : t = 64 := by omega
  subst e
  simp [hQ1, hQ0]
  refine z3a fun Q2 hQ2 => ?_
  generalize hv : z8Ca (z3k b 64) s 64 = v at *
  refine z3d (fun t : Nat => ⟨[(0, .agg (z1o s.l)), (1, .sl .plain nl 64 (bys b))],
   [(2, .bp 2 0), (4, .bp 4 0), (6, .bp 6 0), (7, .bp 7 0), (94, i64 t)],
   [(2, some (z1o (z4Oa s.l [v.a, v.b, v.c, v.d] [v.e, v.f, v.g, v.h] t))), (4, some (z1o (z8i 8))), (5, some (z1o (z3k b 64))),
    (6, some (z1o [v.a, v.b, v.c, v.d])), (7, some (z1o [v.e, v.f, v.g, v.h]))]⟩)
   (fun t => 4 - t) (· ≤ 4) 0 rfl (by decide) fun t ht => ?_
  refine z3a fun Q3 hQ3 => ?_
  simp (disch := first | omega | (simp; omega)) [z7a]
  rw [z5b]
  have ha := z04a s.l [v.a, v.b, v.c, v.d] [v.e, v.f, v.g, v.h] t
  rw [H8.len] at ha
  refine ⟨by simp, fun h => ?_, fun h => ?_⟩ <;> simp at h
  ·simp (disch := first | omega | (simp; omega)) [z7a, z9W, z2E]
   repeat' (first | omega | apply And.intro)
   have e4 : ((t : Int) + 4).toNat = t + 4 := by omega
   rw [e4, z2E (by rw [List.length_set, ha]; omega), hQ3]
   simp
   exact ⟨t + 1, by omega, by omega, by omega, rfl⟩
  ·have e : t = 4 := by omega
   subst e
   simp [hQ3, hQ2, z8Bc, z0f, z3Va, hv]
   rfl
end Go.Abs
end

section
namespace Go.Abs
theorem z36b (E : Env) (h4 : E.G 4 = z9sa) : ∀ ds, z5fb.pre ds → ds.length = z7j.n ∧ awp E z7j.body (z9t z7j.res (z5fb.post ds)) (z6c z7j.wr ds) := by
 rintro _ ⟨s, m, hb, rfl⟩
 simp (disch := first | omega | (simp; omega)) [z7j, h4, z9sa, z5fb, z6z.v, hb, z0R, z6z.of_scs]
 refine z3a fun Q0 hQ0 => ?_
 refine z3d (fun k : Nat => ⟨[(0, .agg (scs s))], [(1, st (m.drop k)), (2, .bp 2 0), (4, .bp 4 0)],
   [(2, some (scs (s.add (m.take k)))), (4, some (z1o (z8i 8) ++ (bys (z2c 64) ++ [u64 0])))]⟩)
  (fun k => m.length - k) (· ≤ m.length) 0 (by simp [z6z.add]) (by simp) fun k hk => ?_
 refine z3a fun Q1 hQ1 => ?_
 have hb' : (s.add (m.take k)).b.length = 64 := by rw [z1Aa, hb]
 simp (disch := first | omega | (simp; omega)) [z7a]
 rw [z5b]
 refine ⟨by simp, fun h => ?_, fun h => ?_⟩ <;> simp at h
 ·generalize hs : s.add (m.take k) = s' at *
  generalize hr : m.drop k = r at *
  have hrl : r.length = m.length - k := by rw [← hr]; simp
  have hn : s'.n.toNat % 64 < 64 := Nat.mod_lt _ (by decide)
  simp (disch := first | omega | (simp; omega)) [z7a, z0R, z8Jb, z03b, z48b, z8Ta, z2ib, z2ob, hb']
  refine ⟨by omega, by omega, by omega, ?_⟩
  refine z3a fun Q2 hQ2 => ?_
  generalize hj : min r.length (64 - s'.n.toNat % 64) = j at *
  have hjl : j ≤ r.length := by omega
  have hpiece := z2ya s' hb' j (r.take j) (by simp; omega) (by omega)
  have hstep : s.add (m.take (k + j)) = s'.add (r.take j) := by rw [List.take_add, z93, hs, hr]
  have hrest : (r.drop j).take (r.length - j) = m.drop (k + j) := by
   rw [List.take_of_length_le (by simp), ← hr, List.drop_drop]
  have hof : UInt64.ofInt (j : Int) = UInt64.ofNat j := by
   apply UInt64.toNat_inj.1
   rw [z0qa, UInt64.toNat_ofNat']
   omega
  rw [z5b]
  refine ⟨by simp, fun h30 => ?_, fun h30 => ?_⟩ <;> simp at h30
  ·generalize hS : (⟨s'.h, _, _⟩ : z6z) = S at *
   have hSb : S.b.length = 64 := by rw [← hS]; simp [hb']; omega
   simp (disch := first | omega | (simp; omega)) [h4, z9sa, z0R, z03b, z48b, z8Ta, hSb]
   refine ⟨⟨_, _, _, hSb, rfl, rfl, rfl⟩, ?_⟩
   simp [hQ2, hQ1]
   refine ⟨k + j, by omega, by omega, hrest, ?_⟩
   rw [hstep, hpiece, if_pos (by omega), ← hS, hof]
  ·simp [hQ2, hQ1]
   refine ⟨k + j, by omega, by omega, hrest, ?_⟩
   rw [hstep, hpiece, if_neg (by omega), hof]
 ·have e : k = m.length := by omega
  subst e
  have hm : (s.add m).b.length = 64 := by rw [z1Aa, hb]
  simp [hQ1, hQ0, z0R hm, z5Ka hm z28a, z8gb hm]
end Go.Abs
end

section
namespace Go.Abs
theorem z6zc (E : Env) (h1 : E.G 1 = z5fb) : ∀ ds, z5wb.pre ds → ds.length = z8j.n ∧ awp E z8j.body (z9t z8j.res (z5wb.post ds)) (z6c z8j.wr ds) := by
 rintro _ ⟨s, hb, hn, rfl⟩
 simp (disch := first | omega | (simp; omega)) [z8j, h1, z5fb, z5wb, z6z.v, hb, z0R, z6z.of_scs, z8Jb]
 refine z3a fun Q0 hQ0 => ?_
 refine z3d (fun k : Nat => ⟨[(0, .agg (scs s))], [(1, .bp 1 0), (2, .bp 2 0), (3, u64 (8 * s.n)), (4, .sl (.own 1) (some false) (k + 1) (bys (128 :: z2c k)))],
   [(1, some (scs s)), (2, some (bys (z2c 32)))]⟩)
  (fun k => z1Da s.n.toNat - k) (· ≤ z1Da s.n.toNat) 0 rfl (by simp) fun k hk => ?_
 have hz := z70a s.n.toNat
 have hzo := z61a s.n.toNat
 refine z3a fun Q1 hQ1 => ?_
 simp (disch := first | omega | (simp; omega)) [z7a, z0R, z8Jb, hb]
 rw [z5b]
 refine ⟨by simp, fun h => ?_, fun h => ?_⟩ <;> simp at h <;> rw [Int.tmod_eq_emod_of_nonneg (by omega)] at h
 ·simp (disch := first | omega | (simp; omega)) [z7a, hQ1]
  clear hQ0 hQ1
  refine ⟨by omega, ?_⟩
  refine ⟨k + 1, by omega, by omega, by omega, ?_⟩
  rw [show [u8 0] = bys [0] from rfl, ← z2P, ← z9ya]
  simp
 ·have e : k = z1Da s.n.toNat := by omega
  subst e
  simp [hQ1, hQ0]
  refine z3a fun Q2 hQ2 => ?_
  refine z3d (fun i : Nat => ⟨[(0, .agg (scs s))], [(1, .bp 1 0), (2, .bp 2 0), (3, u64 (8 * s.n)), (4, .sl (.own 1) (some false) (z1Da s.n.toNat + 1 + i) (bys (128 :: z2c (z1Da s.n.toNat) ++ be8 (8 * s.n) i))), (23, i64 i)],
    [(1, some (scs s)), (2, some (bys (z2c 32)))]⟩)
   (fun i => 8 - i) (· ≤ 8) 0 (by simp [be8]) (by decide) fun i hi => ?_
  have hbe := z6qa (8 * s.n) i
  refine z3a fun Q3 hQ3 => ?_
  simp (disch := first | omega | (simp; omega)) [z7a]
  rw [z5b]
  refine ⟨by simp, fun h => ?_, fun h => ?_⟩ <;> simp at h
  ·have e7 : ((56 : Int) - 8 * (i : Int)).toNat = 56 - 8 * i := by omega
   simp (disch := first | omega | (simp; omega)) [z7a, e7]
   repeat' (first | omega | apply And.intro)
   rw [hQ3]
   simp
   refine ⟨i + 1, by omega, by omega, ⟨by omega, ?_⟩, by omega⟩
   rw [be8, show [u8 (z2Da (8 * s.n) (56 - 8 * i)).toUInt8] = bys [(z2Da (8 * s.n) (56 - 8 * i)).toUInt8] from rfl, ← z2P]
   simp
  ·have e : i = 8 := by omega
   subst e
   simp (disch := first | omega | (simp; omega)) [hQ3, hQ2, h1, z5fb, z6z.v, z0R, z8gb, z5Ka, hb, z6z.of_scs, z1Aa]
   generalize hS : s.add (128 :: (z2c (z1Da s.n.toNat) ++ be8 (8 * s.n) 8)) = S at *
   have hSb : S.b.length = 64 := by rw [← hS, z1Aa, hb]
   have hsum : s.sum = z5ab S.h 32 := by rw [← hS]; rfl
   rw [z5Ka hSb (z0R hb), hsum]
   clear hQ1 hQ2 hQ3 hQ0
   refine ⟨?_, ⟨s, hb, rfl⟩, z0R hSb, ?_⟩
   ·have := z6qa (8 * s.n) 8
    simp [this]
   refine z3a fun Q4 hQ4 => ?_
   refine z3d (fun i : Nat => ⟨[(0, .agg (scs s))], [(1, .bp 1 0), (2, .bp 2 0), (6, .bp 6 0), (40, i64 i)],
     [(1, some (scs S)), (2, some (bys (z2c 32))), (6, some (bys (z5ab S.h i ++ z2c (32 - i))))]⟩)
    (fun i => 32 - i) (· ≤ 32) 0 rfl (by decide) fun i hi => ?_
   have ho := z1va S.h i
   refine z3a fun Q5 hQ5 => ?_
   simp (disch := first | omega | (simp; omega)) [z7a]
   rw [z5b]
   refine ⟨by simp, fun h => ?_, fun h => ?_⟩ <;> simp at h
   ·have e4 : (i : Int).tmod 4 = ((i % 4 : Nat) : Int) := by rw [Int.tmod_eq_emod_of_nonneg (by omega)]; rfl
    have e5 : ((i : Int) / 4).toNat = i / 4 := by omega
    have e6 : ((24 : Int) - 8 * ((i % 4 : Nat) : Int)).toNat = 24 - 8 * (i % 4) := by omega
    simp (disch := first | omega | (simp; omega)) [z7a, e4, e5, z3nc, z0R hSb]
    refine ⟨by omega, by omega, by omega, by omega, by omega, ?_⟩
    have e7 : ((24 : Int) - 8 * ((i : Int) % 4)).toNat = 24 - 8 * (i % 4) := by omega
    rw [e7, z3ra (by simp; omega), z5Ha (by omega), z2Ca ho.symm, hQ5]
    simp
    refine ⟨i + 1, by omega, by omega, by omega, ?_⟩
    rw [z5ab, show 32 - (i + 1) = 32 - 1 - i by omega]
    simp
   ·have e : i = 32 := by omega
    subst e
    simp (disch := simp [ho]) [hQ5, hQ4, z0f, ho, List.take_of_length_le, z2c]
end Go.Abs
end

section
namespace Go.Abs
theorem z05c (E : Env) (h0 : E.G 0 = z3ma) (h1 : E.G 1 = z5fb) (h2 : E.G 2 = z5wb) (h7 : E.G 7 = z4da) : ∀ ds, ofC.pre ds → ds.length = z3S.n ∧ awp E z3S.body (z9t z3S.res (ofC.post ds)) (z6c z3S.wr ds) := by
 rintro _ ⟨tag, nl, parts, hl, rfl⟩
 simp (maxSteps := 1000000) (disch := first | omega | (simp; done) | (simp; omega)) [z7a, z1a, z0a, z3S, h0, h1]
 refine z3a fun Q0 hQ0 => ?_
 refine z3d (fun i : Nat => ⟨[(0, i64 tag), (1, .sl .plain nl parts.length (sts parts))], [(4, .bp 4 0), (5, .bp 5 0), (15, .sl .plain nl parts.length (sts parts)), (16, i64 parts.length), (17, i64 i)],
   [(4, some (bys (z2c 16))), (5, some (svc (z53 tag (parts.take i))))]⟩)
  (fun i => parts.length - i) (· ≤ parts.length) 0 rfl (by simp) fun i hi => ?_
 have hlen := z9ja parts
 refine z3a fun Q1 hQ1 => ?_
 simp (maxSteps := 1000000) (disch := first | omega | (simp; done) | (simp; omega)) [z7a, z1a, z0a]
 rw [z5b]
 refine ⟨by simp, fun h => ?_, fun h => ?_⟩ <;> simp at h
 ·have hb := z7ya (l := parts) (i := i) (by omega)
  simp (maxSteps := 1000000) (disch := first | omega | (simp; done) | (simp; omega)) [z7a, z1a, z0a, z3Nb, h7, h1, z5za]
  repeat' (first | omega | apply And.intro)
  simp [hQ1]
  refine ⟨i + 1, by omega, by omega, by omega, ?_⟩
  rw [z53, z53, z0o _ _ [] (by omega)]
  rfl
 ·have e : i = parts.length := by omega
  subst e
  have hi : (z53 tag parts).length < 1099511627776 := by
   have := z5D hl
   simp only [z53, List.length_cons]; omega
  simp (maxSteps := 1000000) (disch := first | omega | (simp; done) | (simp; omega)) [z7a, z1a, z0a, hQ1, hQ0, h2, z35b, z0t]
  rw [z2p, List.take_take, Nat.min_self]
end Go.Abs
end
