/- Lemmas: an abstract interpreter, and what the functions compute. -/
import Derived.Test.YtkccmbjmlpnejaaDoorE
set_option linter.unusedSimpArgs false
set_option linter.unusedVariables false
set_option linter.unusedSectionVars false
section
namespace Go.Abs
theorem z6Jb (E : Env) : ∀ ds, z6pa.pre ds → ds.length = z2u.n ∧ awp E z2u.body (z9u z2u.res (z6pa.post ds)) (z8c z2u.wr ds) := by
 rintro _ rfl
 simp [z2u, z6pa, z8A.v, z8A.init, scs, H8.l, z1ya, z5ba, z9f, iv, or_imp, forall_and, List.take_of_length_le]
theorem z5hc (E : Env) : ∀ ds, z1yb.pre ds → ds.length = z6i.n ∧ awp E z6i.body (z9u z6i.res (z1yb.post ds)) (z8c z6i.wr ds) := by
 rintro _ ⟨x, k, rfl⟩
 simp [z6i, z1yb, z4Za]
theorem z3Ac (E : Env) (h13 : E.G 13 = z1yb) : ∀ ds, z1Yb.pre ds → ds.length = z6G.n ∧ awp E z6G.body (z9u z6G.res (z1Yb.post ds)) (z8c z6G.wr ds) := by
 rintro _ ⟨x, i, j, k, rfl⟩
 simp [z6G, z1Yb, h13, z1yb]
theorem z7Ob (E : Env) (h13 : E.G 13 = z1yb) : ∀ ds, z2Z.pre ds → ds.length = z7n.n ∧ awp E z7n.body (z9u z7n.res (z2Z.post ds)) (z8c z7n.wr ds) := by
 rintro _ ⟨nl, b, hb, rfl⟩
 simp [z7n, h13, z1yb, z2Z]
 refine z3a fun Q0 hQ0 => ?_
 refine z7d (fun t : Nat => ⟨[(0, .sl .plain nl 64 (bys b))], [(2, .bp 2 0), (3, .bp 3 0), (11, i64 t)], [(2, some (z6p (z8j 64))), (3, some (z6p (z8k b t ++ z8j (64 - t))))]⟩)
  (fun t => 64 - t) (· ≤ 64) 0 rfl (by decide) fun t ht => ?_
 have hl := z7q b t
 refine z3a fun Q1 hQ1 => ?_
 simp (disch := first | omega | (simp; omega)) [z7a]
 rw [z3b]
 refine ⟨by simp, fun h => ?_, fun h => ?_⟩ <;> simp at h
 ·simp (disch := first | omega | (simp; omega)) [z7a]
  rw [z3b]
  refine ⟨by simp, fun h16 => ?_, fun h16 => ?_⟩ <;> simp at h16
  ·simp (disch := first | omega | (simp; omega)) [z7a]
   refine ⟨by omega, ?_⟩
   refine z3a fun Q2 hQ2 => ?_
   refine z7d (fun j : Nat => ⟨[(0, .sl .plain nl 64 (bys b))], [(2, .bp 2 0), (3, .bp 3 0), (4, i64 t), (11, i64 t), (22, .sl .plain nl 4 (bys ((b.drop (4 * t)).take 4))), (23, i64 4), (24, i64 j)],
     [(2, some (z6p (z8j 64))), (3, some (z6p (z8k b t ++ ldw b t j :: z8j (63 - t))))]⟩)
    (fun j => 4 - j) (· ≤ 4) 0 ?_ (by decide) fun j hj => ?_
   ·have e1 : (4 * (t : Int) + 4).toNat - (4 * (t : Int)).toNat = 4 := by omega
    have e2 : (4 * (t : Int)).toNat = 4 * t := by omega
    rw [e1, e2, z7ha (show t < 64 by omega), ldw]
    rfl
   refine z3a fun Q3 hQ3 => ?_
   simp (disch := first | omega | (simp; omega)) [z7a]
   rw [z3b]
   refine ⟨by simp, fun h4 => ?_, fun h4 => ?_⟩ <;> simp at h4
   ·simp (disch := first | omega | (simp; omega)) [z7a, z2Ia, z2Y, z6ab, z8pb, z2fb, z0G, z9za]
    repeat' (first | omega | apply And.intro)
    simp (disch := omega) [hQ3, z7a]
    refine ⟨j + 1, by omega, by omega, by omega, ?_⟩
    rw [ldw]
   ·have e4 : j = 4 := by omega
    subst e4
    simp (disch := omega) [hQ3, hQ2, hQ1, z7a]
    refine ⟨t + 1, by omega, by omega, by omega, ?_⟩
    rw [z8k, z8Ea, if_pos (by omega), show 64 - (t + 1) = 63 - t by omega]
    simp
  ·simp (disch := first | omega | (simp; omega)) [z7a, h13, z1yb, z4Pc, z4fc, z4ic, z90b, z2Y, z0G, z58a]
   repeat' (first | omega | apply And.intro)
   simp [hQ1]
   refine ⟨t + 1, by omega, by omega, by omega, ?_⟩
   rw [z8k, z8Ea, if_neg (by omega), show 64 - (t + 1) = 63 - t by omega, z7ha (by omega), show ((t : Int) - 16).toNat = t - 16 by omega, show ((t : Int) - 15).toNat = t - 15 by omega, show ((t : Int) - 7).toNat = t - 7 by omega, show ((t : Int) - 2).toNat = t - 2 by omega]
   simp [sg0, sg1]
 ·have e : t = 64 := by omega
  subst e
  simp (disch := simp [hl]) [hQ1, hQ0, z9f, hl, List.take_of_length_le, z8j]
end Go.Abs
end

section
namespace Go.Abs
theorem z2zc : kc.length = 64 := rfl
def z0Sa (s : List UInt32) (v e : List UInt32) : Nat → List UInt32
 | 0 => s
 | t + 1 => ((z0Sa s v e t).set t (z5q (z0Sa s v e t) t + z5q v t)).set (t + 4) (z5q ((z0Sa s v e t).set t (z5q (z0Sa s v e t) t + z5q v t)) (t + 4) + z5q e t)
theorem z08a (s v e : List UInt32) : ∀ t, (z0Sa s v e t).length = s.length
 | 0 => rfl
 | t + 1 => by simp [z0Sa, z08a s v e t]
theorem z0tc (s v : H8) : z0Sa s.l [v.a, v.b, v.c, v.d] [v.e, v.f, v.g, v.h] 4 = (s.add v).l := rfl

theorem z7Jb (E : Env) (hT : E.T 0 = z6p kc) (h10 : E.G 10 = z2Z) (h11 : E.G 11 = z1Yb) : ∀ ds, z2ta.pre ds → ds.length = z0n.n ∧ awp E z0n.body (z9u z0n.res (z2ta.post ds)) (z8c z0n.wr ds) := by
 rintro _ ⟨s, nl, b, hb, rfl⟩
 have hl := z7q b 64
 have hk := z2zc
 simp (disch := first | omega | (simp; omega)) [z0n, h10, h11, z2Z, z1Yb, z2ta, hT]
 refine ⟨hb, hl, by omega, ?_⟩
 refine z3a fun Q0 hQ0 => ?_
 refine z7d (fun t : Nat => ⟨[(0, .agg (z6p s.l)), (1, .sl .plain nl 64 (bys b))],
   [(2, .bp 2 0), (4, .bp 4 0), (5, .bp 5 0), (6, .bp 6 0), (7, .bp 7 0), (21, .agg (z6p kc)), (22, i64 t)],
   [(2, some (z6p s.l)), (4, some (z6p (z8j 8))), (5, some (z6p (z8k b 64))),
    (6, some (z6p [(z0Ea (z8k b 64) s t).a, (z0Ea (z8k b 64) s t).b, (z0Ea (z8k b 64) s t).c, (z0Ea (z8k b 64) s t).d])),
    (7, some (z6p [(z0Ea (z8k b 64) s t).e, (z0Ea (z8k b 64) s t).f, (z0Ea (z8k b 64) s t).g, (z0Ea (z8k b 64) s t).h]))]⟩)
  (fun t => 64 - t) (· ≤ 64) 0 ?_ (by decide) fun t ht => ?_
 ·have e : kc.take 64 = kc := rfl
  simp (disch := simp [hl]) [z9f, z0Ea, H8.l, e]
 refine z3a fun Q1 hQ1 => ?_
 simp (disch := first | omega | (simp; omega)) [z7a]
 rw [z3b]
 refine ⟨by simp, fun h => ?_, fun h => ?_⟩ <;> simp at h
 ·generalize hr : z0Ea (z8k b 64) s t = r at *
  simp (maxSteps := 2000000) (disch := first | omega | (simp; omega)) [z7a, z1ya, h11, z1Yb, z4Ac, z43b, z0gc, z0Dc, z21b, z1bc, z2Y, z7xa, hl, hk, z9f]
  repeat' (first | omega | apply And.intro)
  rw [hQ1]
  simp [z1ya]
  refine ⟨t + 1, by omega, by omega, by omega, ?_⟩
  have sf : ∀ a b c d x y z w : z2a, splice [a, b, c, d] 0 [x, y, z, w] = [x, y, z, w] := fun a b c d x y z w => rfl
  simp only [z0Ea, hr, sf, rnd, and_self]
 ·have e : t = 64 := by omega
  subst e
  simp [hQ1, hQ0]
  refine z3a fun Q2 hQ2 => ?_
  generalize hv : z0Ea (z8k b 64) s 64 = v at *
  refine z7d (fun t : Nat => ⟨[(0, .agg (z6p s.l)), (1, .sl .plain nl 64 (bys b))],
   [(2, .bp 2 0), (4, .bp 4 0), (6, .bp 6 0), (7, .bp 7 0), (94, i64 t)],
   [(2, some (z6p (z0Sa s.l [v.a, v.b, v.c, v.d] [v.e, v.f, v.g, v.h] t))), (4, some (z6p (z8j 8))), (5, some (z6p (z8k b 64))),
    (6, some (z6p [v.a, v.b, v.c, v.d])), (7, some (z6p [v.e, v.f, v.g, v.h]))]⟩)
   (fun t => 4 - t) (· ≤ 4) 0 rfl (by decide) fun t ht => ?_
  refine z3a fun Q3 hQ3 => ?_
  simp (disch := first | omega | (simp; omega)) [z7a]
  rw [z3b]
  have ha := z08a s.l [v.a, v.b, v.c, v.d] [v.e, v.f, v.g, v.h] t
  rw [H8.len] at ha
  refine ⟨by simp, fun h => ?_, fun h => ?_⟩ <;> simp at h
  ·simp (disch := first | omega | (simp; omega)) [z7a, z2Y, z0G]
   repeat' (first | omega | apply And.intro)
   have e4 : ((t : Int) + 4).toNat = t + 4 := by omega
   rw [e4, z0G (by rw [List.length_set, ha]; omega), hQ3]
   simp
   exact ⟨t + 1, by omega, by omega, by omega, rfl⟩
  ·have e : t = 4 := by omega
   subst e
   simp [hQ3, hQ2, z0tc, z9f, z9Qa, hv]
   rfl
end Go.Abs
end

section
namespace Go.Abs
theorem z1ic (E : Env) (h4 : E.G 4 = z2ta) : ∀ ds, z5jb.pre ds → ds.length = z3k.n ∧ awp E z3k.body (z9u z3k.res (z5jb.post ds)) (z8c z3k.wr ds) := by
 rintro _ ⟨s, m, hb, rfl⟩
 simp (disch := first | omega | (simp; omega)) [z3k, h4, z2ta, z5jb, z8A.v, hb, z8Q, z8A.of_scs]
 refine z3a fun Q0 hQ0 => ?_
 refine z7d (fun k : Nat => ⟨[(0, .agg (scs s))], [(1, st (m.drop k)), (2, .bp 2 0), (4, .bp 4 0)],
   [(2, some (scs (s.add (m.take k)))), (4, some (z6p (z8j 8) ++ (bys (z9c 64) ++ [u64 0])))]⟩)
  (fun k => m.length - k) (· ≤ m.length) 0 (by simp [z8A.add]) (by simp) fun k hk => ?_
 refine z3a fun Q1 hQ1 => ?_
 have hb' : (s.add (m.take k)).b.length = 64 := by rw [z2Da, hb]
 simp (disch := first | omega | (simp; omega)) [z7a]
 rw [z3b]
 refine ⟨by simp, fun h => ?_, fun h => ?_⟩ <;> simp at h
 ·generalize hs : s.add (m.take k) = s' at *
  generalize hr : m.drop k = r at *
  have hrl : r.length = m.length - k := by rw [← hr]; simp
  have hn : s'.n.toNat % 64 < 64 := Nat.mod_lt _ (by decide)
  simp (disch := first | omega | (simp; omega)) [z7a, z8Q, z5zb, z7ic, z24b, z1Sa, z9lb, z9wb, hb']
  refine ⟨by omega, by omega, by omega, ?_⟩
  refine z3a fun Q2 hQ2 => ?_
  generalize hj : min r.length (64 - s'.n.toNat % 64) = j at *
  have hjl : j ≤ r.length := by omega
  have hpiece := z8Ca s' hb' j (r.take j) (by simp; omega) (by omega)
  have hstep : s.add (m.take (k + j)) = s'.add (r.take j) := by rw [List.take_add, z77, hs, hr]
  have hrest : (r.drop j).take (r.length - j) = m.drop (k + j) := by
   rw [List.take_of_length_le (by simp), ← hr, List.drop_drop]
  have hof : UInt64.ofInt (j : Int) = UInt64.ofNat j := by
   apply UInt64.toNat_inj.1
   rw [z6sa, UInt64.toNat_ofNat']
   omega
  rw [z3b]
  refine ⟨by simp, fun h30 => ?_, fun h30 => ?_⟩ <;> simp at h30
  ·generalize hS : (⟨s'.h, _, _⟩ : z8A) = S at *
   have hSb : S.b.length = 64 := by rw [← hS]; simp [hb']; omega
   simp (disch := first | omega | (simp; omega)) [h4, z2ta, z8Q, z7ic, z24b, z1Sa, hSb]
   refine ⟨⟨_, _, _, hSb, rfl, rfl, rfl⟩, ?_⟩
   simp [hQ2, hQ1]
   refine ⟨k + j, by omega, by omega, hrest, ?_⟩
   rw [hstep, hpiece, if_pos (by omega), ← hS, hof]
  ·simp [hQ2, hQ1]
   refine ⟨k + j, by omega, by omega, hrest, ?_⟩
   rw [hstep, hpiece, if_neg (by omega), hof]
 ·have e : k = m.length := by omega
  subst e
  have hm : (s.add m).b.length = 64 := by rw [z2Da, hb]
  simp [hQ1, hQ0, z8Q hm, z8Ja hm z98a, z6vb hm]
end Go.Abs
end

section
namespace Go.Abs
theorem z1tc (E : Env) (h1 : E.G 1 = z5jb) : ∀ ds, z8Jb.pre ds → ds.length = z2k.n ∧ awp E z2k.body (z9u z2k.res (z8Jb.post ds)) (z8c z2k.wr ds) := by
 rintro _ ⟨s, hb, hn, rfl⟩
 simp (disch := first | omega | (simp; omega)) [z2k, h1, z5jb, z8Jb, z8A.v, hb, z8Q, z8A.of_scs, z5zb]
 refine z3a fun Q0 hQ0 => ?_
 refine z7d (fun k : Nat => ⟨[(0, .agg (scs s))], [(1, .bp 1 0), (2, .bp 2 0), (3, u64 (8 * s.n)), (4, .sl (.own 1) (some false) (k + 1) (bys (128 :: z9c k)))],
   [(1, some (scs s)), (2, some (bys (z9c 32)))]⟩)
  (fun k => z3Fa s.n.toNat - k) (· ≤ z3Fa s.n.toNat) 0 rfl (by simp) fun k hk => ?_
 have hz := z73a s.n.toNat
 have hzo := z9Ya s.n.toNat
 refine z3a fun Q1 hQ1 => ?_
 simp (disch := first | omega | (simp; omega)) [z7a, z8Q, z5zb, hb]
 rw [z3b]
 refine ⟨by simp, fun h => ?_, fun h => ?_⟩ <;> simp at h <;> rw [Int.tmod_eq_emod_of_nonneg (by omega)] at h
 ·simp (disch := first | omega | (simp; omega)) [z7a, hQ1]
  clear hQ0 hQ1
  refine ⟨by omega, ?_⟩
  refine ⟨k + 1, by omega, by omega, by omega, ?_⟩
  rw [show [u8 0] = bys [0] from rfl, ← z2R, ← z3Da]
  simp
 ·have e : k = z3Fa s.n.toNat := by omega
  subst e
  simp [hQ1, hQ0]
  refine z3a fun Q2 hQ2 => ?_
  refine z7d (fun i : Nat => ⟨[(0, .agg (scs s))], [(1, .bp 1 0), (2, .bp 2 0), (3, u64 (8 * s.n)), (4, .sl (.own 1) (some false) (z3Fa s.n.toNat + 1 + i) (bys (128 :: z9c (z3Fa s.n.toNat) ++ be8 (8 * s.n) i))), (23, i64 i)],
    [(1, some (scs s)), (2, some (bys (z9c 32)))]⟩)
   (fun i => 8 - i) (· ≤ 8) 0 (by simp [be8]) (by decide) fun i hi => ?_
  have hbe := z5ra (8 * s.n) i
  refine z3a fun Q3 hQ3 => ?_
  simp (disch := first | omega | (simp; omega)) [z7a]
  rw [z3b]
  refine ⟨by simp, fun h => ?_, fun h => ?_⟩ <;> simp at h
  ·have e7 : ((56 : Int) - 8 * (i : Int)).toNat = 56 - 8 * i := by omega
   simp (disch := first | omega | (simp; omega)) [z7a, e7]
   repeat' (first | omega | apply And.intro)
   rw [hQ3]
   simp
   refine ⟨i + 1, by omega, by omega, ⟨by omega, ?_⟩, by omega⟩
   rw [be8, show [u8 (z2Ea (8 * s.n) (56 - 8 * i)).toUInt8] = bys [(z2Ea (8 * s.n) (56 - 8 * i)).toUInt8] from rfl, ← z2R]
   simp
  ·have e : i = 8 := by omega
   subst e
   simp (disch := first | omega | (simp; omega)) [hQ3, hQ2, h1, z5jb, z8A.v, z8Q, z6vb, z8Ja, hb, z8A.of_scs, z2Da]
   generalize hS : s.add (128 :: (z9c (z3Fa s.n.toNat) ++ be8 (8 * s.n) 8)) = S at *
   have hSb : S.b.length = 64 := by rw [← hS, z2Da, hb]
   have hsum : s.sum = z8hb S.h 32 := by rw [← hS]; rfl
   rw [z8Ja hSb (z8Q hb), hsum]
   clear hQ1 hQ2 hQ3 hQ0
   refine ⟨?_, ⟨s, hb, rfl⟩, z8Q hSb, ?_⟩
   ·have := z5ra (8 * s.n) 8
    simp [this]
   refine z3a fun Q4 hQ4 => ?_
   refine z7d (fun i : Nat => ⟨[(0, .agg (scs s))], [(1, .bp 1 0), (2, .bp 2 0), (6, .bp 6 0), (40, i64 i)],
     [(1, some (scs S)), (2, some (bys (z9c 32))), (6, some (bys (z8hb S.h i ++ z9c (32 - i))))]⟩)
    (fun i => 32 - i) (· ≤ 32) 0 rfl (by decide) fun i hi => ?_
   have ho := z6va S.h i
   refine z3a fun Q5 hQ5 => ?_
   simp (disch := first | omega | (simp; omega)) [z7a]
   rw [z3b]
   refine ⟨by simp, fun h => ?_, fun h => ?_⟩ <;> simp at h
   ·have e4 : (i : Int).tmod 4 = ((i % 4 : Nat) : Int) := by rw [Int.tmod_eq_emod_of_nonneg (by omega)]; rfl
    have e5 : ((i : Int) / 4).toNat = i / 4 := by omega
    have e6 : ((24 : Int) - 8 * ((i % 4 : Nat) : Int)).toNat = 24 - 8 * (i % 4) := by omega
    simp (disch := first | omega | (simp; omega)) [z7a, e4, e5, z4Dc, z8Q hSb]
    refine ⟨by omega, by omega, by omega, by omega, by omega, ?_⟩
    have e7 : ((24 : Int) - 8 * ((i : Int) % 4)).toNat = 24 - 8 * (i % 4) := by omega
    rw [e7, z9qa (by simp; omega), z2Na (by omega), z9za ho.symm, hQ5]
    simp
    refine ⟨i + 1, by omega, by omega, by omega, ?_⟩
    rw [z8hb, show 32 - (i + 1) = 32 - 1 - i by omega]
    simp
   ·have e : i = 32 := by omega
    subst e
    simp (disch := simp [ho]) [hQ5, hQ4, z9f, ho, List.take_of_length_le, z9c]
end Go.Abs
end

section
namespace Go.Abs
theorem z6hd (E : Env) (h0 : E.G 0 = z6pa) (h1 : E.G 1 = z5jb) (h2 : E.G 2 = z8Jb) (h7 : E.G 7 = z5da) : ∀ ds, ofC.pre ds → ds.length = z5T.n ∧ awp E z5T.body (z9u z5T.res (ofC.post ds)) (z8c z5T.wr ds) := by
 rintro _ ⟨tag, nl, parts, hl, rfl⟩
 simp (maxSteps := 1000000) (disch := first | omega | (simp; done) | (simp; omega)) [z7a, z1a, z0a, z5T, h0, h1]
 refine z3a fun Q0 hQ0 => ?_
 refine z7d (fun i : Nat => ⟨[(0, i64 tag), (1, .sl .plain nl parts.length (sts parts))], [(4, .bp 4 0), (5, .bp 5 0), (15, .sl .plain nl parts.length (sts parts)), (16, i64 parts.length), (17, i64 i)],
   [(4, some (bys (z9c 16))), (5, some (svc (z49 tag (parts.take i))))]⟩)
  (fun i => parts.length - i) (· ≤ parts.length) 0 rfl (by simp) fun i hi => ?_
 have hlen := z7ka parts
 refine z3a fun Q1 hQ1 => ?_
 simp (maxSteps := 1000000) (disch := first | omega | (simp; done) | (simp; omega)) [z7a, z1a, z0a]
 rw [z3b]
 refine ⟨by simp, fun h => ?_, fun h => ?_⟩ <;> simp at h
 ·have hb := z4Da (l := parts) (i := i) (by omega)
  simp (maxSteps := 1000000) (disch := first | omega | (simp; done) | (simp; omega)) [z7a, z1a, z0a, z3Wb, h7, h1, z2Ba]
  repeat' (first | omega | apply And.intro)
  simp [hQ1]
  refine ⟨i + 1, by omega, by omega, by omega, ?_⟩
  rw [z49, z49, z5p _ _ [] (by omega)]
  rfl
 ·have e : i = parts.length := by omega
  subst e
  have hi : (z49 tag parts).length < 1099511627776 := by
   have := z6F hl
   simp only [z49, List.length_cons]; omega
  simp (maxSteps := 1000000) (disch := first | omega | (simp; done) | (simp; omega)) [z7a, z1a, z0a, hQ1, hQ0, h2, z52b, z3A]
  rw [z7L, List.take_take, Nat.min_self]
end Go.Abs
end
