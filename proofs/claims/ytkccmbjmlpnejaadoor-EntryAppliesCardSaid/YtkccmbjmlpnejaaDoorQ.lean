/- Lemmas: an abstract interpreter, and what the functions compute. -/
import Derived.Test.YtkccmbjmlpnejaaDoorN
import Derived.Test.YtkccmbjmlpnejaaDoorT
import Derived.Test.YtkccmbjmlpnejaaDoorO
set_option linter.unusedSimpArgs false
set_option linter.unusedVariables false
set_option linter.unusedSectionVars false
section
namespace Go.Abs
set_option maxRecDepth 100000
set_option maxHeartbeats 8000000 in
theorem z87b (E : Env) : ∀ ds, z41a.pre ds → ds.length = z7f.n ∧ awp E z7f.body (z9u z7f.res (z41a.post ds)) (z8c z7f.wr ds) := by
 rintro _ ⟨c, nl, hc, rfl⟩
 rw [z2Sa]
 obtain ⟨k1, k2, k3, k4, k5, k6, dt, ls⟩ := c
 by_cases hs : z8cb k1 = true
 ·have hk : z9Da ⟨k1, k2, k3, k4, k5, k6, dt, ls⟩ = ⟨k1, k2, k3, k4, k5, k6, [], ls⟩ := by simp [z9Da, hs]
  rw [hk]
  simp only [z8cb, List.mem_cons, List.not_mem_nil, or_false, decide_eq_true_eq] at hs
  rcases hs with rfl | rfl | rfl | rfl | rfl | rfl | rfl | rfl <;> simp (maxSteps := 1000000) (disch := first | omega | (simp; done) | (simp; omega)) [z7a, z1a, z0a, z7f, z3v, z2v, z2o, kT, kF, z3n, z6m]
 ·have hk : z9Da ⟨k1, k2, k3, k4, k5, k6, dt, ls⟩ = ⟨k1, k2, k3, k4, k5, k6, dt, ls⟩ := by simp [z9Da, hs]
  rw [hk]
  simp only [z8cb, List.mem_cons, List.not_mem_nil, or_false, decide_eq_true_eq, not_or] at hs
  obtain ⟨n1, n2, n3, n4, n5, n6, n7, n8⟩ := hs
  simp (maxSteps := 1000000) (disch := first | omega | (simp; done) | (simp; omega)) [z7a, z1a, z0a, z7f, z3v, z2v, z2o, kT, kF, n1, n2, n3, n4, n5, n6, n7, n8, z3n, z6m]
end Go.Abs
end

section
namespace Go.Abs
set_option maxRecDepth 100000
theorem z7Db (nb : Option Bool) (b : List UInt8) : z9ka.pre [.ep [.sl .plain nb b.length (bys b), i64 0], st (z96 dEx)] = True := eq_true ⟨nb, b, rfl⟩
theorem z9ub (ds : List z2a) : z9ka.post ds = .agg (z2o dEx none) := rfl
theorem z8Eb (nb : Option Bool) (b : List UInt8) (n j : Nat) (r : List z2a) : z9ka.out (.ep [.sl .plain nb n (bys b), i64 0] :: r) j = [.sl .plain nb b.length (bys b), i64 0] := by simp [z9ka, rdE]
@[simp] theorem z15c : z9ka.bx = [0] := rfl
@[simp] theorem z8dd : z9ka.nb = [] := rfl
def z8Qa : z5a := ⟨fun ds => ds = [st (z5Fa (xEx DEx))], fun _ => .tup [.agg (z7k none none none (xEx DEx)), i64 0]⟩
theorem z4db : ∃ (b b1 b2 b3 b4 b5 b6 D d : List UInt8) (u u1 u3 u4 u6 : Nat), z5Fa (xEx DEx) = b ∧ DEx = D ∧ z6Wb = d ∧ D.length = 16 ∧ d.length = 16 ∧ b.length ≤ 1000000 ∧
  z8z z0m 1 b = ([5, 1, 0, 1], u, 0) ∧ b.drop u = b1 ∧ b1.length ≤ 1000000 ∧ z0ma b1 = (z96 dEx, u1, 0) ∧ b1.drop u1 = b2 ∧ b2.length ≤ 1000000 ∧ 16 ≤ b2.length ∧ b2.take 16 = D ∧ b2.drop 16 = b3 ∧ b3.length ≤ 1000000 ∧
  z0m b3 = (1, u3, 0) ∧ b3.drop u3 = b4 ∧ b4.length ≤ 1000000 ∧ z8z z0m 1 b4 = ([1, 2, 0, 0, 9, 1, 0, 0], u4, 0) ∧ b4.drop u4 = b5 ∧ b5.length ≤ 1000000 ∧ 16 ≤ b5.length ∧ b5.take 16 = d ∧ b5.drop 16 = b6 ∧ b6.length ≤ 1000000 ∧ z8z z0m 1 b6 = ([], u6, 0) ∧ b6.drop u6 = [] := by
 exact ⟨_, _, _, _, _, _, _, _, _, 9, 12, 2, 14, 1, rfl, rfl, rfl, rfl, rfl, by decide +kernel, by kernel_rfl, rfl, by decide +kernel, by kernel_rfl, rfl, by decide +kernel, by decide +kernel, by kernel_rfl, rfl, by decide +kernel, by kernel_rfl, rfl, by decide +kernel, by kernel_rfl, rfl, by decide +kernel, by decide +kernel, by kernel_rfl, rfl, by decide +kernel, by kernel_rfl, by kernel_rfl⟩
theorem z0X (m : List (Nat × Nat)) : ∀ l : List UInt8, z4ua m (bys l) = bys l
 | [] => rfl
 | a :: l => congrArg (u8 a :: ·) (z0X m l)
theorem z2Ya {D : List UInt8} (h : D.length = 16) : (xEx D).small := by
 refine ⟨⟨?_, ?_, ?_, ?_, ?_, h, ?_, ?_⟩, ?_, ?_, ?_⟩
 all_goals first | (constructor <;> decide) | (simp [xEx, dEx, mEx, Cmd.small, Cmd.ok, z6k]; done) | (simp [xEx, dEx, mEx, Cmd.small, Cmd.ok, z0f.ok, z6k, z6Wb]; done) | trace_state
theorem z2Ta (a b c d : Int) : z6j [a, b, c, d] = [i64 a, i64 b, i64 c, i64 d] := rfl
theorem z6Oc (a b c d e f g h : Int) : z6j [a, b, c, d, e, f, g, h] = [i64 a, i64 b, i64 c, i64 d, i64 e, i64 f, i64 g, i64 h] := rfl
theorem z83 : z2o dEx none = [i64 1, i64 0, i64 0, i64 2, i64 0, i64 0, st [], .sl .plain none 0 []] := rfl
def z6Wc (b D : List UInt8) (n : Int) (mv : z2a) (t : List UInt8) : ASt := ⟨[(0, st b)], [(2, .bp 2 0), (4, .bp 13 0), (7, i64 1), (8, i64 n)],
 [(2, some (i64 5 :: i64 1 :: i64 0 :: i64 1 :: i64 1 :: i64 0 :: i64 0 :: i64 2 :: i64 0 :: i64 0 :: st [] :: .sl .plain none 0 [] :: (bys D ++ [mv, .sl .plain none 0 []]))), (13, some [.sl .plain (some false) t.length (bys t), i64 0])]⟩
def z8ad (d : List UInt8) : z2a := .sl .plain none 1 ([i64 1, i64 2, i64 0, i64 0, i64 9, i64 1, i64 0, bo false] ++ bys d)
set_option maxHeartbeats 16000000 in
theorem z7Zb (E : Env) (h316 : E.M 316 = z4ja) (h318 : E.M 318 = z9ka) (h323 : E.M 323 = z4x) (h324 : E.M 324 = z4W) (h325 : E.M 325 = z6W) (h326 : E.M 326 = z8W) (h295 : E.G 295 = z8Fb) (h300 : E.G 300 = z47a) : ∀ ds, z8Qa.pre ds → ds.length = z3p.n ∧ awp E z3p.body (z9u z3p.res (z8Qa.post ds)) (z8c z3p.wr ds) := by
 rintro _ rfl
 obtain ⟨b, b1, b2, b3, b4, b5, b6, D, d, u, u1, u3, u4, u6, hb, hD, hd, hDl, hdl, c0, f0, g0, c1, f1, g1, c2, c2', f2, g2, c3, f3, g3, c4, f4, g4, c5, c5', f5, g5, c6, f6, g6⟩ := z4db
 have fb : b.length - u = b1.length := by rw [← g0]; simp
 have fb1 : b1.length - u1 = b2.length := by rw [← g1]; simp
 have fb2 : b2.length - 16 = b3.length := by rw [← g2]; simp
 have fb3 : b3.length - u3 = b4.length := by rw [← g3]; simp
 have fb4 : b4.length - u4 = b5.length := by rw [← g4]; simp
 have fb5 : b5.length - 16 = b6.length := by rw [← g5]; simp
 have p0 : z4x.pre [.ep [.sl .plain (some false) b.length (bys b), i64 0], .fn 52 [] []] = True := z98 (by omega) (by rw [f0]) rfl
 have p1 : z4W.pre [.ep [.sl .plain (some false) b1.length (bys b1), i64 0], .fn 48 [] []] = True := z6Ba (by omega) (by rw [f1]) rfl
 have p2 : z6W.pre [.ep [.sl .plain (some false) b2.length (bys b2), i64 0], .fn 320 [] []] = True := z9Ua (by omega) (by omega) rfl
 have p3 : z8W.pre [.ep [.sl .plain (some false) b3.length (bys b3), i64 0], .fn 45 [] []] = True := z8Ta (by omega) (by rw [f3]) rfl
 have p4 : z4x.pre [.ep [.sl .plain (some false) b4.length (bys b4), i64 0], .fn 52 [] []] = True := z98 (by omega) (by rw [f4]) rfl
 have p5 : z6W.pre [.ep [.sl .plain (some false) b5.length (bys b5), i64 0], .fn 320 [] []] = True := z9Ua (by omega) (by omega) rfl
 have p6 : z4x.pre [.ep [.sl .plain (some false) b6.length (bys b6), i64 0], .fn 52 [] []] = True := z98 (by omega) (by rw [f6]) rfl
 rw [hb]
 simp (maxSteps := 1000000) (disch := first | omega | (simp; done) | (simp; omega)) [z7a, z1a, z0a, z3p, z58, z99, h323, p0, z5pa, z6ba, z9ia, f0, g0, fb, kT, kF, dT, dF]
 simp (maxSteps := 1000000) (disch := first | omega | (simp; done) | (simp; omega)) [z7a, z1a, z0a, z26, z85, h316, z3wa, z69, z1na, kT, kF, dT, dF, z3n, z6m, z9P (a := z9c 16) (b := D) hDl, z7ga (a := z9c 16) (b := D) hDl, z9P (a := z9c 16) (b := z9c 16) rfl, z0X, z3na (a := D) hDl, z9na (a := D) hDl, z6Ca hDl, hDl, z7ca, z4va, z2yb hDl, z9Pa hDl, z2Ta, z83]
 simp (maxSteps := 1000000) (disch := first | omega | (simp; done) | (simp; omega)) [z7a, z1a, z0a, z16, z17, z86, h324, p1, z5pa, z1Ha, z2Va, f1, g1, fb1, h318, z7Db, z9ub, z8Eb, h325, p2, z6Fa, z9Va, f2, g2, fb2, kT, kF, dT, dF, z3n, z6m, z9P (a := z9c 16) (b := D) hDl, z7ga (a := z9c 16) (b := D) hDl, z9P (a := z9c 16) (b := z9c 16) rfl, z0X, z3na (a := D) hDl, z9na (a := D) hDl, z6Ca hDl, hDl, z7ca, z4va, z2yb hDl, z9Pa hDl, z2Ta, z83]
 simp (maxSteps := 1000000) (disch := first | omega | (simp; done) | (simp; omega)) [z7a, z1a, z0a, z57, z76, h326, p3, z5pa, z6Ga, z8Ra, f3, g3, fb3, kT, kF, dT, dF, z3n, z6m, z9P (a := z9c 16) (b := D) hDl, z7ga (a := z9c 16) (b := D) hDl, z9P (a := z9c 16) (b := z9c 16) rfl, z0X, z3na (a := D) hDl, z9na (a := D) hDl, z6Ca hDl, hDl, z7ca, z4va, z2yb hDl, z9Pa hDl, z2Ta, z83]
 simp only [or_imp, forall_and, z7ca, z4va]
 simp only [forall_eq, z5d, z2f, and_self, true_and]
 have w1 : inR 1 0 4096 = true := rfl
 have w2 : inR 0 0 1 = true := rfl
 have hs1 := z2Lc (a := z9c 16) (b := d) hdl
 have hs2 : splice [u8 0, u8 0, u8 0, u8 0, u8 0, u8 0, u8 0, u8 0, u8 0, u8 0, u8 0, u8 0, u8 0, u8 0, u8 0, u8 0] 0 (bys d) = bys d := hs1
 refine z3a fun Q0 hQ0 => ?_
 simp (maxSteps := 1000000) (disch := first | omega | (simp; done) | (simp; omega)) [z7a, z1a, z0a, z39]
 refine z7d (fun q : Int × z2a × List UInt8 => z6Wc b D q.1 q.2.1 q.2.2) (fun q => (1 - q.1).toNat) (fun q => q = (0, .sl .plain (some true) 0 [], b4) ∨ q = (1, z8ad d, b6)) (0, .sl .plain (some true) 0 [], b4) (by simp [z6Wc]) (Or.inl rfl) fun q hq => ?_
 rcases hq with rfl | rfl
 ·simp only
  refine z3a fun Q1 hQ1 => ?_
  simp (maxSteps := 1000000) (disch := first | omega | (simp; done) | (simp; omega)) [z7a, z1a, z0a, z1S, z0P, z51, z33, z6Wc, z6Oc, w2, h295, z93a, z5va, w1, h316, z3wa, z69, z1na, h323, p4, z5pa, z6ba, z9ia, f4, g4, fb4, kT, kF, dT, dF, z3n, z6m, z9P (a := z9c 16) (b := D) hDl, z7ga (a := z9c 16) (b := D) hDl, z9P (a := z9c 16) (b := z9c 16) rfl, z0X, z3na (a := D) hDl, z9na (a := D) hDl, z6Ca hDl, hDl, z7ca, z4va, z2yb hDl, z9Pa hDl, z2Ta, z83]
  simp (maxSteps := 1000000) (disch := first | omega | (simp; done) | (simp; omega)) [z7a, z1a, z0a, z53, h325, p5, z6Fa, z9Va, f5, g5, fb5, z6Oc, w2, h316, h295, z93a, z5va, z3wa, z69, z1na, kT, kF, dT, dF, hdl, z7ga (a := z9c 16) (b := d) hdl, hQ1, hs1, hs2, z3n, z6m, z9P (a := z9c 16) (b := D) hDl, z7ga (a := z9c 16) (b := D) hDl, z9P (a := z9c 16) (b := z9c 16) rfl, z0X, z3na (a := D) hDl, z9na (a := D) hDl, z6Ca hDl, hDl, z7ca, z4va, z2yb hDl, z9Pa hDl, z2Ta, z83]
  exact ⟨by simp [z1x], 1, by omega, z8ad d, b6, Or.inr ⟨rfl, rfl, rfl⟩, rfl⟩
 ·simp only
  simp (maxSteps := 1000000) (disch := first | omega | (simp; done) | (simp; omega)) [z7a, z1a, z0a, z1S, z0P, z6Wc, h295, z93a, z5va, w1, h316, z3wa, z69, z1na, kT, kF, dT, dF, z3n, z6m, z9P (a := z9c 16) (b := D) hDl, z7ga (a := z9c 16) (b := D) hDl, z9P (a := z9c 16) (b := z9c 16) rfl, z0X, z3na (a := D) hDl, z9na (a := D) hDl, z6Ca hDl, hDl, z7ca, z4va, z2yb hDl, z9Pa hDl, z2Ta, z83]
  simp (maxSteps := 1000000) (disch := first | omega | (simp; done) | (simp; omega)) [z7a, z1a, z0a, hQ0, z73, h323, p6, z5pa, z6ba, z9ia, f6, g6, kT, kF, dT, dF, z8ad, z3n, z6m, z9P (a := z9c 16) (b := D) hDl, z7ga (a := z9c 16) (b := D) hDl, z9P (a := z9c 16) (b := z9c 16) rfl, z0X, z3na (a := D) hDl, z9na (a := D) hDl, z6Ca hDl, hDl, z7ca, z4va, z2yb hDl, z9Pa hDl, z2Ta, z83]
  clear p0 p1 p2 p3 p4 p5 p6 fb fb1 fb2 fb3 fb4 fb5
  have hx : z8Qa.post [st b] = .tup [.agg (z7k none none none (xEx D)), i64 0] := by rw [← hD]; rfl
  have hent : z7k none none none (xEx D) = i64 5 :: i64 1 :: i64 0 :: i64 1 :: i64 1 :: i64 0 :: i64 0 :: i64 2 :: i64 0 :: i64 0 :: st [] :: .sl .plain none 0 [] :: (bys D ++ [.sl .plain none 1 (i64 1 :: i64 2 :: i64 0 :: i64 0 :: i64 9 :: i64 1 :: i64 0 :: bo false :: bys d), .sl .plain none 0 []]) := by
   simp [z7k, xEx, z2o, dEx, z0b, z2q, mEx, hd, z6j]
  have hsm : (xEx D).small := z2Ya hDl
  have pv := z8Oa (nc := none) (nm := none) (ng := none) hsm
  have pq := z2ha (nc := none) (nm := none) (ng := none) hsm
  rw [okEx] at pq
  rw [hx]
  rw [hent] at pv pq ⊢
  generalize (i64 1 :: i64 2 :: i64 0 :: i64 0 :: i64 9 :: i64 1 :: i64 0 :: bo false :: bys d) = M at *
  simp (maxSteps := 1000000) (disch := first | omega | (simp; done) | (simp; omega)) [z7a, z1a, z0a, z13, z34, z63, h300, pv, pq, h316, z2Wa, z69, z7Ua, kT, kF, dT, dF, z3n, z6m, z9P (a := z9c 16) (b := D) hDl, z7ga (a := z9c 16) (b := D) hDl, z9P (a := z9c 16) (b := z9c 16) rfl, z0X, z3na (a := D) hDl, z9na (a := D) hDl, z6Ca hDl, hDl, z7ca, z4va, z2yb hDl, z9Pa hDl, z2Ta, z83]
  refine ⟨⟨?_, ?_⟩, ?_⟩
  ·rintro a (h | rfl | rfl)
   ·exact of_eq_true (z7ca D) a h
   ·trivial
   ·trivial
  ·rintro a (h | rfl | rfl)
   ·exact of_eq_true (z4va D) a h
   ·rfl
   ·rfl
  ·rw [z9f rfl, z6Ca hDl]
   simp [hDl]
end Go.Abs
end

section
namespace Go.Abs
set_option maxRecDepth 100000
end Go.Abs
end
