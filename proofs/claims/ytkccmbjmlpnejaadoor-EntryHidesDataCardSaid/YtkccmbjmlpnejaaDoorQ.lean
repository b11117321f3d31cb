/- Lemmas: an abstract interpreter, and what the functions compute. -/
import Derived.Test.YtkccmbjmlpnejaaDoorN
import Derived.Test.YtkccmbjmlpnejaaDoorT
import Derived.Test.YtkccmbjmlpnejaaDoorO
set_option linter.unusedSimpArgs false
set_option linter.unusedVariables false
set_option linter.unusedSectionVars false
section
namespace Go.Abs
set_option maxRecDepth 100000
set_option maxHeartbeats 8000000 in
theorem z4Zb (E : Env) : ∀ ds, z2Na.pre ds → ds.length = z6e.n ∧ awp E z6e.body (z9t z6e.res (z2Na.post ds)) (z6c z6e.wr ds) := by
 rintro _ ⟨c, nl, hc, rfl⟩
 rw [z7ma]
 obtain ⟨k1, k2, k3, k4, k5, k6, dt, ls⟩ := c
 by_cases hs : z7La k1 = true
 ·have hk : z4la ⟨k1, k2, k3, k4, k5, k6, dt, ls⟩ = ⟨k1, k2, k3, k4, k5, k6, [], ls⟩ := by simp [z4la, hs]
  rw [hk]
  simp only [z7La, List.mem_cons, List.not_mem_nil, or_false, decide_eq_true_eq] at hs
  rcases hs with rfl | rfl | rfl | rfl | rfl | rfl | rfl | rfl <;> simp (maxSteps := 1000000) (disch := first | omega | (simp; done) | (simp; omega)) [z7a, z1a, z0a, z6e, z1t, z5t, z2k, kT, kF, z1s, z3r]
 ·have hk : z4la ⟨k1, k2, k3, k4, k5, k6, dt, ls⟩ = ⟨k1, k2, k3, k4, k5, k6, dt, ls⟩ := by simp [z4la, hs]
  rw [hk]
  simp only [z7La, List.mem_cons, List.not_mem_nil, or_false, decide_eq_true_eq, not_or] at hs
  obtain ⟨n1, n2, n3, n4, n5, n6, n7, n8⟩ := hs
  simp (maxSteps := 1000000) (disch := first | omega | (simp; done) | (simp; omega)) [z7a, z1a, z0a, z6e, z1t, z5t, z2k, kT, kF, n1, n2, n3, n4, n5, n6, n7, n8, z1s, z3r]
theorem z60b (E : Env) : ∀ ds, z17a.pre ds → ds.length = z9h.n ∧ awp E z9h.body (z9t z9h.res (z17a.post ds)) (z6c z9h.wr ds) := by
 rintro _ ⟨t, m, rfl⟩
 rw [z48a]
 simp (maxSteps := 1000000) (disch := first | omega | (simp; done) | (simp; omega)) [z7a, z1a, z0a, z9h, z5k, z1sa, z9y, z2k, z1s, z3r, z1I (a := z2c 16) (b := z2c 16) rfl, z6ra (d := z2c 16) rfl, or_imp, forall_and, z7Z, z8na]
 rfl
def z72a : z4a := ⟨z8Wa.pre, fun ds => .agg (z5k (gNc (nth ds 1)) none none (mkE (asI (nth ds 0)) (z7Ca (gCs (nth ds 1))) (asI (nth ds 2)) (asI (nth ds 3)) (z0da (gNn (nth ds 4)) (gCs (nth ds 4))) (gIs (gCs (nth ds 5)))))⟩
theorem z3Bb {now req mode : Int} {c : Cmd} {nc nm ng : Option Bool} {made : List z4j} {gone : List Int} (h : c.small) (hm : z8o made) (h1 : made.length ≤ 1000000) (h2 : gone.length ≤ 1000000) : z72a.pre [i64 now, .agg (z2k c nc), i64 req, i64 mode, .sl .plain nm made.length (z8d made), .sl .plain ng gone.length (z3i gone)] = True := z4za h hm h1 h2
theorem z8Na {now req mode : Int} {c : Cmd} {nc nm ng : Option Bool} {made : List z4j} {gone : List Int} (hm : z8o made) (n : Nat) : z72a.post [i64 now, .agg (z2k c nc), i64 req, i64 mode, .sl .plain nm made.length (z8d made), .sl .plain ng n (z3i gone)] = .agg (z5k nc none none (mkE now c req mode made gone)) := by
 show z2a.agg (z5k (gNc (.agg (z2k c nc))) none none (mkE now (z7Ca (z2k c nc)) req mode (z0da made.length (z8d made)) (gIs (z3i gone)))) = _
 rw [z8ea, z8V (z0h hm), z2La]; rfl
set_option maxHeartbeats 8000000 in
theorem z22b (E : Env) (h327 : E.G 327 = z2Na) (h148 : E.G 148 = z2ia) : ∀ ds, z72a.pre ds → ds.length = z7h.n ∧ awp E z7h.body (z9t z7h.res (z72a.post ds)) (z6c z7h.wr ds) := by
 rintro _ ⟨now, req, mode, c, nc, nm, ng, made, gone, hc, hm, h1, h2, rfl⟩
 unfold z2Wb
 rw [z8Na hm]
 have hd : (z2p 7 [z3P c]).length = 16 := z8m _ _
 have hp := z6La (nl := nc) hc
 have hq := z7ma c nc
 have hp' := z3Ma (nl := nc) hc
 have hq' := z7ca c nc
 have hk : (z4la c).kind = c.kind := by unfold z4la; split <;> rfl
 have hlen := z6p (z0h hm)
 generalize hD : z2p 7 [z3P c] = D at *
 generalize hC : z4la c = c' at *
 obtain ⟨k1, k2, k3, k4, k5, k6, dt, ls⟩ := c
 obtain ⟨j1, j2, j3, j4, j5, j6, dt', ls'⟩ := c'
 simp only [z2k] at hp hq hp' hq' hk
 simp (maxSteps := 1000000) (disch := first | omega | (simp; done) | (simp; omega)) [z7a, z1a, z0a, z7h, h327, h148, z2k, hp, hq, hp', hq', z1s, z3r, z1I (a := z2c 16) (b := D) hd, z54 (a := z2c 16) (b := D) hd, z6ja (a := D) hd, z7ia (a := D) hd, z6ra hd, hd, or_imp, forall_and, z7Z, z8na, z0lb hd, z7Ha hd, hlen]
 subst hk
 refine ⟨⟨by omega, by omega, fun c h => (z9Aa c h).1, fun c h => (z9Aa c h).2⟩, ⟨by omega, by omega⟩, ?_⟩
 simp [z5k, mkE, hC, hD, z2k]
end Go.Abs
end

section
namespace Go.Abs
set_option maxRecDepth 100000
theorem z7Db (nb : Option Bool) (b : List UInt8) : z6ka.pre [.ep [.sl .plain nb b.length (bys b), i64 0], st (z3P dEx)] = True := eq_true ⟨nb, b, rfl⟩
theorem z2kb (ds : List z2a) : z6ka.post ds = .agg (z2k dEx none) := rfl
theorem z9vb (nb : Option Bool) (b : List UInt8) (n j : Nat) (r : List z2a) : z6ka.out (.ep [.sl .plain nb n (bys b), i64 0] :: r) j = [.sl .plain nb b.length (bys b), i64 0] := by simp [z6ka, rdE]
@[simp] theorem z97c : z6ka.bx = [0] := rfl
@[simp] theorem z96c : z6ka.nb = [] := rfl
def z6Pa : z4a := ⟨fun ds => ds = [st (z08 (xEx DEx))], fun _ => .tup [.agg (z5k none none none (xEx DEx)), i64 0]⟩
theorem z5db : ∃ (b b1 b2 b3 b4 b5 b6 D d : List UInt8) (u u1 u3 u4 u6 : Nat), z08 (xEx DEx) = b ∧ DEx = D ∧ z6Tb = d ∧ D.length = 16 ∧ d.length = 16 ∧ b.length ≤ 1000000 ∧
  z0v z0l 1 b = ([5, 1, 0, 1], u, 0) ∧ b.drop u = b1 ∧ b1.length ≤ 1000000 ∧ z9ia b1 = (z3P dEx, u1, 0) ∧ b1.drop u1 = b2 ∧ b2.length ≤ 1000000 ∧ 16 ≤ b2.length ∧ b2.take 16 = D ∧ b2.drop 16 = b3 ∧ b3.length ≤ 1000000 ∧
  z0l b3 = (1, u3, 0) ∧ b3.drop u3 = b4 ∧ b4.length ≤ 1000000 ∧ z0v z0l 1 b4 = ([1, 2, 0, 0, 9, 1, 0, 0], u4, 0) ∧ b4.drop u4 = b5 ∧ b5.length ≤ 1000000 ∧ 16 ≤ b5.length ∧ b5.take 16 = d ∧ b5.drop 16 = b6 ∧ b6.length ≤ 1000000 ∧ z0v z0l 1 b6 = ([], u6, 0) ∧ b6.drop u6 = [] := by
 exact ⟨_, _, _, _, _, _, _, _, _, 9, 12, 2, 14, 1, rfl, rfl, rfl, rfl, rfl, by decide +kernel, by kernel_rfl, rfl, by decide +kernel, by kernel_rfl, rfl, by decide +kernel, by decide +kernel, by kernel_rfl, rfl, by decide +kernel, by kernel_rfl, rfl, by decide +kernel, by kernel_rfl, rfl, by decide +kernel, by decide +kernel, by kernel_rfl, rfl, by decide +kernel, by kernel_rfl, by kernel_rfl⟩
theorem z2W (m : List (Nat × Nat)) : ∀ l : List UInt8, z1xa m (bys l) = bys l
 | [] => rfl
 | a :: l => congrArg (u8 a :: ·) (z2W m l)
theorem z9Pa {D : List UInt8} (h : D.length = 16) : (xEx D).small := by
 refine ⟨⟨?_, ?_, ?_, ?_, ?_, h, ?_, ?_⟩, ?_, ?_, ?_⟩
 all_goals first | (constructor <;> decide) | (simp [xEx, dEx, mEx, Cmd.small, Cmd.ok, z3f]; done) | (simp [xEx, dEx, mEx, Cmd.small, Cmd.ok, z4j.ok, z3f, z6Tb]; done) | trace_state
theorem z8Ua (a b c d : Int) : z3i [a, b, c, d] = [i64 a, i64 b, i64 c, i64 d] := rfl
theorem z3Ic (a b c d e f g h : Int) : z3i [a, b, c, d, e, f, g, h] = [i64 a, i64 b, i64 c, i64 d, i64 e, i64 f, i64 g, i64 h] := rfl
theorem z3Z : z2k dEx none = [i64 1, i64 0, i64 0, i64 2, i64 0, i64 0, st [], .sl .plain none 0 []] := rfl
def z2Wc (b D : List UInt8) (n : Int) (mv : z2a) (t : List UInt8) : ASt := ⟨[(0, st b)], [(2, .bp 2 0), (4, .bp 13 0), (7, i64 1), (8, i64 n)],
 [(2, some (i64 5 :: i64 1 :: i64 0 :: i64 1 :: i64 1 :: i64 0 :: i64 0 :: i64 2 :: i64 0 :: i64 0 :: st [] :: .sl .plain none 0 [] :: (bys D ++ [mv, .sl .plain none 0 []]))), (13, some [.sl .plain (some false) t.length (bys t), i64 0])]⟩
def z4Zc (d : List UInt8) : z2a := .sl .plain none 1 ([i64 1, i64 2, i64 0, i64 0, i64 9, i64 1, i64 0, bo false] ++ bys d)
set_option maxHeartbeats 16000000 in
theorem z5dc (E : Env) (h316 : E.M 316 = z0ia) (h318 : E.M 318 = z6ka) (h323 : E.M 323 = z6v) (h324 : E.M 324 = z4V) (h325 : E.M 325 = z1V) (h326 : E.M 326 = z5V) (h295 : E.G 295 = z1Lb) (h300 : E.G 300 = z9Ya) : ∀ ds, z6Pa.pre ds → ds.length = z7n.n ∧ awp E z7n.body (z9t z7n.res (z6Pa.post ds)) (z6c z7n.wr ds) := by
 rintro _ rfl
 obtain ⟨b, b1, b2, b3, b4, b5, b6, D, d, u, u1, u3, u4, u6, hb, hD, hd, hDl, hdl, c0, f0, g0, c1, f1, g1, c2, c2', f2, g2, c3, f3, g3, c4, f4, g4, c5, c5', f5, g5, c6, f6, g6⟩ := z5db
 have fb : b.length - u = b1.length := by rw [← g0]; simp
 have fb1 : b1.length - u1 = b2.length := by rw [← g1]; simp
 have fb2 : b2.length - 16 = b3.length := by rw [← g2]; simp
 have fb3 : b3.length - u3 = b4.length := by rw [← g3]; simp
 have fb4 : b4.length - u4 = b5.length := by rw [← g4]; simp
 have fb5 : b5.length - 16 = b6.length := by rw [← g5]; simp
 have p0 : z6v.pre [.ep [.sl .plain (some false) b.length (bys b), i64 0], .fn 52 [] []] = True := z35 (by omega) (by rw [f0]) rfl
 have p1 : z4V.pre [.ep [.sl .plain (some false) b1.length (bys b1), i64 0], .fn 48 [] []] = True := z0ya (by omega) (by rw [f1]) rfl
 have p2 : z1V.pre [.ep [.sl .plain (some false) b2.length (bys b2), i64 0], .fn 320 [] []] = True := z6Va (by omega) (by omega) rfl
 have p3 : z5V.pre [.ep [.sl .plain (some false) b3.length (bys b3), i64 0], .fn 45 [] []] = True := z4Pa (by omega) (by rw [f3]) rfl
 have p4 : z6v.pre [.ep [.sl .plain (some false) b4.length (bys b4), i64 0], .fn 52 [] []] = True := z35 (by omega) (by rw [f4]) rfl
 have p5 : z1V.pre [.ep [.sl .plain (some false) b5.length (bys b5), i64 0], .fn 320 [] []] = True := z6Va (by omega) (by omega) rfl
 have p6 : z6v.pre [.ep [.sl .plain (some false) b6.length (bys b6), i64 0], .fn 52 [] []] = True := z35 (by omega) (by rw [f6]) rfl
 rw [hb]
 simp (maxSteps := 1000000) (disch := first | omega | (simp; done) | (simp; omega)) [z7a, z1a, z0a, z7n, z37, z43, h323, p0, z3pa, z58, z7fa, f0, g0, fb, kT, kF, dT, dF]
 simp (maxSteps := 1000000) (disch := first | omega | (simp; done) | (simp; omega)) [z7a, z1a, z0a, z84, z34, h316, z9va, z24, z5ma, kT, kF, dT, dF, z1s, z3r, z1I (a := z2c 16) (b := D) hDl, z54 (a := z2c 16) (b := D) hDl, z1I (a := z2c 16) (b := z2c 16) rfl, z2W, z6ja (a := D) hDl, z7ia (a := D) hDl, z6ra hDl, hDl, z7Z, z8na, z0lb hDl, z7Ha hDl, z8Ua, z3Z]
 simp (maxSteps := 1000000) (disch := first | omega | (simp; done) | (simp; omega)) [z7a, z1a, z0a, z27, z55, z04, h324, p1, z3pa, z1Ga, z9Ua, f1, g1, fb1, h318, z7Db, z2kb, z9vb, h325, p2, z4Ga, z7Ra, f2, g2, fb2, kT, kF, dT, dF, z1s, z3r, z1I (a := z2c 16) (b := D) hDl, z54 (a := z2c 16) (b := D) hDl, z1I (a := z2c 16) (b := z2c 16) rfl, z2W, z6ja (a := D) hDl, z7ia (a := D) hDl, z6ra hDl, hDl, z7Z, z8na, z0lb hDl, z7Ha hDl, z8Ua, z3Z]
 simp (maxSteps := 1000000) (disch := first | omega | (simp; done) | (simp; omega)) [z7a, z1a, z0a, z26, z64, h326, p3, z3pa, z9Ea, z0Sa, f3, g3, fb3, kT, kF, dT, dF, z1s, z3r, z1I (a := z2c 16) (b := D) hDl, z54 (a := z2c 16) (b := D) hDl, z1I (a := z2c 16) (b := z2c 16) rfl, z2W, z6ja (a := D) hDl, z7ia (a := D) hDl, z6ra hDl, hDl, z7Z, z8na, z0lb hDl, z7Ha hDl, z8Ua, z3Z]
 simp only [or_imp, forall_and, z7Z, z8na]
 simp only [forall_eq, z1d, z3g, and_self, true_and]
 have w1 : inR 1 0 4096 = true := rfl
 have w2 : inR 0 0 1 = true := rfl
 have hs1 := z6uc (a := z2c 16) (b := d) hdl
 have hs2 : splice [u8 0, u8 0, u8 0, u8 0, u8 0, u8 0, u8 0, u8 0, u8 0, u8 0, u8 0, u8 0, u8 0, u8 0, u8 0, u8 0] 0 (bys d) = bys d := hs1
 refine z3a fun Q0 hQ0 => ?_
 simp (maxSteps := 1000000) (disch := first | omega | (simp; done) | (simp; omega)) [z7a, z1a, z0a, z63]
 refine z3d (fun q : Int × z2a × List UInt8 => z2Wc b D q.1 q.2.1 q.2.2) (fun q => (1 - q.1).toNat) (fun q => q = (0, .sl .plain (some true) 0 [], b4) ∨ q = (1, z4Zc d, b6)) (0, .sl .plain (some true) 0 [], b4) (by simp [z2Wc]) (Or.inl rfl) fun q hq => ?_
 rcases hq with rfl | rfl
 ·simp only
  refine z3a fun Q1 hQ1 => ?_
  simp (maxSteps := 1000000) (disch := first | omega | (simp; done) | (simp; omega)) [z7a, z1a, z0a, z2Q, z7L, z10, z6Z, z2Wc, z3Ic, w2, h295, z4Ya, z4wa, w1, h316, z9va, z24, z5ma, h323, p4, z3pa, z58, z7fa, f4, g4, fb4, kT, kF, dT, dF, z1s, z3r, z1I (a := z2c 16) (b := D) hDl, z54 (a := z2c 16) (b := D) hDl, z1I (a := z2c 16) (b := z2c 16) rfl, z2W, z6ja (a := D) hDl, z7ia (a := D) hDl, z6ra hDl, hDl, z7Z, z8na, z0lb hDl, z7Ha hDl, z8Ua, z3Z]
  simp (maxSteps := 1000000) (disch := first | omega | (simp; done) | (simp; omega)) [z7a, z1a, z0a, z71, h325, p5, z4Ga, z7Ra, f5, g5, fb5, z3Ic, w2, h316, h295, z4Ya, z4wa, z9va, z24, z5ma, kT, kF, dT, dF, hdl, z54 (a := z2c 16) (b := d) hdl, hQ1, hs1, hs2, z1s, z3r, z1I (a := z2c 16) (b := D) hDl, z54 (a := z2c 16) (b := D) hDl, z1I (a := z2c 16) (b := z2c 16) rfl, z2W, z6ja (a := D) hDl, z7ia (a := D) hDl, z6ra hDl, hDl, z7Z, z8na, z0lb hDl, z7Ha hDl, z8Ua, z3Z]
  exact ⟨by simp [z0A], 1, by omega, z4Zc d, b6, Or.inr ⟨rfl, rfl, rfl⟩, rfl⟩
 ·simp only
  simp (maxSteps := 1000000) (disch := first | omega | (simp; done) | (simp; omega)) [z7a, z1a, z0a, z2Q, z7L, z2Wc, h295, z4Ya, z4wa, w1, h316, z9va, z24, z5ma, kT, kF, dT, dF, z1s, z3r, z1I (a := z2c 16) (b := D) hDl, z54 (a := z2c 16) (b := D) hDl, z1I (a := z2c 16) (b := z2c 16) rfl, z2W, z6ja (a := D) hDl, z7ia (a := D) hDl, z6ra hDl, hDl, z7Z, z8na, z0lb hDl, z7Ha hDl, z8Ua, z3Z]
  simp (maxSteps := 1000000) (disch := first | omega | (simp; done) | (simp; omega)) [z7a, z1a, z0a, hQ0, z00, h323, p6, z3pa, z58, z7fa, f6, g6, kT, kF, dT, dF, z4Zc, z1s, z3r, z1I (a := z2c 16) (b := D) hDl, z54 (a := z2c 16) (b := D) hDl, z1I (a := z2c 16) (b := z2c 16) rfl, z2W, z6ja (a := D) hDl, z7ia (a := D) hDl, z6ra hDl, hDl, z7Z, z8na, z0lb hDl, z7Ha hDl, z8Ua, z3Z]
  clear p0 p1 p2 p3 p4 p5 p6 fb fb1 fb2 fb3 fb4 fb5
  have hx : z6Pa.post [st b] = .tup [.agg (z5k none none none (xEx D)), i64 0] := by rw [← hD]; rfl
  have hent : z5k none none none (xEx D) = i64 5 :: i64 1 :: i64 0 :: i64 1 :: i64 1 :: i64 0 :: i64 0 :: i64 2 :: i64 0 :: i64 0 :: st [] :: .sl .plain none 0 [] :: (bys D ++ [.sl .plain none 1 (i64 1 :: i64 2 :: i64 0 :: i64 0 :: i64 9 :: i64 1 :: i64 0 :: bo false :: bys d), .sl .plain none 0 []]) := by
   simp [z5k, xEx, z2k, dEx, z8d, z8u, mEx, hd, z3i]
  have hsm : (xEx D).small := z9Pa hDl
  have pv := z3Ha (nc := none) (nm := none) (ng := none) hsm
  have pq := z1ha (nc := none) (nm := none) (ng := none) hsm
  rw [okEx] at pq
  rw [hx]
  rw [hent] at pv pq ⊢
  generalize (i64 1 :: i64 2 :: i64 0 :: i64 0 :: i64 9 :: i64 1 :: i64 0 :: bo false :: bys d) = M at *
  simp (maxSteps := 1000000) (disch := first | omega | (simp; done) | (simp; omega)) [z7a, z1a, z0a, z21, z5Z, z50, h300, pv, pq, h316, z8Sa, z24, z0Wa, kT, kF, dT, dF, z1s, z3r, z1I (a := z2c 16) (b := D) hDl, z54 (a := z2c 16) (b := D) hDl, z1I (a := z2c 16) (b := z2c 16) rfl, z2W, z6ja (a := D) hDl, z7ia (a := D) hDl, z6ra hDl, hDl, z7Z, z8na, z0lb hDl, z7Ha hDl, z8Ua, z3Z]
  refine ⟨⟨?_, ?_⟩, ?_⟩
  ·rintro a (h | rfl | rfl)
   ·exact of_eq_true (z7Z D) a h
   ·trivial
   ·trivial
  ·rintro a (h | rfl | rfl)
   ·exact of_eq_true (z8na D) a h
   ·rfl
   ·rfl
  ·rw [z0f rfl, z6ra hDl]
   simp [hDl]
end Go.Abs
end

section
namespace Go.Abs
set_option maxRecDepth 100000
def z7Ya : z4a := ⟨fun ds => ∃ m : z4j, m.ok ∧ ds = [.agg (z8u m)], fun ds => .sl (.own 1) (some false) 8 (z3i (z7C (z4Db (gCs (nth ds 0)))))⟩
theorem z5zb {m : z4j} (h : m.ok) : z7Ya.pre [.agg (z8u m)] = True := eq_true ⟨m, h, rfl⟩
theorem z0Va (m : z4j) : z7Ya.post [.agg (z8u m)] = .sl (.own 1) (some false) 8 (z3i (z7C m)) := by
 show z2a.sl (.own 1) (some false) 8 (z3i (z7C (z4Db (z8u m)))) = _
 rw [z5oa]
theorem z89b (E : Env) : ∀ ds, z7Ya.pre ds → ds.length = z4d.n ∧ awp E z4d.body (z9t z4d.res (z7Ya.post ds)) (z6c z4d.wr ds) := by
 rintro _ ⟨m, hm, rfl⟩
 rw [z0Va]
 have hd := hm.2.2.2.2.2.2.2
 have hl := z9p hd
 cases hr : m.raw
 ·simp (maxSteps := 1000000) (disch := first | omega | (simp; done) | (simp; omega)) [z7a, z1a, z0a, z4d, z5q, kT, kF, hl, z5L, z9Y, hr]
  simp [z7C, z3i, z4gc, hr]
 ·simp (maxSteps := 1000000) (disch := first | omega | (simp; done) | (simp; omega)) [z7a, z1a, z0a, z4d, z5q, kT, kF, hl, z5L, z9Y, hr]
  simp [z7C, z3i, z4gc, hr]
theorem z20a {l : List Int} {n : Nat} {cs : List z2a} (nl : Option Bool) (h : ∀ x ∈ l, z3f x) (hl : l.length ≤ 100000000) (hn : n = l.length) (hc : cs = z3i l) : z5J.pre [.sl .plain nl n cs] = True := by
 subst hn hc
 exact z0wa hl h rfl
theorem z0Ma {l : List Int} {n : Nat} {cs : List z2a} (nl : Option Bool) (hc : cs = z3i l) : z5J.post [.sl .plain nl n cs] = .sl (.own 1) none (z3j l).length (bys (z3j l)) := by
 subst hc
 rw [z5J, z06]; rfl
set_option maxHeartbeats 16000000 in
theorem z3Cb (E : Env) (h40 : E.G 40 = z5J) (h147 : E.G 147 = z0la) (h29 : E.G 29 = z72) (h23 : E.G 23 = z4fa) (h30 : E.G 30 = z5Ba) (h332 : E.G 332 = z7Ya) : ∀ ds, z1ia.pre ds → ds.length = z6f.n ∧ awp E z6f.body (z9t z6f.res (z1ia.post ds)) (z6c z6f.wr ds) := by
 rintro _ ⟨nc, nm, ng, x, hx, rfl⟩
 rw [z2S hx, z8Ra]
 have hd := hx.1.2.2.2.2.2.1
 have h16 := hx.1.2.2.2.2.2.2.1
 have hgo := hx.1.2.2.2.2.2.2.2
 have hml := hx.2.2.1
 have hgl := hx.2.2.2
 have hl := z9c (nc := nc) (nm := nm) (ng := ng) hd
 have e28 := z9ba (nc := nc) (nm := nm) (ng := ng) hd
 have e29 := z1fa (nc := nc) (nm := nm) (ng := ng) hd
 have hg := z19 (nc := nc) (nm := nm) (ng := ng) hd
 have hlen := z6p (z0h h16)
 have hHl := z3Ca hx
 have hc2 := z78 hx.2.1
 have hp4 : z5J.pre [.sl .plain (some false) 4 [i64 x.time, i64 x.kind, i64 x.req, i64 x.mode]] = True := z20a (some false) (z7Xa hx.1) (by simp) rfl rfl
 have hq4 : z5J.post [.sl .plain (some false) 4 [i64 x.time, i64 x.kind, i64 x.req, i64 x.mode]] = _ := z0Ma (l := [x.time, x.kind, x.req, x.mode]) (some false) rfl
 have hpg : z5J.pre [.sl .plain ng x.gone.length (z3i x.gone)] = True := z20a ng hgo (by omega) rfl rfl
 have hqg : z5J.post [.sl .plain ng x.gone.length (z3i x.gone)] = _ := z0Ma (l := x.gone) ng rfl
 have hgle := z7V hgo (by omega)
 have hib := z4ma (n := (x.made.length : Int)) (by omega) (by omega)
 have hHd : z8ub x = z3j [x.time, x.kind, x.req, x.mode] ++ (z1P (z3P x.cmd) ++ (x.dig ++ z7m x.made.length)) := rfl
 have hHll := congrArg List.length hHd
 simp only [List.length_append] at hHll
 generalize hH : z8ub x = H at *
 generalize hG : z3j x.gone = G at *
 generalize h4 : z3j [x.time, x.kind, x.req, x.mode] = e4 at *
 generalize hSS : z1P (z3P x.cmd) = eS at *
 generalize hN : z7m x.made.length = eN at *
 simp (maxSteps := 1000000) (disch := first | omega | (simp; done) | (simp; omega)) [z7a, z1a, z0a, z6f, hl, h40, hp4, hq4, h147, z3wa hx.2.1, z3oa, h29, z1qa, hSS, hg, e28, h30, hib, hN, h23, z2Fa, hd, -z1a, -List.length_append]
 rw [← hHd]
 repeat' apply And.intro
 all_goals try (first | omega | (simp only [List.length_append]; omega))
 refine z3a fun Q0 hQ0 => ?_
 refine z3d (fun i : Nat => ⟨[(0, .agg (z5k nc nm ng x))], [(1, .bp 1 0), (3, st (H ++ (x.made.take i).flatMap z5ca)), (4, i64 i)], [(1, some (z5k nc nm ng x))]⟩)
  (fun i => x.made.length - i) (fun i => i ≤ x.made.length) 0 (by simp) (by simp) fun i hi => ?_
 refine z3a fun Q1 hQ1 => ?_
 have hBl : (H ++ (x.made.take i).flatMap z5ca).length ≤ 2000001000 + 97 * i := by
  have := z1ga (l := x.made.take i) fun m hm => h16 m (List.mem_of_mem_take hm)
  rw [List.length_append]
  rw [List.length_take] at this
  omega
 by_cases h1 : i < x.made.length
 ·have hm := h16 _ (z7qa h1)
  have hmd := hm.2.2.2.2.2.2.2
  have ha := z6Oa h16 h1
  have hmll := z9p hmd
  have hle : 24 ≤ x.made.length * 24 - i * 24 := by omega
  have hle2 : i * 24 ≤ x.made.length * 24 := by omega
  have hs : (x.made.take (i + 1)).flatMap z5ca = (x.made.take i).flatMap z5ca ++ z5ca (atD x.made i) := by
   rw [List.take_succ_eq_append_getElem h1, List.flatMap_append, z2ka h1]; simp
  have hnok := z7na hm
  have e8l := z7V hnok (by simp [z7C])
  have ha8 : ((z8d x.made).drop (i * 24 + 8)).take 16 = bys (atD x.made i).dig := by
   rw [← List.drop_drop, show 16 = 24 - 8 by rfl, ← List.drop_take, ha]; rfl
  generalize hX : atD x.made i = X at *
  have nl8 : (z7C X).length = 8 := rfl
  rw [nl8] at e8l
  have k1 : z5J.pre [.sl .plain (some false) 8 (z3i (z7C X))] = True := z20a (l := z7C X) (some false) hnok (by rw [nl8]; omega) rfl rfl
  have k2 : z5J.post [.sl .plain (some false) 8 (z3i (z7C X))] = .sl (.own 1) none (z3j (z7C X)).length (bys (z3j (z7C X))) := z0Ma (l := z7C X) (some false) rfl
  have hcat : z5ca X = z3j (z7C X) ++ X.dig := rfl
  have hs' : H ++ (x.made.take (i + 1)).flatMap z5ca = ((H ++ (x.made.take i).flatMap z5ca) ++ z3j (z7C X)) ++ X.dig := by rw [hs, hcat]; simp only [List.append_assoc]
  generalize hE : z3j (z7C X) = e8 at *
  generalize hB : H ++ (x.made.take i).flatMap z5ca = B at *
  have m1 := z5zb hm
  have m2 := z0Va X
  have hle3 : i * 24 + 8 ≤ x.made.length * 24 := by omega
  have hle4 : 16 ≤ x.made.length * 24 - (i * 24 + 8) := by omega
  simp (maxSteps := 1000000) (disch := first | omega | (simp; done) | (simp; omega)) [z7a, z1a, z0a, z4r, z7E, kT, kF, dT, dF, h1, e28, hl, hlen, hle, hle2, hle3, hle4, ha, ha8, hmll, h332, m1, m2, h40, k1, k2, h23, z2Fa, hmd, hQ1, -z1a, -List.length_append]
  exact ⟨by omega, by omega, by rw [List.length_append]; omega, i + 1, by omega, by omega, by rw [hs', List.append_assoc], by omega⟩
 ·obtain rfl : i = x.made.length := by omega
  rw [List.take_length] at *
  generalize hB : H ++ x.made.flatMap z5ca = B at *
  simp (maxSteps := 1000000) (disch := first | omega | (simp; done) | (simp; omega)) [z7a, z1a, z0a, z4r, kT, kF, dT, dF, hQ1, hQ0, z5G, hl, e28, e29, h40, hpg, hqg, -List.length_append]
  exact ⟨by omega, by rw [← hB, List.append_assoc]⟩
theorem z2Db (E : Env) (h333 : E.G 333 = z1ia) (h20 : E.G 20 = z2Ja) : ∀ ds, z4oa.pre ds → ds.length = z8f.n ∧ awp E z8f.body (z9t z8f.res (z4oa.post ds)) (z6c z8f.wr ds) := by
 rintro _ ⟨nc, nm, ng, x, hx, rfl⟩
 rw [z6X hx]
 have hd := hx.1.2.2.2.2.2.1
 have hl := z9c (nc := nc) (nm := nm) (ng := ng) hd
 have htk := z5m (nc := nc) (nm := nm) (ng := ng) hd
 have hle : (z08 x).length ≤ 2200000000 := by
  have h1 := z3Ca hx
  have h2 := z1ga hx.1.2.2.2.2.2.2.1
  have h3 := z7V hx.1.2.2.2.2.2.2.2 (by have := hx.2.2.2; omega)
  have h4 := hx.2.2.1
  have h5 := hx.2.2.2
  rw [z8Ra, List.length_append, List.length_append]
  omega
 have hp : z2Ja.pre [i64 8, .sl .plain (some false) 1 [st (z08 x)]] = True := z1Ka (l := [z08 x]) rfl (by rw [z4lc]; omega)
 have hq : z2Ja.post [i64 8, .sl .plain (some false) 1 [st (z08 x)]] = .agg (bys (z2p 8 [z08 x])) := z1pa 8 _ 1 [z08 x]
 simp (maxSteps := 1000000) (disch := first | omega | (simp; done) | (simp; omega)) [z7a, z1a, z0a, z8f, hl, htk, h333, z4ha hx, z2S hx, h20, hp, hq, z7q, z2z, z0t, z4va, z8m]
end Go.Abs
end
