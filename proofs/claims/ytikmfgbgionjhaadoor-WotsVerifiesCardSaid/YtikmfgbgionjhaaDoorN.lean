/- Lemmas: an abstract interpreter, and what the functions compute. -/
import Derived.Test.YtikmfgbgionjhaaDoorL
import Derived.Test.YtikmfgbgionjhaaDoorI
set_option linter.unusedSimpArgs false
set_option linter.unusedVariables false
set_option linter.unusedSectionVars false
section
namespace Go.Abs
theorem recE_at {s : List UInt8} (h : s.length = 560) : recE s = 0 := if_pos h
theorem recE_no {s : List UInt8} (h : ¬ s.length = 560) : recE s = 1 := if_neg h
theorem recD_at {s : List UInt8} (d : List UInt8) (h : s.length = 560) : recD d s = digOf 5 [endS d s] := if_pos h
set_option maxHeartbeats 4000000 in
set_option maxRecDepth 100000 in
theorem law_WB_ok (E : Env) (h114 : E.G 114 = sanC) (h93 : E.G 93 = recC) (h94 : E.G 94 = endsC) (h20 : E.G 20 = rofC) : ∀ ds, lawWB.pre ds → ds.length = f_custodylaw09_WotsBinds.n ∧ awp E f_custodylaw09_WotsBinds.body (retQ f_custodylaw09_WotsBinds.res (lawWB.post ds)) (initSt f_custodylaw09_WotsBinds.wr ds) := by
  rintro _ ⟨a, s, b, t, ha, hb, rfl⟩
  have r1 := recD_len a s
  have r2 := recD_len b t
  by_cases h : s.length = 560
  rotate_left
  · have e1 := recE_no h
    have h2 : ((s.length : Int) == 560) = false := beq_false_of_ne (by omega)
    by_cases h' : t.length = 560
    · have e2 := recE_at h'
      simp (maxSteps := 1000000) (disch := first | omega | (simp; done) | (simp; omega)) [W_id, bys_app, bys_snoc, f_custodylaw09_WotsBinds, f_custodylaw09_WotsBinds_r0, f_custodylaw09_WotsBinds_r1, f_custodylaw09_WotsBinds_r2, f_custodylaw09_WotsBinds_r3, h, h', h2, e1, e2, h114, h93, rec_pre, ha, hb, r1, r2, take_l16, splice_bys0, lawWB, trueC, kT, kF, dT, dF]
    · have e2 := recE_no h'
      have h3 : ((t.length : Int) == 560) = false := beq_false_of_ne (by omega)
      simp (maxSteps := 1000000) (disch := first | omega | (simp; done) | (simp; omega)) [W_id, bys_app, bys_snoc, f_custodylaw09_WotsBinds, f_custodylaw09_WotsBinds_r0, f_custodylaw09_WotsBinds_r1, f_custodylaw09_WotsBinds_r2, f_custodylaw09_WotsBinds_r3, h, h', h2, h3, e1, e2, h114, h93, rec_pre, ha, hb, r1, r2, take_l16, splice_bys0, lawWB, trueC, kT, kF, dT, dF]
  have e1 := recE_at h
  by_cases h' : t.length = 560
  rotate_left
  · have e2 := recE_no h'
    have h3 : ((t.length : Int) == 560) = false := beq_false_of_ne (by omega)
    simp (maxSteps := 1000000) (disch := first | omega | (simp; done) | (simp; omega)) [W_id, bys_app, bys_snoc, f_custodylaw09_WotsBinds, f_custodylaw09_WotsBinds_r0, f_custodylaw09_WotsBinds_r1, f_custodylaw09_WotsBinds_r2, f_custodylaw09_WotsBinds_r3, h, h', h3, e1, e2, h114, h93, rec_pre, ha, hb, r1, r2, take_l16, splice_bys0, lawWB, trueC, kT, kF, dT, dF]
  have e2 := recE_at h'
  have d1 := recD_at a h
  have d2 := recD_at b h'
  have l1 := endS_len a h
  have l2 := endS_len b h'
  by_cases e : endS a s = endS b t
  · have d3 : recD a s = recD b t := by rw [d1, d2, e]
    simp (maxSteps := 1000000) (disch := first | omega | (simp; done) | (simp; omega)) [W_id, bys_app, bys_snoc, f_custodylaw09_WotsBinds, f_custodylaw09_WotsBinds_r0, f_custodylaw09_WotsBinds_r1, f_custodylaw09_WotsBinds_r2, f_custodylaw09_WotsBinds_r3, f_custodylaw09_WotsBinds_r4, f_custodylaw09_WotsBinds_r5, f_custodylaw09_WotsBinds_r6, f_custodylaw09_WotsBinds_r7, f_custodylaw09_WotsBinds_r8, h, h', e1, e2, d3, e, l1, l2, h114, h93, h94, ends_pre, rec_pre, ha, hb, r1, r2, take_l16, splice_bys0, eqCells_ks8, lawWB, trueC, kT, kF, dT, dF]
  · have o1 : (digOf 5 [endS a s]).length = 16 := digOf_len _ _
    have o2 : (digOf 5 [endS b t]).length = 16 := digOf_len _ _
    by_cases q : digOf 5 [endS a s] = digOf 5 [endS b t]
    · simp (maxSteps := 1000000) (disch := first | omega | (simp; done) | (simp; omega)) [W_id, bys_app, bys_snoc, f_custodylaw09_WotsBinds, f_custodylaw09_WotsBinds_r0, f_custodylaw09_WotsBinds_r1, f_custodylaw09_WotsBinds_r2, f_custodylaw09_WotsBinds_r3, f_custodylaw09_WotsBinds_r4, f_custodylaw09_WotsBinds_r5, f_custodylaw09_WotsBinds_r6, f_custodylaw09_WotsBinds_r7, f_custodylaw09_WotsBinds_r8, h, h', e1, e2, d1, d2, e, q, o1, o2, l1, l2, h114, h93, h94, ends_pre, h20, rof_pre1, rec_pre, ha, hb, r1, r2, take_l16, splice_bys0, eqCells_ks8, lawWB, trueC, kT, kF, dT, dF]
    · simp (maxSteps := 1000000) (disch := first | omega | (simp; done) | (simp; omega)) [W_id, bys_app, bys_snoc, f_custodylaw09_WotsBinds, f_custodylaw09_WotsBinds_r0, f_custodylaw09_WotsBinds_r1, f_custodylaw09_WotsBinds_r2, f_custodylaw09_WotsBinds_r3, f_custodylaw09_WotsBinds_r4, f_custodylaw09_WotsBinds_r5, f_custodylaw09_WotsBinds_r6, f_custodylaw09_WotsBinds_r7, f_custodylaw09_WotsBinds_r8, h, h', e1, e2, d1, d2, e, q, o1, o2, l1, l2, h114, h93, h94, ends_pre, h20, rof_pre1, rec_pre, ha, hb, r1, r2, take_l16, splice_bys0, eqCells_ks8, lawWB, trueC, kT, kF, dT, dF]
end Go.Abs
end

section
namespace Go.Abs
theorem lessB_succ (a b : List UInt8) (i : Nat) : lessB a b (i + 1) = (lessB a b i || decide (atI (dgI a) i < atI (dgI b) i)) := rfl
def sumK' (d : List UInt8) (i : Nat) : Nat := sumK d (min i 32)
set_option maxHeartbeats 4000000 in
set_option maxRecDepth 100000 in
theorem law_WD_ok (E : Env) (h114 : E.G 114 = sanC) (h90 : E.G 90 = digPC) : ∀ ds, lawWD.pre ds → ds.length = f_custodylaw09_WotsDigits.n ∧ awp E f_custodylaw09_WotsDigits.body (retQ f_custodylaw09_WotsDigits.res (lawWD.post ds)) (initSt f_custodylaw09_WotsDigits.wr ds) := by
  rintro _ ⟨a, b, ha, hb, rfl⟩
  have l1 := dgI_len ha
  have l2 := dgI_len hb
  simp (maxSteps := 1000000) (disch := first | omega | (simp; done) | (simp; omega)) [W_id, bys_app, bys_snoc, f_custodylaw09_WotsDigits, f_custodylaw09_WotsDigits_r0, f_custodylaw09_WotsDigits_r1, f_custodylaw09_WotsDigits_r2, f_custodylaw09_WotsDigits_r3, f_custodylaw09_WotsDigits_r4, f_custodylaw09_WotsDigits_r5, f_custodylaw09_WotsDigits_r6, h90, digP_pre, ha, hb, take_l16, lawWD, trueC, kT, kF, dT, dF]
  refine awp_name fun Q0 hQ0 => ?_
  simp (maxSteps := 1000000) (disch := first | omega | (simp; done) | (simp; omega)) [W_id, bys_app, bys_snoc, f_custodylaw09_WotsDigits_r7]
  refine awp_for (fun i : Nat => ⟨[(0, .agg (bys a)), (1, .agg (bys b))], [(2, .bp 2 0), (3, .bp 3 0), (5, .sl .plain (some false) 35 (ints (dgI a))), (6, .sl .plain (some false) 35 (ints (dgI b))), (7, bo (lessB a b i)), (8, bo (lessB b a i)), (9, i64 (sumK' a i)), (10, i64 i)], [(2, some (bys a)), (3, some (bys b))]⟩) (fun i => 35 - i) (· ≤ 35) 0 rfl (by decide) fun i hi => ?_
  refine awp_name fun Q1 hQ1 => ?_
  by_cases h : i < 35
  · obtain ⟨x0, x1⟩ := dgI_rng ha h
    have k1 := lessB_succ a b i
    have k2 := lessB_succ b a i
    have k3 : sumK' a i ≤ 15 * 35 := Nat.le_trans (sumK_le a _) (by omega)
    have b1 : ¬ atI (dgI a) i < 0 := by omega
    have b2 : ¬ 15 < atI (dgI a) i := by omega
    simp (maxSteps := 1000000) (disch := first | omega | (simp; done) | (simp; omega)) [W_id, bys_app, bys_snoc, f_custodylaw09_WotsDigits_l0, f_custodylaw09_WotsDigits_r8, f_custodylaw09_WotsDigits_r9, f_custodylaw09_WotsDigits_r10, f_custodylaw09_WotsDigits_r11, h, b1, b2, hd_ints, l1, l2, kT, kF, dT, dF]
    refine ⟨by omega, by omega, by omega, by omega, ?_⟩
    refine awp_name fun Q2 hQ2 => ?_
    have key3 : awp E f_custodylaw09_WotsDigits_r14 Q2 ⟨[(0, .agg (bys a)), (1, .agg (bys b))], [(2, .bp 2 0), (3, .bp 3 0), (5, .sl .plain (some false) 35 (ints (dgI a))), (6, .sl .plain (some false) 35 (ints (dgI b))), (7, bo (lessB a b (i + 1))), (8, bo (lessB b a (i + 1))), (9, i64 (sumK' a i)), (10, i64 i)], [(2, some (bys a)), (3, some (bys b))]⟩ := by
      by_cases g : i < 32
      · have k4 : (sumK' a (i + 1) : Int) = sumK' a i + 15 - atI (dgI a) i := by
          have := dgt_lt ha h
          rw [sumK', sumK', show min (i + 1) 32 = i + 1 by omega, show min i 32 = i by omega, sumK, dgI_at]; omega
        simp (maxSteps := 1000000) (disch := first | omega | (simp; done) | (simp; omega)) [W_id, bys_app, bys_snoc, f_custodylaw09_WotsDigits_r14, f_custodylaw09_WotsDigits_r15, g, kT, kF, dT, dF, hd_ints, l1, hQ2, hQ1]
        refine ⟨by omega, by omega, i + 1, by omega, by omega, rfl, rfl, ?_, by omega⟩
        omega
      · have k4 : sumK' a (i + 1) = sumK' a i := by rw [sumK', sumK', show min (i + 1) 32 = min i 32 by omega]
        simp (maxSteps := 1000000) (disch := first | omega | (simp; done) | (simp; omega)) [W_id, bys_app, bys_snoc, f_custodylaw09_WotsDigits_r14, f_custodylaw09_WotsDigits_r15, g, kT, kF, dT, dF, hQ2, hQ1]
        refine ⟨i + 1, by omega, by omega, rfl, rfl, ?_, by omega⟩
        omega
    have key2 : awp E f_custodylaw09_WotsDigits_r13 Q2 ⟨[(0, .agg (bys a)), (1, .agg (bys b))], [(2, .bp 2 0), (3, .bp 3 0), (5, .sl .plain (some false) 35 (ints (dgI a))), (6, .sl .plain (some false) 35 (ints (dgI b))), (7, bo (lessB a b (i + 1))), (8, bo (lessB b a i)), (9, i64 (sumK' a i)), (10, i64 i)], [(2, some (bys a)), (3, some (bys b))]⟩ := by
      rw [k2] at key3
      cases c : lessB b a i with
      | true =>
        rw [c] at key3
        simp (maxSteps := 1000000) (disch := first | omega | (simp; done) | (simp; omega)) [W_id, bys_app, bys_snoc, f_custodylaw09_WotsDigits_r13, hd_ints, l1, l2]
        simpa using key3
      | false =>
        rw [c] at key3
        by_cases g : atI (dgI b) i < atI (dgI a) i
        · simp (maxSteps := 1000000) (disch := first | omega | (simp; done) | (simp; omega)) [W_id, bys_app, bys_snoc, f_custodylaw09_WotsDigits_r13, g, dT, dF, hd_ints, l1, l2]
          refine ⟨by omega, by omega, by omega, by omega, ?_⟩
          simpa [g] using key3
        · simp (maxSteps := 1000000) (disch := first | omega | (simp; done) | (simp; omega)) [W_id, bys_app, bys_snoc, f_custodylaw09_WotsDigits_r13, g, dT, dF, hd_ints, l1, l2]
          refine ⟨by omega, by omega, by omega, by omega, ?_⟩
          simpa [g] using key3
    rw [k1] at key2
    cases c : lessB a b i with
    | true =>
      rw [c] at key2
      simp (maxSteps := 1000000) (disch := first | omega | (simp; done) | (simp; omega)) [W_id, bys_app, bys_snoc, f_custodylaw09_WotsDigits_r12, hd_ints, l1, l2]
      simpa using key2
    | false =>
      rw [c] at key2
      by_cases g : atI (dgI a) i < atI (dgI b) i
      · simp (maxSteps := 1000000) (disch := first | omega | (simp; done) | (simp; omega)) [W_id, bys_app, bys_snoc, f_custodylaw09_WotsDigits_r12, g, dT, dF, hd_ints, l1, l2]
        refine ⟨by omega, by omega, by omega, by omega, ?_⟩
        simpa [g] using key2
      · simp (maxSteps := 1000000) (disch := first | omega | (simp; done) | (simp; omega)) [W_id, bys_app, bys_snoc, f_custodylaw09_WotsDigits_r12, g, dT, dF, hd_ints, l1, l2]
        refine ⟨by omega, by omega, by omega, by omega, ?_⟩
        simpa [g] using key2
  · have e : i = 35 := by omega
    subst e
    have q1 := lessB_all ha hb
    have q2 := lessB_all hb ha
    have q3 : sumK' a 35 = sumD a := sumK_all ha
    have q4 := sumI ha
    have y2 : hdA (ints ((dgI a).drop 32)) = i64 (atI (dgI a) 32) := hd_ints (by omega)
    have y3 : hdA (ints ((dgI a).drop 33)) = i64 (atI (dgI a) 33) := hd_ints (by omega)
    have y4 : hdA (ints ((dgI a).drop 34)) = i64 (atI (dgI a) 34) := hd_ints (by omega)
    have n2 := dgI_rng ha (i := 32) (by decide)
    have n3 := dgI_rng ha (i := 33) (by decide)
    have n4 := dgI_rng ha (i := 34) (by decide)
    rw [q1, q2, q3, q4]
    generalize atI (dgI a) 32 = u at *
    generalize atI (dgI a) 33 = v at *
    generalize atI (dgI a) 34 = w at *
    by_cases e : a = b
    · have e' : b = a := e.symm
      simp (maxSteps := 1000000) (disch := first | omega | (simp; done) | (simp; omega)) [W_id, bys_app, bys_snoc, f_custodylaw09_WotsDigits_l0, f_custodylaw09_WotsDigits_r8, f_custodylaw09_WotsDigits_r9, kT, kF, dT, dF, hQ1, hQ0, f_custodylaw09_WotsDigits_r16, e', h114, y2, y3, y4, ha, hb, l1, l2, take_l16, eqCells_ks8]
    · have e' : ¬ b = a := fun h => e h.symm
      simp (maxSteps := 1000000) (disch := first | omega | (simp; done) | (simp; omega)) [W_id, bys_app, bys_snoc, f_custodylaw09_WotsDigits_l0, f_custodylaw09_WotsDigits_r8, f_custodylaw09_WotsDigits_r9, kT, kF, dT, dF, hQ1, hQ0, f_custodylaw09_WotsDigits_r16, e, e', h114, y2, y3, y4, ha, hb, l1, l2, take_l16, eqCells_ks8]
end Go.Abs
end

section
namespace Go.Abs
theorem cp_step9 {s : List UInt8} {i n : Nat} (h : i < n) (hs : i < s.length) : s.take i ++ (zeros (n - i)).set 0 s[i] = s.take (i + 1) ++ zeros (n - (i + 1)) := by
  have hz : zeros (n - i) = 0 :: zeros (n - (i + 1)) := by rw [zeros_64 h, Nat.sub_sub, Nat.add_comm]
  rw [hz, List.take_succ_eq_append_getElem hs, List.append_assoc]
  rfl
theorem lessB_succ' (a b : List UInt8) (i : Nat) : lessB a b (i + 1) = (lessB a b i || decide (atI (dgI a) i < atI (dgI b) i)) := rfl
set_option maxHeartbeats 4000000 in
set_option maxRecDepth 100000 in
theorem law_WR_ok (E : Env) (h114 : E.G 114 = sanC) (h106 : E.G 106 = sigC) (h90 : E.G 90 = digPC) (h111 : E.G 111 = advC) : ∀ ds, lawWV.pre ds → ds.length = f_custodylaw09_WotsReveals.n ∧ awp E f_custodylaw09_WotsReveals.body (retQ f_custodylaw09_WotsReveals.res (lawWV.post ds)) (initSt f_custodylaw09_WotsReveals.wr ds) := by
  rintro _ ⟨s, a, b, ha, hb, rfl⟩
  by_cases h : 200 < s.length
  · simp (maxSteps := 1000000) (disch := first | omega | (simp; done) | (simp; omega)) [W_id, bys_app, bys_snoc, f_custodylaw09_WotsReveals, f_custodylaw09_WotsReveals_r0, f_custodylaw09_WotsReveals_r1, h, h114, ha, hb, lawWV, trueC, kT, kF, dT, dF]
  have l1 := dgI_len ha
  have l2 := dgI_len hb
  have s1 := sigS_len s a
  have s2 := sigS_len s b
  have hs : s.length < 1000000000 := by omega
  simp (maxSteps := 1000000) (disch := first | omega | (simp; done) | (simp; omega)) [W_id, bys_app, bys_snoc, f_custodylaw09_WotsReveals, f_custodylaw09_WotsReveals_r0, f_custodylaw09_WotsReveals_r1, f_custodylaw09_WotsReveals_r2, f_custodylaw09_WotsReveals_r3, f_custodylaw09_WotsReveals_r4, f_custodylaw09_WotsReveals_r5, f_custodylaw09_WotsReveals_r6, f_custodylaw09_WotsReveals_r7, f_custodylaw09_WotsReveals_r8, f_custodylaw09_WotsReveals_r9, h, h106, sig_pre, h90, digP_pre, ha, hb, s1, s2, take_l16, lawWV, trueC, kT, kF, dT, dF]
  refine awp_name fun Q0 hQ0 => ?_
  simp (maxSteps := 1000000) (disch := first | omega | (simp; done) | (simp; omega)) [W_id, bys_app, bys_snoc, f_custodylaw09_WotsReveals_r10]
  refine awp_for (fun k : Nat => ⟨[(0, st s), (1, .agg (bys a)), (2, .agg (bys b))], [(4, .bp 4 0), (5, .bp 5 0), (7, st (sigS s a)), (8, st (sigS s b)), (9, .sl .plain (some false) 35 (ints (dgI a))), (10, .sl .plain (some false) 35 (ints (dgI b))), (11, bo (lessB b a k)), (12, i64 k)], [(4, some (bys a)), (5, some (bys b))]⟩) (fun k => 35 - k) (· ≤ 35) 0 rfl (by decide) fun k hk => ?_
  refine awp_name fun Q1 hQ1 => ?_
  by_cases h1 : k < 35
  · obtain ⟨x0, x1⟩ := dgI_rng ha h1
    obtain ⟨y0, y1⟩ := dgI_rng hb h1
    have k1 := lessB_succ' b a k
    by_cases g : atI (dgI b) k < atI (dgI a) k
    · have k2 : lessB b a (k + 1) = true := by rw [k1, decide_eq_true g, Bool.or_true]
      simp (maxSteps := 1000000) (disch := first | omega | (simp; done) | (simp; omega)) [W_id, bys_app, bys_snoc, f_custodylaw09_WotsReveals_l0, f_custodylaw09_WotsReveals_r11, f_custodylaw09_WotsReveals_r12, f_custodylaw09_WotsReveals_r13, h1, g, hd_ints, l1, l2, kT, kF, dT, dF, hQ1]
      exact ⟨by omega, by omega, by omega, by omega, k + 1, by omega, by omega, k2, by omega⟩
    · have k2 : lessB b a (k + 1) = lessB b a k := by rw [k1, decide_eq_false g, Bool.or_false]
      simp (maxSteps := 1000000) (disch := first | omega | (simp; done) | (simp; omega)) [W_id, bys_app, bys_snoc, f_custodylaw09_WotsReveals_l0, f_custodylaw09_WotsReveals_r11, f_custodylaw09_WotsReveals_r12, f_custodylaw09_WotsReveals_r13, f_custodylaw09_WotsReveals_r14, f_custodylaw09_WotsReveals_r15, h1, g, hd_ints, l1, l2, kT, kF, dT, dF]
      refine ⟨by omega, by omega, by omega, by omega, ?_⟩
      refine awp_name fun Q2 hQ2 => ?_
      obtain ⟨X, hX⟩ : ∃ X, X = ((sigS s a).drop (16 * k)).take 16 := ⟨_, rfl⟩
      obtain ⟨Y, hY⟩ : ∃ Y, Y = ((sigS s b).drop (16 * k)).take 16 := ⟨_, rfl⟩
      have hXl : X.length = 16 := by rw [hX, List.length_take, List.length_drop]; omega
      have hYl : Y.length = 16 := by rw [hY, List.length_take, List.length_drop]; omega
      have hXY : adv k (atI (dgI a) k) (atI (dgI b) k) X = Y := by
        rw [hX, hY, sigS_at s a h1, sigS_at s b h1, sigV, sigV, adv_two (by omega) (by omega) (by omega) (by omega) (by omega) (by omega)]
      simp (maxSteps := 1000000) (disch := first | omega | (simp; done) | (simp; omega)) [W_id, bys_app, bys_snoc, f_custodylaw09_WotsReveals_r16]
      refine awp_for (fun j : Nat => ⟨[(0, st s), (1, .agg (bys a)), (2, .agg (bys b))], [(4, .bp 4 0), (5, .bp 5 0), (7, st (sigS s a)), (8, st (sigS s b)), (9, .sl .plain (some false) 35 (ints (dgI a))), (10, .sl .plain (some false) 35 (ints (dgI b))), (11, bo (lessB b a k)), (12, i64 k), (13, .bp 13 0), (14, .bp 14 0), (15, i64 j)], [(4, some (bys a)), (5, some (bys b)), (13, some (bys (X.take j ++ zeros (16 - j)))), (14, some (bys (Y.take j ++ zeros (16 - j))))]⟩) (fun j => 16 - j) (· ≤ 16) 0 rfl (by decide) fun j hj => ?_
      refine awp_name fun Q3 hQ3 => ?_
      have m1 : (X.take j).length = j := by simp; omega
      have m2 : (Y.take j).length = j := by simp; omega
      by_cases hj1 : j < 16
      · have e0 : ((16 : Int) * k + j).toNat = 16 * k + j := by omega
        have c1 := cp_step9 (s := X) (i := j) (n := 16) hj1 (by omega)
        have c2 := cp_step9 (s := Y) (i := j) (n := 16) hj1 (by omega)
        have a1 : (sigS s a)[16 * k + j]'(by omega) = X[j]'(by omega) := by simp [hX]
        have a2 : (sigS s b)[16 * k + j]'(by omega) = Y[j]'(by omega) := by simp [hY]
        simp (maxSteps := 1000000) (disch := first | omega | (simp; done) | (simp; omega)) [W_id, bys_app, bys_snoc, f_custodylaw09_WotsReveals_l1, f_custodylaw09_WotsReveals_r17, f_custodylaw09_WotsReveals_r18, f_custodylaw09_WotsReveals_r19, hj1, kT, kF, dT, dF, e0, splice_bys, s1, s2, hQ3]
        exact ⟨⟨by omega, by omega⟩, by omega, by omega, ⟨by omega, by omega⟩, by omega, by omega, j + 1, by omega, by omega, by omega, by rw [a1]; exact c1, by rw [a2]; exact c2⟩
      · have e : j = 16 := by omega
        subst e
        have i1 : isI64 (k : Int) := ⟨by omega, by omega⟩
        have i2 : isI64 (atI (dgI a) k) := ⟨by omega, by omega⟩
        have i3 : isI64 (atI (dgI b) k) := ⟨by omega, by omega⟩
        simp (maxSteps := 1000000) (disch := first | omega | (simp; done) | (simp; omega)) [W_id, bys_app, bys_snoc, f_custodylaw09_WotsReveals_l1, f_custodylaw09_WotsReveals_r17, kT, kF, dT, dF, hQ3, hQ2, f_custodylaw09_WotsReveals_r20, f_custodylaw09_WotsReveals_r21, h111, adv_pre, i1, i2, i3, hXl, hYl, hXY, take_l16, eqCells_ks8, hd_ints, l1, l2, hQ1]
        exact ⟨by omega, by omega, by omega, by omega, k + 1, by omega, by omega, k2.symm, by omega⟩
  · have e : k = 35 := by omega
    subst e
    have q1 := lessB_all hb ha
    rw [q1]
    by_cases e : a = b
    · have e' : b = a := e.symm
      simp (maxSteps := 1000000) (disch := first | omega | (simp; done) | (simp; omega)) [W_id, bys_app, bys_snoc, f_custodylaw09_WotsReveals_l0, f_custodylaw09_WotsReveals_r11, kT, kF, dT, dF, hQ1, hQ0, f_custodylaw09_WotsReveals_r22, e', h114, ha, hb, take_l16, eqCells_ks8]
    · have e' : ¬ b = a := fun h => e h.symm
      simp (maxSteps := 1000000) (disch := first | omega | (simp; done) | (simp; omega)) [W_id, bys_app, bys_snoc, f_custodylaw09_WotsReveals_l0, f_custodylaw09_WotsReveals_r11, kT, kF, dT, dF, hQ1, hQ0, f_custodylaw09_WotsReveals_r22, e, e', h114, ha, hb, take_l16, eqCells_ks8]
end Go.Abs
end
