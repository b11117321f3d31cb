/- Lemmas: an abstract interpreter, and what the functions compute. -/
import Derived.Test.YtikmfgbgionjhaaDoorL
set_option linter.unusedSimpArgs false
set_option linter.unusedVariables false
set_option linter.unusedSectionVars false
section
namespace Go.Abs
set_option maxHeartbeats 4000000 in
set_option maxRecDepth 100000 in
theorem san9_ok (E : Env) (h90 : E.G 90 = digPC) (h106 : E.G 106 = sigC) (h100 : E.G 100 = pubC) (h93 : E.G 93 = recC) (h108 : E.G 108 = verC) (h111 : E.G 111 = advC) : ∀ ds, sanC.pre ds → ds.length = f_custodylaw09_sanity.n ∧ awp E f_custodylaw09_sanity.body (retQ f_custodylaw09_sanity.res (sanC.post ds)) (initSt f_custodylaw09_sanity.wr ds) := by
  rintro _ rfl
  obtain ⟨z, hz0⟩ : ∃ x, zeros 16 = x := ⟨_, rfl⟩
  have hz : z.length = 16 := by rw [← hz0]; rfl
  have hf00 : fll 0 = z := by rw [← hz0]; rfl
  obtain ⟨sd, hsd⟩ : ∃ x : List UInt8, [115, 101, 101, 100] = x := ⟨_, rfl⟩
  obtain ⟨f, hf0⟩ : ∃ x, fll 16 = x := ⟨_, rfl⟩
  obtain ⟨v1, hv1⟩ : ∃ x : List UInt8, [16, 127, 192, 190, 116, 194, 199, 223, 22, 87, 203, 220, 148, 55, 156, 97] = x := ⟨_, rfl⟩
  have hfl : f.length = 16 := by rw [← hf0]; rfl
  have hs : sd.length < 1000000000 := by rw [← hsd]; decide
  have g1 := rec_sig sd hz
  have g2 := recE_sig sd z
  have g3 := sigS_len sd z
  have g4 : recE [] = 1 := if_neg (by decide)
  have g5 : recD z [] = z := by rw [← hz0]; exact if_neg (by decide)
  have g6 : verB (pubD sd) z (sigS sd z) = true := ver_sig sd hz
  have g7 : verB (pubD sd) f (sigS sd z) = false := by rw [← hz0, ← hsd, ← hf0]; exact ver_full
  have g8 : adv 0 0 1 z = v1 := by rw [← hv1, ← hz0]; exact adv_one
  have g11 : ¬ v1 = z := by rw [← hz0, ← hv1]; decide
  have g12 : v1.length = 16 := by rw [← hv1]; rfl
  have g9 := dgI_len hz
  have g10 := dgI_len hfl
  have i0 : isI64 0 := ⟨by decide, by decide⟩
  have i1 : isI64 1 := ⟨by decide, by decide⟩
  have hp := pubD_len sd
  have p1 : ∀ x : List UInt8, verC.pre [.agg (bys (pubD sd)), .agg (bys z), st x] = True := fun x => ver_pre hp hz
  have p2 : ∀ x : List UInt8, verC.pre [.agg (bys (pubD sd)), .agg (bys f), st x] = True := fun x => ver_pre hp hfl
  have z0 : atI (dgI z) 0 = 0 := by rw [← hz0]; exact dz 0
  have z32 : atI (dgI z) 32 = 1 := by rw [← hz0]; exact dz 32
  have z33 : atI (dgI z) 33 = 14 := by rw [← hz0]; exact dz 33
  have z34 : atI (dgI z) 34 = 0 := by rw [← hz0]; exact dz 34
  have f31 : atI (dgI f) 31 = 15 := by rw [← hf0]; exact df 31
  have f32 : atI (dgI f) 32 = 0 := by rw [← hf0]; exact df 32
  have y0 : hdA (ints (dgI z)) = i64 0 := by rw [hd_ints0 (by omega), z0]
  have y32 : hdA (ints ((dgI z).drop 32)) = i64 1 := by rw [hd_ints (by omega), z32]
  have y33 : hdA (ints ((dgI z).drop 33)) = i64 14 := by rw [hd_ints (by omega), z33]
  have y34 : hdA (ints ((dgI z).drop 34)) = i64 0 := by rw [hd_ints (by omega), z34]
  have x31 : hdA (ints ((dgI f).drop 31)) = i64 15 := by rw [hd_ints (by omega), f31]
  have x32 : hdA (ints ((dgI f).drop 32)) = i64 0 := by rw [hd_ints (by omega), f32]
  clear z0 z32 z33 z34 f31 f32 hv1
  simp (maxSteps := 1000000) (disch := first | omega | (simp; done) | (simp; omega)) [W_id, bys_app, bys_snoc, f_custodylaw09_sanity, f_custodylaw09_sanity_r0, f_custodylaw09_sanity_r1, hz0]
  refine awp_name fun Q0 hQ0 => ?_
  simp (maxSteps := 1000000) (disch := first | omega | (simp; done) | (simp; omega)) [W_id, bys_app, bys_snoc, f_custodylaw09_sanity_r2]
  refine awp_for (fun i : Nat => ⟨[], [(1, .bp 1 0), (2, .bp 2 0), (3, i64 i)], [(1, some (bys z)), (2, some (bys (fll i)))]⟩) (fun i => 16 - i) (· ≤ 16) 0 (by rw [hf00]; rfl) (by decide) fun i hi => ?_
  refine awp_name fun Q1 hQ1 => ?_
  have hl := fll_len hi
  by_cases h : i < 16
  · have e := fll_set h
    simp (maxSteps := 1000000) (disch := first | omega | (simp; done) | (simp; omega)) [W_id, bys_app, bys_snoc, f_custodylaw09_sanity_l0, f_custodylaw09_sanity_r3, f_custodylaw09_sanity_r4, kT, kF, dT, dF, splice_bys, hl, e, hQ1]
    exact ⟨by omega, by omega, i + 1, by omega, by omega, by omega, rfl⟩
  · have e : i = 16 := by omega
    subst e
    simp (maxSteps := 1000000) (disch := first | omega | (simp; done) | (simp; omega)) [W_id, bys_app, bys_snoc, f_custodylaw09_sanity_l0, f_custodylaw09_sanity_r3, kT, kF, dT, dF, hQ1, hQ0, hf0, f_custodylaw09_sanity_r5, f_custodylaw09_sanity_r6, f_custodylaw09_sanity_r7, f_custodylaw09_sanity_r8, h90, digP_pre, h106, sig_pre, h100, pub_pre, hsd, hz0, hz, hfl, hp, g9, g10, take_l16, splice_bys0]
    simp (maxSteps := 1000000) (disch := first | omega | (simp; done) | (simp; omega)) [W_id, bys_app, bys_snoc, f_custodylaw09_sanity_r9, f_custodylaw09_sanity_r10, h93, rec_pre, hz0, g1, g2, g4, g5, hz, hp, take_l16, splice_bys0]
    simp (maxSteps := 1000000) (disch := first | omega | (simp; done) | (simp; omega)) [W_id, bys_app, bys_snoc, f_custodylaw09_sanity_r11, kT, kF, dT, dF, h108, h111, adv_pre, g1, g2, g3, g4, g5, g6, g7, g8, g9, g10, g11, g12, i0, i1, p1, p2, hp, hz, hfl, y0, y32, y33, y34, x31, x32, take_l16, splice_bys0, eqCells_ks8]
end Go.Abs
end

section
namespace Go.Abs
set_option maxHeartbeats 4000000 in
set_option maxRecDepth 100000 in
theorem law_WM_ok (E : Env) (h114 : E.G 114 = sanC) (h90 : E.G 90 = digPC) (h97 : E.G 97 = digRC) (h96 : E.G 96 = sameIC) (h100 : E.G 100 = pubC) (h103 : E.G 103 = pubC) (h106 : E.G 106 = sigC) (h107 : E.G 107 = sigC) (h93 : E.G 93 = recC) (h95 : E.G 95 = recC) (h108 : E.G 108 = verC) (h109 : E.G 109 = verC) : ∀ ds, lawWM.pre ds → ds.length = f_custodylaw09_WotsMatchesSpec.n ∧ awp E f_custodylaw09_WotsMatchesSpec.body (retQ f_custodylaw09_WotsMatchesSpec.res (lawWM.post ds)) (initSt f_custodylaw09_WotsMatchesSpec.wr ds) := by
  rintro _ ⟨s, d, g, p, hd, hp, rfl⟩
  by_cases h : 200 < s.length
  · simp (maxSteps := 1000000) (disch := first | omega | (simp; done) | (simp; omega)) [W_id, bys_app, bys_snoc, f_custodylaw09_WotsMatchesSpec, f_custodylaw09_WotsMatchesSpec_r0, f_custodylaw09_WotsMatchesSpec_r1, h, h114, hd, hp, lawWM, trueC, kT, kF, dT, dF]
  by_cases h' : 600 < g.length
  · simp (maxSteps := 1000000) (disch := first | omega | (simp; done) | (simp; omega)) [W_id, bys_app, bys_snoc, f_custodylaw09_WotsMatchesSpec, f_custodylaw09_WotsMatchesSpec_r0, f_custodylaw09_WotsMatchesSpec_r1, h, h', h114, hd, hp, lawWM, trueC, kT, kF, dT, dF]
  have g1 := dgI_len hd
  have g2 := pubD_len s
  have g3 := recD_len d g
  have p1 : ∀ nl nl', sameIC.pre [.sl .plain nl 35 (ints (dgI d)), .sl .plain nl' 35 (ints (dgI d))] = True := fun nl nl' => sameI_pre (by omega) g1.symm g1.symm
  simp (maxSteps := 1000000) (disch := first | omega | (simp; done) | (simp; omega)) [W_id, bys_app, bys_snoc, f_custodylaw09_WotsMatchesSpec, f_custodylaw09_WotsMatchesSpec_r0, f_custodylaw09_WotsMatchesSpec_r1, f_custodylaw09_WotsMatchesSpec_r2, f_custodylaw09_WotsMatchesSpec_r3, f_custodylaw09_WotsMatchesSpec_r4, h, h', h114, h90, digP_pre, h97, digR_pre, h96, p1, h100, h103, pub_pre, h106, h107, sig_pre, h93, h95, rec_pre, h108, h109, ver_pre, hd, hp, g2, g3, take_l16, splice_bys0, eqCells_ks8, lawWM, trueC, kT, kF, dT, dF]
set_option maxHeartbeats 4000000 in
set_option maxRecDepth 100000 in
theorem law_WV_ok (E : Env) (h114 : E.G 114 = sanC) (h100 : E.G 100 = pubC) (h106 : E.G 106 = sigC) (h108 : E.G 108 = verC) (h109 : E.G 109 = verC) : ∀ ds, lawWV.pre ds → ds.length = f_custodylaw09_WotsVerifies.n ∧ awp E f_custodylaw09_WotsVerifies.body (retQ f_custodylaw09_WotsVerifies.res (lawWV.post ds)) (initSt f_custodylaw09_WotsVerifies.wr ds) := by
  rintro _ ⟨s, d, o, hd, ho, rfl⟩
  by_cases h : 200 < s.length
  · simp (maxSteps := 1000000) (disch := first | omega | (simp; done) | (simp; omega)) [W_id, bys_app, bys_snoc, f_custodylaw09_WotsVerifies, f_custodylaw09_WotsVerifies_r0, f_custodylaw09_WotsVerifies_r1, h, h114, hd, ho, lawWV, trueC, kT, kF, dT, dF]
  have g2 := pubD_len s
  have g3 := ver_sig s hd
  have hs : s.length < 1000000000 := by omega
  by_cases e : d = o
  · subst e
    simp (maxSteps := 1000000) (disch := first | omega | (simp; done) | (simp; omega)) [W_id, bys_app, bys_snoc, f_custodylaw09_WotsVerifies, f_custodylaw09_WotsVerifies_r0, f_custodylaw09_WotsVerifies_r1, f_custodylaw09_WotsVerifies_r2, f_custodylaw09_WotsVerifies_r3, f_custodylaw09_WotsVerifies_r4, f_custodylaw09_WotsVerifies_r5, f_custodylaw09_WotsVerifies_r6, h, h114, h106, sig_pre, h100, pub_pre, h108, ver_pre, g2, g3, hd, take_l16, splice_bys0, eqCells_ks8, lawWV, trueC, kT, kF, dT, dF]
  · simp (maxSteps := 1000000) (disch := first | omega | (simp; done) | (simp; omega)) [W_id, bys_app, bys_snoc, f_custodylaw09_WotsVerifies, f_custodylaw09_WotsVerifies_r0, f_custodylaw09_WotsVerifies_r1, f_custodylaw09_WotsVerifies_r2, f_custodylaw09_WotsVerifies_r3, f_custodylaw09_WotsVerifies_r4, f_custodylaw09_WotsVerifies_r5, f_custodylaw09_WotsVerifies_r6, f_custodylaw09_WotsVerifies_r7, e, h, h114, h106, sig_pre, h100, pub_pre, h108, h109, ver_pre, g2, g3, hd, ho, take_l16, splice_bys0, eqCells_ks8, lawWV, trueC, kT, kF, dT, dF]
set_option maxHeartbeats 4000000 in
set_option maxRecDepth 100000 in
theorem law_WA_ok (E : Env) (h114 : E.G 114 = sanC) (h102 : E.G 102 = advC) (h111 : E.G 111 = advC) : ∀ ds, lawWA.pre ds → ds.length = f_custodylaw09_WotsAdvance.n ∧ awp E f_custodylaw09_WotsAdvance.body (retQ f_custodylaw09_WotsAdvance.res (lawWA.post ds)) (initSt f_custodylaw09_WotsAdvance.wr ds) := by
  rintro _ ⟨c, f, m, t, v, hc, hf, hm, ht, hv, rfl⟩
  have l1 := adv_len hv c f m
  have l2 := adv_len l1 c m t
  have l3 := adv_len hv c f t
  by_cases b0 : c < 0
  · simp (maxSteps := 1000000) (disch := first | omega | (simp; done) | (simp; omega)) [W_id, bys_app, bys_snoc, f_custodylaw09_WotsAdvance, f_custodylaw09_WotsAdvance_r0, f_custodylaw09_WotsAdvance_r1, f_custodylaw09_WotsAdvance_r2, f_custodylaw09_WotsAdvance_r3, f_custodylaw09_WotsAdvance_r4, f_custodylaw09_WotsAdvance_r5, h114, h102, h111, adv_pre, hc, hf, hm, ht, hv, l1, l2, l3, b0, take_l16, splice_bys0, eqCells_ks8, lawWA, trueC, kT, kF, dT, dF]
  by_cases b1 : 34 < c
  · simp (maxSteps := 1000000) (disch := first | omega | (simp; done) | (simp; omega)) [W_id, bys_app, bys_snoc, f_custodylaw09_WotsAdvance, f_custodylaw09_WotsAdvance_r0, f_custodylaw09_WotsAdvance_r1, f_custodylaw09_WotsAdvance_r2, f_custodylaw09_WotsAdvance_r3, f_custodylaw09_WotsAdvance_r4, f_custodylaw09_WotsAdvance_r5, h114, h102, h111, adv_pre, hc, hf, hm, ht, hv, l1, l2, l3, b0, b1, take_l16, splice_bys0, eqCells_ks8, lawWA, trueC, kT, kF, dT, dF]
  by_cases b2 : f < 0
  · simp (maxSteps := 1000000) (disch := first | omega | (simp; done) | (simp; omega)) [W_id, bys_app, bys_snoc, f_custodylaw09_WotsAdvance, f_custodylaw09_WotsAdvance_r0, f_custodylaw09_WotsAdvance_r1, f_custodylaw09_WotsAdvance_r2, f_custodylaw09_WotsAdvance_r3, f_custodylaw09_WotsAdvance_r4, f_custodylaw09_WotsAdvance_r5, h114, h102, h111, adv_pre, hc, hf, hm, ht, hv, l1, l2, l3, b0, b1, b2, take_l16, splice_bys0, eqCells_ks8, lawWA, trueC, kT, kF, dT, dF]
  by_cases b3 : m < f
  · simp (maxSteps := 1000000) (disch := first | omega | (simp; done) | (simp; omega)) [W_id, bys_app, bys_snoc, f_custodylaw09_WotsAdvance, f_custodylaw09_WotsAdvance_r0, f_custodylaw09_WotsAdvance_r1, f_custodylaw09_WotsAdvance_r2, f_custodylaw09_WotsAdvance_r3, f_custodylaw09_WotsAdvance_r4, f_custodylaw09_WotsAdvance_r5, h114, h102, h111, adv_pre, hc, hf, hm, ht, hv, l1, l2, l3, b0, b1, b2, b3, take_l16, splice_bys0, eqCells_ks8, lawWA, trueC, kT, kF, dT, dF]
  by_cases b4 : t < m
  · simp (maxSteps := 1000000) (disch := first | omega | (simp; done) | (simp; omega)) [W_id, bys_app, bys_snoc, f_custodylaw09_WotsAdvance, f_custodylaw09_WotsAdvance_r0, f_custodylaw09_WotsAdvance_r1, f_custodylaw09_WotsAdvance_r2, f_custodylaw09_WotsAdvance_r3, f_custodylaw09_WotsAdvance_r4, f_custodylaw09_WotsAdvance_r5, h114, h102, h111, adv_pre, hc, hf, hm, ht, hv, l1, l2, l3, b0, b1, b2, b3, b4, take_l16, splice_bys0, eqCells_ks8, lawWA, trueC, kT, kF, dT, dF]
  by_cases b5 : 15 < t
  · simp (maxSteps := 1000000) (disch := first | omega | (simp; done) | (simp; omega)) [W_id, bys_app, bys_snoc, f_custodylaw09_WotsAdvance, f_custodylaw09_WotsAdvance_r0, f_custodylaw09_WotsAdvance_r1, f_custodylaw09_WotsAdvance_r2, f_custodylaw09_WotsAdvance_r3, f_custodylaw09_WotsAdvance_r4, f_custodylaw09_WotsAdvance_r5, h114, h102, h111, adv_pre, hc, hf, hm, ht, hv, l1, l2, l3, b0, b1, b2, b3, b4, b5, take_l16, splice_bys0, eqCells_ks8, lawWA, trueC, kT, kF, dT, dF]
  have e := adv_two (c := c) (f := f) (m := m) (t := t) (by omega) (by omega) (by omega) (by omega) (by omega) (by omega) v
  simp (maxSteps := 1000000) (disch := first | omega | (simp; done) | (simp; omega)) [W_id, bys_app, bys_snoc, f_custodylaw09_WotsAdvance, f_custodylaw09_WotsAdvance_r0, f_custodylaw09_WotsAdvance_r1, f_custodylaw09_WotsAdvance_r2, f_custodylaw09_WotsAdvance_r3, f_custodylaw09_WotsAdvance_r4, f_custodylaw09_WotsAdvance_r5, f_custodylaw09_WotsAdvance_r6, h114, h102, h111, adv_pre, hc, hf, hm, ht, hv, l1, l2, l3, e, b0, b1, b2, b3, b4, b5, take_l16, splice_bys0, eqCells_ks8, lawWA, trueC, kT, kF, dT, dF]
end Go.Abs
end
