/- Lemmas: an abstract interpreter, and what the functions compute. -/
import Derived.Test.YtcegicmamdabfaaDoorP
import Derived.Test.YtcegicmamdabfaaDoorE
set_option linter.unusedSimpArgs false
set_option linter.unusedVariables false
set_option linter.unusedSectionVars false
section
namespace Go.Abs
theorem encC_few {c : Cmd} (h : c.ok) (hf : fewB c = true) : (encC c).length ≤ 100000 := by
  have h6 := len_flatMap_encI (six_ok h)
  have hl := len_flatMap_encI (l := c.list) h.2.2.2.2.2.2
  simp only [fewB, Bool.and_eq_true, decide_eq_true_eq] at hf
  have e1 := encI_len (n := (c.data.length : Int)) (by constructor <;> omega)
  have e2 := encI_len (n := (c.list.length : Int)) (by constructor <;> omega)
  simp only [six, List.length_cons, List.length_nil] at h6
  simp only [encC, encS, encIs, List.length_append]
  simp only [six]
  omega
set_option maxHeartbeats 8000000 in
theorem law_CN_ok (E : Env) (h123 : E.G 123 = kindC) (h125 : E.G 125 = nameC) (h152 : E.G 152 = sanC) : ∀ ds, lawCN.pre ds → ds.length = f_custodylaw28_CommandNames.n ∧ awp E f_custodylaw28_CommandNames.body (retQ f_custodylaw28_CommandNames.res (lawCN.post ds)) (initSt f_custodylaw28_CommandNames.wr ds) := by
  rintro _ ⟨n, hn, rfl⟩
  by_cases h : 1 ≤ n ∧ n ≤ 27
  · obtain ⟨g1, g2⟩ := name_ne h
    have h1 : ¬ n < 1 := by omega
    have h2 : ¬ 27 < n := by omega
    have g3 : (kindOf (nameOf n) != 0) = true := by simp; omega
    simp (maxSteps := 1000000) (disch := first | omega | (simp; done) | (simp; omega)) [W_id, bys_app, bys_snoc, f_custodylaw28_CommandNames, f_custodylaw28_CommandNames_r0, f_custodylaw28_CommandNames_r1, f_custodylaw28_CommandNames_r2, f_custodylaw28_CommandNames_r3, h125, name_pre hn, h123, h1, h2, kT, kF, dT, dF, lawCN, trueC]
    simp (maxSteps := 1000000) (disch := first | omega | (simp; done) | (simp; omega)) [W_id, bys_app, bys_snoc, f_custodylaw28_CommandNames_r4, h152, g1, g2, g3]
  · have g1 := name_no h
    have h3 : n < 1 ∨ 27 < n := by omega
    rcases h3 with h1 | h2
    · simp (maxSteps := 1000000) (disch := first | omega | (simp; done) | (simp; omega)) [W_id, bys_app, bys_snoc, f_custodylaw28_CommandNames, f_custodylaw28_CommandNames_r0, f_custodylaw28_CommandNames_r1, f_custodylaw28_CommandNames_r2, f_custodylaw28_CommandNames_r3, h125, name_pre hn, h123, h1, g1, kindOf_nil, kT, kF, dT, dF, lawCN, trueC, h152]
    · have h1 : ¬ n < 1 := by omega
      simp (maxSteps := 1000000) (disch := first | omega | (simp; done) | (simp; omega)) [W_id, bys_app, bys_snoc, f_custodylaw28_CommandNames, f_custodylaw28_CommandNames_r0, f_custodylaw28_CommandNames_r1, f_custodylaw28_CommandNames_r2, f_custodylaw28_CommandNames_r3, h125, name_pre hn, h123, h1, h2, g1, kindOf_nil, kT, kF, dT, dF, lawCN, trueC, h152]
set_option maxHeartbeats 8000000 in
theorem law_CI_ok (E : Env) (h130 : E.G 130 = encCC) (h133 : E.G 133 = sameCC) (h151 : E.G 151 = fwC) (h152 : E.G 152 = sanC) (h38 : E.G 38 = sameC) : ∀ ds, lawCI.pre ds → ds.length = f_custodylaw28_CommandInjective.n ∧ awp E f_custodylaw28_CommandInjective.body (retQ f_custodylaw28_CommandInjective.res (lawCI.post ds)) (initSt f_custodylaw28_CommandInjective.wr ds) := by
  rintro _ ⟨c, d, nl, nl', hc, hd, rfl⟩
  cases h1 : fewB c
  · simp (maxSteps := 1000000) (disch := first | omega | (simp; done) | (simp; omega)) [W_id, bys_app, bys_snoc, f_custodylaw28_CommandInjective, f_custodylaw28_CommandInjective_r0, f_custodylaw28_CommandInjective_r1, h151, h1, kT, kF, lawCI, trueC, h152]
  cases h2 : fewB d
  · simp (maxSteps := 1000000) (disch := first | omega | (simp; done) | (simp; omega)) [W_id, bys_app, bys_snoc, f_custodylaw28_CommandInjective, f_custodylaw28_CommandInjective_r0, f_custodylaw28_CommandInjective_r1, h151, h1, h2, kT, kF, lawCI, trueC, h152]
  have sc := few_small hc h1
  have sd := few_small hd h2
  have l1 := encC_few hc h1
  have l2 := encC_few hd h2
  have e := inj_law sc sd
  simp (maxSteps := 1000000) (disch := first | omega | (simp; done) | (simp; omega)) [W_id, bys_app, bys_snoc, f_custodylaw28_CommandInjective, f_custodylaw28_CommandInjective_r0, f_custodylaw28_CommandInjective_r1, f_custodylaw28_CommandInjective_r2, h151, h1, h2, kT, kF, lawCI, trueC, h152, h130, encC_pre, sc, sd, h38, same_pre, h133, sameC_pre, e]
end Go.Abs
end

section
namespace Go.Abs
set_option maxHeartbeats 8000000 in
theorem law_CM_ok (E : Env) (h151 : E.G 151 = fwC) (h152 : E.G 152 = sanC) (h123 : E.G 123 = kindC) (h142 : E.G 142 = kindC) (h125 : E.G 125 = nameC) (h143 : E.G 143 = nameC) (h128 : E.G 128 = chkCC) (h146 : E.G 146 = chkCC) (h130 : E.G 130 = encCC) (h147 : E.G 147 = encCC) (h38 : E.G 38 = sameC) (h131 : E.G 131 = digCC) (h148 : E.G 148 = digCC) (h133 : E.G 133 = sameCC) (h149 : E.G 149 = sameCC) : ∀ ds, lawCM.pre ds → ds.length = f_custodylaw28_CommandMatchesSpec.n ∧ awp E f_custodylaw28_CommandMatchesSpec.body (retQ f_custodylaw28_CommandMatchesSpec.res (lawCM.post ds)) (initSt f_custodylaw28_CommandMatchesSpec.wr ds) := by
  rintro _ ⟨c, d, nl, nl', n, s, hc, hd, hn, rfl⟩
  cases h1 : fewB c
  · simp (maxSteps := 1000000) (disch := first | omega | (simp; done) | (simp; omega)) [W_id, bys_app, bys_snoc, f_custodylaw28_CommandMatchesSpec, f_custodylaw28_CommandMatchesSpec_r0, f_custodylaw28_CommandMatchesSpec_r1, h151, h1, kT, kF, lawCM, trueC, h152]
  cases h2 : fewB d
  · simp (maxSteps := 1000000) (disch := first | omega | (simp; done) | (simp; omega)) [W_id, bys_app, bys_snoc, f_custodylaw28_CommandMatchesSpec, f_custodylaw28_CommandMatchesSpec_r0, f_custodylaw28_CommandMatchesSpec_r1, h151, h1, h2, kT, kF, lawCM, trueC, h152]
  by_cases h3 : 100 < s.length
  · simp (maxSteps := 1000000) (disch := first | omega | (simp; done) | (simp; omega)) [W_id, bys_app, bys_snoc, f_custodylaw28_CommandMatchesSpec, f_custodylaw28_CommandMatchesSpec_r0, f_custodylaw28_CommandMatchesSpec_r1, h151, h1, h2, h3, kT, kF, dT, dF, lawCM, trueC, h152]
  have sc := few_small hc h1
  have sd := few_small hd h2
  have l1 := encC_few hc h1
  have d1 : (digOf 7 [encC c]).length = 16 := digOf_len _ _
  simp (maxSteps := 1000000) (disch := first | omega | (simp; done) | (simp; omega)) [W_id, bys_app, bys_snoc, f_custodylaw28_CommandMatchesSpec, f_custodylaw28_CommandMatchesSpec_r0, f_custodylaw28_CommandMatchesSpec_r1, f_custodylaw28_CommandMatchesSpec_r2, f_custodylaw28_CommandMatchesSpec_r3, h151, h1, h2, h3, kT, kF, dT, dF, lawCM, trueC, h123, h142]
  simp (maxSteps := 1000000) (disch := first | omega | (simp; done) | (simp; omega)) [W_id, bys_app, bys_snoc, f_custodylaw28_CommandMatchesSpec_r4, h152, h125, h143, name_pre hn, h128, h146, chkC_pre, sc, sd, h130, h147, encC_pre, h38, same_pre, h131, h148, digC_pre, eqCells_ks8, d1, h133, h149, sameC_pre]
set_option maxHeartbeats 8000000 in
theorem law_CD_ok (E : Env) (h138 : E.G 138 = decCC) (h150 : E.G 150 = decCC) (h149 : E.G 149 = sameCC) (h152 : E.G 152 = sanC) : ∀ ds, lawCD.pre ds → ds.length = f_custodylaw28_CommandDecodesAsSpecified.n ∧ awp E f_custodylaw28_CommandDecodesAsSpecified.body (retQ f_custodylaw28_CommandDecodesAsSpecified.res (lawCD.post ds)) (initSt f_custodylaw28_CommandDecodesAsSpecified.wr ds) := by
  rintro _ ⟨nl, b, rfl⟩
  by_cases h : 4000 < b.length
  · simp (maxSteps := 1000000) (disch := first | omega | (simp; done) | (simp; omega)) [W_id, bys_app, bys_snoc, f_custodylaw28_CommandDecodesAsSpecified, f_custodylaw28_CommandDecodesAsSpecified_r0, f_custodylaw28_CommandDecodesAsSpecified_r1, h152, h, kT, kF, dT, dF, lawCD, trueC]
  have hs : (decC b).1.small := by
    rw [decC_eq]
    have z := zero_small
    have c3s := c3_small (b := b) (by omega)
    split
    · exact z
    split
    · exact z
    split
    · exact z
    split
    · exact z
    split
    · exact z
    · exact c3s
  have e := sameB_self (decC b).1
  generalize hx : decC b = x at *
  obtain ⟨d, k⟩ := x
  simp (maxSteps := 1000000) (disch := first | omega | (simp; done) | (simp; omega)) [W_id, bys_app, bys_snoc, f_custodylaw28_CommandDecodesAsSpecified, f_custodylaw28_CommandDecodesAsSpecified_r0, f_custodylaw28_CommandDecodesAsSpecified_r1, f_custodylaw28_CommandDecodesAsSpecified_r2, f_custodylaw28_CommandDecodesAsSpecified_r3, h138, h150, decC_pre, hx, h, splice_cmd, kT, kF, dT, dF, lawCD, trueC]
  simp (maxSteps := 1000000) (disch := first | omega | (simp; done) | (simp; omega)) [W_id, bys_app, bys_snoc, f_custodylaw28_CommandDecodesAsSpecified_r4, h152, h149, sameC_pre, hs, e]
set_option maxHeartbeats 8000000 in
theorem law_CR_ok (E : Env) (h128 : E.G 128 = chkCC) (h138 : E.G 138 = decCC) (h131 : E.G 131 = digCC) (h130 : E.G 130 = encCC) (h133 : E.G 133 = sameCC) (h151 : E.G 151 = fwC) (h152 : E.G 152 = sanC) (h149 : E.G 149 = sameCC) : ∀ ds, lawCR.pre ds → ds.length = f_custodylaw28_CommandRoundTrip.n ∧ awp E f_custodylaw28_CommandRoundTrip.body (retQ f_custodylaw28_CommandRoundTrip.res (lawCR.post ds)) (initSt f_custodylaw28_CommandRoundTrip.wr ds) := by
  rintro _ ⟨c, nl, hc, rfl⟩
  cases h1 : fewB c
  · simp (maxSteps := 1000000) (disch := first | omega | (simp; done) | (simp; omega)) [W_id, bys_app, bys_snoc, f_custodylaw28_CommandRoundTrip, f_custodylaw28_CommandRoundTrip_r0, f_custodylaw28_CommandRoundTrip_r1, h151, h1, kT, kF, lawCR, trueC, h152]
  have sc := few_small hc h1
  have l1 := encC_few hc h1
  have e := dec_enc sc
  have d1 : (digOf 7 [encC c]).length = 16 := digOf_len _ _
  have se := sameB_self c
  have sz := sameB_self zeroCmd
  have z := zero_small
  by_cases k : chkC c = 0
  · rw [if_pos k] at e
    simp (maxSteps := 1000000) (disch := first | omega | (simp; done) | (simp; omega)) [W_id, bys_app, bys_snoc, f_custodylaw28_CommandRoundTrip, f_custodylaw28_CommandRoundTrip_r0, f_custodylaw28_CommandRoundTrip_r1, f_custodylaw28_CommandRoundTrip_r2, f_custodylaw28_CommandRoundTrip_r3, h151, h1, h130, encC_pre, sc, h138, decC_pre, e, h128, chkC_pre, k, splice_cmd, kT, kF, dT, dF, lawCR, trueC]
    simp (maxSteps := 1000000) (disch := first | omega | (simp; done) | (simp; omega)) [W_id, bys_app, bys_snoc, f_custodylaw28_CommandRoundTrip_r4, h152, h133, sameC_pre, sc, se, h131, digC_pre, eqCells_ks8, d1, k]
  · rw [if_neg k] at e
    have k1 : ((chkC c : Int) == 0) = false := beq_false_of_ne (by omega)
    have k2 : ((chkC c : Int) != 0) = true := by simp [bne, k1]
    simp (maxSteps := 1000000) (disch := first | omega | (simp; done) | (simp; omega)) [W_id, bys_app, bys_snoc, f_custodylaw28_CommandRoundTrip, f_custodylaw28_CommandRoundTrip_r0, f_custodylaw28_CommandRoundTrip_r1, f_custodylaw28_CommandRoundTrip_r2, f_custodylaw28_CommandRoundTrip_r3, h151, h1, h130, encC_pre, sc, h138, decC_pre, e, h128, chkC_pre, k, splice_cmd, kT, kF, dT, dF, lawCR, trueC]
    simp (maxSteps := 1000000) (disch := first | omega | (simp; done) | (simp; omega)) [W_id, bys_app, bys_snoc, f_custodylaw28_CommandRoundTrip_r4, h152, ← zeroL, h149, sameC_pre, z, sz, k1, k2]
end Go.Abs
end

section
namespace Go.Abs
theorem form_of {c : Cmd} {k : Int} {r : Row} (h : chkC c = 0) (hk : c.kind = k) (hr : rowOf k = r) : formOk c r = true := by
  have := (chk_fine h).2
  rw [hk, hr] at this
  exact this
theorem kindL (c : Cmd) : [i64 c.kind, i64 0, i64 0, i64 0, i64 0, i64 0, st [], .sl .plain none 0 []] = cmdL ⟨c.kind, 0, 0, 0, 0, 0, [], []⟩ none := rfl
set_option maxHeartbeats 8000000 in
theorem law_CF_ok (E : Env) (h125 : E.G 125 = nameC) (h128 : E.G 128 = chkCC) (h133 : E.G 133 = sameCC) (h151 : E.G 151 = fwC) (h152 : E.G 152 = sanC) : ∀ ds, lawCR.pre ds → ds.length = f_custodylaw28_CommandFields.n ∧ awp E f_custodylaw28_CommandFields.body (retQ f_custodylaw28_CommandFields.res (lawCR.post ds)) (initSt f_custodylaw28_CommandFields.wr ds) := by
  rintro _ ⟨c, nl, hc, rfl⟩
  cases h1 : fewB c
  · simp (maxSteps := 1000000) (disch := first | omega | (simp; done) | (simp; omega)) [W_id, bys_app, bys_snoc, f_custodylaw28_CommandFields, f_custodylaw28_CommandFields_r0, f_custodylaw28_CommandFields_r1, h151, h1, kT, kF, lawCR, trueC, h152]
  have sc := few_small hc h1
  by_cases k : chkC c = 0
  rotate_left
  · have k1 : ((chkC c : Int) == 0) = false := beq_false_of_ne (by omega)
    have k2 : ((chkC c : Int) != 0) = true := by simp [bne, k1]
    simp (maxSteps := 1000000) (disch := first | omega | (simp; done) | (simp; omega)) [W_id, bys_app, bys_snoc, f_custodylaw28_CommandFields, f_custodylaw28_CommandFields_r0, f_custodylaw28_CommandFields_r1, h151, h1, h128, chkC_pre, sc, k1, k2, kT, kF, lawCR, trueC, h152]
  have hp : chkCC.pre [.agg (cmdL c nl)] = True := chkC_pre sc
  have hkr := (chk_fine k).1
  obtain ⟨hn1, _⟩ := name_ne hkr
  have hli := list_iff k
  have hi : isI64 c.kind := hc.1
  simp (maxSteps := 1000000) (disch := first | omega | (simp; done) | (simp; omega)) [W_id, bys_app, bys_snoc, f_custodylaw28_CommandFields, f_custodylaw28_CommandFields_r0, f_custodylaw28_CommandFields_r1, h151, h1, h128, hp, k, kT, kF, lawCR, trueC]
  refine awp_name fun Q0 hQ0 => ?_
  obtain ⟨kd, ky, ot, ty, us, lf, dt, ls⟩ := c
  simp only at hkr hn1 hli hi
  obtain ⟨⟨_, i2, i3, i4, i5, i6, _⟩, _, _⟩ := sc
  simp only at i2 i3 i4 i5 i6
  have sc := few_small hc h1
  have z0 := isI64_0
  have hP0 : sameCC.pre [.agg [i64 kd, i64 ky, i64 ot, i64 ty, i64 us, i64 lf, st dt, .sl .plain nl ls.length (ints ls)], .agg [i64 kd, i64 0, i64 0, i64 0, i64 0, i64 0, st [], .sl .plain none 0 []]] = True := sameC_pre (d := ⟨kd, 0, 0, 0, 0, 0, [], []⟩) (nl' := none) sc ⟨⟨hi, z0, z0, z0, z0, z0, by simp⟩, by simp, by simp⟩
  have hQ1 : sameCC.post [.agg [i64 kd, i64 ky, i64 ot, i64 ty, i64 us, i64 lf, st dt, .sl .plain nl ls.length (ints ls)], .agg [i64 kd, i64 0, i64 0, i64 0, i64 0, i64 0, st [], .sl .plain none 0 []]] = bo (sameB ⟨kd, ky, ot, ty, us, lf, dt, ls⟩ ⟨kd, 0, 0, 0, 0, 0, [], []⟩) := sameC_post ⟨kd, ky, ot, ty, us, lf, dt, ls⟩ ⟨kd, 0, 0, 0, 0, 0, [], []⟩ nl none
  have hP1 : sameCC.pre [.agg [i64 kd, i64 ky, i64 ot, i64 ty, i64 us, i64 lf, st dt, .sl .plain nl ls.length (ints ls)], .agg [i64 kd, i64 ky, i64 0, i64 0, i64 0, i64 0, st [], .sl .plain none 0 []]] = True := sameC_pre (d := ⟨kd, ky, 0, 0, 0, 0, [], []⟩) (nl' := none) sc ⟨⟨hi, i2, z0, z0, z0, z0, by simp⟩, by simp, by simp⟩
  have hQ2 : sameCC.post [.agg [i64 kd, i64 ky, i64 ot, i64 ty, i64 us, i64 lf, st dt, .sl .plain nl ls.length (ints ls)], .agg [i64 kd, i64 ky, i64 0, i64 0, i64 0, i64 0, st [], .sl .plain none 0 []]] = bo (sameB ⟨kd, ky, ot, ty, us, lf, dt, ls⟩ ⟨kd, ky, 0, 0, 0, 0, [], []⟩) := sameC_post ⟨kd, ky, ot, ty, us, lf, dt, ls⟩ ⟨kd, ky, 0, 0, 0, 0, [], []⟩ nl none
  have hP4 : sameCC.pre [.agg [i64 kd, i64 ky, i64 ot, i64 ty, i64 us, i64 lf, st dt, .sl .plain nl ls.length (ints ls)], .agg [i64 kd, i64 0, i64 0, i64 ty, i64 us, i64 lf, st [], .sl .plain none 0 []]] = True := sameC_pre (d := ⟨kd, 0, 0, ty, us, lf, [], []⟩) (nl' := none) sc ⟨⟨hi, z0, z0, i4, i5, i6, by simp⟩, by simp, by simp⟩
  have hQ4 : sameCC.post [.agg [i64 kd, i64 ky, i64 ot, i64 ty, i64 us, i64 lf, st dt, .sl .plain nl ls.length (ints ls)], .agg [i64 kd, i64 0, i64 0, i64 ty, i64 us, i64 lf, st [], .sl .plain none 0 []]] = bo (sameB ⟨kd, ky, ot, ty, us, lf, dt, ls⟩ ⟨kd, 0, 0, ty, us, lf, [], []⟩) := sameC_post ⟨kd, ky, ot, ty, us, lf, dt, ls⟩ ⟨kd, 0, 0, ty, us, lf, [], []⟩ nl none
  simp (maxSteps := 1000000) (disch := first | omega | (simp; done) | (simp; omega)) [W_id, bys_app, bys_snoc, f_custodylaw28_CommandFields_r2, cmdL]
  by_cases x14 : kd = 14
  · have e := fields0 (c := ⟨kd, ky, ot, ty, us, lf, dt, ls⟩) (r := rowOf 14) rfl (form_of k x14 rfl)
    rw [e] at hQ1
    subst x14
    simp (maxSteps := 1000000) (disch := first | omega | (simp; done) | (simp; omega)) [W_id, bys_app, bys_snoc, f_custodylaw28_CommandFields_r3, f_custodylaw28_CommandFields_r4, f_custodylaw28_CommandFields_r5, f_custodylaw28_CommandFields_r6, f_custodylaw28_CommandFields_r7, f_custodylaw28_CommandFields_r8, f_custodylaw28_CommandFields_r9, h152, h133, hP0, hQ1, hQ0, kT, kF]
  by_cases x16 : kd = 16
  · have e := fields0 (c := ⟨kd, ky, ot, ty, us, lf, dt, ls⟩) (r := rowOf 16) rfl (form_of k x16 rfl)
    rw [e] at hQ1
    subst x16
    simp (maxSteps := 1000000) (disch := first | omega | (simp; done) | (simp; omega)) [W_id, bys_app, bys_snoc, f_custodylaw28_CommandFields_r3, f_custodylaw28_CommandFields_r4, f_custodylaw28_CommandFields_r5, f_custodylaw28_CommandFields_r6, f_custodylaw28_CommandFields_r7, f_custodylaw28_CommandFields_r8, f_custodylaw28_CommandFields_r9, h152, h133, hP0, hQ1, hQ0, kT, kF]
  by_cases x20 : kd = 20
  · have e := fields0 (c := ⟨kd, ky, ot, ty, us, lf, dt, ls⟩) (r := rowOf 20) rfl (form_of k x20 rfl)
    rw [e] at hQ1
    subst x20
    simp (maxSteps := 1000000) (disch := first | omega | (simp; done) | (simp; omega)) [W_id, bys_app, bys_snoc, f_custodylaw28_CommandFields_r3, f_custodylaw28_CommandFields_r4, f_custodylaw28_CommandFields_r5, f_custodylaw28_CommandFields_r6, f_custodylaw28_CommandFields_r7, f_custodylaw28_CommandFields_r8, f_custodylaw28_CommandFields_r9, h152, h133, hP0, hQ1, hQ0, kT, kF]
  by_cases x21 : kd = 21
  · have e := fields0 (c := ⟨kd, ky, ot, ty, us, lf, dt, ls⟩) (r := rowOf 21) rfl (form_of k x21 rfl)
    rw [e] at hQ1
    subst x21
    simp (maxSteps := 1000000) (disch := first | omega | (simp; done) | (simp; omega)) [W_id, bys_app, bys_snoc, f_custodylaw28_CommandFields_r3, f_custodylaw28_CommandFields_r4, f_custodylaw28_CommandFields_r5, f_custodylaw28_CommandFields_r6, f_custodylaw28_CommandFields_r7, f_custodylaw28_CommandFields_r8, f_custodylaw28_CommandFields_r9, h152, h133, hP0, hQ1, hQ0, kT, kF]
  by_cases x22 : kd = 22
  · have e := fields0 (c := ⟨kd, ky, ot, ty, us, lf, dt, ls⟩) (r := rowOf 22) rfl (form_of k x22 rfl)
    rw [e] at hQ1
    subst x22
    simp (maxSteps := 1000000) (disch := first | omega | (simp; done) | (simp; omega)) [W_id, bys_app, bys_snoc, f_custodylaw28_CommandFields_r3, f_custodylaw28_CommandFields_r4, f_custodylaw28_CommandFields_r5, f_custodylaw28_CommandFields_r6, f_custodylaw28_CommandFields_r7, f_custodylaw28_CommandFields_r8, f_custodylaw28_CommandFields_r9, h152, h133, hP0, hQ1, hQ0, kT, kF]
  by_cases x26 : kd = 26
  · have e := fields0 (c := ⟨kd, ky, ot, ty, us, lf, dt, ls⟩) (r := rowOf 26) rfl (form_of k x26 rfl)
    rw [e] at hQ1
    subst x26
    simp (maxSteps := 1000000) (disch := first | omega | (simp; done) | (simp; omega)) [W_id, bys_app, bys_snoc, f_custodylaw28_CommandFields_r3, f_custodylaw28_CommandFields_r4, f_custodylaw28_CommandFields_r5, f_custodylaw28_CommandFields_r6, f_custodylaw28_CommandFields_r7, f_custodylaw28_CommandFields_r8, f_custodylaw28_CommandFields_r9, h152, h133, hP0, hQ1, hQ0, kT, kF]
  by_cases x3 : kd = 3
  · have e := fields1 (c := ⟨kd, ky, ot, ty, us, lf, dt, ls⟩) (r := rowOf 3) rfl (form_of k x3 rfl)
    rw [e] at hQ2
    subst x3
    simp (maxSteps := 1000000) (disch := first | omega | (simp; done) | (simp; omega)) [W_id, bys_app, bys_snoc, f_custodylaw28_CommandFields_r3, f_custodylaw28_CommandFields_r4, f_custodylaw28_CommandFields_r5, f_custodylaw28_CommandFields_r6, f_custodylaw28_CommandFields_r7, f_custodylaw28_CommandFields_r8, f_custodylaw28_CommandFields_r9, f_custodylaw28_CommandFields_r10, f_custodylaw28_CommandFields_r11, f_custodylaw28_CommandFields_r12, h152, h133, hP1, hQ2, hQ0, kT, kF]
  by_cases x12 : kd = 12
  · have e := fields1 (c := ⟨kd, ky, ot, ty, us, lf, dt, ls⟩) (r := rowOf 12) rfl (form_of k x12 rfl)
    rw [e] at hQ2
    subst x12
    simp (maxSteps := 1000000) (disch := first | omega | (simp; done) | (simp; omega)) [W_id, bys_app, bys_snoc, f_custodylaw28_CommandFields_r3, f_custodylaw28_CommandFields_r4, f_custodylaw28_CommandFields_r5, f_custodylaw28_CommandFields_r6, f_custodylaw28_CommandFields_r7, f_custodylaw28_CommandFields_r8, f_custodylaw28_CommandFields_r9, f_custodylaw28_CommandFields_r10, f_custodylaw28_CommandFields_r11, f_custodylaw28_CommandFields_r12, h152, h133, hP1, hQ2, hQ0, kT, kF]
  by_cases x13 : kd = 13
  · have e := fields1 (c := ⟨kd, ky, ot, ty, us, lf, dt, ls⟩) (r := rowOf 13) rfl (form_of k x13 rfl)
    rw [e] at hQ2
    subst x13
    simp (maxSteps := 1000000) (disch := first | omega | (simp; done) | (simp; omega)) [W_id, bys_app, bys_snoc, f_custodylaw28_CommandFields_r3, f_custodylaw28_CommandFields_r4, f_custodylaw28_CommandFields_r5, f_custodylaw28_CommandFields_r6, f_custodylaw28_CommandFields_r7, f_custodylaw28_CommandFields_r8, f_custodylaw28_CommandFields_r9, f_custodylaw28_CommandFields_r10, f_custodylaw28_CommandFields_r11, f_custodylaw28_CommandFields_r12, h152, h133, hP1, hQ2, hQ0, kT, kF]
  by_cases x1 : kd = 1
  · have e := fields4 (c := ⟨kd, ky, ot, ty, us, lf, dt, ls⟩) (r := rowOf 1) rfl (form_of k x1 rfl)
    rw [e] at hQ4
    subst x1
    simp (maxSteps := 1000000) (disch := first | omega | (simp; done) | (simp; omega)) [W_id, bys_app, bys_snoc, f_custodylaw28_CommandFields_r3, f_custodylaw28_CommandFields_r4, f_custodylaw28_CommandFields_r5, f_custodylaw28_CommandFields_r6, f_custodylaw28_CommandFields_r7, f_custodylaw28_CommandFields_r8, f_custodylaw28_CommandFields_r9, f_custodylaw28_CommandFields_r10, f_custodylaw28_CommandFields_r11, f_custodylaw28_CommandFields_r12, f_custodylaw28_CommandFields_r13, h152, h133, hP4, hQ4, hQ0, kT, kF]
  have y14 : (kd == 14) = false := beq_false_of_ne x14
  have y16 : (kd == 16) = false := beq_false_of_ne x16
  have y20 : (kd == 20) = false := beq_false_of_ne x20
  have y21 : (kd == 21) = false := beq_false_of_ne x21
  have y22 : (kd == 22) = false := beq_false_of_ne x22
  have y26 : (kd == 26) = false := beq_false_of_ne x26
  have y3 : (kd == 3) = false := beq_false_of_ne x3
  have y12 : (kd == 12) = false := beq_false_of_ne x12
  have y13 : (kd == 13) = false := beq_false_of_ne x13
  have y1 : (kd == 1) = false := beq_false_of_ne x1
  have y0 : (((ls.length : Int) == 0) == (kd != 18)) = true := by
    rw [beq_iff_eq, Bool.eq_iff_iff, beq_iff_eq, bne_iff_ne, Int.natCast_eq_zero]
    exact hli
  simp (maxSteps := 1000000) (disch := first | omega | (simp; done) | (simp; omega)) [W_id, bys_app, bys_snoc, f_custodylaw28_CommandFields_r3, f_custodylaw28_CommandFields_r4, f_custodylaw28_CommandFields_r5, f_custodylaw28_CommandFields_r6, f_custodylaw28_CommandFields_r7, f_custodylaw28_CommandFields_r8, f_custodylaw28_CommandFields_r9, f_custodylaw28_CommandFields_r10, f_custodylaw28_CommandFields_r11, f_custodylaw28_CommandFields_r12, f_custodylaw28_CommandFields_r13, y14, y16, y20, y21, y22, y26, y3, y12, y13, y1, kT, kF]
  simp (maxSteps := 1000000) (disch := first | omega | (simp; done) | (simp; omega)) [W_id, bys_app, bys_snoc, f_custodylaw28_CommandFields_r14, h152, h125, name_pre hi, hn1, y0, hQ0]
end Go.Abs
end

section
namespace Go.Abs
theorem has_ints {cs : List AVal} (h : (GT.sl (.int .i64)).has cs) : ∃ l : List Int, (∀ x ∈ l, isI64 x) ∧ cs = [.sl .plain none l.length (ints l)] := by
  obtain ⟨ess, h1, rfl, h3⟩ := h
  suffices H : ∃ l : List Int, (∀ x ∈ l, isI64 x) ∧ l.length = ess.length ∧ ess.flatten = ints l by
    obtain ⟨l, k1, k2, k3⟩ := H
    exact ⟨l, k1, by rw [k2, k3]⟩
  clear h3
  induction ess with
  | nil => exact ⟨[], by simp, rfl, rfl⟩
  | cons e ess ih =>
    obtain ⟨l, k1, k2, k3⟩ := ih fun c hc => h1 c (by simp [hc])
    obtain ⟨x, a0, a1, rfl⟩ := has_i64 (h1 e (by simp))
    refine ⟨x :: l, fun y hy => ?_, by simp [k2], by simp [k3, ints]⟩
    rcases List.mem_cons.1 hy with rfl | hy
    · exact ⟨a0, a1⟩
    · exact k1 y hy
def cmdG : GT := .st [.int .i64, .int .i64, .int .i64, .int .i64, .int .i64, .int .i64, .str, .sl (.int .i64)]
theorem has_cmd {cs : List AVal} (h : cmdG.has cs) : ∃ c : Cmd, c.ok ∧ cs = cmdL c none := by
  simp only [cmdG, GT.has, GT.hasL] at h
  obtain ⟨a1, r1, rfl, h1, a2, r2, rfl, h2, a3, r3, rfl, h3, a4, r4, rfl, h4, a5, r5, rfl, h5, a6, r6, rfl, h6, a7, r7, rfl, h7, a8, r8, rfl, h8, rfl⟩ := h
  obtain ⟨k1, x1, y1, rfl⟩ := has_i64 (by simpa only [GT.has] using h1)
  obtain ⟨k2, x2, y2, rfl⟩ := has_i64 (by simpa only [GT.has] using h2)
  obtain ⟨k3, x3, y3, rfl⟩ := has_i64 (by simpa only [GT.has] using h3)
  obtain ⟨k4, x4, y4, rfl⟩ := has_i64 (by simpa only [GT.has] using h4)
  obtain ⟨k5, x5, y5, rfl⟩ := has_i64 (by simpa only [GT.has] using h5)
  obtain ⟨k6, x6, y6, rfl⟩ := has_i64 (by simpa only [GT.has] using h6)
  obtain ⟨s, rfl⟩ := has_str (by simpa only [GT.has] using h7)
  obtain ⟨l, hl, rfl⟩ := has_ints (by simpa only [GT.has] using h8)
  exact ⟨⟨k1, k2, k3, k4, k5, k6, s, l⟩, ⟨⟨x1, y1⟩, ⟨x2, y2⟩, ⟨x3, y3⟩, ⟨x4, y4⟩, ⟨x5, y5⟩, ⟨x6, y6⟩, hl⟩, rfl⟩
theorem lawCM_pre (as : List AVal) (h : hasA [cmdG, cmdG, .int .i64, .str] as) : lawCM.pre as := by
  simp only [hasA] at h
  obtain ⟨c0, _, rfl, h0, c1, _, rfl, h1, c2, _, rfl, h2, c3, _, rfl, h3, rfl⟩ := h
  obtain ⟨c, hc, rfl⟩ := has_cmd h0
  obtain ⟨d, hd, rfl⟩ := has_cmd h1
  obtain ⟨n, n0, n1, rfl⟩ := has_i64 h2
  obtain ⟨s, rfl⟩ := has_str h3
  exact ⟨c, d, none, none, n, s, hc, hd, ⟨n0, n1⟩, rfl⟩
theorem lawCD_pre (as : List AVal) (h : hasA [.sl (.int .u8)] as) : lawCD.pre as := by
  simp only [hasA] at h
  obtain ⟨c0, _, rfl, h0, rfl⟩ := h
  obtain ⟨b, rfl⟩ := has_bytes h0
  exact ⟨none, b, rfl⟩
theorem lawCR_pre (as : List AVal) (h : hasA [cmdG] as) : lawCR.pre as := by
  simp only [hasA] at h
  obtain ⟨c0, _, rfl, h0, rfl⟩ := h
  obtain ⟨c, hc, rfl⟩ := has_cmd h0
  exact ⟨c, none, hc, rfl⟩
theorem lawCI_pre (as : List AVal) (h : hasA [cmdG, cmdG] as) : lawCI.pre as := by
  simp only [hasA] at h
  obtain ⟨c0, _, rfl, h0, c1, _, rfl, h1, rfl⟩ := h
  obtain ⟨c, hc, rfl⟩ := has_cmd h0
  obtain ⟨d, hd, rfl⟩ := has_cmd h1
  exact ⟨c, d, none, none, hc, hd, rfl⟩
theorem lawCN_pre (as : List AVal) (h : hasA [.int .i64] as) : lawCN.pre as := by
  simp only [hasA] at h
  obtain ⟨c0, _, rfl, h0, rfl⟩ := h
  obtain ⟨n, n0, n1, rfl⟩ := has_i64 h0
  exact ⟨n, ⟨n0, n1⟩, rfl⟩
end Go.Abs
end
