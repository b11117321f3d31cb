/- Lemmas: an abstract interpreter, and what the functions compute. -/
import Derived.Test.YtcegicmamdabfaaDoorH
import Derived.Test.YtcegicmamdabfaaDoorE
set_option linter.unusedSimpArgs false
set_option linter.unusedVariables false
set_option linter.unusedSectionVars false
section
namespace Go.Abs
theorem rsamei_ok (E : Env) : ∀ ds, sameIC.pre ds → ds.length = f_custodyref01_SameInts.n ∧ awp E f_custodyref01_SameInts.body (retQ f_custodyref01_SameInts.res (sameIC.post ds)) (initSt f_custodyref01_SameInts.wr ds) := by
  rintro _ ⟨nl, nl', a, b, ha, rfl⟩
  simp (maxSteps := 1000000) (disch := first | omega | (simp; done) | (simp; omega)) [W_id, bys_app, bys_snoc, f_custodyref01_SameInts]
  rw [awp_cond]
  refine ⟨by simp, fun h => ?_, fun h => ?_⟩ <;> simp at h
  · have : (a == b) = false := by simpa using fun e : a = b => h (by rw [e])
    simp (maxSteps := 1000000) (disch := first | omega | (simp; done) | (simp; omega)) [W_id, bys_app, bys_snoc, sameIC, this]
  simp (maxSteps := 1000000) (disch := first | omega | (simp; done) | (simp; omega)) [W_id, bys_app, bys_snoc, f_custodyref01_SameInts_r0]
  have hl : a.length = b.length := by omega
  refine awp_name fun Q0 hQ0 => ?_
  refine awp_for (fun i : Nat => ⟨[(0, .sl .plain nl a.length (ints a)), (1, .sl .plain nl' b.length (ints b))], [(5, i64 i)], []⟩)
    (fun i => a.length - i) (fun i => i ≤ a.length ∧ a.take i = b.take i) 0 rfl (by simp) fun i hi => ?_
  obtain ⟨hi, he⟩ := hi
  refine awp_name fun Q1 hQ1 => ?_
  simp (maxSteps := 1000000) (disch := first | omega | (simp; done) | (simp; omega)) [W_id, bys_app, bys_snoc, f_custodyref01_SameInts_l0]
  rw [awp_cond]
  refine ⟨by simp, fun h1 => ?_, fun h1 => ?_⟩ <;> simp at h1
  · have h1' : i < a.length := by omega
    simp (maxSteps := 1000000) (disch := first | omega | (simp; done) | (simp; omega)) [W_id, bys_app, bys_snoc, f_custodyref01_SameInts_r1, hd_ints]
    refine ⟨by omega, by omega, by omega, by omega, ?_⟩
    rw [awp_cond]
    refine ⟨by simp, fun h2 => ?_, fun h2 => ?_⟩ <;> simp at h2
    · have : (a == b) = false := by simpa using fun e : a = b => h2 (by rw [e])
      simp (maxSteps := 1000000) (disch := first | omega | (simp; done) | (simp; omega)) [W_id, bys_app, bys_snoc, hQ1, hQ0, sameIC, this]
    · simp (maxSteps := 1000000) (disch := first | omega | (simp; done) | (simp; omega)) [W_id, bys_app, bys_snoc, hQ1]
      refine ⟨i + 1, by omega, ⟨by omega, ?_⟩, by simp⟩
      have h3 : i < b.length := by omega
      have h4 : a[i] = b[i] := by simpa [atI, List.getD, List.getElem?_eq_getElem h1', List.getElem?_eq_getElem h3] using h2
      rw [List.take_succ_eq_append_getElem h1', List.take_succ_eq_append_getElem h3, he, h4]
  · have e : i = a.length := by omega
    subst e
    have : (a == b) = true := by
      rw [List.take_length, hl, List.take_length] at he
      simpa using he
    simp (maxSteps := 1000000) (disch := first | omega | (simp; done) | (simp; omega)) [W_id, bys_app, bys_snoc, hQ1, hQ0, f_custodyref01_SameInts_r2, sameIC, this]
theorem rsames_ok (E : Env) : ∀ ds, sameSC.pre ds → ds.length = f_custodyref01_SameTexts.n ∧ awp E f_custodyref01_SameTexts.body (retQ f_custodyref01_SameTexts.res (sameSC.post ds)) (initSt f_custodyref01_SameTexts.wr ds) := by
  rintro _ ⟨nl, nl', a, b, ha, rfl⟩
  simp (maxSteps := 1000000) (disch := first | omega | (simp; done) | (simp; omega)) [W_id, bys_app, bys_snoc, f_custodyref01_SameTexts]
  rw [awp_cond]
  refine ⟨by simp, fun h => ?_, fun h => ?_⟩ <;> simp at h
  · have : (a == b) = false := by simpa using fun e : a = b => h (by rw [e])
    simp (maxSteps := 1000000) (disch := first | omega | (simp; done) | (simp; omega)) [W_id, bys_app, bys_snoc, sameSC, this]
  simp (maxSteps := 1000000) (disch := first | omega | (simp; done) | (simp; omega)) [W_id, bys_app, bys_snoc, f_custodyref01_SameTexts_r0]
  have hl : a.length = b.length := by omega
  refine awp_name fun Q0 hQ0 => ?_
  refine awp_for (fun i : Nat => ⟨[(0, .sl .plain nl a.length (sts a)), (1, .sl .plain nl' b.length (sts b))], [(5, i64 i)], []⟩)
    (fun i => a.length - i) (fun i => i ≤ a.length ∧ a.take i = b.take i) 0 rfl (by simp) fun i hi => ?_
  obtain ⟨hi, he⟩ := hi
  refine awp_name fun Q1 hQ1 => ?_
  simp (maxSteps := 1000000) (disch := first | omega | (simp; done) | (simp; omega)) [W_id, bys_app, bys_snoc, f_custodyref01_SameTexts_l0]
  rw [awp_cond]
  refine ⟨by simp, fun h1 => ?_, fun h1 => ?_⟩ <;> simp at h1
  · have h1' : i < a.length := by omega
    simp (maxSteps := 1000000) (disch := first | omega | (simp; done) | (simp; omega)) [W_id, bys_app, bys_snoc, f_custodyref01_SameTexts_r1, hd_sts]
    refine ⟨by omega, by omega, by omega, by omega, ?_⟩
    rw [awp_cond]
    refine ⟨by simp, fun h2 => ?_, fun h2 => ?_⟩ <;> simp at h2
    · have : (a == b) = false := by simpa using fun e : a = b => h2 (by rw [e])
      simp (maxSteps := 1000000) (disch := first | omega | (simp; done) | (simp; omega)) [W_id, bys_app, bys_snoc, hQ1, hQ0, sameSC, this]
    · simp (maxSteps := 1000000) (disch := first | omega | (simp; done) | (simp; omega)) [W_id, bys_app, bys_snoc, hQ1]
      refine ⟨i + 1, by omega, ⟨by omega, ?_⟩, by simp⟩
      have h3 : i < b.length := by omega
      have h4 : a[i] = b[i] := by simpa [atS, List.getD, List.getElem?_eq_getElem h1', List.getElem?_eq_getElem h3] using h2
      rw [List.take_succ_eq_append_getElem h1', List.take_succ_eq_append_getElem h3, he, h4]
  · have e : i = a.length := by omega
    subst e
    have : (a == b) = true := by
      rw [List.take_length, hl, List.take_length] at he
      simpa using he
    simp (maxSteps := 1000000) (disch := first | omega | (simp; done) | (simp; omega)) [W_id, bys_app, bys_snoc, hQ1, hQ0, f_custodyref01_SameTexts_r2, sameSC, this]
end Go.Abs
end

section
namespace Go.Abs
set_option maxRecDepth 20000
theorem canon {h : UInt8} {t : List UInt8} (h1 : ¬ 8 < kOf h) (h2 : ¬ t.length < kOf h) (h4 : ¬ 2 ^ 63 ≤ valB ((t.take (kOf h)).map (fl h))) :
    (encI (if h < 128 then -1 - (valB ((t.take (kOf h)).map (fl h)) : Int) else valB ((t.take (kOf h)).map (fl h))) == (h :: t).take (kOf h + 1)) = true ↔ ¬ (0 < kOf h ∧ fl h (at8 t 0) = 0) := by
  rw [beq_iff_eq]
  constructor
  · intro e hc
    have hI : isI64 (if h < 128 then -1 - (valB ((t.take (kOf h)).map (fl h)) : Int) else valB ((t.take (kOf h)).map (fl h))) := by
      unfold isI64; split <;> omega
    have g := getI_enc hI ((h :: t).drop (kOf h + 1))
    rw [e, List.take_append_drop, getI_c h1 h2 hc] at g
    simp at g
  · intro hc
    exact (getI_ok (getI_e h1 h2 hc h4)).2.2.1.symm
theorem rgetint_ok (E : Env) (h30 : E.G 30 = rintC) (h38 : E.G 38 = sameC) : ∀ ds, getIntC.pre ds → ds.length = f_custodyref01_GetInt.n ∧ awp E f_custodyref01_GetInt.body (retQ f_custodyref01_GetInt.res (getIntC.post ds)) (initSt f_custodyref01_GetInt.wr ds) := by
  rintro _ ⟨nl, b, hb, rfl⟩
  rw [getIntC, onB_post]
  cases b with
  | nil =>
    simp (maxSteps := 1000000) (disch := first | omega | (simp; done) | (simp; omega)) [W_id, bys_app, bys_snoc, f_custodyref01_GetInt, vI, getI, tri_def]
    rw [awp_cond]
    refine ⟨by simp, fun h => ?_, fun h => ?_⟩ <;> simp at h
    simp
  | cons h t =>
    simp only [List.length_cons] at hb
    simp (maxSteps := 1000000) (disch := first | omega | (simp; done) | (simp; omega)) [W_id, bys_app, bys_snoc, f_custodyref01_GetInt]
    rw [awp_cond]
    refine ⟨by simp, fun h0 => ?_, fun h0 => ?_⟩ <;> simp at h0
    · omega
    have hk := kOf_nat h
    have hlt : h.toNat < 256 := h.toNat_lt
    have hkb : kOf h ≤ 128 := by rw [hk]; split <;> omega
    have hc1 : (h.toNat < 119 ∨ 136 < h.toNat) ↔ 8 < kOf h := by rw [hk]; split <;> omega
    simp (maxSteps := 1000000) (disch := first | omega | (simp; done) | (simp; omega)) [W_id, bys_app, bys_snoc, f_custodyref01_GetInt_r0, hd_bys0]
    by_cases ha : h.toNat < 119
    · simp (maxSteps := 1000000) (disch := first | omega | (simp; done) | (simp; omega)) [W_id, bys_app, bys_snoc, dT, dF]
      rw [awp_cond]
      refine ⟨by simp, fun h1 => ?_, fun h1 => ?_⟩ <;> simp at h1
      rw [vI, getI_a (hc1.1 (.inl ha))]
      simp (maxSteps := 1000000) (disch := first | omega | (simp; done) | (simp; omega)) [W_id, bys_app, bys_snoc, tri_def]
    simp (maxSteps := 1000000) (disch := first | omega | (simp; done) | (simp; omega)) [W_id, bys_app, bys_snoc, dT, dF]
    rw [awp_cond]
    refine ⟨by simp, fun h1 => ?_, fun h1 => ?_⟩ <;> simp at h1
    · rw [vI, getI_a (hc1.1 (.inr (by omega)))]
      simp (maxSteps := 1000000) (disch := first | omega | (simp; done) | (simp; omega)) [W_id, bys_app, bys_snoc, tri_def]
    have h1' : ¬ 8 < kOf h := fun e => by rcases hc1.2 e with e | e <;> omega
    simp (maxSteps := 1000000) (disch := first | omega | (simp; done) | (simp; omega)) [W_id, bys_app, bys_snoc, f_custodyref01_GetInt_r1]
    refine awp_name fun Q0 hQ0 => ?_
    have key : Q0 .normal ⟨[(0, .sl .plain nl (t.length + 1) (bys (h :: t)))], [(5, i64 h.toNat), (6, i64 (kOf h))], []⟩ := by
      simp (maxSteps := 1000000) (disch := first | omega | (simp; done) | (simp; omega)) [W_id, bys_app, bys_snoc, hQ0, f_custodyref01_GetInt_r2]
      rw [awp_cond]
      refine ⟨by simp, fun h2 => ?_, fun h2 => ?_⟩ <;> simp at h2
      · rw [vI, getI_b h1' (by omega)]
        simp (maxSteps := 1000000) (disch := first | omega | (simp; done) | (simp; omega)) [W_id, bys_app, bys_snoc, tri_def]
      have h2' : ¬ t.length < kOf h := by omega
      generalize hds : (t.take (kOf h)).map (fl h) = ds
      have hdl : ds.length = kOf h := by rw [← hds]; simp; omega
      have hda : ∀ i, i < kOf h → ((at8 ds i).toNat : Int) = if h.toNat < 128 then 255 - ((at8 t i).toNat : Int) else (at8 t i).toNat := fun i hi => by
        have e : at8 ds i = fl h (at8 t i) := by
          rw [← hds]
          simp only [at8, List.getD, List.getElem?_map, List.getElem?_take, if_pos hi, List.getElem?_eq_getElem (show i < t.length by omega)]
          rfl
        rw [e, fl]
        have hx := lt128 h
        have := (at8 t i).toNat_lt
        by_cases hh : h.toNat < 128
        · rw [if_pos (hx.2 hh), if_pos hh, sub255]; omega
        · rw [if_neg (fun e => hh (hx.1 e)), if_neg hh]
      simp (maxSteps := 1000000) (disch := first | omega | (simp; done) | (simp; omega)) [W_id, bys_app, bys_snoc, f_custodyref01_GetInt_r3]
      refine awp_name fun Q1 hQ1 => ?_
      refine awp_for (fun j : Nat => ⟨[(0, .sl .plain nl (t.length + 1) (bys (h :: t)))], [(5, i64 h.toNat), (6, i64 (kOf h)), (7, i64 (valB (ds.take j))), (8, i64 ((j + 1 : Nat) : Int))], []⟩)
        (fun j => kOf h - j) (fun j => j ≤ kOf h ∧ valB (ds.take j) < 2 ^ 63) 0 rfl (by simp [valB]) fun j hj => ?_
      obtain ⟨hj, hv⟩ := hj
      refine awp_name fun Q2 hQ2 => ?_
      simp (maxSteps := 1000000) (disch := first | omega | (simp; done) | (simp; omega)) [W_id, bys_app, bys_snoc, f_custodyref01_GetInt_l0]
      rw [awp_cond]
      refine ⟨by simp, fun h5 => ?_, fun h5 => ?_⟩ <;> simp at h5
      · have h5' : j < kOf h := by omega
        have hd' := hda j h5'
        have hcc := (at8 t j).toNat_lt
        have hcd := (at8 ds j).toNat_lt
        have hstep := valB_take (l := ds) (i := j) (by omega)
        have hhd : hdA (bys (List.drop (j + 1) (h :: t))) = u8 (at8 t j) := by rw [List.drop_succ_cons]; exact hd_bys (by omega)
        simp (maxSteps := 1000000) (disch := first | omega | (simp; done) | (simp; omega)) [W_id, bys_app, bys_snoc, f_custodyref01_GetInt_r4, hd_bys]
        refine ⟨⟨by omega, by omega⟩, by omega, ?_⟩
        refine awp_name fun Q3 hQ3 => ?_
        have k3 : Q3 .normal ⟨[(0, .sl .plain nl (t.length + 1) (bys (h :: t)))], [(5, i64 h.toNat), (6, i64 (kOf h)), (7, i64 (valB (ds.take j))), (8, i64 ((j : Int) + 1)), (9, i64 (at8 ds j).toNat)], []⟩ := by
          clear hd'
          simp (maxSteps := 1000000) (disch := first | omega | (simp; done) | (simp; omega)) [W_id, bys_app, bys_snoc, hQ3, f_custodyref01_GetInt_r5]
          rw [awp_cond]
          refine ⟨by simp, fun h6 => ?_, fun h6 => ?_⟩ <;> simp at h6
          · have hge := valB_take_le (l := ds) (show j + 1 ≤ kOf h by omega)
            rw [List.take_of_length_le (show ds.length ≤ kOf h by omega)] at hge
            have hv6 : vI (h :: t) = .tup [i64 0, i64 0, i64 6] := by rw [vI, getI_d h1' h2' (by rw [hds]; omega)]; rfl
            simp (maxSteps := 1000000) (disch := first | omega | (simp; done) | (simp; omega)) [W_id, bys_app, bys_snoc, hQ2, hQ1, hv6]
          · simp (maxSteps := 1000000) (disch := first | omega | (simp; done) | (simp; omega)) [W_id, bys_app, bys_snoc, f_custodyref01_GetInt_r6, hQ2]
            refine ⟨j + 1, by omega, ⟨by omega, by omega⟩, by rw [hstep]; simp, by simp⟩
        clear hQ3
        rw [awp_cond]
        refine ⟨by simp, fun h6 => ?_, fun h6 => ?_⟩ <;> simp at h6
        · rw [if_pos (by omega)] at hd'
          simp (maxSteps := 1000000) (disch := first | omega | (simp; done) | (simp; omega)) [W_id, bys_app, bys_snoc]
          rw [← hd']
          exact k3
        · rw [if_neg (by omega)] at hd'
          simp (maxSteps := 1000000) (disch := first | omega | (simp; done) | (simp; omega)) [W_id, bys_app, bys_snoc]
          rw [← hd']
          exact k3
      · have e : j = kOf h := by omega
        subst e
        have hT : ds.take (kOf h) = ds := List.take_of_length_le (by omega)
        rw [hT] at hv
        have hcan := canon h1' h2' (by rw [hds]; omega)
        have hE := getI_e (h := h) (t := t) h1' h2'
        have hC := getI_c (h := h) (t := t) h1' h2'
        rw [hds] at hcan
        rw [hds] at hE
        generalize hV : valB ds = V at *
        simp (maxSteps := 1000000) (disch := first | omega | (simp; done) | (simp; omega)) [W_id, bys_app, bys_snoc, hQ2, hQ1, f_custodyref01_GetInt_r7, hT, hV]
        refine awp_name fun Q4 hQ4 => ?_
        have fin : ∀ n : Int, n = (if h < 128 then -1 - (V : Int) else V) → Q4 .normal ⟨[(0, .sl .plain nl (t.length + 1) (bys (h :: t)))], [(6, i64 (kOf h)), (10, i64 n)], []⟩ := by
          intro n hn
          rw [← hn] at hcan
          have hI : isI64 n := by rw [hn]; unfold isI64; split <;> omega
          obtain ⟨i0, i1⟩ := hI
          have hel := encI_len (n := n) ⟨i0, i1⟩
          by_cases hcc : 0 < kOf h ∧ fl h (at8 t 0) = 0
          · have e1 : (encI n == (h :: t).take (kOf h + 1)) = false := by
              rw [Bool.eq_false_iff]; exact fun e => hcan.1 e hcc
            rw [List.take_succ_cons] at e1
            rw [vI, hC hcc] at hQ4
            simp (maxSteps := 1000000) (disch := first | omega | (simp; done) | (simp; omega)) [W_id, bys_app, bys_snoc, hQ4, f_custodyref01_GetInt_r8, h30, rint_pre, h38, same_pre, e1, tri_def]
            refine ⟨⟨by omega, by omega⟩, ?_⟩
            rw [awp_cond]
            refine ⟨by simp, fun h8 => ?_, fun h8 => ?_⟩ <;> simp at h8
            simp (maxSteps := 1000000) (disch := first | omega | (simp; done) | (simp; omega)) [W_id, bys_app, bys_snoc, f_custodyref01_GetInt_r9]
          · have e1 := hcan.2 hcc
            rw [List.take_succ_cons] at e1
            rw [vI, hE hcc (by omega), ← hn] at hQ4
            simp (maxSteps := 1000000) (disch := first | omega | (simp; done) | (simp; omega)) [W_id, bys_app, bys_snoc, hQ4, f_custodyref01_GetInt_r8, h30, rint_pre, h38, same_pre, e1, tri_def]
            refine ⟨⟨by omega, by omega⟩, ?_⟩
            rw [awp_cond]
            refine ⟨by simp, fun h8 => ?_, fun h8 => ?_⟩ <;> simp at h8
            simp (maxSteps := 1000000) (disch := first | omega | (simp; done) | (simp; omega)) [W_id, bys_app, bys_snoc, f_custodyref01_GetInt_r9]
        have hx := lt128 h
        by_cases hh : h.toNat < 128
        · rw [if_pos (hx.2 hh)] at fin
          simp (maxSteps := 1000000) (disch := first | omega | (simp; done) | (simp; omega)) [W_id, bys_app, bys_snoc, dT, dF]
          rw [awp_cond]
          refine ⟨by simp, fun h7 => ?_, fun h7 => ?_⟩ <;> simp at h7
          simp (maxSteps := 1000000) (disch := first | omega | (simp; done) | (simp; omega)) [W_id, bys_app, bys_snoc]
          exact fin _ rfl
        · rw [if_neg (fun e => hh (hx.1 e))] at fin
          simp (maxSteps := 1000000) (disch := first | omega | (simp; done) | (simp; omega)) [W_id, bys_app, bys_snoc, dT, dF]
          rw [awp_cond]
          refine ⟨by simp, fun h7 => ?_, fun h7 => ?_⟩ <;> simp at h7
          simp (maxSteps := 1000000) (disch := first | omega | (simp; done) | (simp; omega)) [W_id, bys_app, bys_snoc]
          exact fin _ rfl
    by_cases hh : h.toNat < 128
    · rw [if_pos hh] at hk
      simp (maxSteps := 1000000) (disch := first | omega | (simp; done) | (simp; omega)) [W_id, bys_app, bys_snoc, dT, dF]
      rw [awp_cond]
      refine ⟨by simp, fun h7 => ?_, fun h7 => ?_⟩ <;> simp at h7
      simp (maxSteps := 1000000) (disch := first | omega | (simp; done) | (simp; omega)) [W_id, bys_app, bys_snoc]
      rw [show 127 - (h.toNat : Int) = kOf h by omega]
      exact key
    · rw [if_neg hh] at hk
      simp (maxSteps := 1000000) (disch := first | omega | (simp; done) | (simp; omega)) [W_id, bys_app, bys_snoc, dT, dF]
      rw [awp_cond]
      refine ⟨by simp, fun h7 => ?_, fun h7 => ?_⟩ <;> simp at h7
      simp (maxSteps := 1000000) (disch := first | omega | (simp; done) | (simp; omega)) [W_id, bys_app, bys_snoc]
      rw [show (h.toNat : Int) - 128 = kOf h by omega]
      exact key
end Go.Abs
end
