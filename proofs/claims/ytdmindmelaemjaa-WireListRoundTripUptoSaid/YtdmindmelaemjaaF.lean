/- Lemmas: an abstract interpreter, and what the functions compute. -/
import Derived.Test.YtdmindmelaemjaaE
set_option linter.unusedSimpArgs false
set_option linter.unusedVariables false
set_option linter.unusedSectionVars false
section
namespace Go.Abs
set_option maxRecDepth 20000
theorem notU {N : Nat} (hN : N < 2 ^ 63) : W (((18446744073709551615 - N : Nat)) : Int) = -1 - (N : Int) := by
  unfold W IntKind.wrap IntKind.bits IntKind.signed
  simp only [Bool.true_and]
  split <;> rename_i h <;> simp at h ⊢ <;> omega
theorem getint_ok (E : Env) : ∀ ds, getIntC.pre ds → ds.length = f_wire_GetInt.n ∧ awp E f_wire_GetInt.body (retQ f_wire_GetInt.res (getIntC.post ds)) (initSt f_wire_GetInt.wr ds) := by
  rintro _ ⟨nl, b, hb, rfl⟩
  rw [getIntC, onB_post]
  cases b with
  | nil =>
    simp (maxSteps := 1000000) (disch := first | omega | (simp; done) | (simp; omega)) [W_id, bys_app, bys_snoc, f_wire_GetInt, vI, getI, tri_def]
    rw [awp_cond]
    refine ⟨by simp, fun h => ?_, fun h => ?_⟩ <;> simp at h
    simp
  | cons h t =>
    simp only [List.length_cons] at hb
    simp (maxSteps := 1000000) (disch := first | omega | (simp; done) | (simp; omega)) [W_id, bys_app, bys_snoc, f_wire_GetInt]
    rw [awp_cond]
    refine ⟨by simp, fun h0 => ?_, fun h0 => ?_⟩ <;> simp at h0
    · omega
    simp (maxSteps := 1000000) (disch := first | omega | (simp; done) | (simp; omega)) [W_id, bys_app, bys_snoc, f_wire_GetInt_r0, hd_bys0]
    refine awp_name fun Q0 hQ0 => ?_
    have hk := kOf_nat h
    have hlt := h.toNat_lt
    have key : Q0 .normal ⟨[(0, .sl .plain nl (t.length + 1) (bys (h :: t)))], [(5, u8 (if h < 128 then 255 else 0))], []⟩ := by
      have hx : h ^^^ (if h < 128 then 255 else 0) = fl h h := fl_xor h h
      have hkn : ((fl h h).toNat : Int) - 128 = kOf h := by
        unfold kOf fl
        split
        · rename_i hh; have := (lt128 h).1 hh; rw [sub255]; omega
        · rename_i hh; have : ¬ h.toNat < 128 := fun e => hh ((lt128 h).2 e)
          omega
      have hx1 : at8 t 0 ^^^ (if h < 128 then 255 else 0) = fl h (at8 t 0) := fl_xor h _
      have hkb : kOf h ≤ 128 := by rw [hk]; split <;> omega
      generalize hfl : (if h < 128 then (255 : UInt8) else 0) = flip at *
      simp (maxSteps := 1000000) (disch := first | omega | (simp; done) | (simp; omega)) [W_id, bys_app, bys_snoc, hQ0, f_wire_GetInt_r1, hx, hd_bys0, hkn]
      rw [awp_cond]
      refine ⟨by simp, fun h1 => ?_, fun h1 => ?_⟩ <;> simp at h1
      · rw [vI, getI_a (by omega)]
        simp (maxSteps := 1000000) (disch := first | omega | (simp; done) | (simp; omega)) [W_id, bys_app, bys_snoc, tri_def]
      have h1' : ¬ 8 < kOf h := by omega
      simp (maxSteps := 1000000) (disch := first | omega | (simp; done) | (simp; omega)) [W_id, bys_app, bys_snoc]
      rw [awp_cond]
      refine ⟨by simp, fun h2 => ?_, fun h2 => ?_⟩ <;> simp at h2
      · rw [vI, getI_b h1' (by omega)]
        simp (maxSteps := 1000000) (disch := first | omega | (simp; done) | (simp; omega)) [W_id, bys_app, bys_snoc, tri_def]
      have h2' : ¬ t.length < kOf h := by omega
      have hfin : ¬ (0 < kOf h ∧ fl h (at8 t 0) = 0) → awp E f_wire_GetInt_r2 (retQ [.t 2, .t 3, .t 4] (vI (h :: t))) ⟨[(0, .sl .plain nl (t.length + 1) (bys (h :: t)))], [(5, u8 flip), (6, i64 (kOf h))], []⟩ := by
        intro h3
        generalize hds : (t.take (kOf h)).map (fl h) = ds
        have hdl : ds.length = kOf h := by rw [← hds]; simp; omega
        have hda : ∀ i, i < kOf h → at8 t i ^^^ flip = at8 ds i := fun i hi => by
          rw [← hfl, fl_xor, ← hds]
          simp only [at8, List.getD, List.getElem?_map, List.getElem?_take, if_pos hi, List.getElem?_eq_getElem (show i < t.length by omega)]
          rfl
        have hM : ∀ i, i ≤ 8 → (UInt64.ofNat (valB (ds.take i))).toNat = valB (ds.take i) := fun i hi => by
          have := valB_take_lt ds i 8 hi
          rw [UInt64.toNat_ofNat']; omega
        simp (maxSteps := 1000000) (disch := first | omega | (simp; done) | (simp; omega)) [W_id, bys_app, bys_snoc, f_wire_GetInt_r2]
        refine ⟨by omega, ?_⟩
        refine awp_name fun Q1 hQ1 => ?_
        refine awp_for (fun i : Nat => ⟨[(0, .sl .plain nl (t.length + 1) (bys (h :: t)))],
            [(5, u8 flip), (6, i64 (kOf h)), (7, u64 (UInt64.ofNat (valB (ds.take i)))), (46, .sl .plain nl (kOf h) (bys (t.take (kOf h)))), (47, i64 (kOf h)), (48, i64 i)], []⟩)
          (fun i => kOf h - i) (· ≤ kOf h) 0 rfl (by simp) fun i hi => ?_
        refine awp_name fun Q2 hQ2 => ?_
        simp (maxSteps := 1000000) (disch := first | omega | (simp; done) | (simp; omega)) [W_id, bys_app, bys_snoc, f_wire_GetInt_l0]
        rw [awp_cond]
        refine ⟨by simp, fun h5 => ?_, fun h5 => ?_⟩ <;> simp at h5
        · have hi' : i < kOf h := by omega
          have hi8 : i ≤ 7 := by omega
          have hstep : shl64 (UInt64.ofNat (valB (ds.take i))) 8 ||| (at8 ds i).toUInt64 = UInt64.ofNat (valB (ds.take (i + 1))) := by
            apply UInt64.toNat_inj.1
            rw [shl_or (hM i (by omega)) (valB_take_lt ds i 7 hi8), hM _ (by omega), valB_take (by omega)]
          have hda' := hda i hi'
          simp (maxSteps := 1000000) (disch := first | omega | (simp; done) | (simp; omega)) [W_id, bys_app, bys_snoc, f_wire_GetInt_r3, hd_bys, at8_take, hda', hstep, hQ2]
          refine ⟨by omega, by omega, i + 1, by omega, by omega, by simp⟩
        · have e : i = kOf h := by omega
          subst e
          have hT : ds.take (kOf h) = ds := List.take_of_length_le (by omega)
          have hM8 := hM (kOf h) (by omega)
          rw [hT] at hM8
          simp (maxSteps := 1000000) (disch := first | omega | (simp; done) | (simp; omega)) [W_id, bys_app, bys_snoc, hQ2, hQ1, f_wire_GetInt_r4, hT]
          have hpos := shr64_pos (m := 63) hM8
          generalize hV : valB ds = V at *
          generalize UInt64.ofNat V = U at *
          rw [awp_cond]
          refine ⟨by simp, fun h6 => ?_, fun h6 => ?_⟩ <;> simp at h6
          · rw [vI, getI_d h1' h2' (by rw [hds, hV]; exact hpos.1 h6)]
            simp (maxSteps := 1000000) (disch := first | omega | (simp; done) | (simp; omega)) [W_id, bys_app, bys_snoc, tri_def]
          · have h6' : ¬ 2 ^ 63 ≤ V := fun e => by have := hpos.2 e; rw [h6] at this; exact absurd this (by decide)
            rw [vI, getI_e h1' h2' h3 (by rw [hds, hV]; exact h6'), hds, hV]
            have hU := notU (N := V) (by omega)
            simp (maxSteps := 1000000) (disch := first | omega | (simp; done) | (simp; omega)) [W_id, bys_app, bys_snoc, f_wire_GetInt_r5]
            by_cases hh : h < 128
            · rw [if_pos hh] at hfl
              subst hfl
              rw [awp_cond]
              refine ⟨by simp, fun h7 => ?_, fun h7 => ?_⟩ <;> simp at h7
              simp (maxSteps := 1000000) (disch := first | omega | (simp; done) | (simp; omega)) [W_id, bys_app, bys_snoc, f_wire_GetInt_r6, hM8, hU, hh, tri_def]
            · rw [if_neg hh] at hfl
              subst hfl
              rw [awp_cond]
              refine ⟨by simp, fun h7 => ?_, fun h7 => ?_⟩ <;> simp at h7
              simp (maxSteps := 1000000) (disch := first | omega | (simp; done) | (simp; omega)) [W_id, bys_app, bys_snoc, f_wire_GetInt_r6, hM8, hU, hh, tri_def]
      by_cases hk0 : kOf h = 0
      · simp (maxSteps := 1000000) (disch := first | omega | (simp; done) | (simp; omega)) [W_id, bys_app, bys_snoc, dT, dF, hk0]
        rw [awp_cond]
        refine ⟨by simp, fun h3 => ?_, fun h3 => ?_⟩ <;> simp at h3
        simp
        rw [hk0] at hfin
        exact hfin (by simp)
      · simp (maxSteps := 1000000) (disch := first | omega | (simp; done) | (simp; omega)) [W_id, bys_app, bys_snoc, dT, dF, hd_bys0, hx1]
        refine ⟨by omega, by omega, ?_⟩
        rw [awp_cond]
        refine ⟨by simp, fun h3 => ?_, fun h3 => ?_⟩ <;> simp at h3
        · rw [vI, getI_c h1' h2' ⟨by omega, h3⟩]
          simp (maxSteps := 1000000) (disch := first | omega | (simp; done) | (simp; omega)) [W_id, bys_app, bys_snoc, tri_def]
        · simp
          exact hfin (by simp [h3])
    rw [awp_cond]
    refine ⟨by simp, fun hh => ?_, fun hh => ?_⟩ <;> simp at hh
    · rw [if_pos hh] at key
      simpa using key
    · rw [if_neg (by simpa using hh)] at key
      simpa using key
end Go.Abs
end

section
namespace Go.Abs
theorem rsame_ok (E : Env) : ∀ ds, sameC.pre ds → ds.length = f_custodyref01_Same.n ∧ awp E f_custodyref01_Same.body (retQ f_custodyref01_Same.res (sameC.post ds)) (initSt f_custodyref01_Same.wr ds) := by
  rintro _ ⟨nl, nl', a, b, ha, rfl⟩
  simp (maxSteps := 1000000) (disch := first | omega | (simp; done) | (simp; omega)) [W_id, bys_app, bys_snoc, f_custodyref01_Same]
  rw [awp_cond]
  refine ⟨by simp, fun h => ?_, fun h => ?_⟩ <;> simp at h
  · have : (a == b) = false := by simpa using fun e : a = b => h (by rw [e])
    simp (maxSteps := 1000000) (disch := first | omega | (simp; done) | (simp; omega)) [W_id, bys_app, bys_snoc, sameC, this]
  simp (maxSteps := 1000000) (disch := first | omega | (simp; done) | (simp; omega)) [W_id, bys_app, bys_snoc, f_custodyref01_Same_r0]
  have hl : a.length = b.length := by omega
  refine awp_name fun Q0 hQ0 => ?_
  refine awp_for (fun i : Nat => ⟨[(0, .sl .plain nl a.length (bys a)), (1, .sl .plain nl' b.length (bys b))], [(5, i64 i)], []⟩)
    (fun i => a.length - i) (fun i => i ≤ a.length ∧ a.take i = b.take i) 0 rfl (by simp) fun i hi => ?_
  obtain ⟨hi, he⟩ := hi
  refine awp_name fun Q1 hQ1 => ?_
  simp (maxSteps := 1000000) (disch := first | omega | (simp; done) | (simp; omega)) [W_id, bys_app, bys_snoc, f_custodyref01_Same_l0]
  rw [awp_cond]
  refine ⟨by simp, fun h1 => ?_, fun h1 => ?_⟩ <;> simp at h1
  · have h1' : i < a.length := by omega
    simp (maxSteps := 1000000) (disch := first | omega | (simp; done) | (simp; omega)) [W_id, bys_app, bys_snoc, f_custodyref01_Same_r1, hd_bys]
    refine ⟨by omega, by omega, by omega, by omega, ?_⟩
    rw [awp_cond]
    refine ⟨by simp, fun h2 => ?_, fun h2 => ?_⟩ <;> simp at h2
    · have : (a == b) = false := by simpa using fun e : a = b => h2 (by rw [e])
      simp (maxSteps := 1000000) (disch := first | omega | (simp; done) | (simp; omega)) [W_id, bys_app, bys_snoc, hQ1, hQ0, sameC, this]
    · simp (maxSteps := 1000000) (disch := first | omega | (simp; done) | (simp; omega)) [W_id, bys_app, bys_snoc, hQ1]
      refine ⟨i + 1, by omega, ⟨by omega, ?_⟩, by simp⟩
      have h3 : i < b.length := by omega
      have h4 : a[i] = b[i] := by simpa [at8, List.getD, List.getElem?_eq_getElem h1', List.getElem?_eq_getElem h3] using h2
      rw [List.take_succ_eq_append_getElem h1', List.take_succ_eq_append_getElem h3, he, h4]
  · have e : i = a.length := by omega
    subst e
    have : (a == b) = true := by
      rw [List.take_length, hl, List.take_length] at he
      simpa using he
    simp (maxSteps := 1000000) (disch := first | omega | (simp; done) | (simp; omega)) [W_id, bys_app, bys_snoc, hQ1, hQ0, f_custodyref01_Same_r2, sameC, this]
theorem cnt_ok (E : Env) (h45 : E.G 45 = getIntC) : ∀ ds, cntC.pre ds → ds.length = f_wire_count.n ∧ awp E f_wire_count.body (retQ f_wire_count.res (cntC.post ds)) (initSt f_wire_count.wr ds) := by
  rintro _ ⟨nl, b, s, hb, hs0, hs1, rfl⟩
  rw [cntC, onC_post, Int.toNat_natCast]
  rcases getI_err b with ⟨n, u, hg⟩ | hg | hg
  · obtain ⟨h1, h2, h3, h4⟩ := getI_ok hg
    have hq : ((b.length : Int) - u).tdiv s = (((b.length - u) / s : Nat) : Int) := by
      rw [Int.tdiv_eq_ediv_of_nonneg (by omega), show (b.length : Int) - u = ((b.length - u : Nat) : Int) by omega]; rfl
    have hq2 : (b.length - u) / s ≤ b.length := Nat.le_trans (Nat.div_le_self _ _) (by omega)
    have hE : cntE b s = if n < 0 then 6 else if (b.length - u) / s < n.toNat then 5 else 0 := by unfold cntE; rw [hg]; simp
    rw [hE, hg]
    generalize (b.length - u) / s = q at *
    have hu9 := encI_len h1
    simp (maxSteps := 1000000) (disch := first | omega | (simp; done) | (simp; omega)) [W_id, bys_app, bys_snoc, f_wire_count, h45, getIntC, onB_pre, vI, hg, tri_def, hq]
    rw [awp_cond]
    refine ⟨by simp, fun h => ?_, fun h => ?_⟩ <;> simp at h
    simp (maxSteps := 1000000) (disch := first | omega | (simp; done) | (simp; omega)) [W_id, bys_app, bys_snoc]
    rw [awp_cond]
    refine ⟨by simp, fun h5 => ?_, fun h5 => ?_⟩ <;> simp at h5
    · simp (maxSteps := 1000000) (disch := first | omega | (simp; done) | (simp; omega)) [W_id, bys_app, bys_snoc, h5, f_wire_count_r0]
    simp (maxSteps := 1000000) (disch := first | omega | (simp; done) | (simp; omega)) [W_id, bys_app, bys_snoc, hq]
    refine ⟨by omega, ?_⟩
    rw [awp_cond]
    refine ⟨by simp, fun h6 => ?_, fun h6 => ?_⟩ <;> simp at h6
    · have e1 : ¬ n < 0 := by omega
      simp (maxSteps := 1000000) (disch := first | omega | (simp; done) | (simp; omega)) [W_id, bys_app, bys_snoc, h6, f_wire_count_r0, e1]
    · have e1 : ¬ n < 0 := by omega
      have e2 : ¬ (q : Int) < n := by omega
      simp (maxSteps := 1000000) (disch := first | omega | (simp; done) | (simp; omega)) [W_id, bys_app, bys_snoc, h6, f_wire_count_r0, e1, e2]
  · simp (maxSteps := 1000000) (disch := first | omega | (simp; done) | (simp; omega)) [W_id, bys_app, bys_snoc, f_wire_count, h45, getIntC, onB_pre, vI, hg, cntE, tri_def]
    rw [awp_cond]
    refine ⟨by simp, fun h => ?_, fun h => ?_⟩ <;> simp at h
    simp (maxSteps := 1000000) (disch := first | omega | (simp; done) | (simp; omega)) [W_id, bys_app, bys_snoc, f_wire_count_r0]
  · simp (maxSteps := 1000000) (disch := first | omega | (simp; done) | (simp; omega)) [W_id, bys_app, bys_snoc, f_wire_count, h45, getIntC, onB_pre, vI, hg, cntE, tri_def]
    rw [awp_cond]
    refine ⟨by simp, fun h => ?_, fun h => ?_⟩ <;> simp at h
    simp (maxSteps := 1000000) (disch := first | omega | (simp; done) | (simp; omega)) [W_id, bys_app, bys_snoc, f_wire_count_r0]
theorem rcnt_ok (E : Env) (h46 : E.G 46 = getIntC) : ∀ ds, rcntC.pre ds → ds.length = f_custodyref01_count.n ∧ awp E f_custodyref01_count.body (retQ f_custodyref01_count.res (rcntC.post ds)) (initSt f_custodyref01_count.wr ds) := by
  rintro _ ⟨nl, b, s, hb, hs0, hs1, rfl⟩
  rw [rcntC, onC_post, Int.toNat_natCast]
  rcases getI_err b with ⟨n, u, hg⟩ | hg | hg
  · obtain ⟨h1, h2, h3, h4⟩ := getI_ok hg
    have hu9 := encI_len h1
    have hE : cntE b s = if n < 0 then 6 else if (b.length - u) / s < n.toNat then 5 else 0 := by unfold cntE; rw [hg]; simp
    rw [hg]
    generalize cntE b s = ce at *
    simp (maxSteps := 1000000) (disch := first | omega | (simp; done) | (simp; omega)) [W_id, bys_app, bys_snoc, f_custodyref01_count, h46, getIntC, onB_pre, vI, hg, tri_def]
    rw [awp_cond]
    refine ⟨by simp, fun h => ?_, fun h => ?_⟩ <;> simp at h
    simp (maxSteps := 1000000) (disch := first | omega | (simp; done) | (simp; omega)) [W_id, bys_app, bys_snoc, f_custodyref01_count_r0]
    rw [awp_cond]
    refine ⟨by simp, fun h5 => ?_, fun h5 => ?_⟩ <;> simp at h5
    · rw [if_pos h5] at hE
      simp (maxSteps := 1000000) (disch := first | omega | (simp; done) | (simp; omega)) [W_id, bys_app, bys_snoc, hE]
    have h5' : ¬ n < 0 := by omega
    rw [if_neg h5'] at hE
    simp (maxSteps := 1000000) (disch := first | omega | (simp; done) | (simp; omega)) [W_id, bys_app, bys_snoc, f_custodyref01_count_r1]
    by_cases h6 : (b.length : Int) < n
    · have e1 : ce = 5 := by
        rw [hE, if_pos]
        have := Nat.div_le_self (b.length - u) s
        omega
      simp (maxSteps := 1000000) (disch := first | omega | (simp; done) | (simp; omega)) [W_id, bys_app, bys_snoc, dT, dF, e1]
      rw [awp_cond]
      refine ⟨by simp, fun h7 => ?_, fun h7 => ?_⟩ <;> simp at h7
      simp (maxSteps := 1000000) (disch := first | omega | (simp; done) | (simp; omega)) [W_id, bys_app, bys_snoc]
    · have hm : n * (s : Int) ≤ 1000000000000 := by
        have := Int.mul_le_mul (show n ≤ 1000000000 by omega) (show (s : Int) ≤ 1000 by omega) (by omega) (by omega)
        omega
      have hm0 : 0 ≤ n * (s : Int) := Int.mul_nonneg (by omega) (by omega)
      have hd : (b.length - u) / s < n.toNat ↔ (b.length : Int) - u < n * s := by
        rw [Nat.div_lt_iff_lt_mul hs0]
        have : ((n.toNat * s : Nat) : Int) = n * s := by rw [Int.natCast_mul]; congr 1; omega
        omega
      have hW : W (n * (s : Int)) = n * s := by
        generalize n * (s : Int) = p at *
        exact W_id (by omega) (by omega)
      simp (maxSteps := 1000000) (disch := first | omega | (simp; done) | (simp; omega)) [W_id, bys_app, bys_snoc, dT, dF, hW]
      rw [awp_cond]
      refine ⟨by simp, fun h7 => ?_, fun h7 => ?_⟩ <;> simp at h7
      · have e1 : ce = 5 := by rw [hE, if_pos (hd.2 h7)]
        simp (maxSteps := 1000000) (disch := first | omega | (simp; done) | (simp; omega)) [W_id, bys_app, bys_snoc, e1]
      · have e1 : ce = 0 := by rw [hE, if_neg (fun e => by have := hd.1 e; omega)]
        simp (maxSteps := 1000000) (disch := first | omega | (simp; done) | (simp; omega)) [W_id, bys_app, bys_snoc, e1, f_custodyref01_count_r2]
  · have hE : cntE b s = 5 := by unfold cntE; rw [hg]; simp
    simp (maxSteps := 1000000) (disch := first | omega | (simp; done) | (simp; omega)) [W_id, bys_app, bys_snoc, f_custodyref01_count, h46, getIntC, onB_pre, vI, hg, hE, tri_def]
    rw [awp_cond]
    refine ⟨by simp, fun h => ?_, fun h => ?_⟩ <;> simp at h
    simp (maxSteps := 1000000) (disch := first | omega | (simp; done) | (simp; omega)) [W_id, bys_app, bys_snoc]
  · have hE : cntE b s = 6 := by unfold cntE; rw [hg]; simp
    simp (maxSteps := 1000000) (disch := first | omega | (simp; done) | (simp; omega)) [W_id, bys_app, bys_snoc, f_custodyref01_count, h46, getIntC, onB_pre, vI, hg, hE, tri_def]
    rw [awp_cond]
    refine ⟨by simp, fun h => ?_, fun h => ?_⟩ <;> simp at h
    simp (maxSteps := 1000000) (disch := first | omega | (simp; done) | (simp; omega)) [W_id, bys_app, bys_snoc]
theorem getbytes_ok (E : Env) (h47 : E.G 47 = cntC) : ∀ ds, getBytesC.pre ds → ds.length = f_wire_GetBytes.n ∧ awp E f_wire_GetBytes.body (retQ f_wire_GetBytes.res (getBytesC.post ds)) (initSt f_wire_GetBytes.wr ds) := by
  rintro _ ⟨nl, b, hb, rfl⟩
  rw [getBytesC, onB_post, getS]
  rcases cnt_cases b 1 (by decide) with (hE | hE) | ⟨hE, n, u, hg, hu, hn, hu9⟩
  · simp (maxSteps := 1000000) (disch := first | omega | (simp; done) | (simp; omega)) [W_id, bys_app, bys_snoc, f_wire_GetBytes, h47, cntC, onC_pre, hE, tri_def]
    rw [awp_cond]
    refine ⟨by simp, fun h => ?_, fun h => ?_⟩ <;> simp at h
    simp (maxSteps := 1000000) (disch := first | omega | (simp; done) | (simp; omega)) [W_id, bys_app, bys_snoc]
  · simp (maxSteps := 1000000) (disch := first | omega | (simp; done) | (simp; omega)) [W_id, bys_app, bys_snoc, f_wire_GetBytes, h47, cntC, onC_pre, hE, tri_def]
    rw [awp_cond]
    refine ⟨by simp, fun h => ?_, fun h => ?_⟩ <;> simp at h
    simp (maxSteps := 1000000) (disch := first | omega | (simp; done) | (simp; omega)) [W_id, bys_app, bys_snoc]
  · simp (maxSteps := 1000000) (disch := first | omega | (simp; done) | (simp; omega)) [W_id, bys_app, bys_snoc, f_wire_GetBytes, h47, cntC, onC_pre, hE, hg, tri_def]
    rw [awp_cond]
    refine ⟨by simp, fun h => ?_, fun h => ?_⟩ <;> simp at h
    simp (maxSteps := 1000000) (disch := first | omega | (simp; done) | (simp; omega)) [W_id, bys_app, bys_snoc, f_wire_GetBytes_r0]
    omega
theorem rgetbytes_ok (E : Env) (h49 : E.G 49 = rcntC) : ∀ ds, getBytesC.pre ds → ds.length = f_custodyref01_GetBytes.n ∧ awp E f_custodyref01_GetBytes.body (retQ f_custodyref01_GetBytes.res (getBytesC.post ds)) (initSt f_custodyref01_GetBytes.wr ds) := by
  rintro _ ⟨nl, b, hb, rfl⟩
  rw [getBytesC, onB_post, getS]
  rcases cnt_cases b 1 (by decide) with (hE | hE) | ⟨hE, n, u, hg, hu, hn, hu9⟩
  · simp (maxSteps := 1000000) (disch := first | omega | (simp; done) | (simp; omega)) [W_id, bys_app, bys_snoc, f_custodyref01_GetBytes, h49, rcntC, onC_pre, hE, tri_def]
    rw [awp_cond]
    refine ⟨by simp, fun h => ?_, fun h => ?_⟩ <;> simp at h
    simp (maxSteps := 1000000) (disch := first | omega | (simp; done) | (simp; omega)) [W_id, bys_app, bys_snoc]
  · simp (maxSteps := 1000000) (disch := first | omega | (simp; done) | (simp; omega)) [W_id, bys_app, bys_snoc, f_custodyref01_GetBytes, h49, rcntC, onC_pre, hE, tri_def]
    rw [awp_cond]
    refine ⟨by simp, fun h => ?_, fun h => ?_⟩ <;> simp at h
    simp (maxSteps := 1000000) (disch := first | omega | (simp; done) | (simp; omega)) [W_id, bys_app, bys_snoc]
  · simp (maxSteps := 1000000) (disch := first | omega | (simp; done) | (simp; omega)) [W_id, bys_app, bys_snoc, f_custodyref01_GetBytes, h49, rcntC, onC_pre, hE, hg, tri_def]
    rw [awp_cond]
    refine ⟨by simp, fun h => ?_, fun h => ?_⟩ <;> simp at h
    simp (maxSteps := 1000000) (disch := first | omega | (simp; done) | (simp; omega)) [W_id, bys_app, bys_snoc, f_custodyref01_GetBytes_r0]
    omega
end Go.Abs
end

section
namespace Go.Abs
theorem read_ok (E : Env) : ∀ ds p, readC.pre ds → ds.length = f_wire_reader.n ∧ awp E f_wire_reader.body (retM f_wire_reader.res readC p ds) (initM readC.bx p ds) := by
  rintro _ p ⟨nl, b, i, hb, hi, rfl⟩
  simp (maxSteps := 1000000) (disch := first | omega | (simp; done) | (simp; omega)) [W_id, bys_app, bys_snoc, f_wire_reader, readC]
theorem next_ok (E : Env) (h45 : E.G 45 = getIntC) : ∀ ds p, nextC.pre ds → ds.length = f_wire_reader_1.n ∧ awp E f_wire_reader_1.body (retM f_wire_reader_1.res nextC p ds) (initM nextC.bx p ds) := by
  rintro _ p ⟨nl, b, i, hb, hi, rfl⟩
  have hu := getI_used (b.drop i)
  rw [List.length_drop] at hu
  have ht : (b.drop i).take (b.length - i) = b.drop i := List.take_of_length_le (by simp)
  simp (maxSteps := 1000000) (disch := first | omega | (simp; done) | (simp; omega)) [W_id, bys_app, bys_snoc, f_wire_reader_1, nextC, nxtB, nxtI, h45, getIntC, onB_pre, vI, tri_def, ht]
  omega
theorem getints_ok (E : Env) (h47 : E.G 47 = cntC) (h51 : E.M 51 = readC) (h61 : E.M 61 = nextC) : ∀ ds, getIntsC.pre ds → ds.length = f_wire_GetInts.n ∧ awp E f_wire_GetInts.body (retQ f_wire_GetInts.res (getIntsC.post ds)) (initSt f_wire_GetInts.wr ds) := by
  rintro _ ⟨nl, b, hb, rfl⟩
  rw [getIntsC, onB_post, getLs]
  rcases cnt_cases b 1 (by decide) with (hE | hE) | ⟨hE, n, u, hg, hu, hn, hu9⟩
  · simp (maxSteps := 1000000) (disch := first | omega | (simp; done) | (simp; omega)) [W_id, bys_app, bys_snoc, f_wire_GetInts, h47, cntC, onC_pre, hE, tri_def, vIs]
    rw [awp_cond]
    refine ⟨by simp, fun h => ?_, fun h => ?_⟩ <;> simp at h
    simp (maxSteps := 1000000) (disch := first | omega | (simp; done) | (simp; omega)) [W_id, bys_app, bys_snoc]
  · simp (maxSteps := 1000000) (disch := first | omega | (simp; done) | (simp; omega)) [W_id, bys_app, bys_snoc, f_wire_GetInts, h47, cntC, onC_pre, hE, tri_def, vIs]
    rw [awp_cond]
    refine ⟨by simp, fun h => ?_, fun h => ?_⟩ <;> simp at h
    simp (maxSteps := 1000000) (disch := first | omega | (simp; done) | (simp; omega)) [W_id, bys_app, bys_snoc]
  · have hu' : (u : Int) ≤ b.length := by omega
    rw [if_pos hE, hg, Int.toNat_natCast]
    simp (maxSteps := 1000000) (disch := first | omega | (simp; done) | (simp; omega)) [W_id, bys_app, bys_snoc, f_wire_GetInts, h47, cntC, onC_pre, hE, hg, tri_def]
    rw [awp_cond]
    refine ⟨by simp, fun h => ?_, fun h => ?_⟩ <;> simp at h
    simp (maxSteps := 1000000) (disch := first | omega | (simp; done) | (simp; omega)) [W_id, bys_app, bys_snoc, f_wire_GetInts_r0, h51, read_pre]
    refine awp_name fun Q0 hQ0 => ?_
    refine awp_for (fun p : Nat × List Int × Nat => ⟨[(0, .sl .plain nl b.length (bys b))],
        [(6, i64 p.2.2), (8, .fn 61 [] [.bp 24 0, .bp 1024 0]), (9, .sl (.own 1) none p.2.1.length (ints p.2.1)), (25, i64 n), (26, i64 p.1)],
        [(24, some [.sl .plain nl b.length (bys b)]), (1024, some [i64 p.2.2])]⟩)
      (fun p => n - p.1) (fun p => p.1 ≤ n ∧ p.2.1.length = p.1 ∧ p.2.2 ≤ b.length ∧ pre p.2.1 (getL getI (n - p.1) b p.2.2) = getL getI n b u) (0, [], u) rfl ⟨by omega, rfl, hu, pre_nil _ _ _ _⟩ fun p hp => ?_
    obtain ⟨i, out, c⟩ := p
    obtain ⟨hi, hl, hc, hR⟩ := hp
    simp only at hi hl hc hR
    refine awp_name fun Q1 hQ1 => ?_
    simp (maxSteps := 1000000) (disch := first | omega | (simp; done) | (simp; omega)) [W_id, bys_app, bys_snoc, f_wire_GetInts_l0]
    rw [awp_cond]
    refine ⟨by simp, fun h1 => ?_, fun h1 => ?_⟩ <;> simp at h1
    · have h1' : i < n := by omega
      obtain ⟨k, hk⟩ : ∃ k, n - i = k + 1 := ⟨n - i - 1, by omega⟩
      rw [hk] at hR
      have hc' : (c : Int) ≤ b.length := by omega
      obtain ⟨g1, g2, g3⟩ := getI_used (b.drop c)
      rw [List.length_drop] at g1
      simp (maxSteps := 1000000) (disch := first | omega | (simp; done) | (simp; omega)) [W_id, bys_app, bys_snoc, f_wire_GetInts_r1, h61, next_pre, tri_def]
      rw [awp_cond]
      refine ⟨by simp, fun h2 => ?_, fun h2 => ?_⟩ <;> simp at h2
      · have h2' : (getI (b.drop c)).2.2 ≠ 0 := by omega
        rw [pre_fail h2'] at hR
        simp (maxSteps := 1000000) (disch := first | omega | (simp; done) | (simp; omega)) [W_id, bys_app, bys_snoc, hQ1, hQ0, ← hR, vIs, tri_def]
      · have h2' : (getI (b.drop c)).2.2 = 0 := by omega
        rw [pre_step h2'] at hR
        simp (maxSteps := 1000000) (disch := first | omega | (simp; done) | (simp; omega)) [W_id, bys_app, bys_snoc, f_wire_GetInts_r2, hQ1, ints_snoc]
        refine ⟨by omega, i + 1, by omega, out ++ [(getI (b.drop c)).1], c + (getI (b.drop c)).2.1, ⟨by omega, by simp; omega, by omega, ?_⟩, by simp⟩
        rw [show n - (i + 1) = k by omega]
        exact hR
    · have e : i = n := by omega
      subst e
      rw [Nat.sub_self, pre_end] at hR
      simp (maxSteps := 1000000) (disch := first | omega | (simp; done) | (simp; omega)) [W_id, bys_app, bys_snoc, hQ1, hQ0, f_wire_GetInts_r3, ← hR, vIs, tri_def]
theorem rgetints_ok (E : Env) (h46 : E.G 46 = getIntC) (h49 : E.G 49 = rcntC) : ∀ ds, getIntsC.pre ds → ds.length = f_custodyref01_GetInts.n ∧ awp E f_custodyref01_GetInts.body (retQ f_custodyref01_GetInts.res (getIntsC.post ds)) (initSt f_custodyref01_GetInts.wr ds) := by
  rintro _ ⟨nl, b, hb, rfl⟩
  rw [getIntsC, onB_post, getLs]
  rcases cnt_cases b 1 (by decide) with (hE | hE) | ⟨hE, n, u, hg, hu, hn, hu9⟩
  · simp (maxSteps := 1000000) (disch := first | omega | (simp; done) | (simp; omega)) [W_id, bys_app, bys_snoc, f_custodyref01_GetInts, h49, rcntC, onC_pre, hE, tri_def, vIs]
    rw [awp_cond]
    refine ⟨by simp, fun h => ?_, fun h => ?_⟩ <;> simp at h
    simp (maxSteps := 1000000) (disch := first | omega | (simp; done) | (simp; omega)) [W_id, bys_app, bys_snoc]
  · simp (maxSteps := 1000000) (disch := first | omega | (simp; done) | (simp; omega)) [W_id, bys_app, bys_snoc, f_custodyref01_GetInts, h49, rcntC, onC_pre, hE, tri_def, vIs]
    rw [awp_cond]
    refine ⟨by simp, fun h => ?_, fun h => ?_⟩ <;> simp at h
    simp (maxSteps := 1000000) (disch := first | omega | (simp; done) | (simp; omega)) [W_id, bys_app, bys_snoc]
  · have hu' : (u : Int) ≤ b.length := by omega
    rw [if_pos hE, hg, Int.toNat_natCast]
    simp (maxSteps := 1000000) (disch := first | omega | (simp; done) | (simp; omega)) [W_id, bys_app, bys_snoc, f_custodyref01_GetInts, h49, rcntC, onC_pre, hE, hg, tri_def]
    rw [awp_cond]
    refine ⟨by simp, fun h => ?_, fun h => ?_⟩ <;> simp at h
    simp (maxSteps := 1000000) (disch := first | omega | (simp; done) | (simp; omega)) [W_id, bys_app, bys_snoc, f_custodyref01_GetInts_r0]
    refine awp_name fun Q0 hQ0 => ?_
    refine awp_for (fun p : Nat × List Int × Nat => ⟨[(0, .sl .plain nl b.length (bys b))],
        [(5, i64 n), (6, i64 p.2.2), (8, .sl (.own 1) none p.2.1.length (ints p.2.1)), (9, i64 p.1)], []⟩)
      (fun p => n - p.1) (fun p => p.1 ≤ n ∧ p.2.1.length = p.1 ∧ p.2.2 ≤ b.length ∧ pre p.2.1 (getL getI (n - p.1) b p.2.2) = getL getI n b u) (0, [], u) rfl ⟨by omega, rfl, hu, pre_nil _ _ _ _⟩ fun p hp => ?_
    obtain ⟨i, out, c⟩ := p
    obtain ⟨hi, hl, hc, hR⟩ := hp
    simp only at hi hl hc hR
    refine awp_name fun Q1 hQ1 => ?_
    simp (maxSteps := 1000000) (disch := first | omega | (simp; done) | (simp; omega)) [W_id, bys_app, bys_snoc, f_custodyref01_GetInts_l0]
    rw [awp_cond]
    refine ⟨by simp, fun h1 => ?_, fun h1 => ?_⟩ <;> simp at h1
    · have h1' : i < n := by omega
      obtain ⟨k, hk⟩ : ∃ k, n - i = k + 1 := ⟨n - i - 1, by omega⟩
      rw [hk] at hR
      have hc' : (c : Int) ≤ b.length := by omega
      have ht : (b.drop c).take (b.length - c) = b.drop c := List.take_of_length_le (by simp)
      obtain ⟨g1, g2, g3⟩ := getI_used (b.drop c)
      rw [List.length_drop] at g1
      simp (maxSteps := 1000000) (disch := first | omega | (simp; done) | (simp; omega)) [W_id, bys_app, bys_snoc, f_custodyref01_GetInts_r1, h46, getIntC, onB_pre, vI, tri_def, ht]
      refine ⟨by omega, ?_⟩
      rw [awp_cond]
      refine ⟨by simp, fun h2 => ?_, fun h2 => ?_⟩ <;> simp at h2
      · have h2' : (getI (b.drop c)).2.2 ≠ 0 := by omega
        rw [pre_fail h2'] at hR
        simp (maxSteps := 1000000) (disch := first | omega | (simp; done) | (simp; omega)) [W_id, bys_app, bys_snoc, hQ1, hQ0, ← hR, vIs, tri_def]
      · have h2' : (getI (b.drop c)).2.2 = 0 := by omega
        rw [pre_step h2'] at hR
        simp (maxSteps := 1000000) (disch := first | omega | (simp; done) | (simp; omega)) [W_id, bys_app, bys_snoc, f_custodyref01_GetInts_r2, hQ1, ints_snoc]
        refine ⟨by omega, i + 1, by omega, out ++ [(getI (b.drop c)).1], c + (getI (b.drop c)).2.1, ⟨by omega, by simp; omega, by omega, ?_⟩, by simp⟩
        rw [show n - (i + 1) = k by omega]
        exact hR
    · have e : i = n := by omega
      subst e
      rw [Nat.sub_self, pre_end] at hR
      simp (maxSteps := 1000000) (disch := first | omega | (simp; done) | (simp; omega)) [W_id, bys_app, bys_snoc, hQ1, hQ0, f_custodyref01_GetInts_r3, ← hR, vIs, tri_def]
end Go.Abs
end

section
namespace Go.Abs
theorem rgetstrs_ok (E : Env) (h50 : E.G 50 = getBytesC) (h49 : E.G 49 = rcntC) : ∀ ds, getStrsC.pre ds → ds.length = f_custodyref01_GetStrings.n ∧ awp E f_custodyref01_GetStrings.body (retQ f_custodyref01_GetStrings.res (getStrsC.post ds)) (initSt f_custodyref01_GetStrings.wr ds) := by
  rintro _ ⟨nl, b, hb, rfl⟩
  rw [getStrsC, onB_post, getLs]
  rcases cnt_cases b 1 (by decide) with (hE | hE) | ⟨hE, n, u, hg, hu, hn, hu9⟩
  · simp (maxSteps := 1000000) (disch := first | omega | (simp; done) | (simp; omega)) [W_id, bys_app, bys_snoc, f_custodyref01_GetStrings, h49, rcntC, onC_pre, hE, tri_def, vSs]
    rw [awp_cond]
    refine ⟨by simp, fun h => ?_, fun h => ?_⟩ <;> simp at h
    simp (maxSteps := 1000000) (disch := first | omega | (simp; done) | (simp; omega)) [W_id, bys_app, bys_snoc]
  · simp (maxSteps := 1000000) (disch := first | omega | (simp; done) | (simp; omega)) [W_id, bys_app, bys_snoc, f_custodyref01_GetStrings, h49, rcntC, onC_pre, hE, tri_def, vSs]
    rw [awp_cond]
    refine ⟨by simp, fun h => ?_, fun h => ?_⟩ <;> simp at h
    simp (maxSteps := 1000000) (disch := first | omega | (simp; done) | (simp; omega)) [W_id, bys_app, bys_snoc]
  · have hu' : (u : Int) ≤ b.length := by omega
    rw [if_pos hE, hg, Int.toNat_natCast]
    simp (maxSteps := 1000000) (disch := first | omega | (simp; done) | (simp; omega)) [W_id, bys_app, bys_snoc, f_custodyref01_GetStrings, h49, rcntC, onC_pre, hE, hg, tri_def]
    rw [awp_cond]
    refine ⟨by simp, fun h => ?_, fun h => ?_⟩ <;> simp at h
    simp (maxSteps := 1000000) (disch := first | omega | (simp; done) | (simp; omega)) [W_id, bys_app, bys_snoc, f_custodyref01_GetStrings_r0]
    refine awp_name fun Q0 hQ0 => ?_
    refine awp_for (fun p : Nat × List (List UInt8) × Nat => ⟨[(0, .sl .plain nl b.length (bys b))],
        [(5, i64 n), (6, i64 p.2.2), (8, .sl (.own 1) none p.2.1.length (sts p.2.1)), (9, i64 p.1)], []⟩)
      (fun p => n - p.1) (fun p => p.1 ≤ n ∧ p.2.1.length = p.1 ∧ p.2.2 ≤ b.length ∧ pre p.2.1 (getL getS (n - p.1) b p.2.2) = getL getS n b u) (0, [], u) rfl ⟨by omega, rfl, hu, pre_nil _ _ _ _⟩ fun p hp => ?_
    obtain ⟨i, out, c⟩ := p
    obtain ⟨hi, hl, hc, hR⟩ := hp
    simp only at hi hl hc hR
    refine awp_name fun Q1 hQ1 => ?_
    simp (maxSteps := 1000000) (disch := first | omega | (simp; done) | (simp; omega)) [W_id, bys_app, bys_snoc, f_custodyref01_GetStrings_l0]
    rw [awp_cond]
    refine ⟨by simp, fun h1 => ?_, fun h1 => ?_⟩ <;> simp at h1
    · have h1' : i < n := by omega
      obtain ⟨k, hk⟩ : ∃ k, n - i = k + 1 := ⟨n - i - 1, by omega⟩
      rw [hk] at hR
      have hc' : (c : Int) ≤ b.length := by omega
      have ht : (b.drop c).take (b.length - c) = b.drop c := List.take_of_length_le (by simp)
      obtain ⟨g1, g2⟩ := getS_used (b.drop c)
      rw [List.length_drop] at g1 g2
      simp (maxSteps := 1000000) (disch := first | omega | (simp; done) | (simp; omega)) [W_id, bys_app, bys_snoc, f_custodyref01_GetStrings_r1, h50, getBytesC, onB_pre, tri_def, ht]
      refine ⟨by omega, ?_⟩
      rw [awp_cond]
      refine ⟨by simp, fun h2 => ?_, fun h2 => ?_⟩ <;> simp at h2
      · have h2' : (getS (b.drop c)).2.2 ≠ 0 := by omega
        rw [pre_fail h2'] at hR
        simp (maxSteps := 1000000) (disch := first | omega | (simp; done) | (simp; omega)) [W_id, bys_app, bys_snoc, hQ1, hQ0, ← hR, vSs, tri_def]
      · have h2' : (getS (b.drop c)).2.2 = 0 := by omega
        rw [pre_step h2'] at hR
        simp (maxSteps := 1000000) (disch := first | omega | (simp; done) | (simp; omega)) [W_id, bys_app, bys_snoc, f_custodyref01_GetStrings_r2, hQ1, sts_snoc]
        refine ⟨by omega, i + 1, by omega, out ++ [(getS (b.drop c)).1], c + (getS (b.drop c)).2.1, ⟨by omega, by simp; omega, by omega, ?_⟩, by simp⟩
        rw [show n - (i + 1) = k by omega]
        exact hR
    · have e : i = n := by omega
      subst e
      rw [Nat.sub_self, pre_end] at hR
      simp (maxSteps := 1000000) (disch := first | omega | (simp; done) | (simp; omega)) [W_id, bys_app, bys_snoc, hQ1, hQ0, f_custodyref01_GetStrings_r3, ← hR, vSs, tri_def]
theorem getstrs_ok (E : Env) (h48 : E.G 48 = getBytesC) (h47 : E.G 47 = cntC) : ∀ ds, getStrsC.pre ds → ds.length = f_wire_GetStrings.n ∧ awp E f_wire_GetStrings.body (retQ f_wire_GetStrings.res (getStrsC.post ds)) (initSt f_wire_GetStrings.wr ds) := by
  rintro _ ⟨nl, b, hb, rfl⟩
  rw [getStrsC, onB_post, getLs]
  rcases cnt_cases b 1 (by decide) with (hE | hE) | ⟨hE, n, u, hg, hu, hn, hu9⟩
  · simp (maxSteps := 1000000) (disch := first | omega | (simp; done) | (simp; omega)) [W_id, bys_app, bys_snoc, f_wire_GetStrings, h47, cntC, onC_pre, hE, tri_def, vSs]
    rw [awp_cond]
    refine ⟨by simp, fun h => ?_, fun h => ?_⟩ <;> simp at h
    simp (maxSteps := 1000000) (disch := first | omega | (simp; done) | (simp; omega)) [W_id, bys_app, bys_snoc]
  · simp (maxSteps := 1000000) (disch := first | omega | (simp; done) | (simp; omega)) [W_id, bys_app, bys_snoc, f_wire_GetStrings, h47, cntC, onC_pre, hE, tri_def, vSs]
    rw [awp_cond]
    refine ⟨by simp, fun h => ?_, fun h => ?_⟩ <;> simp at h
    simp (maxSteps := 1000000) (disch := first | omega | (simp; done) | (simp; omega)) [W_id, bys_app, bys_snoc]
  · have hu' : (u : Int) ≤ b.length := by omega
    rw [if_pos hE, hg, Int.toNat_natCast]
    simp (maxSteps := 1000000) (disch := first | omega | (simp; done) | (simp; omega)) [W_id, bys_app, bys_snoc, f_wire_GetStrings, h47, cntC, onC_pre, hE, hg, tri_def]
    rw [awp_cond]
    refine ⟨by simp, fun h => ?_, fun h => ?_⟩ <;> simp at h
    simp (maxSteps := 1000000) (disch := first | omega | (simp; done) | (simp; omega)) [W_id, bys_app, bys_snoc, f_wire_GetStrings_r0]
    refine awp_name fun Q0 hQ0 => ?_
    refine awp_for (fun p : Nat × List (List UInt8) × Nat => ⟨[(0, .sl .plain nl b.length (bys b))],
        [(6, i64 p.2.2), (8, .sl (.own 1) none p.2.1.length (sts p.2.1)), (21, i64 n), (22, i64 p.1)], []⟩)
      (fun p => n - p.1) (fun p => p.1 ≤ n ∧ p.2.1.length = p.1 ∧ p.2.2 ≤ b.length ∧ pre p.2.1 (getL getS (n - p.1) b p.2.2) = getL getS n b u) (0, [], u) rfl ⟨by omega, rfl, hu, pre_nil _ _ _ _⟩ fun p hp => ?_
    obtain ⟨i, out, c⟩ := p
    obtain ⟨hi, hl, hc, hR⟩ := hp
    simp only at hi hl hc hR
    refine awp_name fun Q1 hQ1 => ?_
    simp (maxSteps := 1000000) (disch := first | omega | (simp; done) | (simp; omega)) [W_id, bys_app, bys_snoc, f_wire_GetStrings_l0]
    rw [awp_cond]
    refine ⟨by simp, fun h1 => ?_, fun h1 => ?_⟩ <;> simp at h1
    · have h1' : i < n := by omega
      obtain ⟨k, hk⟩ : ∃ k, n - i = k + 1 := ⟨n - i - 1, by omega⟩
      rw [hk] at hR
      have hc' : (c : Int) ≤ b.length := by omega
      have ht : (b.drop c).take (b.length - c) = b.drop c := List.take_of_length_le (by simp)
      obtain ⟨g1, g2⟩ := getS_used (b.drop c)
      rw [List.length_drop] at g1 g2
      simp (maxSteps := 1000000) (disch := first | omega | (simp; done) | (simp; omega)) [W_id, bys_app, bys_snoc, f_wire_GetStrings_r1, h48, getBytesC, onB_pre, tri_def, ht]
      refine ⟨by omega, ?_⟩
      rw [awp_cond]
      refine ⟨by simp, fun h2 => ?_, fun h2 => ?_⟩ <;> simp at h2
      · have h2' : (getS (b.drop c)).2.2 ≠ 0 := by omega
        rw [pre_fail h2'] at hR
        simp (maxSteps := 1000000) (disch := first | omega | (simp; done) | (simp; omega)) [W_id, bys_app, bys_snoc, hQ1, hQ0, ← hR, vSs, tri_def]
      · have h2' : (getS (b.drop c)).2.2 = 0 := by omega
        rw [pre_step h2'] at hR
        simp (maxSteps := 1000000) (disch := first | omega | (simp; done) | (simp; omega)) [W_id, bys_app, bys_snoc, f_wire_GetStrings_r2, hQ1, sts_snoc]
        refine ⟨by omega, i + 1, by omega, out ++ [(getS (b.drop c)).1], c + (getS (b.drop c)).2.1, ⟨by omega, by simp; omega, by omega, ?_⟩, by simp⟩
        rw [show n - (i + 1) = k by omega]
        exact hR
    · have e : i = n := by omega
      subst e
      rw [Nat.sub_self, pre_end] at hR
      simp (maxSteps := 1000000) (disch := first | omega | (simp; done) | (simp; omega)) [W_id, bys_app, bys_snoc, hQ1, hQ0, f_wire_GetStrings_r3, ← hR, vSs, tri_def]
end Go.Abs
end

section
namespace Go.Abs
theorem take_step (b : List UInt8) (u i : Nat) : (b.drop u).take (i * 16) ++ (b.drop (u + i * 16)).take 16 = (b.drop u).take ((i + 1) * 16) := by
  rw [show (i + 1) * 16 = i * 16 + 16 by omega, List.take_add, List.drop_drop]
theorem getdigs_ok (E : Env) (h47 : E.G 47 = cntC) : ∀ ds, getDigsC.pre ds → ds.length = f_wire_GetDigests.n ∧ awp E f_wire_GetDigests.body (retQ f_wire_GetDigests.res (getDigsC.post ds)) (initSt f_wire_GetDigests.wr ds) := by
  rintro _ ⟨nl, b, hb, rfl⟩
  rw [getDigsC, onB_post, getD16]
  rcases cnt_cases b 16 (by decide) with (hE | hE) | ⟨hE, n, u, hg, hu, hn, hu9⟩
  · simp (maxSteps := 1000000) (disch := first | omega | (simp; done) | (simp; omega)) [W_id, bys_app, bys_snoc, f_wire_GetDigests, h47, cntC, onC_pre, hE, tri_def, vD]
    rw [awp_cond]
    refine ⟨by simp, fun h => ?_, fun h => ?_⟩ <;> simp at h
    simp (maxSteps := 1000000) (disch := first | omega | (simp; done) | (simp; omega)) [W_id, bys_app, bys_snoc]
  · simp (maxSteps := 1000000) (disch := first | omega | (simp; done) | (simp; omega)) [W_id, bys_app, bys_snoc, f_wire_GetDigests, h47, cntC, onC_pre, hE, tri_def, vD]
    rw [awp_cond]
    refine ⟨by simp, fun h => ?_, fun h => ?_⟩ <;> simp at h
    simp (maxSteps := 1000000) (disch := first | omega | (simp; done) | (simp; omega)) [W_id, bys_app, bys_snoc]
  · have hu' : (u : Int) ≤ b.length := by omega
    rw [if_pos hE, hg, Int.toNat_natCast]
    simp (maxSteps := 1000000) (disch := first | omega | (simp; done) | (simp; omega)) [W_id, bys_app, bys_snoc, f_wire_GetDigests, h47, cntC, onC_pre, hE, hg, tri_def]
    rw [awp_cond]
    refine ⟨by simp, fun h => ?_, fun h => ?_⟩ <;> simp at h
    simp (maxSteps := 1000000) (disch := first | omega | (simp; done) | (simp; omega)) [W_id, bys_app, bys_snoc, f_wire_GetDigests_r0]
    refine awp_name fun Q0 hQ0 => ?_
    refine awp_for (fun i : Nat => ⟨[(0, .sl .plain nl b.length (bys b))],
        [(6, i64 ((u + i * 16 : Nat) : Int)), (8, .sl (.own 16) none i (bys ((b.drop u).take (i * 16)))), (18, i64 n), (19, i64 i)], []⟩)
      (fun i => n - i) (· ≤ n) 0 (by simp) (by omega) fun i hi => ?_
    refine awp_name fun Q1 hQ1 => ?_
    simp (maxSteps := 1000000) (disch := first | omega | (simp; done) | (simp; omega)) [W_id, bys_app, bys_snoc, f_wire_GetDigests_l0]
    rw [awp_cond]
    refine ⟨by simp, fun h1 => ?_, fun h1 => ?_⟩ <;> simp at h1
    · have h1' : i < n := by omega
      have hl : ((b.drop (u + i * 16)).take 16).length = 16 := by simp; omega
      have e1 : ((u : Int) + (i : Int) * 16).toNat = u + i * 16 := by omega
      have e2 : ((u : Int) + (i : Int) * 16 + 16).toNat - (u + i * 16) = 16 := by omega
      simp (maxSteps := 1000000) (disch := first | omega | (simp; done) | (simp; omega)) [W_id, bys_app, bys_snoc, f_wire_GetDigests_r1, splice_bys0, hl, e1, e2, take_step, hQ1]
      refine ⟨by omega, by omega, i + 1, by omega, by omega, ?_⟩
      simp [List.take_take, take_step]
      omega
    · have e : i = n := by omega
      subst e
      have hl : ((b.drop u).take (i * 16)).length / 16 = i := by rw [List.length_take, List.length_drop, Nat.min_eq_left hn, Nat.mul_div_cancel _ (by decide)]
      simp (maxSteps := 1000000) (disch := first | omega | (simp; done) | (simp; omega)) [W_id, bys_app, bys_snoc, hQ1, hQ0, f_wire_GetDigests_r2, vD, tri_def, hl]
theorem rgetdigs_ok (E : Env) (h49 : E.G 49 = rcntC) : ∀ ds, getDigsC.pre ds → ds.length = f_custodyref01_GetDigests.n ∧ awp E f_custodyref01_GetDigests.body (retQ f_custodyref01_GetDigests.res (getDigsC.post ds)) (initSt f_custodyref01_GetDigests.wr ds) := by
  rintro _ ⟨nl, b, hb, rfl⟩
  rw [getDigsC, onB_post, getD16]
  rcases cnt_cases b 16 (by decide) with (hE | hE) | ⟨hE, n, u, hg, hu, hn, hu9⟩
  · simp (maxSteps := 1000000) (disch := first | omega | (simp; done) | (simp; omega)) [W_id, bys_app, bys_snoc, f_custodyref01_GetDigests, h49, rcntC, onC_pre, hE, tri_def, vD]
    rw [awp_cond]
    refine ⟨by simp, fun h => ?_, fun h => ?_⟩ <;> simp at h
    simp (maxSteps := 1000000) (disch := first | omega | (simp; done) | (simp; omega)) [W_id, bys_app, bys_snoc]
  · simp (maxSteps := 1000000) (disch := first | omega | (simp; done) | (simp; omega)) [W_id, bys_app, bys_snoc, f_custodyref01_GetDigests, h49, rcntC, onC_pre, hE, tri_def, vD]
    rw [awp_cond]
    refine ⟨by simp, fun h => ?_, fun h => ?_⟩ <;> simp at h
    simp (maxSteps := 1000000) (disch := first | omega | (simp; done) | (simp; omega)) [W_id, bys_app, bys_snoc]
  · have hu' : (u : Int) ≤ b.length := by omega
    rw [if_pos hE, hg, Int.toNat_natCast]
    simp (maxSteps := 1000000) (disch := first | omega | (simp; done) | (simp; omega)) [W_id, bys_app, bys_snoc, f_custodyref01_GetDigests, h49, rcntC, onC_pre, hE, hg, tri_def]
    rw [awp_cond]
    refine ⟨by simp, fun h => ?_, fun h => ?_⟩ <;> simp at h
    simp (maxSteps := 1000000) (disch := first | omega | (simp; done) | (simp; omega)) [W_id, bys_app, bys_snoc, f_custodyref01_GetDigests_r0]
    refine awp_name fun Q0 hQ0 => ?_
    refine awp_for (fun i : Nat => ⟨[(0, .sl .plain nl b.length (bys b))],
        [(5, i64 n), (6, i64 ((u + i * 16 : Nat) : Int)), (8, .sl (.own 16) none i (bys ((b.drop u).take (i * 16)))), (9, i64 i)], []⟩)
      (fun i => n - i) (· ≤ n) 0 (by simp) (by omega) fun i hi => ?_
    refine awp_name fun Q1 hQ1 => ?_
    simp (maxSteps := 1000000) (disch := first | omega | (simp; done) | (simp; omega)) [W_id, bys_app, bys_snoc, f_custodyref01_GetDigests_l0]
    rw [awp_cond]
    refine ⟨by simp, fun h1 => ?_, fun h1 => ?_⟩ <;> simp at h1
    · have h1' : i < n := by omega
      have hl : ((b.drop (u + i * 16)).take 16).length = 16 := by simp; omega
      simp (maxSteps := 1000000) (disch := first | omega | (simp; done) | (simp; omega)) [W_id, bys_app, bys_snoc, f_custodyref01_GetDigests_r1]
      refine awp_name fun Q2 hQ2 => ?_
      refine awp_for (fun j : Nat => ⟨[(0, .sl .plain nl b.length (bys b))],
          [(5, i64 n), (6, i64 ((u + i * 16 : Nat) : Int)), (8, .sl (.own 16) none i (bys ((b.drop u).take (i * 16)))), (9, i64 i), (10, .bp 10 0), (11, i64 j)],
          [(10, some (bys ((b.drop (u + i * 16)).take j ++ zeros (16 - j))))]⟩)
        (fun j => 16 - j) (· ≤ 16) 0 (by simp) (by omega) fun j hj => ?_
      refine awp_name fun Q3 hQ3 => ?_
      simp (maxSteps := 1000000) (disch := first | omega | (simp; done) | (simp; omega)) [W_id, bys_app, bys_snoc, f_custodyref01_GetDigests_l1]
      rw [awp_cond]
      refine ⟨by simp, fun h2 => ?_, fun h2 => ?_⟩ <;> simp at h2
      · have h2' : j < 16 := by omega
        have e1 : ((u : Int) + (i : Int) * 16 + (j : Int)).toNat = u + i * 16 + j := by omega
        simp (maxSteps := 1000000) (disch := first | omega | (simp; done) | (simp; omega)) [W_id, bys_app, bys_snoc, f_custodyref01_GetDigests_r2, hd_bys, splice_bys, e1, hQ3]
        refine ⟨by omega, by omega, by omega, by omega, j + 1, by omega, by omega, by simp, ?_⟩
        have hz : (zeros (16 - j)).set 0 (at8 b (u + i * 16 + j)) = at8 b (u + i * 16 + j) :: zeros (16 - (j + 1)) := by
          rw [show 16 - j = (16 - (j + 1)) + 1 by omega]; rfl
        have hj' : j < (b.drop (u + i * 16)).length := by simp; omega
        rw [hz, List.take_succ_eq_append_getElem hj', List.append_assoc]
        congr 1
        simp [at8, List.getD, List.getElem?_eq_getElem (show u + i * 16 + j < b.length by omega)]
      · have e : j = 16 := by omega
        subst e
        simp (maxSteps := 1000000) (disch := first | omega | (simp; done) | (simp; omega)) [W_id, bys_app, bys_snoc, hQ3, hQ2, f_custodyref01_GetDigests_r3, splice_bys0, hl, take_step, hQ1]
        refine ⟨by omega, i + 1, by omega, by omega, by simp; omega⟩
    · have e : i = n := by omega
      subst e
      have hl : ((b.drop u).take (i * 16)).length / 16 = i := by rw [List.length_take, List.length_drop, Nat.min_eq_left hn, Nat.mul_div_cancel _ (by decide)]
      simp (maxSteps := 1000000) (disch := first | omega | (simp; done) | (simp; omega)) [W_id, bys_app, bys_snoc, hQ1, hQ0, f_custodyref01_GetDigests_r4, vD, tri_def, hl]
end Go.Abs
end

section
namespace Go.Abs
theorem ints_ok (E : Env) (h12 : E.G 12 = intC) : ∀ ds, wIntsC.pre ds → ds.length = f_wire_Ints.n ∧ awp E f_wire_Ints.body (retQ f_wire_Ints.res (wIntsC.post ds)) (initSt f_wire_Ints.wr ds) := by
  rintro _ ⟨nl, l, hl, hm, rfl⟩
  rw [wIntsC, onIs_post]
  have hi0 := encI_len (n := l.length) (isI64_nat (by omega))
  simp (maxSteps := 1000000) (disch := first | omega | (simp; done) | (simp; omega)) [W_id, bys_app, bys_snoc, f_wire_Ints, h12, int_pre]
  refine awp_name fun Q0 hQ0 => ?_
  refine awp_for (fun i : Nat => ⟨[(0, .sl .plain nl l.length (ints l))], [(3, .sl (.own 1) (some false) (encI l.length ++ (l.take i).flatMap encI).length (bys (encI l.length ++ (l.take i).flatMap encI))), (9, .sl .plain nl l.length (ints l)), (10, i64 l.length), (11, i64 i)], []⟩) (fun i => l.length - i) (· ≤ l.length) 0 (by simp) (by simp) fun i hi => ?_
  refine awp_name fun Q1 hQ1 => ?_
  simp (maxSteps := 1000000) (disch := first | omega | (simp; done) | (simp; omega)) [W_id, bys_app, bys_snoc, f_wire_Ints_l0, -List.length_flatMap]
  rw [awp_cond]
  refine ⟨by simp, fun h1 => ?_, fun h1 => ?_⟩ <;> simp at h1
  · have h1' : i < l.length := by omega
    have hs := flatMap_take_succ l encI 0 h1'
    rw [show l.getD i 0 = atI l i from rfl] at hs
    obtain ⟨g0, g1⟩ := hm _ (atI_mem h1')
    have g2 := encI_len (hm _ (atI_mem h1'))
    have g3 := len_flatMap_encI (l := l.take i) fun x hx => hm x (List.mem_of_mem_take hx)
    rw [List.length_take] at g3
    generalize hF : (l.take i).flatMap encI = F at *
    generalize hX : atI l i = x at *
    simp (maxSteps := 1000000) (disch := first | omega | (simp; done) | (simp; omega)) [W_id, bys_app, bys_snoc, f_wire_Ints_r0, hd_ints, hX, h12, int_pre, hQ1, -List.length_flatMap]
    refine ⟨by omega, by omega, by omega, i + 1, by omega, by omega, ⟨?_, hs.symm⟩, by simp⟩
    rw [hs, List.length_append]; omega
  · have e : i = l.length := by omega
    subst e
    simp (maxSteps := 1000000) (disch := first | omega | (simp; done) | (simp; omega)) [W_id, bys_app, bys_snoc, hQ1, hQ0, f_wire_Ints_r1, own1, encIs, -List.length_flatMap]
theorem rints_ok (E : Env) (h30 : E.G 30 = rintC) : ∀ ds, rIntsC.pre ds → ds.length = f_custodyref01_Ints.n ∧ awp E f_custodyref01_Ints.body (retQ f_custodyref01_Ints.res (rIntsC.post ds)) (initSt f_custodyref01_Ints.wr ds) := by
  rintro _ ⟨nl, l, hl, hm, rfl⟩
  rw [rIntsC, onIs_post]
  have hi0 := encI_len (n := l.length) (isI64_nat (by omega))
  simp (maxSteps := 1000000) (disch := first | omega | (simp; done) | (simp; omega)) [W_id, bys_app, bys_snoc, f_custodyref01_Ints, h30, rint_pre]
  refine awp_name fun Q0 hQ0 => ?_
  refine awp_for (fun i : Nat => ⟨[(0, .sl .plain nl l.length (ints l))], [(3, .sl (.own 1) none (encI l.length ++ (l.take i).flatMap encI).length (bys (encI l.length ++ (l.take i).flatMap encI))), (4, i64 i)], []⟩) (fun i => l.length - i) (· ≤ l.length) 0 (by simp) (by simp) fun i hi => ?_
  refine awp_name fun Q1 hQ1 => ?_
  simp (maxSteps := 1000000) (disch := first | omega | (simp; done) | (simp; omega)) [W_id, bys_app, bys_snoc, f_custodyref01_Ints_l0, -List.length_flatMap]
  rw [awp_cond]
  refine ⟨by simp, fun h1 => ?_, fun h1 => ?_⟩ <;> simp at h1
  · have h1' : i < l.length := by omega
    have hs := flatMap_take_succ l encI 0 h1'
    rw [show l.getD i 0 = atI l i from rfl] at hs
    obtain ⟨g0, g1⟩ := hm _ (atI_mem h1')
    have g2 := encI_len (hm _ (atI_mem h1'))
    have g3 := len_flatMap_encI (l := l.take i) fun x hx => hm x (List.mem_of_mem_take hx)
    rw [List.length_take] at g3
    generalize hF : (l.take i).flatMap encI = F at *
    generalize hX : atI l i = x at *
    simp (maxSteps := 1000000) (disch := first | omega | (simp; done) | (simp; omega)) [W_id, bys_app, bys_snoc, f_custodyref01_Ints_r0, hd_ints, hX, h30, rint_pre, hQ1, -List.length_flatMap]
    refine ⟨by omega, by omega, by omega, i + 1, by omega, by omega, ⟨?_, hs.symm⟩, by simp⟩
    rw [hs, List.length_append]; omega
  · have e : i = l.length := by omega
    subst e
    simp (maxSteps := 1000000) (disch := first | omega | (simp; done) | (simp; omega)) [W_id, bys_app, bys_snoc, hQ1, hQ0, f_custodyref01_Ints_r1, own1, encIs, -List.length_flatMap]
theorem strs_ok (E : Env) (h12 : E.G 12 = intC) (h7 : E.G 7 = bytesC) : ∀ ds, wStrsC.pre ds → ds.length = f_wire_Strings.n ∧ awp E f_wire_Strings.body (retQ f_wire_Strings.res (wStrsC.post ds)) (initSt f_wire_Strings.wr ds) := by
  rintro _ ⟨nl, l, ht, rfl⟩
  have hl := len_le_totS l
  rw [wStrsC, onSs_post]
  have hi0 := encI_len (n := l.length) (isI64_nat (by omega))
  simp (maxSteps := 1000000) (disch := first | omega | (simp; done) | (simp; omega)) [W_id, bys_app, bys_snoc, f_wire_Strings, h12, int_pre]
  refine awp_name fun Q0 hQ0 => ?_
  refine awp_for (fun i : Nat => ⟨[(0, .sl .plain nl l.length (sts l))], [(3, .sl (.own 1) (some false) (encI l.length ++ (l.take i).flatMap encS).length (bys (encI l.length ++ (l.take i).flatMap encS))), (9, .sl .plain nl l.length (sts l)), (10, i64 l.length), (11, i64 i)], []⟩) (fun i => l.length - i) (· ≤ l.length) 0 (by simp) (by simp) fun i hi => ?_
  refine awp_name fun Q1 hQ1 => ?_
  simp (maxSteps := 1000000) (disch := first | omega | (simp; done) | (simp; omega)) [W_id, bys_app, bys_snoc, f_wire_Strings_l0, -List.length_flatMap]
  rw [awp_cond]
  refine ⟨by simp, fun h1 => ?_, fun h1 => ?_⟩ <;> simp at h1
  · have h1' : i < l.length := by omega
    have hs := flatMap_take_succ l encS [] h1'
    rw [show l.getD i [] = atS l i from rfl] at hs
    have g0 := atS_mem_tot h1'
    have g2 : (encS (atS l i)).length ≤ (atS l i).length + 9 := by
      have := encI_len (n := (atS l i).length) (isI64_nat (by omega))
      rw [encS, List.length_append]; omega
    have g3 := len_flatMap_encS (l := l.take i) (by have := totS_take l i; omega)
    have g4 := totS_take l i
    generalize hF : (l.take i).flatMap encS = F at *
    generalize hX : atS l i = x at *
    simp (maxSteps := 1000000) (disch := first | omega | (simp; done) | (simp; omega)) [W_id, bys_app, bys_snoc, f_wire_Strings_r0, hd_sts, hX, h7, bytes_pre, hQ1, -List.length_flatMap]
    refine ⟨by omega, by omega, by omega, i + 1, by omega, by omega, ⟨?_, hs.symm⟩, by simp⟩
    rw [hs, List.length_append]; omega
  · have e : i = l.length := by omega
    subst e
    simp (maxSteps := 1000000) (disch := first | omega | (simp; done) | (simp; omega)) [W_id, bys_app, bys_snoc, hQ1, hQ0, f_wire_Strings_r1, own1, encSs, -List.length_flatMap]
theorem rstrs_ok (E : Env) (h30 : E.G 30 = rintC) (h29 : E.G 29 = rbytesC) : ∀ ds, rStrsC.pre ds → ds.length = f_custodyref01_Strings.n ∧ awp E f_custodyref01_Strings.body (retQ f_custodyref01_Strings.res (rStrsC.post ds)) (initSt f_custodyref01_Strings.wr ds) := by
  rintro _ ⟨nl, l, ht, rfl⟩
  have hl := len_le_totS l
  rw [rStrsC, onSs_post]
  have hi0 := encI_len (n := l.length) (isI64_nat (by omega))
  simp (maxSteps := 1000000) (disch := first | omega | (simp; done) | (simp; omega)) [W_id, bys_app, bys_snoc, f_custodyref01_Strings, h30, rint_pre]
  refine awp_name fun Q0 hQ0 => ?_
  refine awp_for (fun i : Nat => ⟨[(0, .sl .plain nl l.length (sts l))], [(3, .sl (.own 1) none (encI l.length ++ (l.take i).flatMap encS).length (bys (encI l.length ++ (l.take i).flatMap encS))), (4, i64 i)], []⟩) (fun i => l.length - i) (· ≤ l.length) 0 (by simp) (by simp) fun i hi => ?_
  refine awp_name fun Q1 hQ1 => ?_
  simp (maxSteps := 1000000) (disch := first | omega | (simp; done) | (simp; omega)) [W_id, bys_app, bys_snoc, f_custodyref01_Strings_l0, -List.length_flatMap]
  rw [awp_cond]
  refine ⟨by simp, fun h1 => ?_, fun h1 => ?_⟩ <;> simp at h1
  · have h1' : i < l.length := by omega
    have hs := flatMap_take_succ l encS [] h1'
    rw [show l.getD i [] = atS l i from rfl] at hs
    have g0 := atS_mem_tot h1'
    have g2 : (encS (atS l i)).length ≤ (atS l i).length + 9 := by
      have := encI_len (n := (atS l i).length) (isI64_nat (by omega))
      rw [encS, List.length_append]; omega
    have g3 := len_flatMap_encS (l := l.take i) (by have := totS_take l i; omega)
    have g4 := totS_take l i
    generalize hF : (l.take i).flatMap encS = F at *
    generalize hX : atS l i = x at *
    simp (maxSteps := 1000000) (disch := first | omega | (simp; done) | (simp; omega)) [W_id, bys_app, bys_snoc, f_custodyref01_Strings_r0, hd_sts, hX, h29, rbytes_pre, hQ1, -List.length_flatMap]
    refine ⟨by omega, by omega, by omega, i + 1, by omega, by omega, ⟨?_, hs.symm⟩, by simp⟩
    rw [hs, List.length_append]; omega
  · have e : i = l.length := by omega
    subst e
    simp (maxSteps := 1000000) (disch := first | omega | (simp; done) | (simp; omega)) [W_id, bys_app, bys_snoc, hQ1, hQ0, f_custodyref01_Strings_r1, own1, encSs, -List.length_flatMap]
end Go.Abs
end

section
namespace Go.Abs
theorem takeD (d : List UInt8) (i : Nat) : d.take (i * 16) ++ (d.drop (i * 16)).take 16 = d.take ((i + 1) * 16) := by
  rw [show (i + 1) * 16 = i * 16 + 16 by omega, List.take_add]
theorem digs_ok (E : Env) (h12 : E.G 12 = intC) : ∀ ds, wDigsC.pre ds → ds.length = f_wire_Digests.n ∧ awp E f_wire_Digests.body (retQ f_wire_Digests.res (wDigsC.post ds)) (initSt f_wire_Digests.wr ds) := by
  rintro _ ⟨nl, n, d, hn, hd, rfl⟩
  rw [wDigsC, onDs_post]
  have hi0 := encI_len (n := n) (isI64_nat (by omega))
  simp (maxSteps := 1000000) (disch := first | omega | (simp; done) | (simp; omega)) [W_id, bys_app, bys_snoc, f_wire_Digests, h12, int_pre]
  refine awp_name fun Q0 hQ0 => ?_
  refine awp_for (fun i : Nat => ⟨[(0, .sl .plain nl n (bys d))], [(3, .sl (.own 1) (some false) (encI n ++ d.take (i * 16)).length (bys (encI n ++ d.take (i * 16)))), (9, .sl .plain nl n (bys d)), (10, i64 n), (11, i64 i)], []⟩) (fun i => n - i) (· ≤ n) 0 (by simp) (by simp) fun i hi => ?_
  refine awp_name fun Q1 hQ1 => ?_
  simp (maxSteps := 1000000) (disch := first | omega | (simp; done) | (simp; omega)) [W_id, bys_app, bys_snoc, f_wire_Digests_l0]
  rw [awp_cond]
  refine ⟨by simp, fun h1 => ?_, fun h1 => ?_⟩ <;> simp at h1
  · have h1' : i < n := by omega
    have hl : ((d.drop (i * 16)).take 16).length = 16 := by simp; omega
    have hl2 : (d.take (i * 16)).length = i * 16 := by simp; omega
    have hs := takeD d i
    simp (maxSteps := 1000000) (disch := first | omega | (simp; done) | (simp; omega)) [W_id, bys_app, bys_snoc, f_wire_Digests_r0, splice_bys0, hl, hl2, hQ1]
    refine ⟨by omega, by omega, by omega, i + 1, by omega, by omega, ⟨by omega, ?_⟩, by simp⟩
    rw [← hs, List.take_take, Nat.min_self]
  · have e : i = n := by omega
    subst e
    have hl2 : d.take (i * 16) = d := List.take_of_length_le (by omega)
    simp (maxSteps := 1000000) (disch := first | omega | (simp; done) | (simp; omega)) [W_id, bys_app, bys_snoc, hQ1, hQ0, f_wire_Digests_r1, own1, encDs, hl2, hd]
theorem rdigs_ok (E : Env) (h30 : E.G 30 = rintC) : ∀ ds, rDigsC.pre ds → ds.length = f_custodyref01_Digests.n ∧ awp E f_custodyref01_Digests.body (retQ f_custodyref01_Digests.res (rDigsC.post ds)) (initSt f_custodyref01_Digests.wr ds) := by
  rintro _ ⟨nl, n, d, hn, hd, rfl⟩
  rw [rDigsC, onDs_post]
  have hi0 := encI_len (n := n) (isI64_nat (by omega))
  simp (maxSteps := 1000000) (disch := first | omega | (simp; done) | (simp; omega)) [W_id, bys_app, bys_snoc, f_custodyref01_Digests, h30, rint_pre]
  refine awp_name fun Q0 hQ0 => ?_
  refine awp_for (fun i : Nat => ⟨[(0, .sl .plain nl n (bys d))], [(3, .sl (.own 1) none (encI n ++ d.take (i * 16)).length (bys (encI n ++ d.take (i * 16)))), (4, i64 i)], []⟩) (fun i => n - i) (· ≤ n) 0 (by simp) (by simp) fun i hi => ?_
  refine awp_name fun Q1 hQ1 => ?_
  simp (maxSteps := 1000000) (disch := first | omega | (simp; done) | (simp; omega)) [W_id, bys_app, bys_snoc, f_custodyref01_Digests_l0]
  rw [awp_cond]
  refine ⟨by simp, fun h1 => ?_, fun h1 => ?_⟩ <;> simp at h1
  · have h1' : i < n := by omega
    simp (maxSteps := 1000000) (disch := first | omega | (simp; done) | (simp; omega)) [W_id, bys_app, bys_snoc, f_custodyref01_Digests_r0]
    refine awp_name fun Q2 hQ2 => ?_
    refine awp_for (fun j : Nat => ⟨[(0, .sl .plain nl n (bys d))], [(3, .sl (.own 1) none (encI n ++ d.take (i * 16 + j)).length (bys (encI n ++ d.take (i * 16 + j)))), (4, i64 i), (5, i64 j)], []⟩) (fun j => 16 - j) (· ≤ 16) 0 (by simp; omega) (by simp) fun j hj => ?_
    refine awp_name fun Q3 hQ3 => ?_
    simp (maxSteps := 1000000) (disch := first | omega | (simp; done) | (simp; omega)) [W_id, bys_app, bys_snoc, f_custodyref01_Digests_l1]
    rw [awp_cond]
    refine ⟨by simp, fun h2 => ?_, fun h2 => ?_⟩ <;> simp at h2
    · have h2' : j < 16 := by omega
      have hl2 : (d.take (i * 16 + j)).length = i * 16 + j := by simp; omega
      have hs := take8 (l := d) (i := i * 16 + j) (by omega)
      simp (maxSteps := 1000000) (disch := first | omega | (simp; done) | (simp; omega)) [W_id, bys_app, bys_snoc, f_custodyref01_Digests_r1, hd_bys, hQ3, hl2]
      refine ⟨by omega, by omega, by omega, by omega, j + 1, by omega, by omega, ⟨by omega, ?_⟩, by simp⟩
      rw [← hs, Nat.add_assoc]
    · have e : j = 16 := by omega
      subst e
      simp (maxSteps := 1000000) (disch := first | omega | (simp; done) | (simp; omega)) [W_id, bys_app, bys_snoc, hQ3, hQ2, hQ1]
      refine ⟨i + 1, by omega, by omega, ?_⟩
      rw [show (i + 1) * 16 = i * 16 + 16 by omega]
      simp
      omega
  · have e : i = n := by omega
    subst e
    have hl2 : d.take (i * 16) = d := List.take_of_length_le (by omega)
    simp (maxSteps := 1000000) (disch := first | omega | (simp; done) | (simp; omega)) [W_id, bys_app, bys_snoc, hQ1, hQ0, f_custodyref01_Digests_r2, own1, encDs, hl2, hd]
theorem rsamed_ok (E : Env) : ∀ ds, sameDC.pre ds → ds.length = f_custodyref01_SameDigests.n ∧ awp E f_custodyref01_SameDigests.body (retQ f_custodyref01_SameDigests.res (sameDC.post ds)) (initSt f_custodyref01_SameDigests.wr ds) := by
  rintro _ ⟨nl, nl', n, m, a, b, hn, ha, hb, rfl⟩
  simp (maxSteps := 1000000) (disch := first | omega | (simp; done) | (simp; omega)) [W_id, bys_app, bys_snoc, f_custodyref01_SameDigests]
  rw [awp_cond]
  refine ⟨by simp, fun h => ?_, fun h => ?_⟩ <;> simp at h
  · have : (a == b) = false := by simpa using fun e : a = b => h (by rw [e] at ha; omega)
    simp (maxSteps := 1000000) (disch := first | omega | (simp; done) | (simp; omega)) [W_id, bys_app, bys_snoc, sameDC, this]
  simp (maxSteps := 1000000) (disch := first | omega | (simp; done) | (simp; omega)) [W_id, bys_app, bys_snoc, f_custodyref01_SameDigests_r0]
  have hl : n = m := by omega
  subst hl
  refine awp_name fun Q0 hQ0 => ?_
  refine awp_for (fun i : Nat => ⟨[(0, .sl .plain nl n (bys a)), (1, .sl .plain nl' n (bys b))], [(5, i64 i)], []⟩)
    (fun i => n - i) (fun i => i ≤ n ∧ a.take (i * 16) = b.take (i * 16)) 0 rfl (by simp) fun i hi => ?_
  obtain ⟨hi, he⟩ := hi
  refine awp_name fun Q1 hQ1 => ?_
  simp (maxSteps := 1000000) (disch := first | omega | (simp; done) | (simp; omega)) [W_id, bys_app, bys_snoc, f_custodyref01_SameDigests_l0]
  rw [awp_cond]
  refine ⟨by simp, fun h1 => ?_, fun h1 => ?_⟩ <;> simp at h1
  · have h1' : i < n := by omega
    have la : ((a.drop (i * 16)).take 16).length = 16 := by simp; omega
    have lb : ((b.drop (i * 16)).take 16).length = 16 := by simp; omega
    have sa := takeD a i
    have sb := takeD b i
    simp (maxSteps := 1000000) (disch := first | omega | (simp; done) | (simp; omega)) [W_id, bys_app, bys_snoc, f_custodyref01_SameDigests_r1, eqCells_ks8, la, lb]
    refine ⟨by omega, by omega, by omega, by omega, ?_⟩
    rw [awp_cond]
    refine ⟨by simp, fun h2 => ?_, fun h2 => ?_⟩ <;> simp at h2
    · have : (a == b) = false := by simpa using fun e : a = b => h2 (by rw [e])
      simp (maxSteps := 1000000) (disch := first | omega | (simp; done) | (simp; omega)) [W_id, bys_app, bys_snoc, hQ1, hQ0, sameDC, this]
    · simp (maxSteps := 1000000) (disch := first | omega | (simp; done) | (simp; omega)) [W_id, bys_app, bys_snoc, hQ1]
      refine ⟨i + 1, by omega, ⟨by omega, ?_⟩, by simp⟩
      rw [← sa, ← sb, he, h2]
  · have e : i = n := by omega
    subst e
    have : (a == b) = true := by
      rw [List.take_of_length_le (by omega), List.take_of_length_le (by omega)] at he
      simpa using he
    simp (maxSteps := 1000000) (disch := first | omega | (simp; done) | (simp; omega)) [W_id, bys_app, bys_snoc, hQ1, hQ0, f_custodyref01_SameDigests_r2, sameDC, this]
end Go.Abs
end

section
namespace Go.Abs
theorem rsamei_ok (E : Env) : ∀ ds, sameIC.pre ds → ds.length = f_custodyref01_SameInts.n ∧ awp E f_custodyref01_SameInts.body (retQ f_custodyref01_SameInts.res (sameIC.post ds)) (initSt f_custodyref01_SameInts.wr ds) := by
  rintro _ ⟨nl, nl', a, b, ha, rfl⟩
  simp (maxSteps := 1000000) (disch := first | omega | (simp; done) | (simp; omega)) [W_id, bys_app, bys_snoc, f_custodyref01_SameInts]
  rw [awp_cond]
  refine ⟨by simp, fun h => ?_, fun h => ?_⟩ <;> simp at h
  · have : (a == b) = false := by simpa using fun e : a = b => h (by rw [e])
    simp (maxSteps := 1000000) (disch := first | omega | (simp; done) | (simp; omega)) [W_id, bys_app, bys_snoc, sameIC, this]
  simp (maxSteps := 1000000) (disch := first | omega | (simp; done) | (simp; omega)) [W_id, bys_app, bys_snoc, f_custodyref01_SameInts_r0]
  have hl : a.length = b.length := by omega
  refine awp_name fun Q0 hQ0 => ?_
  refine awp_for (fun i : Nat => ⟨[(0, .sl .plain nl a.length (ints a)), (1, .sl .plain nl' b.length (ints b))], [(5, i64 i)], []⟩)
    (fun i => a.length - i) (fun i => i ≤ a.length ∧ a.take i = b.take i) 0 rfl (by simp) fun i hi => ?_
  obtain ⟨hi, he⟩ := hi
  refine awp_name fun Q1 hQ1 => ?_
  simp (maxSteps := 1000000) (disch := first | omega | (simp; done) | (simp; omega)) [W_id, bys_app, bys_snoc, f_custodyref01_SameInts_l0]
  rw [awp_cond]
  refine ⟨by simp, fun h1 => ?_, fun h1 => ?_⟩ <;> simp at h1
  · have h1' : i < a.length := by omega
    simp (maxSteps := 1000000) (disch := first | omega | (simp; done) | (simp; omega)) [W_id, bys_app, bys_snoc, f_custodyref01_SameInts_r1, hd_ints]
    refine ⟨by omega, by omega, by omega, by omega, ?_⟩
    rw [awp_cond]
    refine ⟨by simp, fun h2 => ?_, fun h2 => ?_⟩ <;> simp at h2
    · have : (a == b) = false := by simpa using fun e : a = b => h2 (by rw [e])
      simp (maxSteps := 1000000) (disch := first | omega | (simp; done) | (simp; omega)) [W_id, bys_app, bys_snoc, hQ1, hQ0, sameIC, this]
    · simp (maxSteps := 1000000) (disch := first | omega | (simp; done) | (simp; omega)) [W_id, bys_app, bys_snoc, hQ1]
      refine ⟨i + 1, by omega, ⟨by omega, ?_⟩, by simp⟩
      have h3 : i < b.length := by omega
      have h4 : a[i] = b[i] := by simpa [atI, List.getD, List.getElem?_eq_getElem h1', List.getElem?_eq_getElem h3] using h2
      rw [List.take_succ_eq_append_getElem h1', List.take_succ_eq_append_getElem h3, he, h4]
  · have e : i = a.length := by omega
    subst e
    have : (a == b) = true := by
      rw [List.take_length, hl, List.take_length] at he
      simpa using he
    simp (maxSteps := 1000000) (disch := first | omega | (simp; done) | (simp; omega)) [W_id, bys_app, bys_snoc, hQ1, hQ0, f_custodyref01_SameInts_r2, sameIC, this]
theorem rsames_ok (E : Env) : ∀ ds, sameSC.pre ds → ds.length = f_custodyref01_SameTexts.n ∧ awp E f_custodyref01_SameTexts.body (retQ f_custodyref01_SameTexts.res (sameSC.post ds)) (initSt f_custodyref01_SameTexts.wr ds) := by
  rintro _ ⟨nl, nl', a, b, ha, rfl⟩
  simp (maxSteps := 1000000) (disch := first | omega | (simp; done) | (simp; omega)) [W_id, bys_app, bys_snoc, f_custodyref01_SameTexts]
  rw [awp_cond]
  refine ⟨by simp, fun h => ?_, fun h => ?_⟩ <;> simp at h
  · have : (a == b) = false := by simpa using fun e : a = b => h (by rw [e])
    simp (maxSteps := 1000000) (disch := first | omega | (simp; done) | (simp; omega)) [W_id, bys_app, bys_snoc, sameSC, this]
  simp (maxSteps := 1000000) (disch := first | omega | (simp; done) | (simp; omega)) [W_id, bys_app, bys_snoc, f_custodyref01_SameTexts_r0]
  have hl : a.length = b.length := by omega
  refine awp_name fun Q0 hQ0 => ?_
  refine awp_for (fun i : Nat => ⟨[(0, .sl .plain nl a.length (sts a)), (1, .sl .plain nl' b.length (sts b))], [(5, i64 i)], []⟩)
    (fun i => a.length - i) (fun i => i ≤ a.length ∧ a.take i = b.take i) 0 rfl (by simp) fun i hi => ?_
  obtain ⟨hi, he⟩ := hi
  refine awp_name fun Q1 hQ1 => ?_
  simp (maxSteps := 1000000) (disch := first | omega | (simp; done) | (simp; omega)) [W_id, bys_app, bys_snoc, f_custodyref01_SameTexts_l0]
  rw [awp_cond]
  refine ⟨by simp, fun h1 => ?_, fun h1 => ?_⟩ <;> simp at h1
  · have h1' : i < a.length := by omega
    simp (maxSteps := 1000000) (disch := first | omega | (simp; done) | (simp; omega)) [W_id, bys_app, bys_snoc, f_custodyref01_SameTexts_r1, hd_sts]
    refine ⟨by omega, by omega, by omega, by omega, ?_⟩
    rw [awp_cond]
    refine ⟨by simp, fun h2 => ?_, fun h2 => ?_⟩ <;> simp at h2
    · have : (a == b) = false := by simpa using fun e : a = b => h2 (by rw [e])
      simp (maxSteps := 1000000) (disch := first | omega | (simp; done) | (simp; omega)) [W_id, bys_app, bys_snoc, hQ1, hQ0, sameSC, this]
    · simp (maxSteps := 1000000) (disch := first | omega | (simp; done) | (simp; omega)) [W_id, bys_app, bys_snoc, hQ1]
      refine ⟨i + 1, by omega, ⟨by omega, ?_⟩, by simp⟩
      have h3 : i < b.length := by omega
      have h4 : a[i] = b[i] := by simpa [atS, List.getD, List.getElem?_eq_getElem h1', List.getElem?_eq_getElem h3] using h2
      rw [List.take_succ_eq_append_getElem h1', List.take_succ_eq_append_getElem h3, he, h4]
  · have e : i = a.length := by omega
    subst e
    have : (a == b) = true := by
      rw [List.take_length, hl, List.take_length] at he
      simpa using he
    simp (maxSteps := 1000000) (disch := first | omega | (simp; done) | (simp; omega)) [W_id, bys_app, bys_snoc, hQ1, hQ0, f_custodyref01_SameTexts_r2, sameSC, this]
end Go.Abs
end

section
namespace Go.Abs
set_option maxRecDepth 20000
theorem canon {h : UInt8} {t : List UInt8} (h1 : ¬ 8 < kOf h) (h2 : ¬ t.length < kOf h) (h4 : ¬ 2 ^ 63 ≤ valB ((t.take (kOf h)).map (fl h))) :
    (encI (if h < 128 then -1 - (valB ((t.take (kOf h)).map (fl h)) : Int) else valB ((t.take (kOf h)).map (fl h))) == (h :: t).take (kOf h + 1)) = true ↔ ¬ (0 < kOf h ∧ fl h (at8 t 0) = 0) := by
  rw [beq_iff_eq]
  constructor
  · intro e hc
    have hI : isI64 (if h < 128 then -1 - (valB ((t.take (kOf h)).map (fl h)) : Int) else valB ((t.take (kOf h)).map (fl h))) := by
      unfold isI64; split <;> omega
    have g := getI_enc hI ((h :: t).drop (kOf h + 1))
    rw [e, List.take_append_drop, getI_c h1 h2 hc] at g
    simp at g
  · intro hc
    exact (getI_ok (getI_e h1 h2 hc h4)).2.2.1.symm
theorem rgetint_ok (E : Env) (h30 : E.G 30 = rintC) (h38 : E.G 38 = sameC) : ∀ ds, getIntC.pre ds → ds.length = f_custodyref01_GetInt.n ∧ awp E f_custodyref01_GetInt.body (retQ f_custodyref01_GetInt.res (getIntC.post ds)) (initSt f_custodyref01_GetInt.wr ds) := by
  rintro _ ⟨nl, b, hb, rfl⟩
  rw [getIntC, onB_post]
  cases b with
  | nil =>
    simp (maxSteps := 1000000) (disch := first | omega | (simp; done) | (simp; omega)) [W_id, bys_app, bys_snoc, f_custodyref01_GetInt, vI, getI, tri_def]
    rw [awp_cond]
    refine ⟨by simp, fun h => ?_, fun h => ?_⟩ <;> simp at h
    simp
  | cons h t =>
    simp only [List.length_cons] at hb
    simp (maxSteps := 1000000) (disch := first | omega | (simp; done) | (simp; omega)) [W_id, bys_app, bys_snoc, f_custodyref01_GetInt]
    rw [awp_cond]
    refine ⟨by simp, fun h0 => ?_, fun h0 => ?_⟩ <;> simp at h0
    · omega
    have hk := kOf_nat h
    have hlt : h.toNat < 256 := h.toNat_lt
    have hkb : kOf h ≤ 128 := by rw [hk]; split <;> omega
    have hc1 : (h.toNat < 119 ∨ 136 < h.toNat) ↔ 8 < kOf h := by rw [hk]; split <;> omega
    simp (maxSteps := 1000000) (disch := first | omega | (simp; done) | (simp; omega)) [W_id, bys_app, bys_snoc, f_custodyref01_GetInt_r0, hd_bys0]
    by_cases ha : h.toNat < 119
    · simp (maxSteps := 1000000) (disch := first | omega | (simp; done) | (simp; omega)) [W_id, bys_app, bys_snoc, dT, dF]
      rw [awp_cond]
      refine ⟨by simp, fun h1 => ?_, fun h1 => ?_⟩ <;> simp at h1
      rw [vI, getI_a (hc1.1 (.inl ha))]
      simp (maxSteps := 1000000) (disch := first | omega | (simp; done) | (simp; omega)) [W_id, bys_app, bys_snoc, tri_def]
    simp (maxSteps := 1000000) (disch := first | omega | (simp; done) | (simp; omega)) [W_id, bys_app, bys_snoc, dT, dF]
    rw [awp_cond]
    refine ⟨by simp, fun h1 => ?_, fun h1 => ?_⟩ <;> simp at h1
    · rw [vI, getI_a (hc1.1 (.inr (by omega)))]
      simp (maxSteps := 1000000) (disch := first | omega | (simp; done) | (simp; omega)) [W_id, bys_app, bys_snoc, tri_def]
    have h1' : ¬ 8 < kOf h := fun e => by rcases hc1.2 e with e | e <;> omega
    simp (maxSteps := 1000000) (disch := first | omega | (simp; done) | (simp; omega)) [W_id, bys_app, bys_snoc, f_custodyref01_GetInt_r1]
    refine awp_name fun Q0 hQ0 => ?_
    have key : Q0 .normal ⟨[(0, .sl .plain nl (t.length + 1) (bys (h :: t)))], [(5, i64 h.toNat), (6, i64 (kOf h))], []⟩ := by
      simp (maxSteps := 1000000) (disch := first | omega | (simp; done) | (simp; omega)) [W_id, bys_app, bys_snoc, hQ0, f_custodyref01_GetInt_r2]
      rw [awp_cond]
      refine ⟨by simp, fun h2 => ?_, fun h2 => ?_⟩ <;> simp at h2
      · rw [vI, getI_b h1' (by omega)]
        simp (maxSteps := 1000000) (disch := first | omega | (simp; done) | (simp; omega)) [W_id, bys_app, bys_snoc, tri_def]
      have h2' : ¬ t.length < kOf h := by omega
      generalize hds : (t.take (kOf h)).map (fl h) = ds
      have hdl : ds.length = kOf h := by rw [← hds]; simp; omega
      have hda : ∀ i, i < kOf h → ((at8 ds i).toNat : Int) = if h.toNat < 128 then 255 - ((at8 t i).toNat : Int) else (at8 t i).toNat := fun i hi => by
        have e : at8 ds i = fl h (at8 t i) := by
          rw [← hds]
          simp only [at8, List.getD, List.getElem?_map, List.getElem?_take, if_pos hi, List.getElem?_eq_getElem (show i < t.length by omega)]
          rfl
        rw [e, fl]
        have hx := lt128 h
        have := (at8 t i).toNat_lt
        by_cases hh : h.toNat < 128
        · rw [if_pos (hx.2 hh), if_pos hh, sub255]; omega
        · rw [if_neg (fun e => hh (hx.1 e)), if_neg hh]
      simp (maxSteps := 1000000) (disch := first | omega | (simp; done) | (simp; omega)) [W_id, bys_app, bys_snoc, f_custodyref01_GetInt_r3]
      refine awp_name fun Q1 hQ1 => ?_
      refine awp_for (fun j : Nat => ⟨[(0, .sl .plain nl (t.length + 1) (bys (h :: t)))], [(5, i64 h.toNat), (6, i64 (kOf h)), (7, i64 (valB (ds.take j))), (8, i64 ((j + 1 : Nat) : Int))], []⟩)
        (fun j => kOf h - j) (fun j => j ≤ kOf h ∧ valB (ds.take j) < 2 ^ 63) 0 rfl (by simp [valB]) fun j hj => ?_
      obtain ⟨hj, hv⟩ := hj
      refine awp_name fun Q2 hQ2 => ?_
      simp (maxSteps := 1000000) (disch := first | omega | (simp; done) | (simp; omega)) [W_id, bys_app, bys_snoc, f_custodyref01_GetInt_l0]
      rw [awp_cond]
      refine ⟨by simp, fun h5 => ?_, fun h5 => ?_⟩ <;> simp at h5
      · have h5' : j < kOf h := by omega
        have hd' := hda j h5'
        have hcc := (at8 t j).toNat_lt
        have hcd := (at8 ds j).toNat_lt
        have hstep := valB_take (l := ds) (i := j) (by omega)
        have hhd : hdA (bys (List.drop (j + 1) (h :: t))) = u8 (at8 t j) := by rw [List.drop_succ_cons]; exact hd_bys (by omega)
        simp (maxSteps := 1000000) (disch := first | omega | (simp; done) | (simp; omega)) [W_id, bys_app, bys_snoc, f_custodyref01_GetInt_r4, hd_bys]
        refine ⟨⟨by omega, by omega⟩, by omega, ?_⟩
        refine awp_name fun Q3 hQ3 => ?_
        have k3 : Q3 .normal ⟨[(0, .sl .plain nl (t.length + 1) (bys (h :: t)))], [(5, i64 h.toNat), (6, i64 (kOf h)), (7, i64 (valB (ds.take j))), (8, i64 ((j : Int) + 1)), (9, i64 (at8 ds j).toNat)], []⟩ := by
          clear hd'
          simp (maxSteps := 1000000) (disch := first | omega | (simp; done) | (simp; omega)) [W_id, bys_app, bys_snoc, hQ3, f_custodyref01_GetInt_r5]
          rw [awp_cond]
          refine ⟨by simp, fun h6 => ?_, fun h6 => ?_⟩ <;> simp at h6
          · have hge := valB_take_le (l := ds) (show j + 1 ≤ kOf h by omega)
            rw [List.take_of_length_le (show ds.length ≤ kOf h by omega)] at hge
            have hv6 : vI (h :: t) = .tup [i64 0, i64 0, i64 6] := by rw [vI, getI_d h1' h2' (by rw [hds]; omega)]; rfl
            simp (maxSteps := 1000000) (disch := first | omega | (simp; done) | (simp; omega)) [W_id, bys_app, bys_snoc, hQ2, hQ1, hv6]
          · simp (maxSteps := 1000000) (disch := first | omega | (simp; done) | (simp; omega)) [W_id, bys_app, bys_snoc, f_custodyref01_GetInt_r6, hQ2]
            refine ⟨j + 1, by omega, ⟨by omega, by omega⟩, by rw [hstep]; simp, by simp⟩
        clear hQ3
        rw [awp_cond]
        refine ⟨by simp, fun h6 => ?_, fun h6 => ?_⟩ <;> simp at h6
        · rw [if_pos (by omega)] at hd'
          simp (maxSteps := 1000000) (disch := first | omega | (simp; done) | (simp; omega)) [W_id, bys_app, bys_snoc]
          rw [← hd']
          exact k3
        · rw [if_neg (by omega)] at hd'
          simp (maxSteps := 1000000) (disch := first | omega | (simp; done) | (simp; omega)) [W_id, bys_app, bys_snoc]
          rw [← hd']
          exact k3
      · have e : j = kOf h := by omega
        subst e
        have hT : ds.take (kOf h) = ds := List.take_of_length_le (by omega)
        rw [hT] at hv
        have hcan := canon h1' h2' (by rw [hds]; omega)
        have hE := getI_e (h := h) (t := t) h1' h2'
        have hC := getI_c (h := h) (t := t) h1' h2'
        rw [hds] at hcan
        rw [hds] at hE
        generalize hV : valB ds = V at *
        simp (maxSteps := 1000000) (disch := first | omega | (simp; done) | (simp; omega)) [W_id, bys_app, bys_snoc, hQ2, hQ1, f_custodyref01_GetInt_r7, hT, hV]
        refine awp_name fun Q4 hQ4 => ?_
        have fin : ∀ n : Int, n = (if h < 128 then -1 - (V : Int) else V) → Q4 .normal ⟨[(0, .sl .plain nl (t.length + 1) (bys (h :: t)))], [(6, i64 (kOf h)), (10, i64 n)], []⟩ := by
          intro n hn
          rw [← hn] at hcan
          have hI : isI64 n := by rw [hn]; unfold isI64; split <;> omega
          obtain ⟨i0, i1⟩ := hI
          have hel := encI_len (n := n) ⟨i0, i1⟩
          by_cases hcc : 0 < kOf h ∧ fl h (at8 t 0) = 0
          · have e1 : (encI n == (h :: t).take (kOf h + 1)) = false := by
              rw [Bool.eq_false_iff]; exact fun e => hcan.1 e hcc
            rw [List.take_succ_cons] at e1
            rw [vI, hC hcc] at hQ4
            simp (maxSteps := 1000000) (disch := first | omega | (simp; done) | (simp; omega)) [W_id, bys_app, bys_snoc, hQ4, f_custodyref01_GetInt_r8, h30, rint_pre, h38, same_pre, e1, tri_def]
            refine ⟨⟨by omega, by omega⟩, ?_⟩
            rw [awp_cond]
            refine ⟨by simp, fun h8 => ?_, fun h8 => ?_⟩ <;> simp at h8
            simp (maxSteps := 1000000) (disch := first | omega | (simp; done) | (simp; omega)) [W_id, bys_app, bys_snoc, f_custodyref01_GetInt_r9]
          · have e1 := hcan.2 hcc
            rw [List.take_succ_cons] at e1
            rw [vI, hE hcc (by omega), ← hn] at hQ4
            simp (maxSteps := 1000000) (disch := first | omega | (simp; done) | (simp; omega)) [W_id, bys_app, bys_snoc, hQ4, f_custodyref01_GetInt_r8, h30, rint_pre, h38, same_pre, e1, tri_def]
            refine ⟨⟨by omega, by omega⟩, ?_⟩
            rw [awp_cond]
            refine ⟨by simp, fun h8 => ?_, fun h8 => ?_⟩ <;> simp at h8
            simp (maxSteps := 1000000) (disch := first | omega | (simp; done) | (simp; omega)) [W_id, bys_app, bys_snoc, f_custodyref01_GetInt_r9]
        have hx := lt128 h
        by_cases hh : h.toNat < 128
        · rw [if_pos (hx.2 hh)] at fin
          simp (maxSteps := 1000000) (disch := first | omega | (simp; done) | (simp; omega)) [W_id, bys_app, bys_snoc, dT, dF]
          rw [awp_cond]
          refine ⟨by simp, fun h7 => ?_, fun h7 => ?_⟩ <;> simp at h7
          simp (maxSteps := 1000000) (disch := first | omega | (simp; done) | (simp; omega)) [W_id, bys_app, bys_snoc]
          exact fin _ rfl
        · rw [if_neg (fun e => hh (hx.1 e))] at fin
          simp (maxSteps := 1000000) (disch := first | omega | (simp; done) | (simp; omega)) [W_id, bys_app, bys_snoc, dT, dF]
          rw [awp_cond]
          refine ⟨by simp, fun h7 => ?_, fun h7 => ?_⟩ <;> simp at h7
          simp (maxSteps := 1000000) (disch := first | omega | (simp; done) | (simp; omega)) [W_id, bys_app, bys_snoc]
          exact fin _ rfl
    by_cases hh : h.toNat < 128
    · rw [if_pos hh] at hk
      simp (maxSteps := 1000000) (disch := first | omega | (simp; done) | (simp; omega)) [W_id, bys_app, bys_snoc, dT, dF]
      rw [awp_cond]
      refine ⟨by simp, fun h7 => ?_, fun h7 => ?_⟩ <;> simp at h7
      simp (maxSteps := 1000000) (disch := first | omega | (simp; done) | (simp; omega)) [W_id, bys_app, bys_snoc]
      rw [show 127 - (h.toNat : Int) = kOf h by omega]
      exact key
    · rw [if_neg hh] at hk
      simp (maxSteps := 1000000) (disch := first | omega | (simp; done) | (simp; omega)) [W_id, bys_app, bys_snoc, dT, dF]
      rw [awp_cond]
      refine ⟨by simp, fun h7 => ?_, fun h7 => ?_⟩ <;> simp at h7
      simp (maxSteps := 1000000) (disch := first | omega | (simp; done) | (simp; omega)) [W_id, bys_app, bys_snoc]
      rw [show (h.toNat : Int) - 128 = kOf h by omega]
      exact key
end Go.Abs
end
