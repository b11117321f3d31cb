/- Lemmas: an abstract interpreter, and what the functions compute. -/
import Derived.Test.YtikmfgbgionjhaaDoorH
import Derived.Test.YtikmfgbgionjhaaDoorE
set_option linter.unusedSimpArgs false
set_option linter.unusedVariables false
set_option linter.unusedSectionVars false
section
namespace Go.Abs
theorem within_ok (E : Env) : ∀ ds, withinC.pre ds → ds.length = f_wots_within.n ∧ awp E f_wots_within.body (retQ f_wots_within.res (withinC.post ds)) (initSt f_wots_within.wr ds) := by
  rintro _ ⟨n, m, rfl⟩
  rw [within_post]
  by_cases h : 0 ≤ n
  · simp (maxSteps := 1000000) (disch := first | omega | (simp; done) | (simp; omega)) [W_id, bys_app, bys_snoc, f_wots_within, f_wots_within_r0, h, dT, dF, inB, leB, -bo_inj]
  · simp (maxSteps := 1000000) (disch := first | omega | (simp; done) | (simp; omega)) [W_id, bys_app, bys_snoc, f_wots_within, f_wots_within_r0, h, dT, dF, inB, leB, -bo_inj]
theorem cp_step {s : List UInt8} {i n : Nat} (h : i < n) (hs : i < s.length) : s.take i ++ (zeros (n - i)).set 0 s[i] = s.take (i + 1) ++ zeros (n - (i + 1)) := by
  have hz : zeros (n - i) = 0 :: zeros (n - (i + 1)) := by rw [zeros_64 h, Nat.sub_sub, Nat.add_comm]
  rw [hz, List.take_succ_eq_append_getElem hs, List.append_assoc]
  rfl
theorem dig16_ok (E : Env) : ∀ ds, dig16C.pre ds → ds.length = f_custodyref09_digest.n ∧ awp E f_custodyref09_digest.body (retQ f_custodyref09_digest.res (dig16C.post ds)) (initSt f_custodyref09_digest.wr ds) := by
  rintro _ ⟨s, hs, rfl⟩
  rw [dig16_post]
  simp (maxSteps := 1000000) (disch := first | omega | (simp; done) | (simp; omega)) [W_id, bys_app, bys_snoc, f_custodyref09_digest, f_custodyref09_digest_r0, f_custodyref09_digest_r1]
  refine awp_name fun Q0 hQ0 => ?_
  simp (maxSteps := 1000000) (disch := first | omega | (simp; done) | (simp; omega)) [W_id, bys_app, bys_snoc, f_custodyref09_digest_r2]
  refine awp_for (fun i : Nat => ⟨[(0, st s)], [(2, .bp 2 0), (3, .bp 3 0), (4, i64 i)], [(2, some (bys (zeros 16))), (3, some (bys (s.take i ++ zeros (16 - i))))]⟩) (fun i => 16 - i) (· ≤ 16) 0 rfl (by decide) fun i hi => ?_
  refine awp_name fun Q1 hQ1 => ?_
  simp (maxSteps := 1000000) (disch := first | omega | (simp; done) | (simp; omega)) [W_id, bys_app, bys_snoc, f_custodyref09_digest_l0, f_custodyref09_digest_r3]
  rw [awp_cond]
  refine ⟨by simp, fun h => ?_, fun h => ?_⟩ <;> simp at h
  · simp (maxSteps := 1000000) (disch := first | omega | (simp; done) | (simp; omega)) [W_id, bys_app, bys_snoc, f_custodyref09_digest_r4, hQ1, hd_bys, splice_bys]
    have hl : (s.take i).length = i := by simp; omega
    have hz : zeros (16 - i) = 0 :: zeros (16 - (i + 1)) := by rw [zeros_64 (by omega), Nat.sub_sub, Nat.add_comm]
    exact ⟨by omega, h, by omega, i + 1, by omega, by omega, by omega, cp_step (by omega) (by omega)⟩
  · have e : i = 16 := by omega
    subst e
    have hl : (s.take 16).length = 16 := by simp; omega
    simp (maxSteps := 1000000) (disch := first | omega | (simp; done) | (simp; omega)) [W_id, bys_app, bys_snoc, hQ1, hQ0, f_custodyref09_digest_r5, splice_bys0, hl, List.take_take]
theorem start_ok (E : Env) (h12 : E.G 12 = intC) (h76 : E.G 76 = derC) : ∀ ds, strtC.pre ds → ds.length = f_wots_start.n ∧ awp E f_wots_start.body (retQ f_wots_start.res (strtC.post ds)) (initSt f_wots_start.wr ds) := by
  rintro _ ⟨s, k, hs, hk, rfl⟩
  rw [strt_post]
  have hd := drv_len s chainL [encI k]
  have g := encI_len (n := (k : Int)) ⟨by omega, by omega⟩
  have hc : [99, 104, 97, 105, 110] = chainL := rfl
  have hcl : chainL.length < 1000000000 := by simp
  have h16 : ((drv s chainL [encI k]).take 16).length = 16 := by simp
  simp (maxSteps := 1000000) (disch := first | omega | (simp; done) | (simp; omega)) [W_id, bys_app, bys_snoc, f_wots_start, f_wots_start_r0, h12, int_pre, h76, hc, der_pre1, splice_bys0, strt, h16, List.take_take]
theorem rstart_ok (E : Env) (h30 : E.G 30 = rintC) (h78 : E.G 78 = derC) (h112 : E.G 112 = dig16C) : ∀ ds, strtC.pre ds → ds.length = f_custodyref09_start.n ∧ awp E f_custodyref09_start.body (retQ f_custodyref09_start.res (strtC.post ds)) (initSt f_custodyref09_start.wr ds) := by
  rintro _ ⟨s, k, hs, hk, rfl⟩
  rw [strt_post]
  have hd := drv_len s chainL [encI k]
  have g := encI_len (n := (k : Int)) ⟨by omega, by omega⟩
  have hc : [99, 104, 97, 105, 110] = chainL := rfl
  have hcl : chainL.length < 1000000000 := by simp
  have h16 : ((drv s chainL [encI k]).take 16).length = 16 := by simp
  simp (maxSteps := 1000000) (disch := first | omega | (simp; done) | (simp; omega)) [W_id, bys_app, bys_snoc, f_custodyref09_start, f_custodyref09_start_r0, h30, rint_pre, h78, hc, der_pre1, h112, dig16_pre, splice_bys0, strt, h16, List.take_take]
end Go.Abs
end

section
namespace Go.Abs
theorem adv_no {c f t : Int} (v : List UInt8) (h : ¬ advOk c f t) : adv c f t v = zeros 16 := if_neg h
theorem adv_yes {c f t : Int} (v : List UInt8) (h : advOk c f t) : adv c f t v = advN (encI c) f.toNat (t.toNat - f.toNat) v := if_pos h
set_option maxHeartbeats 4000000 in
theorem adv_ok (E : Env) (h110 : E.G 110 = withinC) (h12 : E.G 12 = intC) (h8 : E.G 8 = ofC) : ∀ ds, advC.pre ds → ds.length = f_wots_Advance.n ∧ awp E f_wots_Advance.body (retQ f_wots_Advance.res (advC.post ds)) (initSt f_wots_Advance.wr ds) := by
  rintro _ ⟨c, f, t, v, ⟨hc0, hc1⟩, ⟨hf0, hf1⟩, ⟨ht0, ht1⟩, hv, rfl⟩
  rw [adv_post]
  by_cases b1 : 0 ≤ c ∧ c ≤ 34
  rotate_left
  · have b1' : inB c 34 = false := inB_F b1
    rw [adv_no v (fun h => b1 ⟨h.1, h.2.1⟩)]
    simp (maxSteps := 1000000) (disch := first | omega | (simp; done) | (simp; omega)) [W_id, bys_app, bys_snoc, f_wots_Advance, f_wots_Advance_r0, f_wots_Advance_r1, h110, b1', hv, kT, kF, dT, dF, splice_bys0]
  have b1' : inB c 34 = true := inB_T b1.1 b1.2
  by_cases b2 : 0 ≤ f ∧ f ≤ 15
  rotate_left
  · have b2' : inB f 15 = false := inB_F b2
    rw [adv_no v (fun h => b2 ⟨h.2.2.1, h.2.2.2.1⟩)]
    simp (maxSteps := 1000000) (disch := first | omega | (simp; done) | (simp; omega)) [W_id, bys_app, bys_snoc, f_wots_Advance, f_wots_Advance_r0, f_wots_Advance_r1, h110, b1', b2', hv, kT, kF, dT, dF, splice_bys0]
  have b2' : inB f 15 = true := inB_T b2.1 b2.2
  by_cases b3 : 0 ≤ t ∧ t ≤ 15
  rotate_left
  · have b3' : inB t 15 = false := inB_F b3
    rw [adv_no v (fun h => b3 ⟨h.2.2.2.2.1, h.2.2.2.2.2⟩)]
    simp (maxSteps := 1000000) (disch := first | omega | (simp; done) | (simp; omega)) [W_id, bys_app, bys_snoc, f_wots_Advance, f_wots_Advance_r0, f_wots_Advance_r1, h110, b1', b2', b3', hv, kT, kF, dT, dF, splice_bys0]
  have b3' : inB t 15 = true := inB_T b3.1 b3.2
  rw [adv_yes v ⟨b1.1, b1.2, b2.1, b2.2, b3.1, b3.2⟩]
  obtain ⟨a1, a2⟩ := b1
  obtain ⟨a3, a4⟩ := b2
  obtain ⟨a5, a6⟩ := b3
  have g := encI_len (n := c) ⟨by omega, by omega⟩
  obtain ⟨F, rfl⟩ : ∃ F : Nat, f = (F : Int) := ⟨f.toNat, by omega⟩
  obtain ⟨T, rfl⟩ : ∃ T : Nat, t = (T : Int) := ⟨t.toNat, by omega⟩
  simp (maxSteps := 1000000) (disch := first | omega | (simp; done) | (simp; omega)) [W_id, bys_app, bys_snoc, f_wots_Advance, f_wots_Advance_r0, f_wots_Advance_r1, f_wots_Advance_r2, f_wots_Advance_r3, h110, h12, int_pre, b1', b2', b3', hv, kT, kF, dT, dF]
  refine awp_name fun Q0 hQ0 => ?_
  simp (maxSteps := 1000000) (disch := first | omega | (simp; done) | (simp; omega)) [W_id, bys_app, bys_snoc, f_wots_Advance_r4]
  refine awp_for (fun i : Nat => ⟨[(0, i64 c), (1, i64 (F : Int)), (2, i64 (T : Int)), (3, .agg (bys v))], [(7, .bp 7 0), (8, .bp 8 0), (9, st (encI c)), (10, i64 ((F : Int) + i))], [(7, some (bys (advN (encI c) F i v))), (8, some (bys (zeros 16)))]⟩) (fun i => T - F - i) (fun i => i ≤ T - F) 0 (by simp [advN]) (by simp) fun i hi => ?_
  refine awp_name fun Q1 hQ1 => ?_
  have hl := advN_len hv (encI c) F i
  by_cases h : F + i < T
  · have g2 := encI_len (n := ((F : Int) + i)) ⟨by omega, by omega⟩
    have hst : advN (encI c) F (i + 1) v = digOf 4 [encI c, encI ((F : Int) + i), advN (encI c) F i v] := by rw [advN]; simp
    have h' : (F : Int) + i < T := by omega
    simp (maxSteps := 1000000) (disch := first | omega | (simp; done) | (simp; omega)) [W_id, bys_app, bys_snoc, f_wots_Advance_l0, f_wots_Advance_r5, f_wots_Advance_r6, h12, int_pre, h8, of_pre3, hl, hQ1, kT, kF, dT, dF, splice_bys0, h', take_l16]
    exact ⟨i + 1, by omega, by omega, by omega, hst.symm⟩
  · have e : i = T - F := by omega
    have h' : ¬ (F : Int) + i < T := by omega
    simp (maxSteps := 1000000) (disch := first | omega | (simp; done) | (simp; omega)) [W_id, bys_app, bys_snoc, f_wots_Advance_l0, f_wots_Advance_r5, hQ1, hQ0, f_wots_Advance_r7, kT, kF, dT, dF, hl, splice_bys0, h', take_l16]
    rw [← e]
set_option maxHeartbeats 4000000 in
theorem radv_ok (E : Env) (h30 : E.G 30 = rintC) (h20 : E.G 20 = rofC) (h23 : E.G 23 = text16C) : ∀ ds, advC.pre ds → ds.length = f_custodyref09_Advance.n ∧ awp E f_custodyref09_Advance.body (retQ f_custodyref09_Advance.res (advC.post ds)) (initSt f_custodyref09_Advance.wr ds) := by
  rintro _ ⟨c, f, t, v, ⟨hc0, hc1⟩, ⟨hf0, hf1⟩, ⟨ht0, ht1⟩, hv, rfl⟩
  rw [adv_post]
  by_cases a0 : 0 ≤ c
  rotate_left
  · have b0 : c < 0 := by omega
    rw [adv_no v (fun h => a0 h.1)]
    simp (maxSteps := 1000000) (disch := first | omega | (simp; done) | (simp; omega)) [W_id, bys_app, bys_snoc, f_custodyref09_Advance, f_custodyref09_Advance_r0, f_custodyref09_Advance_r1, hv, kT, kF, dT, dF, splice_bys0]
  have b0 : ¬ c < 0 := by omega
  by_cases a1 : c ≤ 34
  rotate_left
  · have b1 : 34 < c := by omega
    rw [adv_no v (fun h => a1 h.2.1)]
    simp (maxSteps := 1000000) (disch := first | omega | (simp; done) | (simp; omega)) [W_id, bys_app, bys_snoc, f_custodyref09_Advance, f_custodyref09_Advance_r0, f_custodyref09_Advance_r1, b0, hv, kT, kF, dT, dF, splice_bys0]
  have b1 : ¬ 34 < c := by omega
  by_cases a2 : 0 ≤ f
  rotate_left
  · have b2 : f < 0 := by omega
    rw [adv_no v (fun h => a2 h.2.2.1)]
    simp (maxSteps := 1000000) (disch := first | omega | (simp; done) | (simp; omega)) [W_id, bys_app, bys_snoc, f_custodyref09_Advance, f_custodyref09_Advance_r0, f_custodyref09_Advance_r1, b0, b1, hv, kT, kF, dT, dF, splice_bys0]
  have b2 : ¬ f < 0 := by omega
  by_cases a3 : f ≤ 15
  rotate_left
  · have b3 : 15 < f := by omega
    rw [adv_no v (fun h => a3 h.2.2.2.1)]
    simp (maxSteps := 1000000) (disch := first | omega | (simp; done) | (simp; omega)) [W_id, bys_app, bys_snoc, f_custodyref09_Advance, f_custodyref09_Advance_r0, f_custodyref09_Advance_r1, b0, b1, b2, hv, kT, kF, dT, dF, splice_bys0]
  have b3 : ¬ 15 < f := by omega
  by_cases a4 : 0 ≤ t
  rotate_left
  · have b4 : t < 0 := by omega
    rw [adv_no v (fun h => a4 h.2.2.2.2.1)]
    simp (maxSteps := 1000000) (disch := first | omega | (simp; done) | (simp; omega)) [W_id, bys_app, bys_snoc, f_custodyref09_Advance, f_custodyref09_Advance_r0, f_custodyref09_Advance_r1, b0, b1, b2, b3, hv, kT, kF, dT, dF, splice_bys0]
  have b4 : ¬ t < 0 := by omega
  by_cases a5 : t ≤ 15
  rotate_left
  · have b5 : 15 < t := by omega
    rw [adv_no v (fun h => a5 h.2.2.2.2.2)]
    simp (maxSteps := 1000000) (disch := first | omega | (simp; done) | (simp; omega)) [W_id, bys_app, bys_snoc, f_custodyref09_Advance, f_custodyref09_Advance_r0, f_custodyref09_Advance_r1, b0, b1, b2, b3, b4, hv, kT, kF, dT, dF, splice_bys0]
  have b5 : ¬ 15 < t := by omega
  rw [adv_yes v ⟨a0, a1, a2, a3, a4, a5⟩]
  have g := encI_len (n := c) ⟨by omega, by omega⟩
  obtain ⟨F, rfl⟩ : ∃ F : Nat, f = (F : Int) := ⟨f.toNat, by omega⟩
  obtain ⟨T, rfl⟩ : ∃ T : Nat, t = (T : Int) := ⟨t.toNat, by omega⟩
  simp (maxSteps := 1000000) (disch := first | omega | (simp; done) | (simp; omega)) [W_id, bys_app, bys_snoc, f_custodyref09_Advance, f_custodyref09_Advance_r0, f_custodyref09_Advance_r1, f_custodyref09_Advance_r2, b0, b1, b2, b3, b4, b5, hv, kT, kF, dT, dF]
  refine awp_name fun Q0 hQ0 => ?_
  simp (maxSteps := 1000000) (disch := first | omega | (simp; done) | (simp; omega)) [W_id, bys_app, bys_snoc, f_custodyref09_Advance_r3]
  refine awp_for (fun i : Nat => ⟨[(0, i64 c), (1, i64 (F : Int)), (2, i64 (T : Int)), (3, .agg (bys v))], [(7, .bp 7 0), (8, .bp 8 0), (9, i64 ((F : Int) + i))], [(7, some (bys (advN (encI c) F i v))), (8, some (bys (zeros 16)))]⟩) (fun i => T - F - i) (fun i => i ≤ T - F) 0 (by simp [advN]) (by simp) fun i hi => ?_
  refine awp_name fun Q1 hQ1 => ?_
  have hl := advN_len hv (encI c) F i
  by_cases h : F + i < T
  · have g2 := encI_len (n := ((F : Int) + i)) ⟨by omega, by omega⟩
    have hst : advN (encI c) F (i + 1) v = digOf 4 [encI c, encI ((F : Int) + i), advN (encI c) F i v] := by rw [advN]; simp
    have h' : (F : Int) + i < T := by omega
    simp (maxSteps := 1000000) (disch := first | omega | (simp; done) | (simp; omega)) [W_id, bys_app, bys_snoc, f_custodyref09_Advance_l0, f_custodyref09_Advance_r4, f_custodyref09_Advance_r5, h30, rint_pre, h20, rof_pre3, h23, text16_pre, hl, hQ1, kT, kF, dT, dF, splice_bys0, h', take_l16]
    exact ⟨i + 1, by omega, by omega, by omega, hst.symm⟩
  · have e : i = T - F := by omega
    have h' : ¬ (F : Int) + i < T := by omega
    simp (maxSteps := 1000000) (disch := first | omega | (simp; done) | (simp; omega)) [W_id, bys_app, bys_snoc, f_custodyref09_Advance_l0, f_custodyref09_Advance_r4, hQ1, hQ0, f_custodyref09_Advance_r6, kT, kF, dT, dF, hl, splice_bys0, h', take_l16]
    rw [← e]
end Go.Abs
end

section
namespace Go.Abs
theorem takeN {l : List Nat} {i : Nat} (h : i < l.length) : l.take (i + 1) = l.take i ++ [atN l i] := by
  rw [List.take_succ_eq_append_getElem h, atN, List.getD, List.getElem?_eq_getElem h]; rfl
theorem takeI {l : List Int} {i : Nat} (h : i < l.length) : l.take (i + 1) = l.take i ++ [atI l i] := by
  rw [List.take_succ_eq_append_getElem h, atI, List.getD, List.getElem?_eq_getElem h]; rfl
theorem sumD_take {d : List UInt8} {i : Nat} (h : i < d.length) : sumD (d.take (i + 1)) = sumD (d.take i) + ((15 - (at8 d i).toNat / 16) + (15 - (at8 d i).toNat % 16)) := by
  rw [take8 h]; simp [sumD]
theorem msgD_take {d : List UInt8} {i : Nat} (h : i < d.length) : msgD (d.take (i + 1)) = msgD (d.take i) ++ [(at8 d i).toNat / 16, (at8 d i).toNat % 16] := by
  rw [take8 h]; simp [msgD]
/-- The checksum behind so many digits. -/
def sumK (d : List UInt8) : Nat → Nat
  | 0 => 0
  | i + 1 => sumK d i + (15 - atN (dgt d) i)
theorem sumK_two {d : List UInt8} (h : d.length = 16) : ∀ i, i ≤ 16 → sumK d (2 * i) = sumD (d.take i)
  | 0, _ => rfl
  | i + 1, hi => by
    have e : 2 * (i + 1) = 2 * i + 1 + 1 := by omega
    rw [e, sumK, sumK, sumK_two h i (by omega), sumD_take (by omega), dgt_msg h (by omega), dgt_msg h (by omega), msgD_at d _ (by omega), msgD_at d _ (by omega)]
    rw [if_pos (by omega), if_neg (by omega), show 2 * i / 2 = i by omega, show (2 * i + 1) / 2 = i by omega]
    omega
theorem sumK_all {d : List UInt8} (h : d.length = 16) : sumK d 32 = sumD d := by
  have := sumK_two h 16 (by omega)
  rwa [List.take_of_length_le (by omega)] at this
theorem sumK_le (d : List UInt8) : ∀ i, sumK d i ≤ 15 * i
  | 0 => by simp [sumK]
  | i + 1 => by have := sumK_le d i; rw [sumK]; omega
def shr8 (x : UInt8) (n : Nat) : UInt8 := ⟨x.toBitVec >>> n⟩
theorem bin_u8_shr (x : UInt8) (n : Int) : binV .shr (u8 x) (i64 n) = u8 (shr8 x n.toNat) := lit_u8 (shr_val 8 n.toNat x.toBitVec)
theorem binOk_u8_shr (x : UInt8) (n : Int) : binOk .shr (u8 x) (i64 n) = (0 ≤ n) := rfl
theorem shr8_nat (x : UInt8) (n : Nat) : (shr8 x n).toNat = x.toNat / 2 ^ n := by
  show (x.toBitVec >>> n).toNat = _
  rw [BitVec.toNat_ushiftRight, Nat.shiftRight_eq_div_pow]; rfl
theorem dig_step {d : List UInt8} (h : d.length = 16) {i : Nat} (hi : i < 32) : (((shr8 (at8 d (i / 2)) (4 - 4 * (i % 2))).toNat : Nat) : Int).tmod 16 = atI (dgI d) i := by
  have hx := (at8 d (i / 2)).toNat_lt
  rw [dgI_at, dgt_msg h hi, msgD_at d i (by omega), shr8_nat, Int.tmod_eq_emod_of_nonneg (Int.natCast_nonneg _)]
  have h2 : i % 2 = 0 ∨ i % 2 = 1 := by omega
  rcases h2 with h2 | h2 <;> rw [h2]
  · simp only [Nat.mul_zero, Nat.sub_zero, if_true]; omega
  · simp only [Nat.mul_one, Nat.sub_self, Nat.pow_zero, Nat.div_one]; rw [if_neg (by omega)]; omega
theorem splice_int1 {l : List Int} {n : Nat} {x : Int} (h : n < l.length) : splice (ints l) n [i64 x] = ints (l.set n x) := by
  simp only [splice, ints, ← List.map_take, ← List.map_drop, List.length_singleton]
  rw [List.set_eq_take_append_cons_drop, if_pos h]
  simp
def lay (l : List Int) (n i : Nat) : List Int := l.take i ++ List.replicate (n - i) 0
theorem lay_len {l : List Int} {n i : Nat} (h : l.length = n) (hi : i ≤ n) : (lay l n i).length = n := by simp [lay]; omega
theorem lay_set {l : List Int} {n i : Nat} (h : l.length = n) (hi : i < n) : (lay l n i).set i (atI l i) = lay l n (i + 1) := by
  have e : List.replicate (n - i) (0 : Int) = 0 :: List.replicate (n - (i + 1)) 0 := by
    rw [show n - i = (n - (i + 1)) + 1 by omega]; rfl
  rw [lay, lay, e, set_mid (by simp; omega), takeI (by omega), List.append_assoc]
  rfl
theorem lay_at {l : List Int} {n i : Nat} (h : l.length = n) (hi : i < n) : atI (lay l n (i + 1)) i = atI l i := by
  rw [lay, atI, List.getD, List.getElem?_append_left (by simp; omega), List.getElem?_take, if_pos (by omega)]; rfl
/-- The last three, from the end. -/
def lay3 (l : List Int) (j : Nat) : List Int := l.take 32 ++ (List.replicate (3 - j) 0 ++ l.drop (35 - j))
theorem lay3_0 {l : List Int} (h : l.length = 35) : lay l 35 32 = lay3 l 0 := by
  simp [lay, lay3, h]
theorem lay3_len {l : List Int} (h : l.length = 35) {j : Nat} (hj : j ≤ 3) : (lay3 l j).length = 35 := by simp [lay3, h]; omega
theorem lay3_3 {l : List Int} : lay3 l 3 = l := by simp [lay3]
theorem lay3_set {l : List Int} (h : l.length = 35) {j : Nat} (hj : j < 3) : (lay3 l j).set (34 - j) (atI l (34 - j)) = lay3 l (j + 1) := by
  have e : List.replicate (3 - j) (0 : Int) = List.replicate (3 - (j + 1)) 0 ++ [0] := by
    rw [show 3 - j = (3 - (j + 1)) + 1 by omega, List.replicate_succ']
  have e2 : l.drop (35 - (j + 1)) = atI l (34 - j) :: l.drop (35 - j) := by
    rw [show 35 - (j + 1) = 34 - j by omega, List.drop_eq_getElem_cons (by omega), show 34 - j + 1 = 35 - j by omega, atI, List.getD, List.getElem?_eq_getElem (by omega)]; rfl
  rw [lay3, lay3, e, e2, List.append_assoc, ← List.append_assoc (l.take 32), List.singleton_append, set_mid (by simp [h]; omega), List.append_assoc]
theorem chk_step {d : List UInt8} (h : d.length = 16) {j : Nat} (hj : j < 3) : ((sumD d / 16 ^ j : Nat) : Int).tmod 16 = atI (dgI d) (34 - j) := by
  have hs := sumD_le d
  obtain ⟨c1, c2, c3⟩ := dgt_chk h
  rw [dgI_at, Int.tmod_eq_emod_of_nonneg (Int.natCast_nonneg _)]
  have : j = 0 ∨ j = 1 ∨ j = 2 := by omega
  rcases this with rfl | rfl | rfl <;> simp only [Nat.sub_zero, Nat.pow_zero, Nat.div_one, Nat.pow_one, show 34 - 1 = 33 from rfl, show 34 - 2 = 32 from rfl, show 16 ^ 2 = 256 from rfl, c1, c2, c3] <;> omega
set_option maxHeartbeats 4000000 in
theorem digits_ok (E : Env) : ∀ ds, digPC.pre ds → ds.length = f_wots_Digits.n ∧ awp E f_wots_Digits.body (retQ f_wots_Digits.res (digPC.post ds)) (initSt f_wots_Digits.wr ds) := by
  rintro _ ⟨d, hd, rfl⟩
  rw [digP_post]
  have hl := dgI_len hd
  have hrep : List.replicate 35 (i64 0) = ints (lay (dgI d) 35 0) := by simp [ints, lay]
  simp (maxSteps := 1000000) (disch := first | omega | (simp; done) | (simp; omega)) [W_id, bys_app, bys_snoc, f_wots_Digits, f_wots_Digits_r0, f_wots_Digits_r1, f_wots_Digits_r2, hrep, hd]
  refine awp_name fun Q0 hQ0 => ?_
  simp (maxSteps := 1000000) (disch := first | omega | (simp; done) | (simp; omega)) [W_id, bys_app, bys_snoc, f_wots_Digits_r3]
  refine awp_for (fun i : Nat => ⟨[(0, .agg (bys d))], [(1, .bp 1 0), (3, .bp 3 0), (4, i64 (sumK d i)), (7, i64 i)], [(1, some (bys d)), (3, some (ints (lay (dgI d) 35 i)))]⟩) (fun i => 32 - i) (· ≤ 32) 0 (by simp [sumK]) (by decide) fun i hi => ?_
  refine awp_name fun Q1 hQ1 => ?_
  have hll := lay_len hl (i := i) (by omega)
  have hsk := sumK_le d i
  by_cases h : i < 32
  · obtain ⟨k, hk⟩ : ∃ k : Nat, k = i / 2 := ⟨_, rfl⟩
    obtain ⟨r, hr⟩ : ∃ r : Nat, r = i % 2 := ⟨_, rfl⟩
    have e1 : (i : Int).tdiv 2 = (k : Int) := by rw [Int.tdiv_eq_ediv_of_nonneg (by omega)]; omega
    have e2 : (i : Int).tmod 2 = (r : Int) := by rw [Int.tmod_eq_emod_of_nonneg (by omega)]; omega
    have e3 : ((4 : Int) - 4 * (r : Int)).toNat = 4 - 4 * r := by omega
    have e4 := dig_step hd h
    rw [← hk, ← hr] at e4
    have e5 := lay_set hl (i := i) (by omega)
    have e6 := lay_at hl (i := i) (by omega)
    have e7 := lay_len hl (i := i + 1) (by omega)
    have e8 := dgI_rng hd (i := i) (by omega)
    have e9 : (sumK d (i + 1) : Int) = sumK d i + (15 - atI (dgI d) i) := by
      have := dgt_lt hd (i := i) (by omega)
      rw [sumK, dgI_at]; omega
    simp (maxSteps := 1000000) (disch := first | omega | (simp; done) | (simp; omega)) [W_id, bys_app, bys_snoc, f_wots_Digits_l0, f_wots_Digits_r4, f_wots_Digits_r5, f_wots_Digits_r6, f_wots_Digits_r7, kT, kF, dT, dF, e1, e2, e3, hd_bys, hd_ints, bin_u8_shr, binOk_u8_shr, e4, splice_int1, e5, e6, e7, hll, hQ1]
    exact ⟨by omega, by omega, by omega, by omega, by omega, by omega, by omega, i + 1, by omega, by omega, ⟨e9.symm, by omega⟩, rfl⟩
  · have e : i = 32 := by omega
    subst e
    simp (maxSteps := 1000000) (disch := first | omega | (simp; done) | (simp; omega)) [W_id, bys_app, bys_snoc, f_wots_Digits_l0, f_wots_Digits_r4, kT, kF, dT, dF, hQ1, hQ0, f_wots_Digits_r8, f_wots_Digits_r9, lay3_0 hl, sumK_all hd]
    refine awp_name fun Q2 hQ2 => ?_
    refine awp_for (fun j : Nat => ⟨[(0, .agg (bys d))], [(3, .bp 3 0), (4, i64 (sumD d / 16 ^ j : Nat)), (6, i64 (34 - (j : Int)))], [(1, some (bys d)), (3, some (ints (lay3 (dgI d) j)))]⟩) (fun j => 3 - j) (· ≤ 3) 0 (by simp) (by decide) fun j hj => ?_
    refine awp_name fun Q3 hQ3 => ?_
    have hll := lay3_len hl hj
    have hs := sumD_le d
    by_cases h : j < 3
    · have e4 := chk_step hd h
      have e5 := lay3_set hl h
      have e6 : sumD d / 16 ^ (j + 1) = sumD d / 16 ^ j / 16 := by rw [Nat.pow_succ, Nat.div_div_eq_div_mul]
      have hle : sumD d / 16 ^ j ≤ sumD d := Nat.div_le_self _ _
      generalize sumD d / 16 ^ j = s at *
      have e7 : (s : Int).tdiv 16 = ((s / 16 : Nat) : Int) := by rw [Int.tdiv_eq_ediv_of_nonneg (by omega)]; rfl
      have e8 : ((34 : Int) - j).toNat = 34 - j := by omega
      have hg : (32 : Int) ≤ 34 - j := by omega
      simp (maxSteps := 1000000) (disch := first | omega | (simp; done) | (simp; omega)) [W_id, bys_app, bys_snoc, f_wots_Digits_l1, f_wots_Digits_r10, f_wots_Digits_r11, kT, kF, dT, dF, hg, e4, e7, e8, splice_int1, e5, hll, hQ3]
      refine ⟨⟨by omega, by omega⟩, j + 1, by omega, by omega, ⟨?_, by omega⟩, rfl⟩
      have := congrArg (fun n : Nat => (n : Int)) e6
      simpa using this.symm
    · have e : j = 3 := by omega
      subst e
      simp (maxSteps := 1000000) (disch := first | omega | (simp; done) | (simp; omega)) [W_id, bys_app, bys_snoc, f_wots_Digits_l1, f_wots_Digits_r10, kT, kF, dT, dF, hQ3, hQ2, f_wots_Digits_r12, lay3_3, hl]
      rw [List.take_of_length_le (by omega)]
def mI (l : List Nat) : List Int := l.map Int.ofNat
theorem mI_len (l : List Nat) : (mI l).length = l.length := by simp [mI]
theorem dgI_mI (d : List UInt8) : dgI d = mI (msgD d) ++ [((sumD d / 256 : Nat) : Int), ((sumD d / 16 % 16 : Nat) : Int), ((sumD d % 16 : Nat) : Int)] := by
  rw [dgI, dgt, List.map_append]; rfl
set_option maxHeartbeats 4000000 in
theorem rdigits_ok (E : Env) : ∀ ds, digRC.pre ds → ds.length = f_custodyref09_Digits.n ∧ awp E f_custodyref09_Digits.body (retQ f_custodyref09_Digits.res (digRC.post ds)) (initSt f_custodyref09_Digits.wr ds) := by
  rintro _ ⟨d, hd, rfl⟩
  rw [digR_post]
  simp (maxSteps := 1000000) (disch := first | omega | (simp; done) | (simp; omega)) [W_id, bys_app, bys_snoc, f_custodyref09_Digits, f_custodyref09_Digits_r0, f_custodyref09_Digits_r1, f_custodyref09_Digits_r2, hd]
  refine awp_name fun Q0 hQ0 => ?_
  simp (maxSteps := 1000000) (disch := first | omega | (simp; done) | (simp; omega)) [W_id, bys_app, bys_snoc, f_custodyref09_Digits_r3]
  refine awp_for (fun i : Nat => ⟨[(0, .agg (bys d))], [(1, .bp 1 0), (3, .sl (.own 1) none (2 * i) (ints (mI (msgD (d.take i))))), (4, i64 (sumD (d.take i))), (5, i64 i)], [(1, some (bys d))]⟩) (fun i => 16 - i) (· ≤ 16) 0 (by simp [msgD, sumD, mI]) (by decide) fun i hi => ?_
  refine awp_name fun Q1 hQ1 => ?_
  have hm := mI_len (msgD (d.take i))
  have hml := msgD_len (d.take i)
  have hs := sumD_le (d.take i)
  have htl : (d.take i).length = i := by simp; omega
  by_cases h : i < 16
  · have e5 := msgD_take (d := d) (i := i) (by omega)
    have e6 := sumD_take (d := d) (i := i) (by omega)
    obtain ⟨x, hx⟩ : ∃ x, x = at8 d i := ⟨_, rfl⟩
    rw [← hx] at e5 e6
    have hx' := x.toNat_lt
    have e1 : (x.toNat : Int).tdiv 16 = ((x.toNat / 16 : Nat) : Int) := by rw [Int.tdiv_eq_ediv_of_nonneg (by omega)]; rfl
    have e2 : (x.toNat : Int).tmod 16 = ((x.toNat % 16 : Nat) : Int) := by rw [Int.tmod_eq_emod_of_nonneg (by omega)]; rfl
    have e7 : mI (msgD (d.take (i + 1))) = mI (msgD (d.take i)) ++ [((x.toNat / 16 : Nat) : Int), ((x.toNat % 16 : Nat) : Int)] := by rw [e5]; simp [mI]
    generalize hhi : x.toNat / 16 = hi' at *
    generalize hlo : x.toNat % 16 = lo at *
    have e8 : ∀ L : List Int, ints L ++ [i64 (hi' : Int), i64 (lo : Int)] = ints (L ++ [(hi' : Int), (lo : Int)]) := fun L => by simp [ints]
    simp (maxSteps := 1000000) (disch := first | omega | (simp; done) | (simp; omega)) [W_id, bys_app, bys_snoc, f_custodyref09_Digits_l0, f_custodyref09_Digits_r4, f_custodyref09_Digits_r5, f_custodyref09_Digits_r6, f_custodyref09_Digits_r7, f_custodyref09_Digits_r8, kT, kF, dT, dF, e1, e2, hd_bys, ← hx, e8, hQ1]
    refine ⟨by omega, by omega, by omega, by omega, ⟨by omega, by omega⟩, i + 1, by omega, by omega, ⟨by omega, by rw [e7]⟩, by rw [e6]; omega, by omega⟩
  · have e : i = 16 := by omega
    subst e
    have hall : d.take 16 = d := take_l16 hd
    have hs' := sumD_le d
    have f1 : (sumD d : Int).tdiv 256 = ((sumD d / 256 : Nat) : Int) := by rw [Int.tdiv_eq_ediv_of_nonneg (by omega)]; rfl
    have f2 : (sumD d : Int).tdiv 16 = ((sumD d / 16 : Nat) : Int) := by rw [Int.tdiv_eq_ediv_of_nonneg (by omega)]; rfl
    have f3 : ((sumD d / 16 : Nat) : Int).tmod 16 = ((sumD d / 16 % 16 : Nat) : Int) := by rw [Int.tmod_eq_emod_of_nonneg (by omega)]; rfl
    have f4 : (sumD d : Int).tmod 16 = ((sumD d % 16 : Nat) : Int) := by rw [Int.tmod_eq_emod_of_nonneg (by omega)]; rfl
    have f5 := dgI_mI d
    generalize hA : sumD d / 256 = A at *
    generalize hB : sumD d / 16 = B at *
    generalize hC : B % 16 = C at *
    generalize hD : sumD d % 16 = D at *
    have w1 : W (A : Int) = A := W_id (by omega) (by omega)
    have w2 : W (B : Int) = B := W_id (by omega) (by omega)
    have e8 : ∀ L : List Int, ints L ++ [i64 (A : Int), i64 (C : Int), i64 (D : Int)] = ints (L ++ [(A : Int), (C : Int), (D : Int)]) := fun L => by simp [ints]
    simp (maxSteps := 1000000) (disch := first | omega | (simp; done) | (simp; omega)) [W_id, bys_app, bys_snoc, f_custodyref09_Digits_l0, f_custodyref09_Digits_r4, kT, kF, dT, dF, hQ1, hQ0, f_custodyref09_Digits_r9, hall, f1, f2, f3, f4, w1, w2, e8, ← f5]
end Go.Abs
end

section
namespace Go.Abs
theorem pub1_ok (E : Env) (h113 : E.G 113 = strtC) (h111 : E.G 111 = advC) : ∀ ds, pub1C.pre ds → ds.length = f_wots_Public_1.n ∧ awp E f_wots_Public_1.body (retQ f_wots_Public_1.res (pub1C.post ds)) (initSt f_wots_Public_1.wr ds) := by
  rintro _ ⟨k, s, hk, hs, rfl⟩
  rw [pub1_post]
  have hv := pubV_len s k
  have h1 : isI64 (k : Int) := ⟨by omega, by omega⟩
  have h2 : isI64 0 := ⟨by decide, by decide⟩
  have h3 : isI64 15 := ⟨by decide, by decide⟩
  have h4 := adv_len (strt_len s k) k 0 15
  simp (maxSteps := 1000000) (disch := first | omega | (simp; done) | (simp; omega)) [W_id, bys_app, bys_snoc, f_wots_Public_1, f_wots_Public_1_r0, h113, strt_pre, h111, adv_pre, h1, h2, h3, splice_bys0, pubV, take_l16]
  exact ⟨h4, by omega⟩
theorem sig1_ok (E : Env) (h113 : E.G 113 = strtC) (h111 : E.G 111 = advC) : ∀ ds, sig1C.pre ds → ds.length = f_wots_Sign_1.n ∧ awp E f_wots_Sign_1.body (retQ f_wots_Sign_1.res (sig1C.post ds)) (initSt f_wots_Sign_1.wr ds) := by
  rintro _ ⟨k, d, s, nl, hk, hs, hd, rfl⟩
  rw [sig1_post]
  have hl := dgI_len hd
  have hr := dgI_rng hd hk
  have h1 : isI64 (k : Int) := ⟨by omega, by omega⟩
  have h2 : isI64 0 := ⟨by decide, by decide⟩
  have h3 : isI64 (atI (dgI d) k) := ⟨by omega, by omega⟩
  have h4 := adv_len (strt_len s k) k 0 (atI (dgI d) k)
  simp (maxSteps := 1000000) (disch := first | omega | (simp; done) | (simp; omega)) [W_id, bys_app, bys_snoc, f_wots_Sign_1, f_wots_Sign_1_r0, hd_ints, h113, strt_pre, h111, adv_pre, h1, h2, h3, splice_bys0, sigV, take_l16]
  omega
theorem rec1_ok (E : Env) (h111 : E.G 111 = advC) : ∀ ds, rec1C.pre ds → ds.length = f_wots_Recover_1.n ∧ awp E f_wots_Recover_1.body (retQ f_wots_Recover_1.res (rec1C.post ds)) (initSt f_wots_Recover_1.wr ds) := by
  rintro _ ⟨k, d, s, nl, hk, hs, hd, rfl⟩
  rw [rec1_post]
  have hl := dgI_len hd
  have hr := dgI_rng hd hk
  have h1 : isI64 (k : Int) := ⟨by omega, by omega⟩
  have h2 : isI64 15 := ⟨by decide, by decide⟩
  have h3 : isI64 (atI (dgI d) k) := ⟨by omega, by omega⟩
  have hp : ((s.drop (16 * k)).take 16).length = 16 := by simp; omega
  have h4 := adv_len hp k (atI (dgI d) k) 15
  have e1 : ((k : Int) * 16).toNat = 16 * k := by omega
  have e2 : (((k : Int) + 1) * 16).toNat = 16 * k + 16 := by omega
  simp (maxSteps := 1000000) (disch := first | omega | (simp; done) | (simp; omega)) [W_id, bys_app, bys_snoc, f_wots_Recover_1, f_wots_Recover_1_r0, f_wots_Recover_1_r1, hd_ints, h111, adv_pre, h1, h2, h3, splice_bys0, endV, take_l16, e1, e2, hp, Nat.add_sub_cancel_left]
  exact ⟨⟨⟨by omega, by omega⟩, by omega, by omega⟩, by omega, by omega, h4, by omega⟩
set_option maxHeartbeats 4000000 in
theorem joinP_ok (E : Env) (h98 : E.G 98 = pub1C) : ∀ ds, joinPC.pre ds → ds.length = f_wots_join_wots_Public_1.n ∧ awp E f_wots_join_wots_Public_1.body (retQ f_wots_join_wots_Public_1.res (joinPC.post ds)) (initSt f_wots_join_wots_Public_1.wr ds) := by
  rintro _ ⟨s, hs, rfl⟩
  rw [joinP_post]
  simp (maxSteps := 1000000) (disch := first | omega | (simp; done) | (simp; omega)) [W_id, bys_app, bys_snoc, f_wots_join_wots_Public_1, f_wots_join_wots_Public_1_r0, f_wots_join_wots_Public_1_r1]
  refine awp_name fun Q0 hQ0 => ?_
  simp (maxSteps := 1000000) (disch := first | omega | (simp; done) | (simp; omega)) [W_id, bys_app, bys_snoc, f_wots_join_wots_Public_1_r2]
  refine awp_for (fun p : Nat × Option Bool => ⟨[(0, .fn 98 [] [.ep [st s]])], [(3, .bp 1000003 0), (6, i64 p.1)], [(1000003, some [.undef, .sl (.own 1) p.2 (16 * p.1) (bys (catN (pubV s) p.1))])]⟩) (fun p => 35 - p.1) (fun p => p.1 ≤ 35) (0, some true) rfl (by decide) fun p hp => ?_
  obtain ⟨i, nl⟩ := p
  simp only at hp
  refine awp_name fun Q1 hQ1 => ?_
  have hV : ∀ k, k < 35 → ((pubV s) k).length = 16 := fun k _ => pubV_len s k
  have hl := catN_len (f := (pubV s)) i (fun k hk => hV k (by omega))
  by_cases h : i < 35
  · have hv := hV i h
    have e1 : catN (pubV s) (i + 1) = catN (pubV s) i ++ (pubV s) i := rfl
    have h16 : (bys ((pubV s) i)).take 16 = bys ((pubV s) i) := by rw [bys_take, take_l16 hv]
    simp (maxSteps := 1000000) (disch := first | omega | (simp; done) | (simp; omega)) [W_id, bys_app, bys_snoc, f_wots_join_wots_Public_1_l0, f_wots_join_wots_Public_1_r3, f_wots_join_wots_Public_1_r4, f_wots_join_wots_Public_1_r5, kT, kF, dT, dF, h98, pub1_pre, hs, hv, h16, splice_bys0, bldOk2, hl, hQ1, take_l16]
    exact ⟨of_eq_true (bldOk2 hl.symm (by decide) ⟨_, rfl, by simp [hv]⟩ (by decide) rfl (by omega)), i + 1, by omega, by omega, by omega, by omega, rfl⟩
  · have e : i = 35 := by omega
    subst e
    have hne : catN (pubV s) 35 ≠ [] := fun e => by rw [e] at hl; simp at hl
    simp (maxSteps := 1000000) (disch := first | omega | (simp; done) | (simp; omega)) [W_id, bys_app, bys_snoc, f_wots_join_wots_Public_1_l0, f_wots_join_wots_Public_1_r3, kT, kF, dT, dF, hQ1, hQ0, f_wots_join_wots_Public_1_r6, bldOk3, hl, hne, pubS, sigS, endS]
set_option maxHeartbeats 4000000 in
theorem joinS_ok (E : Env) (h104 : E.G 104 = sig1C) : ∀ ds, joinSC.pre ds → ds.length = f_wots_join_wots_Sign_1.n ∧ awp E f_wots_join_wots_Sign_1.body (retQ f_wots_join_wots_Sign_1.res (joinSC.post ds)) (initSt f_wots_join_wots_Sign_1.wr ds) := by
  rintro _ ⟨d, s, nl, hs, hd, rfl⟩
  rw [joinS_post]
  simp (maxSteps := 1000000) (disch := first | omega | (simp; done) | (simp; omega)) [W_id, bys_app, bys_snoc, f_wots_join_wots_Sign_1, f_wots_join_wots_Sign_1_r0, f_wots_join_wots_Sign_1_r1]
  refine awp_name fun Q0 hQ0 => ?_
  simp (maxSteps := 1000000) (disch := first | omega | (simp; done) | (simp; omega)) [W_id, bys_app, bys_snoc, f_wots_join_wots_Sign_1_r2]
  refine awp_for (fun p : Nat × Option Bool => ⟨[(0, .fn 104 [] [.ep [.sl .plain nl 35 (ints (dgI d))], .ep [st s]])], [(3, .bp 1000003 0), (6, i64 p.1)], [(1000003, some [.undef, .sl (.own 1) p.2 (16 * p.1) (bys (catN (sigV s (dgI d)) p.1))])]⟩) (fun p => 35 - p.1) (fun p => p.1 ≤ 35) (0, some true) rfl (by decide) fun p hp => ?_
  obtain ⟨i, nb⟩ := p
  simp only at hp
  refine awp_name fun Q1 hQ1 => ?_
  have hV : ∀ k, k < 35 → ((sigV s (dgI d)) k).length = 16 := fun k _ => sigV_len s _ k
  have hl := catN_len (f := (sigV s (dgI d))) i (fun k hk => hV k (by omega))
  by_cases h : i < 35
  · have hv := hV i h
    have e1 : catN (sigV s (dgI d)) (i + 1) = catN (sigV s (dgI d)) i ++ (sigV s (dgI d)) i := rfl
    have h16 : (bys ((sigV s (dgI d)) i)).take 16 = bys ((sigV s (dgI d)) i) := by rw [bys_take, take_l16 hv]
    simp (maxSteps := 1000000) (disch := first | omega | (simp; done) | (simp; omega)) [W_id, bys_app, bys_snoc, f_wots_join_wots_Sign_1_l0, f_wots_join_wots_Sign_1_r3, f_wots_join_wots_Sign_1_r4, f_wots_join_wots_Sign_1_r5, kT, kF, dT, dF, h104, sig1_pre, hs, hv, h16, splice_bys0, bldOk2, hl, hQ1, take_l16]
    exact ⟨of_eq_true (bldOk2 hl.symm (by decide) ⟨_, rfl, by simp [hv]⟩ (by decide) rfl (by omega)), i + 1, by omega, by omega, by omega, by omega, rfl⟩
  · have e : i = 35 := by omega
    subst e
    have hne : catN (sigV s (dgI d)) 35 ≠ [] := fun e => by rw [e] at hl; simp at hl
    simp (maxSteps := 1000000) (disch := first | omega | (simp; done) | (simp; omega)) [W_id, bys_app, bys_snoc, f_wots_join_wots_Sign_1_l0, f_wots_join_wots_Sign_1_r3, kT, kF, dT, dF, hQ1, hQ0, f_wots_join_wots_Sign_1_r6, bldOk3, hl, hne, pubS, sigS, endS]
set_option maxHeartbeats 4000000 in
theorem joinR_ok (E : Env) (h91 : E.G 91 = rec1C) : ∀ ds, joinRC.pre ds → ds.length = f_wots_join_wots_Recover_1.n ∧ awp E f_wots_join_wots_Recover_1.body (retQ f_wots_join_wots_Recover_1.res (joinRC.post ds)) (initSt f_wots_join_wots_Recover_1.wr ds) := by
  rintro _ ⟨d, s, nl, hs, hd, rfl⟩
  rw [joinR_post]
  simp (maxSteps := 1000000) (disch := first | omega | (simp; done) | (simp; omega)) [W_id, bys_app, bys_snoc, f_wots_join_wots_Recover_1, f_wots_join_wots_Recover_1_r0, f_wots_join_wots_Recover_1_r1]
  refine awp_name fun Q0 hQ0 => ?_
  simp (maxSteps := 1000000) (disch := first | omega | (simp; done) | (simp; omega)) [W_id, bys_app, bys_snoc, f_wots_join_wots_Recover_1_r2]
  refine awp_for (fun p : Nat × Option Bool => ⟨[(0, .fn 91 [] [.ep [st s], .ep [.sl .plain nl 35 (ints (dgI d))]])], [(3, .bp 1000003 0), (6, i64 p.1)], [(1000003, some [.undef, .sl (.own 1) p.2 (16 * p.1) (bys (catN (endV (dgI d) s) p.1))])]⟩) (fun p => 35 - p.1) (fun p => p.1 ≤ 35) (0, some true) rfl (by decide) fun p hp => ?_
  obtain ⟨i, nb⟩ := p
  simp only at hp
  refine awp_name fun Q1 hQ1 => ?_
  have hV : ∀ k, k < 35 → ((endV (dgI d) s) k).length = 16 := fun k hk => endV_len _ hs hk
  have hl := catN_len (f := (endV (dgI d) s)) i (fun k hk => hV k (by omega))
  by_cases h : i < 35
  · have hv := hV i h
    have e1 : catN (endV (dgI d) s) (i + 1) = catN (endV (dgI d) s) i ++ (endV (dgI d) s) i := rfl
    have h16 : (bys ((endV (dgI d) s) i)).take 16 = bys ((endV (dgI d) s) i) := by rw [bys_take, take_l16 hv]
    simp (maxSteps := 1000000) (disch := first | omega | (simp; done) | (simp; omega)) [W_id, bys_app, bys_snoc, f_wots_join_wots_Recover_1_l0, f_wots_join_wots_Recover_1_r3, f_wots_join_wots_Recover_1_r4, f_wots_join_wots_Recover_1_r5, kT, kF, dT, dF, h91, rec1_pre, hs, hv, h16, splice_bys0, bldOk2, hl, hQ1, take_l16]
    exact ⟨of_eq_true (bldOk2 hl.symm (by decide) ⟨_, rfl, by simp [hv]⟩ (by decide) rfl (by omega)), i + 1, by omega, by omega, by omega, by omega, rfl⟩
  · have e : i = 35 := by omega
    subst e
    have hne : catN (endV (dgI d) s) 35 ≠ [] := fun e => by rw [e] at hl; simp at hl
    simp (maxSteps := 1000000) (disch := first | omega | (simp; done) | (simp; omega)) [W_id, bys_app, bys_snoc, f_wots_join_wots_Recover_1_l0, f_wots_join_wots_Recover_1_r3, kT, kF, dT, dF, hQ1, hQ0, f_wots_join_wots_Recover_1_r6, bldOk3, hl, hne, pubS, sigS, endS]
end Go.Abs
end

section
namespace Go.Abs
theorem pub_ok (E : Env) (h99 : E.G 99 = joinPC) (h8 : E.G 8 = ofC) : ∀ ds, pubC.pre ds → ds.length = f_wots_Public.n ∧ awp E f_wots_Public.body (retQ f_wots_Public.res (pubC.post ds)) (initSt f_wots_Public.wr ds) := by
  rintro _ ⟨s, hs, rfl⟩
  rw [pub_post]
  have hp := pubS_len s
  simp (maxSteps := 1000000) (disch := first | omega | (simp; done) | (simp; omega)) [W_id, bys_app, bys_snoc, f_wots_Public, f_wots_Public_r0, h99, joinP_pre, h8, of_pre1, okArg_fn, okArg1, toArg1, splice_bys0, pubD, take_l16, digOf_len]
theorem sig_ok (E : Env) (h90 : E.G 90 = digPC) (h105 : E.G 105 = joinSC) : ∀ ds, sigC.pre ds → ds.length = f_wots_Sign.n ∧ awp E f_wots_Sign.body (retQ f_wots_Sign.res (sigC.post ds)) (initSt f_wots_Sign.wr ds) := by
  rintro _ ⟨s, d, hs, hd, rfl⟩
  rw [sig_post]
  have hp := sigS_len s d
  simp (maxSteps := 1000000) (disch := first | omega | (simp; done) | (simp; omega)) [W_id, bys_app, bys_snoc, f_wots_Sign, f_wots_Sign_r0, f_wots_Sign_r1, h90, digP_pre, h105, joinS_pre, take_l16, okArg_fn, okArg1, toArg1, hd]
theorem rec_ok (E : Env) (h90 : E.G 90 = digPC) (h92 : E.G 92 = joinRC) (h8 : E.G 8 = ofC) : ∀ ds, recC.pre ds → ds.length = f_wots_Recover.n ∧ awp E f_wots_Recover.body (retQ f_wots_Recover.res (recC.post ds)) (initSt f_wots_Recover.wr ds) := by
  rintro _ ⟨d, s, hd, rfl⟩
  rw [rec_post]
  by_cases h : s.length = 560
  · have hp := endS_len d h
    simp (maxSteps := 1000000) (disch := first | omega | (simp; done) | (simp; omega)) [W_id, bys_app, bys_snoc, f_wots_Recover, f_wots_Recover_r0, f_wots_Recover_r1, f_wots_Recover_r2, f_wots_Recover_r3, h, kT, kF, dT, dF, h90, digP_pre, h92, joinR_pre, h8, of_pre1, okArg_fn, okArg1, toArg1, splice_bys0, recD, recE, take_l16, digOf_len, hd]
  · have h' : ¬ ((s.length : Int) = 560) := by omega
    simp (maxSteps := 1000000) (disch := first | omega | (simp; done) | (simp; omega)) [W_id, bys_app, bys_snoc, f_wots_Recover, f_wots_Recover_r0, f_wots_Recover_r1, h, h', kT, kF, dT, dF, splice_bys0, recD, recE, take_l16, hd]
theorem ver_ok (E : Env) (h93 : E.G 93 = recC) : ∀ ds, verC.pre ds → ds.length = f_wots_Verify.n ∧ awp E f_wots_Verify.body (retQ f_wots_Verify.res (verC.post ds)) (initSt f_wots_Verify.wr ds) := by
  rintro _ ⟨p, d, s, hp, hd, rfl⟩
  rw [ver_post]
  have hr := recD_len d s
  by_cases h : s.length = 560
  · simp (maxSteps := 1000000) (disch := first | omega | (simp; done) | (simp; omega)) [W_id, bys_app, bys_snoc, f_wots_Verify, f_wots_Verify_r0, f_wots_Verify_r1, h, kT, kF, dT, dF, h93, rec_pre, splice_bys0, verB, recE, take_l16, eqCells_ks8, hp, hd]
  · simp (maxSteps := 1000000) (disch := first | omega | (simp; done) | (simp; omega)) [W_id, bys_app, bys_snoc, f_wots_Verify, f_wots_Verify_r0, f_wots_Verify_r1, h, kT, kF, dT, dF, h93, rec_pre, splice_bys0, verB, recE, take_l16, eqCells_ks8, hp, hd]
theorem rver_ok (E : Env) (h95 : E.G 95 = recC) : ∀ ds, verC.pre ds → ds.length = f_custodyref09_Verify.n ∧ awp E f_custodyref09_Verify.body (retQ f_custodyref09_Verify.res (verC.post ds)) (initSt f_custodyref09_Verify.wr ds) := by
  rintro _ ⟨p, d, s, hp, hd, rfl⟩
  rw [ver_post]
  have hr := recD_len d s
  by_cases h : s.length = 560
  · simp (maxSteps := 1000000) (disch := first | omega | (simp; done) | (simp; omega)) [W_id, bys_app, bys_snoc, f_custodyref09_Verify, f_custodyref09_Verify_r0, f_custodyref09_Verify_r1, h, kT, kF, dT, dF, h95, rec_pre, splice_bys0, verB, recE, take_l16, eqCells_ks8, hp, hd]
  · simp (maxSteps := 1000000) (disch := first | omega | (simp; done) | (simp; omega)) [W_id, bys_app, bys_snoc, f_custodyref09_Verify, f_custodyref09_Verify_r0, f_custodyref09_Verify_r1, h, kT, kF, dT, dF, h95, rec_pre, splice_bys0, verB, recE, take_l16, eqCells_ks8, hp, hd]
theorem rrec_ok (E : Env) (h94 : E.G 94 = endsC) (h20 : E.G 20 = rofC) : ∀ ds, recC.pre ds → ds.length = f_custodyref09_Recover.n ∧ awp E f_custodyref09_Recover.body (retQ f_custodyref09_Recover.res (recC.post ds)) (initSt f_custodyref09_Recover.wr ds) := by
  rintro _ ⟨d, s, hd, rfl⟩
  rw [rec_post]
  by_cases h : s.length = 560
  · have hp := endS_len d h
    simp (maxSteps := 1000000) (disch := first | omega | (simp; done) | (simp; omega)) [W_id, bys_app, bys_snoc, f_custodyref09_Recover, f_custodyref09_Recover_r0, f_custodyref09_Recover_r1, f_custodyref09_Recover_r2, h, kT, kF, dT, dF, h94, ends_pre, h20, rof_pre1, okArg_fn, okArg1, toArg1, splice_bys0, recD, recE, take_l16, digOf_len, hd]
  · have h' : ¬ ((s.length : Int) = 560) := by omega
    simp (maxSteps := 1000000) (disch := first | omega | (simp; done) | (simp; omega)) [W_id, bys_app, bys_snoc, f_custodyref09_Recover, f_custodyref09_Recover_r0, f_custodyref09_Recover_r1, h, h', kT, kF, dT, dF, splice_bys0, recD, recE, take_l16, hd]
set_option maxHeartbeats 4000000 in
theorem rpub_ok (E : Env) (h101 : E.G 101 = strtC) (h102 : E.G 102 = advC) (h23 : E.G 23 = text16C) (h20 : E.G 20 = rofC) : ∀ ds, pubC.pre ds → ds.length = f_custodyref09_Public.n ∧ awp E f_custodyref09_Public.body (retQ f_custodyref09_Public.res (pubC.post ds)) (initSt f_custodyref09_Public.wr ds) := by
  rintro _ ⟨s, hs, rfl⟩
  rw [pub_post]
  simp (maxSteps := 1000000) (disch := first | omega | (simp; done) | (simp; omega)) [W_id, bys_app, bys_snoc, f_custodyref09_Public, f_custodyref09_Public_r0, f_custodyref09_Public_r1]
  refine awp_name fun Q0 hQ0 => ?_
  simp (maxSteps := 1000000) (disch := first | omega | (simp; done) | (simp; omega)) [W_id, bys_app, bys_snoc, f_custodyref09_Public_r2]
  refine awp_for (fun i : Nat => ⟨[(0, st s)], [(2, .bp 2 0), (3, st (catN (pubV s) i)), (4, i64 i)], [(2, some (bys (zeros 16)))]⟩) (fun i => 35 - i) (· ≤ 35) 0 rfl (by decide) fun i hi => ?_
  refine awp_name fun Q1 hQ1 => ?_
  have hl := catN_len (f := pubV s) i (fun k _ => pubV_len s k)
  by_cases h : i < 35
  · have hv := pubV_len s i
    have e1 : catN (pubV s) i ++ adv i 0 15 (strt s i) = catN (pubV s) (i + 1) := rfl
    have h1 : isI64 (i : Int) := ⟨by omega, by omega⟩
    have h2 : isI64 0 := ⟨by decide, by decide⟩
    have h3 : isI64 15 := ⟨by decide, by decide⟩
    have h4 := adv_len (strt_len s i) i 0 15
    simp (maxSteps := 1000000) (disch := first | omega | (simp; done) | (simp; omega)) [W_id, bys_app, bys_snoc, f_custodyref09_Public_l0, f_custodyref09_Public_r3, f_custodyref09_Public_r4, kT, kF, dT, dF, h101, strt_pre, h102, adv_pre, h1, h2, h3, h23, text16_pre, h4, e1, hQ1]
    first | exact ⟨i + 1, by omega, by omega, rfl, by omega⟩ | exact ⟨by omega, i + 1, by omega, by omega, rfl, by omega⟩ | exact ⟨by omega, by omega, i + 1, by omega, by omega, rfl, by omega⟩ | exact ⟨by omega, by omega, by omega, i + 1, by omega, by omega, rfl, by omega⟩ | exact ⟨by omega, by omega, by omega, by omega, i + 1, by omega, by omega, rfl, by omega⟩ | exact ⟨by omega, by omega, by omega, by omega, by omega, i + 1, by omega, by omega, rfl, by omega⟩ | exact ⟨by omega, by omega, by omega, by omega, by omega, by omega, i + 1, by omega, by omega, rfl, by omega⟩
  · have e : i = 35 := by omega
    subst e
    simp (maxSteps := 1000000) (disch := first | omega | (simp; done) | (simp; omega)) [W_id, bys_app, bys_snoc, f_custodyref09_Public_l0, f_custodyref09_Public_r3, kT, kF, dT, dF, hQ1, hQ0, f_custodyref09_Public_r5, hl, h20, rof_pre1, splice_bys0, pubD, pubS, take_l16, digOf_len]
set_option maxHeartbeats 4000000 in
theorem rsig_ok (E : Env) (h97 : E.G 97 = digRC) (h101 : E.G 101 = strtC) (h102 : E.G 102 = advC) (h23 : E.G 23 = text16C) : ∀ ds, sigC.pre ds → ds.length = f_custodyref09_Sign.n ∧ awp E f_custodyref09_Sign.body (retQ f_custodyref09_Sign.res (sigC.post ds)) (initSt f_custodyref09_Sign.wr ds) := by
  rintro _ ⟨s, d, hs, hd, rfl⟩
  rw [sig_post]
  have hdl := dgI_len hd
  simp (maxSteps := 1000000) (disch := first | omega | (simp; done) | (simp; omega)) [W_id, bys_app, bys_snoc, f_custodyref09_Sign, f_custodyref09_Sign_r0, f_custodyref09_Sign_r1, f_custodyref09_Sign_r2, h97, digR_pre, hd, take_l16]
  refine awp_name fun Q0 hQ0 => ?_
  simp (maxSteps := 1000000) (disch := first | omega | (simp; done) | (simp; omega)) [W_id, bys_app, bys_snoc, f_custodyref09_Sign_r3]
  refine awp_for (fun i : Nat => ⟨[(0, st s), (1, .agg (bys d))], [(5, .sl (.own 1) none 35 (ints (dgI d))), (6, st (catN (sigV s (dgI d)) i)), (7, i64 i)], [(3, some (bys d))]⟩) (fun i => 35 - i) (· ≤ 35) 0 rfl (by decide) fun i hi => ?_
  refine awp_name fun Q1 hQ1 => ?_
  have hl := catN_len (f := sigV s (dgI d)) i (fun k _ => sigV_len s _ k)
  by_cases h : i < 35
  · have hr := dgI_rng hd h
    have e1 : catN (sigV s (dgI d)) i ++ adv i 0 (atI (dgI d) i) (strt s i) = catN (sigV s (dgI d)) (i + 1) := rfl
    have h1 : isI64 (i : Int) := ⟨by omega, by omega⟩
    have h2 : isI64 0 := ⟨by decide, by decide⟩
    have h3 : isI64 (atI (dgI d) i) := ⟨by omega, by omega⟩
    have h4 := adv_len (strt_len s i) i 0 (atI (dgI d) i)
    simp (maxSteps := 1000000) (disch := first | omega | (simp; done) | (simp; omega)) [W_id, bys_app, bys_snoc, f_custodyref09_Sign_l0, f_custodyref09_Sign_r4, f_custodyref09_Sign_r5, kT, kF, dT, dF, hd_ints, h101, strt_pre, h102, adv_pre, h1, h2, h3, h23, text16_pre, h4, e1, hQ1]
    first | exact ⟨i + 1, by omega, by omega, rfl, by omega⟩ | exact ⟨by omega, i + 1, by omega, by omega, rfl, by omega⟩ | exact ⟨by omega, by omega, i + 1, by omega, by omega, rfl, by omega⟩ | exact ⟨by omega, by omega, by omega, i + 1, by omega, by omega, rfl, by omega⟩ | exact ⟨by omega, by omega, by omega, by omega, i + 1, by omega, by omega, rfl, by omega⟩ | exact ⟨by omega, by omega, by omega, by omega, by omega, i + 1, by omega, by omega, rfl, by omega⟩ | exact ⟨by omega, by omega, by omega, by omega, by omega, by omega, i + 1, by omega, by omega, rfl, by omega⟩
  · have e : i = 35 := by omega
    subst e
    simp (maxSteps := 1000000) (disch := first | omega | (simp; done) | (simp; omega)) [W_id, bys_app, bys_snoc, f_custodyref09_Sign_l0, f_custodyref09_Sign_r4, kT, kF, dT, dF, hQ1, hQ0, f_custodyref09_Sign_r6, hl, sigS]
set_option maxHeartbeats 4000000 in
theorem ends_ok (E : Env) (h97 : E.G 97 = digRC) (h112 : E.G 112 = dig16C) (h102 : E.G 102 = advC) (h23 : E.G 23 = text16C) : ∀ ds, endsC.pre ds → ds.length = f_custodyref09_Ends.n ∧ awp E f_custodyref09_Ends.body (retQ f_custodyref09_Ends.res (endsC.post ds)) (initSt f_custodyref09_Ends.wr ds) := by
  rintro _ ⟨d, s, hs, hd, rfl⟩
  rw [ends_post]
  have hdl := dgI_len hd
  simp (maxSteps := 1000000) (disch := first | omega | (simp; done) | (simp; omega)) [W_id, bys_app, bys_snoc, f_custodyref09_Ends, f_custodyref09_Ends_r0, f_custodyref09_Ends_r1, f_custodyref09_Ends_r2, h97, digR_pre, hd, take_l16]
  refine awp_name fun Q0 hQ0 => ?_
  simp (maxSteps := 1000000) (disch := first | omega | (simp; done) | (simp; omega)) [W_id, bys_app, bys_snoc, f_custodyref09_Ends_r3]
  refine awp_for (fun i : Nat => ⟨[(0, .agg (bys d)), (1, st s)], [(5, .sl (.own 1) none 35 (ints (dgI d))), (6, st (catN (endV (dgI d) s) i)), (7, i64 i)], [(2, some (bys d))]⟩) (fun i => 35 - i) (· ≤ 35) 0 rfl (by decide) fun i hi => ?_
  refine awp_name fun Q1 hQ1 => ?_
  have hl := catN_len (f := endV (dgI d) s) i (fun k hk => endV_len _ hs (by omega))
  by_cases h : i < 35
  · have hr := dgI_rng hd h
    have hp : ((s.drop (16 * i)).take 16).length = 16 := by simp; omega
    have e0 : ((16 : Int) * i).toNat = 16 * i := by omega
    have e2 : ((s.drop (16 * i)).take (s.length - 16 * i)).take 16 = (s.drop (16 * i)).take 16 := by rw [List.take_of_length_le (l := s.drop (16 * i)) (by simp)]
    have e3 : 16 ≤ ((s.drop (16 * i)).take (s.length - 16 * i)).length := by simp; omega
    have e1 : catN (endV (dgI d) s) i ++ adv i (atI (dgI d) i) 15 ((s.drop (16 * i)).take 16) = catN (endV (dgI d) s) (i + 1) := rfl
    have h1 : isI64 (i : Int) := ⟨by omega, by omega⟩
    have h2 : isI64 15 := ⟨by decide, by decide⟩
    have h3 : isI64 (atI (dgI d) i) := ⟨by omega, by omega⟩
    have h4 := adv_len hp i (atI (dgI d) i) 15
    simp (maxSteps := 1000000) (disch := first | omega | (simp; done) | (simp; omega)) [W_id, bys_app, bys_snoc, f_custodyref09_Ends_l0, f_custodyref09_Ends_r4, f_custodyref09_Ends_r5, kT, kF, dT, dF, hd_ints, h112, dig16_pre, h102, adv_pre, h1, h2, h3, h23, text16_pre, h4, e0, e1, e2, e3, hQ1]
    first | exact ⟨i + 1, by omega, by omega, rfl, by omega⟩ | exact ⟨by omega, i + 1, by omega, by omega, rfl, by omega⟩ | exact ⟨by omega, by omega, i + 1, by omega, by omega, rfl, by omega⟩ | exact ⟨by omega, by omega, by omega, i + 1, by omega, by omega, rfl, by omega⟩ | exact ⟨by omega, by omega, by omega, by omega, i + 1, by omega, by omega, rfl, by omega⟩ | exact ⟨by omega, by omega, by omega, by omega, by omega, i + 1, by omega, by omega, rfl, by omega⟩ | exact ⟨by omega, by omega, by omega, by omega, by omega, by omega, i + 1, by omega, by omega, rfl, by omega⟩
  · have e : i = 35 := by omega
    subst e
    simp (maxSteps := 1000000) (disch := first | omega | (simp; done) | (simp; omega)) [W_id, bys_app, bys_snoc, f_custodyref09_Ends_l0, f_custodyref09_Ends_r4, kT, kF, dT, dF, hQ1, hQ0, f_custodyref09_Ends_r6, hl, endS]
end Go.Abs
end

section
namespace Go.Abs
theorem same9_ok (E : Env) : ∀ ds, sameIC.pre ds → ds.length = f_custodyref09_Same.n ∧ awp E f_custodyref09_Same.body (retQ f_custodyref09_Same.res (sameIC.post ds)) (initSt f_custodyref09_Same.wr ds) := by
  rintro _ ⟨nl, nl', a, b, ha, rfl⟩
  by_cases h : a.length = b.length
  rotate_left
  · have : (a == b) = false := by simpa using fun e : a = b => h (by rw [e])
    have h' : ¬ ((a.length : Int) = b.length) := by omega
    simp (maxSteps := 1000000) (disch := first | omega | (simp; done) | (simp; omega)) [W_id, bys_app, bys_snoc, f_custodyref09_Same, f_custodyref09_Same_r0, f_custodyref09_Same_r1, h', kT, kF, sameIC, this]
  have h' : ((a.length : Int) = b.length) := by omega
  simp (maxSteps := 1000000) (disch := first | omega | (simp; done) | (simp; omega)) [W_id, bys_app, bys_snoc, f_custodyref09_Same, f_custodyref09_Same_r0, f_custodyref09_Same_r1, f_custodyref09_Same_r2, h', kT, kF]
  refine awp_name fun Q0 hQ0 => ?_
  simp (maxSteps := 1000000) (disch := first | omega | (simp; done) | (simp; omega)) [W_id, bys_app, bys_snoc, f_custodyref09_Same_r3]
  refine awp_for (fun i : Nat => ⟨[(0, .sl .plain nl a.length (ints a)), (1, .sl .plain nl' b.length (ints b))], [(5, i64 i)], []⟩)
    (fun i => a.length - i) (fun i => i ≤ a.length ∧ a.take i = b.take i) 0 rfl (by simp) fun i hi => ?_
  obtain ⟨hi, he⟩ := hi
  refine awp_name fun Q1 hQ1 => ?_
  by_cases h1' : i < a.length
  · have h3 : i < b.length := by omega
    by_cases h2 : atI a i = atI b i
    · simp (maxSteps := 1000000) (disch := first | omega | (simp; done) | (simp; omega)) [W_id, bys_app, bys_snoc, f_custodyref09_Same_l0, f_custodyref09_Same_r4, f_custodyref09_Same_r5, f_custodyref09_Same_r6, kT, kF, dT, dF, hd_ints, h1', h2, hQ1]
      have h4 : a[i] = b[i] := by simpa [atI, List.getD, List.getElem?_eq_getElem h1', List.getElem?_eq_getElem h3] using h2
      exact ⟨by omega, by omega, by omega, i + 1, by omega, ⟨by omega, by rw [List.take_succ_eq_append_getElem h1', List.take_succ_eq_append_getElem h3, he, h4]⟩, by omega⟩
    · have : (a == b) = false := by simpa using fun e : a = b => h2 (by rw [e])
      simp (maxSteps := 1000000) (disch := first | omega | (simp; done) | (simp; omega)) [W_id, bys_app, bys_snoc, f_custodyref09_Same_l0, f_custodyref09_Same_r4, f_custodyref09_Same_r5, f_custodyref09_Same_r6, kT, kF, dT, dF, hd_ints, h1', h2, hQ1, hQ0, sameIC, this]
      omega
  · have e : i = a.length := by omega
    subst e
    have : (a == b) = true := by
      rw [List.take_length, h, List.take_length] at he
      simpa using he
    simp (maxSteps := 1000000) (disch := first | omega | (simp; done) | (simp; omega)) [W_id, bys_app, bys_snoc, f_custodyref09_Same_l0, f_custodyref09_Same_r4, kT, kF, dT, dF, hQ1, hQ0, f_custodyref09_Same_r7, sameIC, this]
end Go.Abs
end
