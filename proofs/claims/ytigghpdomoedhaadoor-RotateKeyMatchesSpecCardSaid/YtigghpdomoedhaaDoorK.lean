/- Lemmas: an abstract interpreter, and what the functions compute. -/
import Derived.Test.YtigghpdomoedhaaDoorE
set_option linter.unusedSimpArgs false
set_option linter.unusedVariables false
set_option linter.unusedSectionVars false
section
namespace Go.Abs
theorem der_ok (E : Env) (h6 : E.G 6 = macC) (h7 : E.G 7 = bytesC) : ∀ ds, derC.pre ds → ds.length = f_kdf_Derive.n ∧ awp E f_kdf_Derive.body (retQ f_kdf_Derive.res (derC.post ds)) (initSt f_kdf_Derive.wr ds) := by
  rintro _ ⟨k, l, nl, p, hk, hl, hp, rfl⟩
  rw [der_post]
  have h1 := encS_len (s := l) (by omega)
  have hpl := len_le_totS p
  simp (maxSteps := 1000000) (disch := first | omega | (simp; done) | (simp; omega)) [W_id, bys_app, bys_snoc, f_kdf_Derive, f_kdf_Derive_r0, f_kdf_Derive_r1, h7, bytes_pre]
  refine awp_name fun Q0 hQ0 => ?_
  simp (maxSteps := 1000000) (disch := first | omega | (simp; done) | (simp; omega)) [W_id, bys_app, bys_snoc, f_kdf_Derive_r2]
  refine awp_for (fun i : Nat => ⟨[(0, st k), (1, st l), (2, .sl .plain nl p.length (sts p))], [(7, .sl (.own 1) (some false) (inp l (p.take i)).length (bys (inp l (p.take i)))), (12, .sl .plain nl p.length (sts p)), (13, i64 p.length), (14, i64 i)], []⟩) (fun i => p.length - i) (· ≤ p.length) 0 (by simp [inp]) (by simp) fun i hi => ?_
  refine awp_name fun Q1 hQ1 => ?_
  simp (maxSteps := 1000000) (disch := first | omega | (simp; done) | (simp; omega)) [W_id, bys_app, bys_snoc, f_kdf_Derive_l0, f_kdf_Derive_r3]
  rw [awp_cond]
  refine ⟨by simp, fun h => ?_, fun h => ?_⟩ <;> simp at h
  · have h' : i < p.length := by omega
    have hs : inp l (p.take (i + 1)) = inp l (p.take i) ++ encS (atS p i) := by rw [inp, flatMap_take_succ p encS [] h', inp, List.append_assoc]; rfl
    have g0 := atS_mem_tot h'
    have g1 := encS_len (s := atS p i) (by omega)
    have g2 := totS_take' p i
    have g3 := inp_len (l := l) (p := p.take i) hl (by omega)
    generalize hF : inp l (p.take i) = F at *
    generalize hX : atS p i = x at *
    simp (maxSteps := 1000000) (disch := first | omega | (simp; done) | (simp; omega)) [W_id, bys_app, bys_snoc, f_kdf_Derive_r4, f_kdf_Derive_r5, hd_sts, hX, h7, bytes_pre, hQ1]
    refine ⟨by omega, by omega, by omega, i + 1, by omega, by omega, ⟨?_, hs.symm⟩, by simp⟩
    rw [hs, List.length_append]
  · have e : i = p.length := by omega
    subst e
    have g3 := inp_len (l := l) (p := p) hl (by omega)
    simp (maxSteps := 1000000) (disch := first | omega | (simp; done) | (simp; omega)) [W_id, bys_app, bys_snoc, hQ1, hQ0, f_kdf_Derive_r6, h6, mac_pre, drv]
theorem inp_ok (E : Env) (h29 : E.G 29 = rbytesC) : ∀ ds, inpC.pre ds → ds.length = f_custodyref05_Input.n ∧ awp E f_custodyref05_Input.body (retQ f_custodyref05_Input.res (inpC.post ds)) (initSt f_custodyref05_Input.wr ds) := by
  rintro _ ⟨l, nl, p, hl, hp, rfl⟩
  rw [inp_post]
  have h1 := encS_len (s := l) (by omega)
  have hpl := len_le_totS p
  simp (maxSteps := 1000000) (disch := first | omega | (simp; done) | (simp; omega)) [W_id, bys_app, bys_snoc, f_custodyref05_Input, f_custodyref05_Input_r0, f_custodyref05_Input_r1, h29, rbytes_pre]
  refine ⟨by omega, ?_⟩
  refine awp_name fun Q0 hQ0 => ?_
  simp (maxSteps := 1000000) (disch := first | omega | (simp; done) | (simp; omega)) [W_id, bys_app, bys_snoc, f_custodyref05_Input_r2]
  refine awp_for (fun i : Nat => ⟨[(0, st l), (1, .sl .plain nl p.length (sts p))], [(5, .sl (.own 1) (some false) (inp l (p.take i)).length (bys (inp l (p.take i)))), (6, i64 i)], []⟩) (fun i => p.length - i) (· ≤ p.length) 0 (by simp [inp]) (by simp) fun i hi => ?_
  refine awp_name fun Q1 hQ1 => ?_
  simp (maxSteps := 1000000) (disch := first | omega | (simp; done) | (simp; omega)) [W_id, bys_app, bys_snoc, f_custodyref05_Input_l0, f_custodyref05_Input_r3]
  rw [awp_cond]
  refine ⟨by simp, fun h => ?_, fun h => ?_⟩ <;> simp at h
  · have h' : i < p.length := by omega
    have hs : inp l (p.take (i + 1)) = inp l (p.take i) ++ encS (atS p i) := by rw [inp, flatMap_take_succ p encS [] h', inp, List.append_assoc]; rfl
    have g0 := atS_mem_tot h'
    have g1 := encS_len (s := atS p i) (by omega)
    have g2 := totS_take' p i
    have g3 := inp_len (l := l) (p := p.take i) hl (by omega)
    generalize hF : inp l (p.take i) = F at *
    generalize hX : atS p i = x at *
    simp (maxSteps := 1000000) (disch := first | omega | (simp; done) | (simp; omega)) [W_id, bys_app, bys_snoc, f_custodyref05_Input_r4, hd_sts, hX, h29, rbytes_pre, hQ1]
    refine ⟨by omega, by omega, by omega, i + 1, by omega, by omega, ⟨?_, hs.symm⟩, by simp⟩
    rw [hs, List.length_append]
  · have e : i = p.length := by omega
    subst e
    have g3 := inp_len (l := l) (p := p) hl (by omega)
    simp (maxSteps := 1000000) (disch := first | omega | (simp; done) | (simp; omega)) [W_id, bys_app, bys_snoc, hQ1, hQ0, f_custodyref05_Input_r5]
theorem rder_ok (E : Env) (h77 : E.G 77 = inpC) (h18 : E.G 18 = rmacC) : ∀ ds, derC.pre ds → ds.length = f_custodyref05_Derive.n ∧ awp E f_custodyref05_Derive.body (retQ f_custodyref05_Derive.res (derC.post ds)) (initSt f_custodyref05_Derive.wr ds) := by
  rintro _ ⟨k, l, nl, p, hk, hl, hp, rfl⟩
  rw [der_post]
  have g3 := inp_len (l := l) (p := p) hl (by omega)
  simp (maxSteps := 1000000) (disch := first | omega | (simp; done) | (simp; omega)) [W_id, bys_app, bys_snoc, f_custodyref05_Derive, f_custodyref05_Derive_r0, h77, inp_pre, h18, rmac_pre, drv]
theorem nxt_ok (E : Env) (h76 : E.G 76 = derC) : ∀ ds, nxtC.pre ds → ds.length = f_kdf_Random_Next.n ∧ awp E f_kdf_Random_Next.body (retQ f_kdf_Random_Next.res (nxtC.post ds)) (initSt f_kdf_Random_Next.wr ds) := by
  rintro _ ⟨s, hs, rfl⟩
  rw [nxt_post]
  simp (maxSteps := 1000000) (disch := first | omega | (simp; done) | (simp; omega)) [W_id, bys_app, bys_snoc, f_kdf_Random_Next, f_kdf_Random_Next_r0, h76, der_pre0, valL, seedL]
theorem rnxt_ok (E : Env) (h78 : E.G 78 = derC) : ∀ ds, nxtC.pre ds → ds.length = f_custodyref05_Random_Next.n ∧ awp E f_custodyref05_Random_Next.body (retQ f_custodyref05_Random_Next.res (nxtC.post ds)) (initSt f_custodyref05_Random_Next.wr ds) := by
  rintro _ ⟨s, hs, rfl⟩
  rw [nxt_post]
  simp (maxSteps := 1000000) (disch := first | omega | (simp; done) | (simp; omega)) [W_id, bys_app, bys_snoc, f_custodyref05_Random_Next, f_custodyref05_Random_Next_r0, h78, der_pre0, valL, seedL]
end Go.Abs
end
