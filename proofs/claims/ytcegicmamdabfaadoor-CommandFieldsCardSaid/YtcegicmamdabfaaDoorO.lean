/- Lemmas: an abstract interpreter, and what the functions compute. -/
import Derived.Test.YtcegicmamdabfaaDoorU
import Derived.Test.YtcegicmamdabfaaDoorL
set_option linter.unusedSimpArgs false
set_option linter.unusedVariables false
set_option linter.unusedSectionVars false
section
namespace Go.Abs
set_option maxHeartbeats 4000000 in
theorem rEnc_ok (E : Env) (h29 : E.G 29 = rbytesC) (h30 : E.G 30 = rintC) (h40 : E.G 40 = rIntsC) : ∀ ds, encCC.pre ds → ds.length = f_custodyref28_Encode.n ∧ awp E f_custodyref28_Encode.body (retQ f_custodyref28_Encode.res (encCC.post ds)) (initSt f_custodyref28_Encode.wr ds) := by
  rintro _ ⟨c, nl, hc, rfl⟩
  rw [encC_post]
  obtain ⟨k1, k2, k3, k4, k5, k6, dt, ls⟩ := c
  obtain ⟨ho, hd, hll⟩ := hc
  simp only at hd hll
  simp (maxSteps := 1000000) (disch := first | omega | (simp; done) | (simp; omega)) [W_id, bys_app, bys_snoc, f_custodyref28_Encode, f_custodyref28_Encode_r0, f_custodyref28_Encode_r1, cmdL]
  refine awp_name fun Q0 hQ0 => ?_
  simp (maxSteps := 1000000) (disch := first | omega | (simp; done) | (simp; omega)) [W_id, bys_app, bys_snoc, f_custodyref28_Encode_r2]
  have h6 := six_ok' ho
  obtain ⟨L, hL⟩ : ∃ L : List Int, L = [k1, k2, k3, k4, k5, k6] := ⟨_, rfl⟩
  have hLl : L.length = 6 := by rw [hL]; rfl
  rw [show [i64 k1, i64 k2, i64 k3, i64 k4, i64 k5, i64 k6] = ints L by rw [hL]; rfl]
  rw [← hL] at h6
  refine awp_for (fun i : Nat => ⟨[(0, .agg [i64 k1, i64 k2, i64 k3, i64 k4, i64 k5, i64 k6, st dt, .sl .plain nl ls.length (ints ls)])], [(1, .bp 1 0), (3, .sl (.own 1) none ((L.take i).flatMap encI).length (bys ((L.take i).flatMap encI))), (4, .sl (.own 1) (some false) 6 (ints L)), (5, i64 i)], [(1, some [i64 k1, i64 k2, i64 k3, i64 k4, i64 k5, i64 k6, st dt, .sl .plain nl ls.length (ints ls)])]⟩) (fun i => 6 - i) (· ≤ 6) 0 (by simp) (by simp) fun i hi => ?_
  refine awp_name fun Q1 hQ1 => ?_
  by_cases h1 : i < 6
  · have h1' : i < L.length := by omega
    have hs := flatMap_take_succ L encI 0 h1'
    rw [show L.getD i 0 = atI L i from rfl] at hs
    have ha := h6 _ (atI_mem h1')
    have g2 := encI_len ha
    have g3 := len_flatMap_encI (l := L.take i) fun x hx => h6 x (List.mem_of_mem_take hx)
    have g4 : (L.take i).length ≤ 6 := by rw [List.length_take]; omega
    generalize hF : (L.take i).flatMap encI = F at *
    generalize hX : atI L i = x at *
    have hg : hdA (ints (L.drop i)) = i64 x := by rw [← hX]; exact hd_ints h1'
    simp (maxSteps := 1000000) (disch := first | omega | (simp; done) | (simp; omega)) [W_id, bys_app, bys_snoc, f_custodyref28_Encode_l0, f_custodyref28_Encode_r4, f_custodyref28_Encode_r5, kT, kF, dT, dF, h1, hg, hLl, h30, rint_pre ha.1 ha.2, hQ1, -List.length_flatMap]
    exact ⟨by omega, by omega, by omega, i + 1, by omega, by omega, ⟨by rw [hs, List.length_append], hs.symm⟩, by omega⟩
  · obtain rfl : i = 6 := by omega
    have hT : L.take 6 = L := by rw [← hLl, List.take_length]
    have h6l := len_flatMap_encI h6
    have e1 := encI_len (n := (dt.length : Int)) (by constructor <;> omega)
    have e2 := encI_len (n := (ls.length : Int)) (by constructor <;> omega)
    have e3 := len_flatMap_encI (l := ls) ho.2.2.2.2.2.2
    have hip : rIntsC.pre [.sl .plain nl ls.length (ints ls)] = True := onIs_pre hll ho.2.2.2.2.2.2 rfl
    have hiq : rIntsC.post [.sl .plain nl ls.length (ints ls)] = .sl (.own 1) none (encIs ls).length (bys (encIs ls)) := by rw [rIntsC, onIs_post]; rfl
    have hE : encC ⟨k1, k2, k3, k4, k5, k6, dt, ls⟩ = L.flatMap encI ++ (encS dt ++ encIs ls) := by rw [hL]; rfl
    rw [hE] at hQ0
    simp (maxSteps := 1000000) (disch := first | omega | (simp; done) | (simp; omega)) [W_id, bys_app, bys_snoc, f_custodyref28_Encode_l0, f_custodyref28_Encode_r4, kT, kF, dT, dF, hQ1, hQ0, hT, f_custodyref28_Encode_r6, f_custodyref28_Encode_r7, h29, rbytes_pre, h40, hip, hiq, -bys_app, -List.length_append, -List.length_flatMap]
    have e4 : (encS dt).length = (encI dt.length).length + dt.length := by rw [encS, List.length_append]
    have e5 : (encIs ls).length = (encI ls.length).length + (ls.flatMap encI).length := by rw [encIs, List.length_append]
    refine ⟨by omega, by simp only [List.length_append] at *; omega, by simp only [List.length_append]; omega, by simp only [bys_append]⟩
    --, List.length_append] at *; omega, by simp only [List.length_append]; omega, by simp only [bys_append]⟩
theorem rDig_ok (E : Env) (h147 : E.G 147 = encCC) (h20 : E.G 20 = rofC) : ∀ ds, digCC.pre ds → ds.length = f_custodyref28_Digest.n ∧ awp E f_custodyref28_Digest.body (retQ f_custodyref28_Digest.res (digCC.post ds)) (initSt f_custodyref28_Digest.wr ds) := by
  rintro _ ⟨c, nl, hc, rfl⟩
  rw [digC_post]
  have hl := encC_len hc
  have hp : rofC.pre [i64 7, .sl .plain (some false) 1 [st (encC c)]] = True := rof_pre (l := [encC c]) rfl (by rw [tot1]; omega)
  have hq : rofC.post [i64 7, .sl .plain (some false) 1 [st (encC c)]] = .agg (bys (digOf 7 [encC c])) := rof_post 7 _ 1 [encC c]
  simp (maxSteps := 1000000) (disch := first | omega | (simp; done) | (simp; omega)) [W_id, bys_app, bys_snoc, f_custodyref28_Digest, f_custodyref28_Digest_r0, h147, encC_pre hc, h20, hp, hq, okArg1, toArg1, splice_bys0, take_l16, digOf_len]
end Go.Abs
end

section
namespace Go.Abs
set_option maxHeartbeats 8000000 in
theorem rSame_ok (E : Env) (h54 : E.G 54 = sameIC) : ∀ ds, sameCC.pre ds → ds.length = f_custodyref28_Same.n ∧ awp E f_custodyref28_Same.body (retQ f_custodyref28_Same.res (sameCC.post ds)) (initSt f_custodyref28_Same.wr ds) := by
  rintro _ ⟨c, d, nl, nl', hc, hd, rfl⟩
  rw [sameC_post]
  obtain ⟨k1, k2, k3, k4, k5, k6, dt, ls⟩ := c
  obtain ⟨j1, j2, j3, j4, j5, j6, dt', ls'⟩ := d
  have hll := hc.2.2
  simp only at hll
  simp (maxSteps := 1000000) (disch := first | omega | (simp; done) | (simp; omega)) [W_id, bys_app, bys_snoc, f_custodyref28_Same, cmdL]
  refine awp_name fun Q0 hQ0 => ?_
  simp only [sameB] at hQ0
  cases c1 : k1 == j1
  · rw [c1] at hQ0
    simp (maxSteps := 1000000) (disch := first | omega | (simp; done) | (simp; omega)) [W_id, bys_app, bys_snoc, f_custodyref28_Same_r0, c1, hQ0]
  rw [c1] at hQ0
  cases c2 : k2 == j2
  · rw [c2] at hQ0
    simp (maxSteps := 1000000) (disch := first | omega | (simp; done) | (simp; omega)) [W_id, bys_app, bys_snoc, f_custodyref28_Same_r0, c1, c2, hQ0]
  rw [c2] at hQ0
  cases c3 : k3 == j3
  · rw [c3] at hQ0
    simp (maxSteps := 1000000) (disch := first | omega | (simp; done) | (simp; omega)) [W_id, bys_app, bys_snoc, f_custodyref28_Same_r0, c1, c2, c3, hQ0]
  rw [c3] at hQ0
  cases c4 : k4 == j4
  · rw [c4] at hQ0
    simp (maxSteps := 1000000) (disch := first | omega | (simp; done) | (simp; omega)) [W_id, bys_app, bys_snoc, f_custodyref28_Same_r0, c1, c2, c3, c4, hQ0]
  rw [c4] at hQ0
  cases c5 : k5 == j5
  · rw [c5] at hQ0
    simp (maxSteps := 1000000) (disch := first | omega | (simp; done) | (simp; omega)) [W_id, bys_app, bys_snoc, f_custodyref28_Same_r0, c1, c2, c3, c4, c5, hQ0]
  rw [c5] at hQ0
  cases c6 : k6 == j6
  · rw [c6] at hQ0
    simp (maxSteps := 1000000) (disch := first | omega | (simp; done) | (simp; omega)) [W_id, bys_app, bys_snoc, f_custodyref28_Same_r0, c1, c2, c3, c4, c5, c6, hQ0]
  rw [c6] at hQ0
  cases c7 : dt == dt'
  · rw [c7] at hQ0
    have d7 : (dt = dt') = False := by simpa using c7
    simp (maxSteps := 1000000) (disch := first | omega | (simp; done) | (simp; omega)) [W_id, bys_app, bys_snoc, f_custodyref28_Same_r0, c1, c2, c3, c4, c5, c6, d7, hQ0]
  rw [c7] at hQ0
  have d7 : (dt = dt') = True := by simpa using c7
  simp (maxSteps := 1000000) (disch := first | omega | (simp; done) | (simp; omega)) [W_id, bys_app, bys_snoc, f_custodyref28_Same_r0, c1, c2, c3, c4, c5, c6, d7, h54, sameI_pre, hQ0]
end Go.Abs
end
