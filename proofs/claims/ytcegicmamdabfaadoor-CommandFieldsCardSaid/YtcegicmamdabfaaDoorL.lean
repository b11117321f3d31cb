/- Lemmas: an abstract interpreter, and what the functions compute. -/
import Derived.Test.YtcegicmamdabfaaDoorT
import Derived.Test.YtcegicmamdabfaaDoorE
import Derived.Test.YtcegicmamdabfaaDoorI
set_option linter.unusedSimpArgs false
set_option linter.unusedVariables false
set_option linter.unusedSectionVars false
section
namespace Go.Abs
theorem sEq_ok (E : Env) : ∀ ds, sameIC.pre ds → ds.length = f_slices_Equal.n ∧ awp E f_slices_Equal.body (retQ f_slices_Equal.res (sameIC.post ds)) (initSt f_slices_Equal.wr ds) := by
  rintro _ ⟨nl, nl', a, b, ha, rfl⟩
  by_cases h : a.length = b.length
  rotate_left
  · have : (a == b) = false := by simpa using fun e : a = b => h (by rw [e])
    have h' : ¬ ((a.length : Int) = b.length) := by omega
    simp (maxSteps := 1000000) (disch := first | omega | (simp; done) | (simp; omega)) [W_id, bys_app, bys_snoc, f_slices_Equal, f_slices_Equal_r0, f_slices_Equal_r1, h', kT, kF, sameIC, this]
  have h' : ((a.length : Int) = b.length) := by omega
  simp (maxSteps := 1000000) (disch := first | omega | (simp; done) | (simp; omega)) [W_id, bys_app, bys_snoc, f_slices_Equal, f_slices_Equal_r0, f_slices_Equal_r1, f_slices_Equal_r2, h', kT, kF]
  refine awp_name fun Q0 hQ0 => ?_
  simp (maxSteps := 1000000) (disch := first | omega | (simp; done) | (simp; omega)) [W_id, bys_app, bys_snoc, f_slices_Equal_r3]
  refine awp_for (fun i : Nat => ⟨[(0, .sl .plain nl a.length (ints a)), (1, .sl .plain nl' b.length (ints b))], [(12, i64 a.length), (13, i64 i)], []⟩)
    (fun i => a.length - i) (fun i => i ≤ a.length ∧ a.take i = b.take i) 0 (by simp [h']) (by simp) fun i hi => ?_
  obtain ⟨hi, he⟩ := hi
  refine awp_name fun Q1 hQ1 => ?_
  by_cases h1' : i < a.length
  · have h3 : i < b.length := by omega
    by_cases h2 : atI a i = atI b i
    · simp (maxSteps := 1000000) (disch := first | omega | (simp; done) | (simp; omega)) [W_id, bys_app, bys_snoc, f_slices_Equal_l0, f_slices_Equal_r4, f_slices_Equal_r5, f_slices_Equal_r6, f_slices_Equal_r7, kT, kF, dT, dF, hd_ints, h1', h2, hQ1]
      have h4 : a[i] = b[i] := by simpa [atI, List.getD, List.getElem?_eq_getElem h1', List.getElem?_eq_getElem h3] using h2
      exact ⟨by omega, by omega, by omega, i + 1, by omega, ⟨by omega, by rw [List.take_succ_eq_append_getElem h1', List.take_succ_eq_append_getElem h3, he, h4]⟩, by omega⟩
    · have : (a == b) = false := by simpa using fun e : a = b => h2 (by rw [e])
      simp (maxSteps := 1000000) (disch := first | omega | (simp; done) | (simp; omega)) [W_id, bys_app, bys_snoc, f_slices_Equal_l0, f_slices_Equal_r4, f_slices_Equal_r5, f_slices_Equal_r6, f_slices_Equal_r7, kT, kF, dT, dF, hd_ints, h1', h2, hQ1, hQ0, sameIC, this]
      omega
  · have e : i = a.length := by omega
    subst e
    have : (a == b) = true := by
      rw [List.take_length, h, List.take_length] at he
      simpa using he
    simp (maxSteps := 1000000) (disch := first | omega | (simp; done) | (simp; omega)) [W_id, bys_app, bys_snoc, f_slices_Equal_l0, f_slices_Equal_r4, kT, kF, dT, dF, hQ1, hQ0, f_slices_Equal_r8, sameIC, this]
end Go.Abs
end

section
namespace Go.Abs
@[simp] theorem bls_len (ps : List (Option Bool × List UInt8)) : (bls ps).length = ps.length := by simp [bls]
def atP (ps : List (Option Bool × List UInt8)) (i : Nat) : Option Bool × List UInt8 := ps.getD i (none, [])
theorem atP_eq {ps : List (Option Bool × List UInt8)} {i : Nat} (h : i < ps.length) : atP ps i = ps[i] := by simp [atP, List.getD, List.getElem?_eq_getElem h]
theorem hd_bls {ps : List (Option Bool × List UInt8)} {i : Nat} (h : i < ps.length) : hdA ((bls ps).drop i) = .sl (.own 1) (atP ps i).1 (atP ps i).2.length (bys (atP ps i).2) := by
  rw [bls, ← List.map_drop, List.drop_eq_getElem_cons h, List.map_cons, atP_eq h]
  rfl
theorem totB_app (a b : List (Option Bool × List UInt8)) : totB (a ++ b) = totB a + totB b := by
  induction a with
  | nil => simp [totB]
  | cons x a ih => simp only [totB, List.cons_append, List.map_cons, List.sum_cons] at ih ⊢; omega
theorem totB_take_succ {ps : List (Option Bool × List UInt8)} {i : Nat} (h : i < ps.length) : totB (ps.take (i + 1)) = totB (ps.take i) + (atP ps i).2.length := by
  rw [List.take_succ_eq_append_getElem h, totB_app, atP_eq h]
  rfl
theorem totB_take_le (ps : List (Option Bool × List UInt8)) (i : Nat) : totB (ps.take i) ≤ totB ps := by
  have := totB_app (ps.take i) (ps.drop i)
  rw [List.take_append_drop] at this
  omega
theorem cat_take_succ {ps : List (Option Bool × List UInt8)} {i : Nat} (h : i < ps.length) : (ps.take (i + 1)).flatMap (·.2) = (ps.take i).flatMap (·.2) ++ (atP ps i).2 := by
  rw [List.take_succ_eq_append_getElem h, List.flatMap_append, List.flatMap_cons, List.flatMap_nil, List.append_nil, atP_eq h]
theorem cat_len (ps : List (Option Bool × List UInt8)) : (ps.flatMap (·.2)).length = totB ps := by simp [totB, List.length_flatMap]
theorem concat_ok (E : Env) (h139 : E.G 139 = growC) : ∀ ds, concatC.pre ds → ds.length = f_slices_Concat.n ∧ awp E f_slices_Concat.body (retQ f_slices_Concat.res (concatC.post ds)) (initSt f_slices_Concat.wr ds) := by
  rintro _ ⟨nl, ps, ht, hps, rfl⟩
  rw [concat_post]
  simp (maxSteps := 1000000) (disch := first | omega | (simp; done) | (simp; omega)) [W_id, bys_app, bys_snoc, f_slices_Concat, f_slices_Concat_r0, f_slices_Concat_r1]
  refine awp_name fun Q0 hQ0 => ?_
  simp (maxSteps := 1000000) (disch := first | omega | (simp; done) | (simp; omega)) [W_id, bys_app, bys_snoc, f_slices_Concat_r2]
  refine awp_for (fun i : Nat => ⟨[(0, .sl .plain nl ps.length (bls ps))], [(3, i64 (totB (ps.take i) : Nat)), (9, .sl .plain nl ps.length (bls ps)), (10, i64 ps.length), (11, i64 i)], []⟩)
    (fun i => ps.length - i) (fun i => i ≤ ps.length) 0 (by simp [totB]) (by simp) fun i hi => ?_
  refine awp_name fun Q1 hQ1 => ?_
  have tl := totB_take_le ps i
  by_cases h1 : i < ps.length
  · have ts := totB_take_succ h1
    have tl' := totB_take_le ps (i + 1)
    generalize hX : atP ps i = x at *
    obtain ⟨xn, xb⟩ := x
    simp only at ts
    have hneg : ¬ ((totB (ps.take i) : Int) + xb.length < 0) := by omega
    simp (maxSteps := 1000000) (disch := first | omega | (simp; done) | (simp; omega)) [W_id, bys_app, bys_snoc, f_slices_Concat_l0, f_slices_Concat_r3, f_slices_Concat_r4, f_slices_Concat_r5, f_slices_Concat_r6, f_slices_Concat_r7, kT, kF, dT, dF, h1, hd_bls, hX, hQ1, hneg]
    exact ⟨by omega, i + 1, by omega, by omega, by omega, by omega⟩
  · obtain rfl : i = ps.length := by omega
    simp (maxSteps := 1000000) (disch := first | omega | (simp; done) | (simp; omega)) [W_id, bys_app, bys_snoc, f_slices_Concat_l0, f_slices_Concat_r3, kT, kF, dT, dF, hQ1, hQ0, f_slices_Concat_r8, f_slices_Concat_r9, f_slices_Concat_r10, h139, grow_pre]
    refine awp_for (fun i : Nat => ⟨[(0, .sl .plain nl ps.length (bls ps))], [(6, .sl (.own 1) none ((ps.take i).flatMap (·.2)).length (bys ((ps.take i).flatMap (·.2)))), (25, .sl .plain nl ps.length (bls ps)), (26, i64 ps.length), (27, i64 i)], []⟩)
      (fun i => ps.length - i) (fun i => i ≤ ps.length) 0 (by simp) (by simp) fun i hi => ?_
    refine awp_name fun Q2 hQ2 => ?_
    have tl := totB_take_le ps i
    by_cases h1 : i < ps.length
    · have cs := cat_take_succ h1
      have cl := cat_len (ps.take (i + 1))
      have tl' := totB_take_le ps (i + 1)
      generalize hX : atP ps i = x at *
      obtain ⟨xn, xb⟩ := x
      simp only at cs
      generalize hF : (ps.take i).flatMap (·.2) = F at *
      simp (maxSteps := 1000000) (disch := first | omega | (simp; done) | (simp; omega)) [W_id, bys_app, bys_snoc, f_slices_Concat_l1, f_slices_Concat_r11, f_slices_Concat_r12, f_slices_Concat_r13, kT, kF, dT, dF, h1, hd_bls, hX, hQ2]
      have e : totB (ps.take (i + 1)) = (List.take (i + 1) (List.map (fun a => a.2.length) ps)).sum := by rw [totB, List.map_take]
      rw [cs, List.length_append] at cl
      exact ⟨by omega, by omega, i + 1, by omega, by omega, ⟨by rw [← e]; exact cl, cs.symm⟩, by omega⟩
    · obtain rfl : i = ps.length := by omega
      simp (maxSteps := 1000000) (disch := first | omega | (simp; done) | (simp; omega)) [W_id, bys_app, bys_snoc, f_slices_Concat_l1, f_slices_Concat_r11, kT, kF, dT, dF, hQ2, f_slices_Concat_r14]
end Go.Abs
end

section
namespace Go.Abs
@[simp] theorem cmdL_len' (c : Cmd) (nl : Option Bool) : (cmdL c nl).length = 8 := rfl
theorem six_ok' {c : Cmd} (h : c.ok) : ∀ x ∈ [c.kind, c.key, c.other, c.type, c.uses, c.life], isI64 x := by
  obtain ⟨h1, h2, h3, h4, h5, h6, _⟩ := h
  intro x hx
  simp only [List.mem_cons, List.not_mem_nil, or_false] at hx
  rcases hx with rfl | rfl | rfl | rfl | rfl | rfl <;> assumption
set_option maxHeartbeats 4000000 in
theorem cEnc_ok (E : Env) (h7 : E.G 7 = bytesC) (h12 : E.G 12 = intC) (h39 : E.G 39 = wIntsC) (h129 : E.G 129 = concatC) : ∀ ds, encCC.pre ds → ds.length = f_command_Encode.n ∧ awp E f_command_Encode.body (retQ f_command_Encode.res (encCC.post ds)) (initSt f_command_Encode.wr ds) := by
  rintro _ ⟨c, nl, hc, rfl⟩
  rw [encC_post]
  obtain ⟨k1, k2, k3, k4, k5, k6, dt, ls⟩ := c
  obtain ⟨ho, hd, hll⟩ := hc
  simp only at hd hll
  simp (maxSteps := 1000000) (disch := first | omega | (simp; done) | (simp; omega)) [W_id, bys_app, bys_snoc, f_command_Encode, f_command_Encode_r0, f_command_Encode_r1, cmdL]
  refine awp_name fun Q0 hQ0 => ?_
  simp (maxSteps := 1000000) (disch := first | omega | (simp; done) | (simp; omega)) [W_id, bys_app, bys_snoc, f_command_Encode_r2]
  have h6 := six_ok' ho
  obtain ⟨L, hL⟩ : ∃ L : List Int, L = [k1, k2, k3, k4, k5, k6] := ⟨_, rfl⟩
  have hLl : L.length = 6 := by rw [hL]; rfl
  rw [show [i64 k1, i64 k2, i64 k3, i64 k4, i64 k5, i64 k6] = ints L by rw [hL]; rfl]
  rw [← hL] at h6
  refine awp_for (fun i : Nat => ⟨[(0, .agg [i64 k1, i64 k2, i64 k3, i64 k4, i64 k5, i64 k6, st dt, .sl .plain nl ls.length (ints ls)])], [(1, .bp 1 0), (3, .sl (.own 1) none ((L.take i).flatMap encI).length (bys ((L.take i).flatMap encI))), (18, .agg (ints L)), (19, i64 i)], [(1, some [i64 k1, i64 k2, i64 k3, i64 k4, i64 k5, i64 k6, st dt, .sl .plain nl ls.length (ints ls)])]⟩) (fun i => 6 - i) (· ≤ 6) 0 (by simp) (by simp) fun i hi => ?_
  refine awp_name fun Q1 hQ1 => ?_
  by_cases h1 : i < 6
  · have h1' : i < L.length := by omega
    have hs := flatMap_take_succ L encI 0 h1'
    rw [show L.getD i 0 = atI L i from rfl] at hs
    have ha := h6 _ (atI_mem h1')
    have g2 := encI_len ha
    have g3 := len_flatMap_encI (l := L.take i) fun x hx => h6 x (List.mem_of_mem_take hx)
    have g4 : (L.take i).length ≤ 6 := by rw [List.length_take]; omega
    generalize hF : (L.take i).flatMap encI = F at *
    generalize hX : atI L i = x at *
    have hg : ∀ h : i < (ints L).length, (ints L)[i] = i64 x := fun h => by rw [← hX]; simp [ints, atI, List.getD, List.getElem?_eq_getElem h1']
    simp (maxSteps := 1000000) (disch := first | omega | (simp; done) | (simp; omega)) [W_id, bys_app, bys_snoc, f_command_Encode_l0, f_command_Encode_r3, f_command_Encode_r4, f_command_Encode_r5, kT, kF, dT, dF, h1, hg, hLl, h12, int_pre ha.1 ha.2, hQ1, -List.length_flatMap]
    exact ⟨⟨by omega, by omega⟩, by omega, i + 1, by omega, by omega, ⟨by rw [hs, List.length_append], hs.symm⟩, by omega⟩
  · obtain rfl : i = 6 := by omega
    have hT : L.take 6 = L := by rw [← hLl, List.take_length]
    have h6l := len_flatMap_encI h6
    have e1 := encI_len (n := (dt.length : Int)) (by constructor <;> omega)
    have e2 := encI_len (n := (ls.length : Int)) (by constructor <;> omega)
    have e3 := len_flatMap_encI (l := ls) ho.2.2.2.2.2.2
    have hip : wIntsC.pre [.sl .plain nl ls.length (ints ls)] = True := onIs_pre hll ho.2.2.2.2.2.2 rfl
    have hiq : wIntsC.post [.sl .plain nl ls.length (ints ls)] = .sl (.own 1) (some false) (encIs ls).length (bys (encIs ls)) := by rw [wIntsC, onIs_post]; rfl
    have hcp : concatC.pre [.sl .plain (some false) 3 [.sl (.own 1) none (L.flatMap encI).length (bys (L.flatMap encI)), .sl (.own 1) (some false) (encS dt).length (bys (encS dt)), .sl (.own 1) (some false) (encIs ls).length (bys (encIs ls))]] = True :=
      concat_pre (ps := [(none, L.flatMap encI), (some false, encS dt), (some false, encIs ls)]) (by simp only [totB, List.map_cons, List.map_nil, List.sum_cons, List.sum_nil, encS, encIs, List.length_append]; omega) (by simp) rfl
    have hcq : concatC.post [.sl .plain (some false) 3 [.sl (.own 1) none (L.flatMap encI).length (bys (L.flatMap encI)), .sl (.own 1) (some false) (encS dt).length (bys (encS dt)), .sl (.own 1) (some false) (encIs ls).length (bys (encIs ls))]] = .sl (.own 1) none (L.flatMap encI ++ (encS dt ++ encIs ls)).length (bys (L.flatMap encI ++ (encS dt ++ encIs ls))) := by
      have := concat_post (some false) 3 [(none, L.flatMap encI), (some false, encS dt), (some false, encIs ls)]
      simpa [bls, -List.length_append, -List.length_flatMap] using this
    have hE : encC ⟨k1, k2, k3, k4, k5, k6, dt, ls⟩ = L.flatMap encI ++ (encS dt ++ encIs ls) := by rw [hL]; rfl
    rw [hE] at hQ0
    simp (maxSteps := 1000000) (disch := first | omega | (simp; done) | (simp; omega)) [W_id, bys_app, bys_snoc, f_command_Encode_l0, f_command_Encode_r3, kT, kF, dT, dF, hQ1, hQ0, hT, f_command_Encode_r6, h7, bytes_pre, h39, hip, hiq, h129, hcp, hcq, -bys_app, -List.length_append, -List.length_flatMap]
end Go.Abs
end
