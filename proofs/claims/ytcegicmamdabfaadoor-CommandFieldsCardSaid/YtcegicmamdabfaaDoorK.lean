/- Lemmas: an abstract interpreter, and what the functions compute. -/
import Derived.Test.YtcegicmamdabfaaDoorE
import Derived.Test.YtcegicmamdabfaaDoorT
set_option linter.unusedSimpArgs false
set_option linter.unusedVariables false
set_option linter.unusedSectionVars false
section
namespace Go.Abs
theorem rows_len : rowsT.length = 108 := rfl
theorem rowL_len : rowL.length = 27 := rfl
theorem flat_drop (l : List Row) : ∀ i, i < l.length → (l.flatMap rowA).drop (i * 4) = rowA (l.getD i noRow) ++ (l.drop (i + 1)).flatMap rowA := by
  induction l with
  | nil => intro i h; simp at h
  | cons r l ih =>
    intro i h
    cases i with
    | zero => simp [rowA]
    | succ i =>
      have := ih i (by simpa using h)
      rw [List.flatMap_cons, show (i + 1) * 4 = 4 + i * 4 by omega, ← List.drop_drop]
      have e : (rowA r ++ l.flatMap rowA).drop 4 = l.flatMap rowA := rfl
      rw [e, this]
      simp
@[simp] theorem pure_rowA (r : Row) : pureL (rowA r) = true := by simp [rowA, pureL]
theorem rows_at {i : Nat} (h : i < 27) : rowsT.drop (i * 4) = rowA (rowL.getD i noRow) ++ (rowL.drop (i + 1)).flatMap rowA := flat_drop rowL i h
theorem rows_take {i : Nat} (h : i < 27) : (rowsT.drop (i * 4)).take 4 = rowA (rowL.getD i noRow) := by rw [rows_at h]; rfl
theorem rows_hd {i : Nat} (h : i < 27) : hdA (rowsT.drop (i * 4)) = st (rowL.getD i noRow).name := by rw [rows_at h]; rfl
theorem find_le (s : List UInt8) : ∀ (l : List Row) (i : Nat), findN s l i ≤ i + l.length
  | [], i => by simp [findN]
  | r :: l, i => by
    have := find_le s l (i + 1)
    simp only [findN, List.length_cons]
    split <;> omega
theorem kindOf_le (s : List UInt8) : kindOf s ≤ 27 := find_le s rowL 0
theorem isk_ok (E : Env) : ∀ ds, isKindC.pre ds → ds.length = f_command_isKind.n ∧ awp E f_command_isKind.body (retQ f_command_isKind.res (isKindC.post ds)) (initSt f_command_isKind.wr ds) := by
  rintro _ ⟨k, rfl⟩
  rw [isKind_post]
  by_cases h : 1 ≤ k
  · simp (maxSteps := 1000000) (disch := first | omega | (simp; done) | (simp; omega)) [W_id, bys_app, bys_snoc, f_command_isKind, f_command_isKind_r0, h, dT, dF, isKind, isKind.leB', -bo_inj]
  · simp (maxSteps := 1000000) (disch := first | omega | (simp; done) | (simp; omega)) [W_id, bys_app, bys_snoc, f_command_isKind, f_command_isKind_r0, h, dT, dF, isKind, isKind.leB', -bo_inj]
theorem isKind_T {k : Int} (h : 1 ≤ k ∧ k ≤ 27) : isKind k = true := by simp [isKind, isKind.leB', h]
theorem isKind_F {k : Int} (h : ¬ (1 ≤ k ∧ k ≤ 27)) : isKind k = false := by
  simp only [isKind, isKind.leB', Bool.and_eq_false_iff, decide_eq_false_iff_not]; omega
theorem name_ok (E : Env) (h124 : E.G 124 = isKindC) (hT2 : E.T 2 = rowsT) : ∀ ds, nameC.pre ds → ds.length = f_command_Name.n ∧ awp E f_command_Name.body (retQ f_command_Name.res (nameC.post ds)) (initSt f_command_Name.wr ds) := by
  rintro _ ⟨k, ⟨hk0, hk1⟩, rfl⟩
  rw [name_post]
  by_cases h : 1 ≤ k ∧ k ≤ 27
  · obtain ⟨m, rfl⟩ : ∃ m : Nat, k = (m : Int) + 1 := ⟨(k - 1).toNat, by omega⟩
    have hi := isKind_T h
    have hh := rows_hd (i := m) (by omega)
    have hl := rows_len
    have hn : nameOf ((m : Int) + 1) = (rowL.getD m noRow).name := by rw [nameOf, if_pos h, rowOf]; congr 2; omega
    generalize rowL.getD m noRow = r at *
    simp (maxSteps := 1000000) (disch := first | omega | (simp; done) | (simp; omega)) [W_id, bys_app, bys_snoc, f_command_Name, f_command_Name_r0, f_command_Name_r1, f_command_Name_r2, h124, hi, kT, kF, hT2, hn, hh, hl]
    omega
  · have hi := isKind_F h
    simp (maxSteps := 1000000) (disch := first | omega | (simp; done) | (simp; omega)) [W_id, bys_app, bys_snoc, f_command_Name, f_command_Name_r0, f_command_Name_r1, h124, hi, kT, kF, nameOf, h]
theorem kind1_ok (E : Env) : ∀ ds, kind1C.pre ds → ds.length = f_command_Kind_1.n ∧ awp E f_command_Kind_1.body (retQ f_command_Kind_1.res (kind1C.post ds)) (initSt f_command_Kind_1.wr ds) := by
  rintro _ ⟨r, s, rfl⟩
  rw [kind1_post]
  simp (maxSteps := 1000000) (disch := first | omega | (simp; done) | (simp; omega)) [W_id, bys_app, bys_snoc, f_command_Kind_1, f_command_Kind_1_r0, rowA]
  rw [Bool.eq_iff_iff]; simp
set_option maxHeartbeats 4000000 in
theorem idx_ok (E : Env) (h121 : E.G 121 = kind1C) : ∀ ds, idxC.pre ds → ds.length = f_slices_IndexFunc_command_Kind_1.n ∧ awp E f_slices_IndexFunc_command_Kind_1.body (retQ f_slices_IndexFunc_command_Kind_1.res (idxC.post ds)) (initSt f_slices_IndexFunc_command_Kind_1.wr ds) := by
  rintro _ ⟨s, nl, rfl⟩
  rw [idx_post]
  have hl := rows_len
  simp (maxSteps := 1000000) (disch := first | omega | (simp; done) | (simp; omega)) [W_id, bys_app, bys_snoc, f_slices_IndexFunc_command_Kind_1, f_slices_IndexFunc_command_Kind_1_r0]
  refine awp_name fun Q0 hQ0 => ?_
  simp (maxSteps := 1000000) (disch := first | omega | (simp; done) | (simp; omega)) [W_id, bys_app, bys_snoc, f_slices_IndexFunc_command_Kind_1_r1]
  refine awp_for (fun i : Nat => ⟨[(0, .sl .plain nl 27 rowsT), (1, .fn 121 [] [.ep [st s]])], [(7, i64 27), (8, i64 i)], []⟩) (fun i => 27 - i) (fun i => i ≤ 27 ∧ kindOf s = findN s (rowL.drop i) i) 0 rfl ⟨by decide, rfl⟩ fun i hi => ?_
  obtain ⟨hi, hf⟩ := hi
  refine awp_name fun Q1 hQ1 => ?_
  by_cases h : i < 27
  · have ht := rows_take h
    have hd : rowL.drop i = rowL.getD i noRow :: rowL.drop (i + 1) := by
      rw [List.drop_eq_getElem_cons (show i < rowL.length from h), List.getD, List.getElem?_eq_getElem (show i < rowL.length from h)]; rfl
    rw [hd, findN] at hf
    generalize rowL.getD i noRow = r at *
    by_cases g : r.name = s
    · rw [if_pos g] at hf
      simp (maxSteps := 1000000) (disch := first | omega | (simp; done) | (simp; omega)) [W_id, bys_app, bys_snoc, f_slices_IndexFunc_command_Kind_1_l0, f_slices_IndexFunc_command_Kind_1_r2, f_slices_IndexFunc_command_Kind_1_r3, f_slices_IndexFunc_command_Kind_1_r4, f_slices_IndexFunc_command_Kind_1_r5, h, g, h121, ht, hl, kT, kF, dT, dF, hQ1, hQ0, hf]
      omega
    · rw [if_neg g] at hf
      simp (maxSteps := 1000000) (disch := first | omega | (simp; done) | (simp; omega)) [W_id, bys_app, bys_snoc, f_slices_IndexFunc_command_Kind_1_l0, f_slices_IndexFunc_command_Kind_1_r2, f_slices_IndexFunc_command_Kind_1_r3, f_slices_IndexFunc_command_Kind_1_r4, f_slices_IndexFunc_command_Kind_1_r5, h, g, h121, ht, hl, kT, kF, dT, dF, hQ1]
      exact ⟨by omega, by omega, i + 1, by omega, ⟨by omega, hf⟩, by omega⟩
  · have e : i = 27 := by omega
    subst e
    have hz : kindOf s = 0 := hf
    simp (maxSteps := 1000000) (disch := first | omega | (simp; done) | (simp; omega)) [W_id, bys_app, bys_snoc, f_slices_IndexFunc_command_Kind_1_l0, f_slices_IndexFunc_command_Kind_1_r2, kT, kF, dT, dF, hQ1, hQ0, f_slices_IndexFunc_command_Kind_1_r6, hz]
theorem kind_ok (E : Env) (h122 : E.G 122 = idxC) (hT2 : E.T 2 = rowsT) : ∀ ds, kindC.pre ds → ds.length = f_command_Kind.n ∧ awp E f_command_Kind.body (retQ f_command_Kind.res (kindC.post ds)) (initSt f_command_Kind.wr ds) := by
  rintro _ ⟨s, rfl⟩
  rw [kind_post]
  have hl := rows_len
  have hk := kindOf_le s
  have ht : rowsT.take 108 = rowsT := List.take_of_length_le (Nat.le_of_eq rows_len)
  have e : decide ((1 : Int) ≤ (kindOf s : Int)) = (kindOf s != 0) := by
    rw [Bool.eq_iff_iff]; simp; omega
  simp (maxSteps := 1000000) (disch := first | omega | (simp; done) | (simp; omega)) [W_id, bys_app, bys_snoc, f_command_Kind, f_command_Kind_r0, f_command_Kind_r1, hT2, h122, ht, hl, okArg_fn', okArg1, toArg1, e]
theorem num_has {u f : Nat} (h : hasF u f = false) : andI (u : Int) f = 0 := by simpa [hasF] using h
theorem num_hasn {u f : Nat} (h : hasF u f = true) : ¬ andI (u : Int) f = 0 := by simpa [hasF] using h
theorem num_ok (E : Env) : ∀ ds, numC.pre ds → ds.length = f_command_row_number.n ∧ awp E f_command_row_number.body (retQ f_command_row_number.res (numC.post ds)) (initSt f_command_row_number.wr ds) := by
  rintro _ ⟨r, f, n, most, rfl⟩
  rw [num_post]
  have hfn : ((f : Nat) : Int).toNat = f := by omega
  by_cases h0 : 0 ≤ n
  · cases hh : hasF r.uses f with
    | true =>
      have h1 := num_hasn hh
      simp (maxSteps := 1000000) (disch := first | omega | (simp; done) | (simp; omega)) [W_id, bys_app, bys_snoc, f_command_row_number, f_command_row_number_r0, f_command_row_number_r1, f_command_row_number_r2, rowA, h0, h1, hh, kT, kF, dT, dF, numOk, -bo_inj]
    | false =>
      have h1 := num_has hh
      simp (maxSteps := 1000000) (disch := first | omega | (simp; done) | (simp; omega)) [W_id, bys_app, bys_snoc, f_command_row_number, f_command_row_number_r0, f_command_row_number_r1, f_command_row_number_r2, rowA, h0, h1, hh, kT, kF, dT, dF, numOk, -bo_inj]
  · cases hh : hasF r.uses f with
    | true =>
      have h1 := num_hasn hh
      simp (maxSteps := 1000000) (disch := first | omega | (simp; done) | (simp; omega)) [W_id, bys_app, bys_snoc, f_command_row_number, f_command_row_number_r0, f_command_row_number_r1, f_command_row_number_r2, rowA, h0, h1, hh, kT, kF, dT, dF, numOk, -bo_inj]
    | false =>
      have h1 := num_has hh
      simp (maxSteps := 1000000) (disch := first | omega | (simp; done) | (simp; omega)) [W_id, bys_app, bys_snoc, f_command_row_number, f_command_row_number_r0, f_command_row_number_r1, f_command_row_number_r2, rowA, h0, h1, hh, kT, kF, dT, dF, numOk, -bo_inj]
theorem incr_drop (last : Int) (l : List Int) : ∀ i, i < l.length → incr last (l.drop i) = (decide (last < atI l i) && decide (atI l i ≤ 4096) && incr (atI l i) (l.drop (i + 1))) := fun i h => by
  rw [List.drop_eq_getElem_cons h, incr]
  simp [atI, List.getD, List.getElem?_eq_getElem h]
set_option maxHeartbeats 4000000 in
theorem keys_ok (E : Env) : ∀ ds, keysC.pre ds → ds.length = f_command_row_keys.n ∧ awp E f_command_row_keys.body (retQ f_command_row_keys.res (keysC.post ds)) (initSt f_command_row_keys.wr ds) := by
  rintro _ ⟨r, nl, l, hl, rfl⟩
  rw [keys_post]
  cases hh : hasF r.uses 8 with
  | false =>
    have h1 : andI (r.uses : Int) 8 = 0 := num_has hh
    cases l with
    | nil =>
      simp (maxSteps := 1000000) (disch := first | omega | (simp; done) | (simp; omega)) [W_id, bys_app, bys_snoc, f_command_row_keys, f_command_row_keys_r0, f_command_row_keys_r1, rowA, h1, hh, kT, kF, dT, dF, keysOk]
    | cons x l =>
      have hx : ¬ ((l.length : Int) + 1 = 0) := by omega
      simp (maxSteps := 1000000) (disch := first | omega | (simp; done) | (simp; omega)) [W_id, bys_app, bys_snoc, f_command_row_keys, f_command_row_keys_r0, f_command_row_keys_r1, rowA, h1, hh, kT, kF, dT, dF, keysOk, hx]
  | true =>
    have h1 : ¬ andI (r.uses : Int) 8 = 0 := num_hasn hh
    simp (maxSteps := 1000000) (disch := first | omega | (simp; done) | (simp; omega)) [W_id, bys_app, bys_snoc, f_command_row_keys, f_command_row_keys_r0, f_command_row_keys_r1, f_command_row_keys_r2, f_command_row_keys_r3, rowA, h1, hh, kT, kF, dT, dF, keysOk]
    refine awp_name fun Q0 hQ0 => ?_
    simp (maxSteps := 1000000) (disch := first | omega | (simp; done) | (simp; omega)) [W_id, bys_app, bys_snoc, f_command_row_keys_r4]
    refine awp_for (fun p : Nat × Int => ⟨[(0, .agg (rowA r)), (1, .sl .plain nl l.length (ints l))], [(5, i64 p.2), (15, .sl .plain nl l.length (ints l)), (16, i64 l.length), (17, i64 p.1)], [(2, some (rowA r))]⟩) (fun p => l.length - p.1) (fun p => p.1 ≤ l.length ∧ incr 0 l = incr p.2 (l.drop p.1)) (0, 0) (by simp [rowA]) ⟨by simp, rfl⟩ fun p hp => ?_
    obtain ⟨i, last⟩ := p
    obtain ⟨hi, hc⟩ := hp
    simp only at hi hc
    refine awp_name fun Q1 hQ1 => ?_
    by_cases h : i < l.length
    · have hd := incr_drop last l i h
      rw [hd] at hc
      generalize hX : atI l i = x at *
      by_cases g1 : last < x
      · have g1' : ¬ x ≤ last := by omega
        by_cases g2 : x ≤ 4096
        · have g2' : ¬ 4096 < x := by omega
          rw [decide_eq_true g1, decide_eq_true g2, Bool.true_and, Bool.true_and] at hc
          simp (maxSteps := 1000000) (disch := first | omega | (simp; done) | (simp; omega)) [W_id, bys_app, bys_snoc, f_command_row_keys_l0, f_command_row_keys_r5, f_command_row_keys_r6, f_command_row_keys_r7, f_command_row_keys_r8, f_command_row_keys_r9, h, g1', g2', kT, kF, dT, dF, hd_ints, hX, hQ1]
          exact ⟨by omega, i + 1, by omega, x, ⟨by omega, hc⟩, rfl, by omega⟩
        · have g2' : 4096 < x := by omega
          have hz : incr 0 l = false := by rw [hc, decide_eq_false g2, Bool.and_false, Bool.false_and]
          simp (maxSteps := 1000000) (disch := first | omega | (simp; done) | (simp; omega)) [W_id, bys_app, bys_snoc, f_command_row_keys_l0, f_command_row_keys_r5, f_command_row_keys_r6, f_command_row_keys_r7, f_command_row_keys_r8, f_command_row_keys_r9, h, g1', g2', kT, kF, dT, dF, hd_ints, hX, hQ1, hQ0, hz]
          omega
      · have g1' : x ≤ last := by omega
        have hz : incr 0 l = false := by rw [hc, decide_eq_false g1, Bool.false_and, Bool.false_and]
        simp (maxSteps := 1000000) (disch := first | omega | (simp; done) | (simp; omega)) [W_id, bys_app, bys_snoc, f_command_row_keys_l0, f_command_row_keys_r5, f_command_row_keys_r6, f_command_row_keys_r7, f_command_row_keys_r8, f_command_row_keys_r9, h, g1', kT, kF, dT, dF, hd_ints, hX, hQ1, hQ0, hz]
        omega
    · have e : i = l.length := by omega
      subst e
      have hc' : incr 0 l = true := by rw [hc, List.drop_length]; rfl
      simp (maxSteps := 1000000) (disch := first | omega | (simp; done) | (simp; omega)) [W_id, bys_app, bys_snoc, f_command_row_keys_l0, f_command_row_keys_r5, f_command_row_keys_r6, f_command_row_keys_r7, f_command_row_keys_r8, f_command_row_keys_r9, kT, kF, dT, dF, hQ1, hQ0, hc']
end Go.Abs
end

section
namespace Go.Abs
@[simp] theorem cmdL_len (c : Cmd) (nl : Option Bool) : (cmdL c nl).length = 8 := rfl
@[simp] theorem cmdL_cell (c : Cmd) (nl : Option Bool) : (∀ x ∈ cmdL c nl, isCell x) ↔ True := by simp [cmdL]
@[simp] theorem cmdL_own (c : Cmd) (nl : Option Bool) : (∀ x ∈ cmdL c nl, ownTop x = false) ↔ True := by simp [cmdL]
@[simp] theorem cmdL_take (c : Cmd) (nl : Option Bool) : (cmdL c nl).take 8 = cmdL c nl := rfl
@[simp] theorem pure_cmdL (c : Cmd) (nl : Option Bool) : pureL (cmdL c nl) = true := by simp [cmdL, pureL]
@[simp] theorem rowA_len (r : Row) : (rowA r).length = 4 := rfl
@[simp] theorem rowA_cell (r : Row) : (∀ c ∈ rowA r, isCell c) ↔ True := by simp [rowA]
@[simp] theorem rowA_own (r : Row) : (∀ c ∈ rowA r, ownTop c = false) ↔ True := by simp [rowA]
@[simp] theorem rowA_refs (r : Row) : refsL (rowA r) = [] := by simp [rowA, refsL]
@[simp] theorem rowA_take (r : Row) : (rowA r).take 4 = rowA r := rfl
@[simp] theorem rowA_1 (r : Row) : hdA ((rowA r).drop 1) = i64 r.uses := rfl
@[simp] theorem rowA_1t (r : Row) : hdA (rowA r).tail = i64 r.uses := rfl
@[simp] theorem rowA_2 (r : Row) : hdA ((rowA r).drop 2) = i64 r.least := rfl
@[simp] theorem rowA_3 (r : Row) : hdA ((rowA r).drop 3) = i64 r.most := rfl
@[simp] theorem rowA_mem (r : Row) : memFreeL (rowA r) = true := by simp [rowA, memFreeL]
theorem splice_row {zs : List AVal} (r : Row) (h : zs.length = 4) : splice zs 0 (rowA r) = rowA r := splice_full (by rw [h]; rfl)
set_option maxHeartbeats 8000000 in
set_option maxRecDepth 100000 in
theorem chk_k0 (E : Env) (h127 : E.G 127 = keysC) {kd ky ot ty us lf : Int} {dt : List UInt8} {ls : List Int} {nl : Option Bool} {r : Row} {Q0 : AExit → ASt → Prop} (hd : dt.length ≤ 100000000) (hll : ls.length ≤ 100000000) (hQ0 : Q0 = retQ [ARes.t 2] (i64 ((if (false && useOk us && keysOk r.uses ls && (hasF r.uses 16 || decide (dt = [])) && decide (r.least ≤ dt.length)) = true then if r.most < dt.length then 2 else 0 else 1 : Nat) : Int))) : awp E f_command_Check_r4 Q0 ⟨[(0, .agg (cmdL ⟨kd, ky, ot, ty, us, lf, dt, ls⟩ nl))], [(1, .bp 1 0), (3, .bp 3 0), (4, bo false)], [(1, some (cmdL ⟨kd, ky, ot, ty, us, lf, dt, ls⟩ nl)), (3, some (rowA r))]⟩ := by
  simp (maxSteps := 1000000) (disch := first | omega | (simp; done) | (simp; omega)) [W_id, bys_app, bys_snoc, cmdL, f_command_Check_r4, f_command_Check_r5, kT, kF, hQ0]
set_option maxHeartbeats 8000000 in
set_option maxRecDepth 100000 in
theorem chk_k1t (E : Env) (h127 : E.G 127 = keysC) {kd ky ot ty us lf : Int} {dt : List UInt8} {ls : List Int} {nl : Option Bool} {r : Row} {Q0 : AExit → ASt → Prop} (hd : dt.length ≤ 100000000) (hll : ls.length ≤ 100000000) (hQ0 : Q0 = retQ [ARes.t 2] (i64 ((if (true && useOk us && keysOk r.uses ls && (hasF r.uses 16 || decide (dt = [])) && decide (r.least ≤ dt.length)) = true then if r.most < dt.length then 2 else 0 else 1 : Nat) : Int))) (b5 : useOk us = true) (b5' : (andNotI us 956 != 0) = false) (b6 : keysOk r.uses ls = true) (b7 : hasF r.uses 16 = true) : awp E f_command_Check_r4 Q0 ⟨[(0, .agg (cmdL ⟨kd, ky, ot, ty, us, lf, dt, ls⟩ nl))], [(1, .bp 1 0), (3, .bp 3 0), (4, bo true)], [(1, some (cmdL ⟨kd, ky, ot, ty, us, lf, dt, ls⟩ nl)), (3, some (rowA r))]⟩ := by
  have b7' : (andI (r.uses : Int) 16 == 0) = false := by simpa using num_hasn b7
  by_cases b9 : dt.length < r.least
  · have b9' : ¬ r.least ≤ dt.length := by omega
    simp (maxSteps := 1000000) (disch := first | omega | (simp; done) | (simp; omega)) [W_id, bys_app, bys_snoc, cmdL, f_command_Check_r4, f_command_Check_r5, kT, kF, dT, dF, hQ0, b5, b5', b6, b7, b7', b9, b9', h127, keys_pre]
  · have b9' : r.least ≤ dt.length := by omega
    have bb : decide ((dt.length : Int) < (r.least : Int)) = false := by simp; omega
    by_cases b10 : r.most < dt.length
    · have b10' : decide ((r.most : Int) < (dt.length : Int)) = true := by simp; omega
      simp (maxSteps := 1000000) (disch := first | omega | (simp; done) | (simp; omega)) [W_id, bys_app, bys_snoc, cmdL, f_command_Check_r4, kT, kF, dT, dF, hQ0, b5, b5', b6, b7, b7', bb, b9', b10, h127, keys_pre]
      simp (maxSteps := 1000000) (disch := first | omega | (simp; done) | (simp; omega)) [W_id, bys_app, bys_snoc, cmdL, f_command_Check_r5, kT, kF, dT, dF, hQ0, b9', b10, b10']
      simp (maxSteps := 1000000) (disch := first | omega | (simp; done) | (simp; omega)) [W_id, bys_app, bys_snoc, cmdL, f_command_Check_r6, kT, kF, dT, dF, hQ0, b9', b10, b10']
    · have b10' : decide ((r.most : Int) < (dt.length : Int)) = false := by simp; omega
      simp (maxSteps := 1000000) (disch := first | omega | (simp; done) | (simp; omega)) [W_id, bys_app, bys_snoc, cmdL, f_command_Check_r4, kT, kF, dT, dF, hQ0, b5, b5', b6, b7, b7', bb, b9', b10, h127, keys_pre]
      simp (maxSteps := 1000000) (disch := first | omega | (simp; done) | (simp; omega)) [W_id, bys_app, bys_snoc, cmdL, f_command_Check_r5, kT, kF, dT, dF, hQ0, b9', b10, b10']
      simp (maxSteps := 1000000) (disch := first | omega | (simp; done) | (simp; omega)) [W_id, bys_app, bys_snoc, cmdL, f_command_Check_r6, f_command_Check_r7, kT, kF, dT, dF, hQ0, b9', b10, b10']
set_option maxHeartbeats 8000000 in
set_option maxRecDepth 100000 in
theorem chk_k1f (E : Env) (h127 : E.G 127 = keysC) {kd ky ot ty us lf : Int} {dt : List UInt8} {ls : List Int} {nl : Option Bool} {r : Row} {Q0 : AExit → ASt → Prop} (hd : dt.length ≤ 100000000) (hll : ls.length ≤ 100000000) (hQ0 : Q0 = retQ [ARes.t 2] (i64 ((if (true && useOk us && keysOk r.uses ls && (hasF r.uses 16 || decide (dt = [])) && decide (r.least ≤ dt.length)) = true then if r.most < dt.length then 2 else 0 else 1 : Nat) : Int))) (b5 : useOk us = true) (b5' : (andNotI us 956 != 0) = false) (b6 : keysOk r.uses ls = true) (b7 : hasF r.uses 16 = false) : awp E f_command_Check_r4 Q0 ⟨[(0, .agg (cmdL ⟨kd, ky, ot, ty, us, lf, dt, ls⟩ nl))], [(1, .bp 1 0), (3, .bp 3 0), (4, bo true)], [(1, some (cmdL ⟨kd, ky, ot, ty, us, lf, dt, ls⟩ nl)), (3, some (rowA r))]⟩ := by
  have b7' : (andI (r.uses : Int) 16 == 0) = true := by simpa using num_has b7
  by_cases b8 : dt = []
  · subst b8
    by_cases b9 : 0 < r.least
    · have b9' : ¬ r.least = 0 := by omega
      simp (maxSteps := 1000000) (disch := first | omega | (simp; done) | (simp; omega)) [W_id, bys_app, bys_snoc, cmdL, f_command_Check_r4, f_command_Check_r5, kT, kF, dT, dF, hQ0, b5, b5', b6, b7, b7', b9, b9', h127, keys_pre]
    · have b9' : r.least = 0 := by omega
      simp (maxSteps := 1000000) (disch := first | omega | (simp; done) | (simp; omega)) [W_id, bys_app, bys_snoc, cmdL, f_command_Check_r4, f_command_Check_r5, f_command_Check_r6, f_command_Check_r7, kT, kF, dT, dF, hQ0, b5, b5', b6, b7, b7', b9, b9', h127, keys_pre]
  · have b8' : (dt != []) = true := by simpa using b8
    simp (maxSteps := 1000000) (disch := first | omega | (simp; done) | (simp; omega)) [W_id, bys_app, bys_snoc, cmdL, f_command_Check_r4, f_command_Check_r5, kT, kF, dT, dF, hQ0, b5, b5', b6, b7, b7', b8, b8', h127, keys_pre]
set_option maxHeartbeats 8000000 in
set_option maxRecDepth 100000 in
theorem chk_k1 (E : Env) (h127 : E.G 127 = keysC) {kd ky ot ty us lf : Int} {dt : List UInt8} {ls : List Int} {nl : Option Bool} {r : Row} {Q0 : AExit → ASt → Prop} (hd : dt.length ≤ 100000000) (hll : ls.length ≤ 100000000) (hQ0 : Q0 = retQ [ARes.t 2] (i64 ((if (true && useOk us && keysOk r.uses ls && (hasF r.uses 16 || decide (dt = [])) && decide (r.least ≤ dt.length)) = true then if r.most < dt.length then 2 else 0 else 1 : Nat) : Int))) : awp E f_command_Check_r4 Q0 ⟨[(0, .agg (cmdL ⟨kd, ky, ot, ty, us, lf, dt, ls⟩ nl))], [(1, .bp 1 0), (3, .bp 3 0), (4, bo true)], [(1, some (cmdL ⟨kd, ky, ot, ty, us, lf, dt, ls⟩ nl)), (3, some (rowA r))]⟩ := by
  by_cases b5 : useOk us = true
  rotate_left
  · have b5' : (andNotI us 956 != 0) = true := by simpa [useOk] using b5
    have b5 : useOk us = false := by simpa using b5
    simp (maxSteps := 1000000) (disch := first | omega | (simp; done) | (simp; omega)) [W_id, bys_app, bys_snoc, cmdL, f_command_Check_r4, f_command_Check_r5, kT, kF, hQ0, b5, b5']
  have b5' : (andNotI us 956 != 0) = false := by simpa [useOk] using b5
  by_cases b6 : keysOk r.uses ls = true
  rotate_left
  · have b6 : keysOk r.uses ls = false := by simpa using b6
    simp (maxSteps := 1000000) (disch := first | omega | (simp; done) | (simp; omega)) [W_id, bys_app, bys_snoc, cmdL, f_command_Check_r4, f_command_Check_r5, kT, kF, hQ0, b5, b5', b6, h127, keys_pre]
  cases b7 : hasF r.uses 16 with
  | false => exact chk_k1f E h127 hd hll hQ0 b5 b5' b6 b7
  | true => exact chk_k1t E h127 hd hll hQ0 b5 b5' b6 b7
set_option maxHeartbeats 8000000 in
set_option maxRecDepth 100000 in
theorem chk_ok (E : Env) (h124 : E.G 124 = isKindC) (h126 : E.G 126 = numC) (h127 : E.G 127 = keysC) (hT2 : E.T 2 = rowsT) : ∀ ds, chkCC.pre ds → ds.length = f_command_Check.n ∧ awp E f_command_Check.body (retQ f_command_Check.res (chkCC.post ds)) (initSt f_command_Check.wr ds) := by
  rintro _ ⟨c, nl, hc, rfl⟩
  rw [chkC_post]
  obtain ⟨⟨hk, _⟩, hd, hll⟩ := hc
  by_cases h : 1 ≤ c.kind ∧ c.kind ≤ 27
  rotate_left
  · have hi := isKind_F h
    simp (maxSteps := 1000000) (disch := first | omega | (simp; done) | (simp; omega)) [W_id, bys_app, bys_snoc, f_command_Check, f_command_Check_r0, f_command_Check_r1, cmdL, h124, hi, kT, kF, chkC, h]
  have hi := isKind_T h
  obtain ⟨kd, ky, ot, ty, us, lf, dt, ls⟩ := c
  simp only at hk hd hll h hi
  obtain ⟨m, rfl⟩ : ∃ m : Nat, kd = (m : Int) + 1 := ⟨(kd - 1).toNat, by omega⟩
  have ht := rows_take (i := m) (by omega)
  have hl := rows_len
  have hR : rowOf ((m : Int) + 1) = rowL.getD m noRow := by rw [rowOf]; congr 1; omega
  have hlt : (m : Int) < 27 := by omega
  have hlt2 : 4 ≤ 108 - m * 4 := by omega
  rw [chkC, if_neg (by simpa using h)]
  simp only [formOk, hR]
  generalize rowL.getD m noRow = r at *
  obtain ⟨N, hN⟩ : ∃ N, N = numsOk ⟨(m : Int) + 1, ky, ot, ty, us, lf, dt, ls⟩ r.uses := ⟨_, rfl⟩
  rw [← hN]
  simp only [numsOk] at hN
  have hdl : (dt = []) ↔ dt.length = 0 := List.length_eq_zero_iff.symm
  simp (maxSteps := 1000000) (disch := first | omega | (simp; done) | (simp; omega)) [W_id, bys_app, bys_snoc, f_command_Check, f_command_Check_r0, f_command_Check_r1, f_command_Check_r2, cmdL, h124, hi, kT, kF, hT2, ht, hl, hlt, hlt2, splice_row, -Bool.and_eq_true]
  refine awp_name fun Q0 hQ0 => ?_
  by_cases b0 : numOk r.uses 1 ky 4294967296 = true
  rotate_left
  · have b0 : numOk r.uses 1 ky 4294967296 = false := by simpa using b0
    simp (maxSteps := 1000000) (disch := first | omega | (simp; done) | (simp; omega)) [W_id, bys_app, bys_snoc, f_command_Check_r3, h126, num_pre, kT, kF, dT, dF, b0]
    have hN : N = false := by simp [hN, b0]
    subst hN
    exact chk_k0 E h127 hd hll hQ0
  by_cases b1 : numOk r.uses 2 ot 4294967296 = true
  rotate_left
  · have b1 : numOk r.uses 2 ot 4294967296 = false := by simpa using b1
    simp (maxSteps := 1000000) (disch := first | omega | (simp; done) | (simp; omega)) [W_id, bys_app, bys_snoc, f_command_Check_r3, h126, num_pre, kT, kF, dT, dF, b0, b1]
    have hN : N = false := by simp [hN, b0, b1]
    subst hN
    exact chk_k0 E h127 hd hll hQ0
  by_cases b2 : numOk r.uses 4 ty 31 = true
  rotate_left
  · have b2 : numOk r.uses 4 ty 31 = false := by simpa using b2
    simp (maxSteps := 1000000) (disch := first | omega | (simp; done) | (simp; omega)) [W_id, bys_app, bys_snoc, f_command_Check_r3, h126, num_pre, kT, kF, dT, dF, b0, b1, b2]
    have hN : N = false := by simp [hN, b0, b1, b2]
    subst hN
    exact chk_k0 E h127 hd hll hQ0
  by_cases b3 : numOk r.uses 4 us 956 = true
  rotate_left
  · have b3 : numOk r.uses 4 us 956 = false := by simpa using b3
    simp (maxSteps := 1000000) (disch := first | omega | (simp; done) | (simp; omega)) [W_id, bys_app, bys_snoc, f_command_Check_r3, h126, num_pre, kT, kF, dT, dF, b0, b1, b2, b3]
    have hN : N = false := by simp [hN, b0, b1, b2, b3]
    subst hN
    exact chk_k0 E h127 hd hll hQ0
  by_cases b4 : numOk r.uses 4 lf 1099511627776 = true
  rotate_left
  · have b4 : numOk r.uses 4 lf 1099511627776 = false := by simpa using b4
    simp (maxSteps := 1000000) (disch := first | omega | (simp; done) | (simp; omega)) [W_id, bys_app, bys_snoc, f_command_Check_r3, h126, num_pre, kT, kF, dT, dF, b0, b1, b2, b3, b4]
    have hN : N = false := by simp [hN, b0, b1, b2, b3, b4]
    subst hN
    exact chk_k0 E h127 hd hll hQ0
  simp (maxSteps := 1000000) (disch := first | omega | (simp; done) | (simp; omega)) [W_id, bys_app, bys_snoc, f_command_Check_r3, h126, num_pre, kT, kF, dT, dF, b0, b1, b2, b3, b4]
  have hN : N = true := by simp [hN, b0, b1, b2, b3, b4]
  subst hN
  exact chk_k1 E h127 hd hll hQ0
end Go.Abs
end

section
namespace Go.Abs
theorem six_ok {c : Cmd} (h : c.ok) : ∀ x ∈ six c, isI64 x := by
  obtain ⟨h1, h2, h3, h4, h5, h6, _⟩ := h
  intro x hx
  simp only [six, List.mem_cons, List.not_mem_nil, or_false] at hx
  rcases hx with rfl | rfl | rfl | rfl | rfl | rfl <;> assumption
theorem encC_len {c : Cmd} (h : c.small) : (encC c).length ≤ 2000000000 := by
  have h6 := len_flatMap_encI (six_ok h.1)
  have hl := len_flatMap_encI (l := c.list) h.1.2.2.2.2.2.2
  have e1 := encI_len (n := (c.data.length : Int)) (by have := h.2.1; constructor <;> omega)
  have e2 := encI_len (n := (c.list.length : Int)) (by have := h.2.2; constructor <;> omega)
  have := h.2.1
  have := h.2.2
  simp only [six, List.length_cons, List.length_nil] at h6
  simp only [encC, encS, encIs, List.length_append]
  simp only [six]
  omega
theorem dig_ok (E : Env) (h130 : E.G 130 = encCC) (h8 : E.G 8 = ofC) : ∀ ds, digCC.pre ds → ds.length = f_command_Digest.n ∧ awp E f_command_Digest.body (retQ f_command_Digest.res (digCC.post ds)) (initSt f_command_Digest.wr ds) := by
  rintro _ ⟨c, nl, hc, rfl⟩
  rw [digC_post]
  have hl := encC_len hc
  have hp : ofC.pre [i64 7, .sl .plain (some false) 1 [st (encC c)]] = True := of_pre (l := [encC c]) rfl (by rw [tot1]; omega)
  simp (maxSteps := 1000000) (disch := first | omega | (simp; done) | (simp; omega)) [W_id, bys_app, bys_snoc, f_command_Digest, f_command_Digest_r0, h130, encC_pre hc, h8, hp, okArg1, toArg1, splice_bys0, take_l16, digOf_len]
set_option maxHeartbeats 8000000 in
theorem cSame_ok (E : Env) (h132 : E.G 132 = sameIC) : ∀ ds, sameCC.pre ds → ds.length = f_command_Same.n ∧ awp E f_command_Same.body (retQ f_command_Same.res (sameCC.post ds)) (initSt f_command_Same.wr ds) := by
  rintro _ ⟨c, d, nl, nl', hc, hd, rfl⟩
  rw [sameC_post]
  obtain ⟨k1, k2, k3, k4, k5, k6, dt, ls⟩ := c
  obtain ⟨j1, j2, j3, j4, j5, j6, dt', ls'⟩ := d
  have hll := hc.2.2
  simp only at hll
  simp (maxSteps := 1000000) (disch := first | omega | (simp; done) | (simp; omega)) [W_id, bys_app, bys_snoc, f_command_Same, f_command_Same_r0, cmdL]
  refine awp_name fun Q0 hQ0 => ?_
  simp only [sameB] at hQ0
  cases c1 : k1 == j1
  · rw [c1] at hQ0
    simp (maxSteps := 1000000) (disch := first | omega | (simp; done) | (simp; omega)) [W_id, bys_app, bys_snoc, f_command_Same_r1, c1, hQ0]
  rw [c1] at hQ0
  cases c2 : k2 == j2
  · rw [c2] at hQ0
    simp (maxSteps := 1000000) (disch := first | omega | (simp; done) | (simp; omega)) [W_id, bys_app, bys_snoc, f_command_Same_r1, c1, c2, hQ0]
  rw [c2] at hQ0
  cases c3 : k3 == j3
  · rw [c3] at hQ0
    simp (maxSteps := 1000000) (disch := first | omega | (simp; done) | (simp; omega)) [W_id, bys_app, bys_snoc, f_command_Same_r1, c1, c2, c3, hQ0]
  rw [c3] at hQ0
  cases c4 : k4 == j4
  · rw [c4] at hQ0
    simp (maxSteps := 1000000) (disch := first | omega | (simp; done) | (simp; omega)) [W_id, bys_app, bys_snoc, f_command_Same_r1, c1, c2, c3, c4, hQ0]
  rw [c4] at hQ0
  cases c5 : k5 == j5
  · rw [c5] at hQ0
    simp (maxSteps := 1000000) (disch := first | omega | (simp; done) | (simp; omega)) [W_id, bys_app, bys_snoc, f_command_Same_r1, c1, c2, c3, c4, c5, hQ0]
  rw [c5] at hQ0
  cases c6 : k6 == j6
  · rw [c6] at hQ0
    simp (maxSteps := 1000000) (disch := first | omega | (simp; done) | (simp; omega)) [W_id, bys_app, bys_snoc, f_command_Same_r1, c1, c2, c3, c4, c5, c6, hQ0]
  rw [c6] at hQ0
  cases c7 : dt == dt'
  · rw [c7] at hQ0
    have d7 : (dt = dt') = False := by simpa using c7
    simp (maxSteps := 1000000) (disch := first | omega | (simp; done) | (simp; omega)) [W_id, bys_app, bys_snoc, f_command_Same_r1, c1, c2, c3, c4, c5, c6, d7, hQ0]
  rw [c7] at hQ0
  have d7 : (dt = dt') = True := by simpa using c7
  simp (maxSteps := 1000000) (disch := first | omega | (simp; done) | (simp; omega)) [W_id, bys_app, bys_snoc, f_command_Same_r1, c1, c2, c3, c4, c5, c6, d7, h132, sameI_pre, hQ0]
end Go.Abs
end
