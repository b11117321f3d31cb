/- Lemmas: an abstract interpreter, and what the functions compute. -/
import Derived.Test.YtcegicmamdabfaaDoorU
set_option linter.unusedSimpArgs false
set_option linter.unusedVariables false
set_option linter.unusedSectionVars false
section
namespace Go.Abs
set_option maxHeartbeats 4000000 in
theorem isl_ok (E : Env) : ∀ ds, isLC.pre ds → ds.length = f_custodyref28_isList.n ∧ awp E f_custodyref28_isList.body (retQ f_custodyref28_isList.res (isLC.post ds)) (initSt f_custodyref28_isList.wr ds) := by
  rintro _ ⟨nl, l, u, hl, rfl⟩
  rw [isL_post]
  have hln : (l.length = 0) ↔ l = [] := List.length_eq_zero_iff
  cases u
  · have e : lsOk l false = ((l.length : Int) == 0) := by
      rw [Bool.eq_iff_iff]; simp [lsOk]
    simp (maxSteps := 1000000) (disch := first | omega | (simp; done) | (simp; omega)) [W_id, bys_app, bys_snoc, f_custodyref28_isList, f_custodyref28_isList_r0, f_custodyref28_isList_r1, kT, kF, e]
  · by_cases h : l.length = 0
    · have e : lsOk l true = false := by simp [lsOk, h]
      have h' : ((l.length : Int) == 0) = true := by simp [h]
      simp (maxSteps := 1000000) (disch := first | omega | (simp; done) | (simp; omega)) [W_id, bys_app, bys_snoc, f_custodyref28_isList, f_custodyref28_isList_r0, f_custodyref28_isList_r1, kT, kF, e, h']
    have e : lsOk l true = incr 0 l := by
      have : 0 < l.length := by omega
      simp [lsOk, this]
    have h' : ((l.length : Int) == 0) = false := beq_false_of_ne (by omega)
    rw [e]
    simp (maxSteps := 1000000) (disch := first | omega | (simp; done) | (simp; omega)) [W_id, bys_app, bys_snoc, f_custodyref28_isList, f_custodyref28_isList_r0, f_custodyref28_isList_r1, kT, kF, h']
    refine awp_name fun Q0 hQ0 => ?_
    simp (maxSteps := 1000000) (disch := first | omega | (simp; done) | (simp; omega)) [W_id, bys_app, bys_snoc, f_custodyref28_isList_r2, f_custodyref28_isList_r3]
    refine awp_for (fun k : Nat => ⟨[(0, .sl .plain nl l.length (ints l)), (1, bo true)], [(5, i64 k)], []⟩) (fun k => l.length - k) (fun k => k ≤ l.length ∧ (0 < k → 1 ≤ atI l (k - 1)) ∧ incr 0 l = incr (if k = 0 then 0 else atI l (k - 1)) (l.drop k)) 0 rfl ⟨by omega, by omega, by simp⟩ fun k hk => ?_
    obtain ⟨hk, hp, hI⟩ := hk
    refine awp_name fun Q1 hQ1 => ?_
    by_cases h1 : k < l.length
    · have hd : l.drop k = atI l k :: l.drop (k + 1) := by
        rw [List.drop_eq_getElem_cons h1]; simp [atI, List.getD, List.getElem?_eq_getElem h1]
      rw [hd, incr] at hI
      have hg := hd_ints h1
      have hg' : 0 < k → hdA (ints (l.drop (k - 1))) = i64 (atI l (k - 1)) := fun h => hd_ints (by omega)
      generalize hx : atI l k = x at *
      generalize hy : atI l (k - 1) = y at *
      by_cases a1 : x < 1
      · have hF : incr 0 l = false := by
          rw [hI]
          have : decide ((if k = 0 then 0 else y) < x) = false := by
            apply decide_eq_false; split
            · omega
            · have := hp (by omega); omega
          rw [this]; rfl
        simp (maxSteps := 1000000) (disch := first | omega | (simp; done) | (simp; omega)) [W_id, bys_app, bys_snoc, f_custodyref28_isList_l0, f_custodyref28_isList_r4, f_custodyref28_isList_r5, f_custodyref28_isList_r6, h1, kT, kF, dT, dF, hg, a1, hQ1, hQ0, hF]
        repeat' (first | omega | apply And.intro)
      by_cases a2 : 4096 < x
      · have hF : incr 0 l = false := by
          rw [hI, decide_eq_false (show ¬ x ≤ 4096 by omega), Bool.and_false, Bool.false_and]
        simp (maxSteps := 1000000) (disch := first | omega | (simp; done) | (simp; omega)) [W_id, bys_app, bys_snoc, f_custodyref28_isList_l0, f_custodyref28_isList_r4, f_custodyref28_isList_r5, f_custodyref28_isList_r6, h1, kT, kF, dT, dF, hg, a1, a2, hQ1, hQ0, hF]
        repeat' (first | omega | apply And.intro)
      by_cases a3 : 0 < k
      · have hg'' := hg' a3
        by_cases a4 : x ≤ y
        · have hF : incr 0 l = false := by
            rw [hI, if_neg (by omega), decide_eq_false (show ¬ y < x by omega)]; rfl
          simp (maxSteps := 1000000) (disch := first | omega | (simp; done) | (simp; omega)) [W_id, bys_app, bys_snoc, f_custodyref28_isList_l0, f_custodyref28_isList_r4, f_custodyref28_isList_r5, f_custodyref28_isList_r6, h1, kT, kF, dT, dF, hg, hg'', a1, a2, a3, a4, hQ1, hQ0, hF]
          repeat' (first | omega | apply And.intro)
        · rw [if_neg (by omega), decide_eq_true (show y < x by omega), decide_eq_true (show x ≤ 4096 by omega)] at hI
          simp (maxSteps := 1000000) (disch := first | omega | (simp; done) | (simp; omega)) [W_id, bys_app, bys_snoc, f_custodyref28_isList_l0, f_custodyref28_isList_r4, f_custodyref28_isList_r5, f_custodyref28_isList_r6, h1, kT, kF, dT, dF, hg, hg'', a1, a2, a3, a4, hQ1]
          refine ⟨by omega, ⟨by omega, by omega⟩, by omega, k + 1, by omega, ⟨by omega, fun _ => ?_, ?_⟩, by omega⟩
          · rw [Nat.add_sub_cancel, hx]; omega
          · rw [if_neg (by omega), Nat.add_sub_cancel, hx, hI]; simp
      · have a3' : k = 0 := by omega
        subst a3'
        have hg0 : hdA (ints l) = i64 x := by simpa using hg
        rw [if_pos rfl, decide_eq_true (show 0 < x by omega), decide_eq_true (show x ≤ 4096 by omega)] at hI
        simp (maxSteps := 1000000) (disch := first | omega | (simp; done) | (simp; omega)) [W_id, bys_app, bys_snoc, f_custodyref28_isList_l0, f_custodyref28_isList_r4, f_custodyref28_isList_r5, f_custodyref28_isList_r6, h1, kT, kF, dT, dF, hg0, a1, a2, hQ1]
        refine ⟨by omega, 1, by omega, ⟨by omega, fun _ => ?_, ?_⟩, by omega⟩
        · rw [show 1 - 1 = 0 from rfl, hx]; omega
        · rw [if_neg (by omega), show 1 - 1 = 0 from rfl, hx, hI]; simp
    · have hF : incr 0 l = true := by
        rw [hI, List.drop_of_length_le (by omega)]; rfl
      simp (maxSteps := 1000000) (disch := first | omega | (simp; done) | (simp; omega)) [W_id, bys_app, bys_snoc, f_custodyref28_isList_l0, f_custodyref28_isList_r4, f_custodyref28_isList_r7, h1, kT, kF, dT, dF, hQ1, hQ0, hF]
end Go.Abs
end

section
namespace Go.Abs
@[simp] theorem rrowA_len (r : Row) : (rrowA r).length = 8 := rfl
theorem splice_rrow {zs : List AVal} (r : Row) (h : zs.length = 8) : splice zs 0 (rrowA r) = rrowA r := splice_full (by rw [h]; rfl)
@[simp] theorem rrowA_cell (r : Row) : (∀ c ∈ rrowA r, isCell c) ↔ True := by simp [rrowA]
@[simp] theorem rrowA_own (r : Row) : (∀ c ∈ rrowA r, ownTop c = false) ↔ True := by simp [rrowA]
@[simp] theorem rrowA_refs (r : Row) : refsL (rrowA r) = [] := by simp [rrowA, refsL]
@[simp] theorem rrowA_take (r : Row) : (rrowA r).take 8 = rrowA r := rfl
set_option maxHeartbeats 8000000 in
set_option maxRecDepth 100000 in
theorem rchk7 (E : Env) {kd ky ot ty us lf : Int} {dt : List UInt8} {ls : List Int} {nl : Option Bool} {r : Row} {x1 x2 x3 x4 x5 : Bool} (hd : dt.length ≤ 100000000) (hll : ls.length ≤ 100000000) :
    awp E f_custodyref28_Check_r7 (retQ [ARes.t 2] (i64 ((if r.most < dt.length then 2 else 0 : Nat) : Int))) ⟨[(0, .agg [i64 kd, i64 ky, i64 ot, i64 ty, i64 us, i64 lf, st dt, .sl .plain nl ls.length (ints ls)])], [(1, .bp 1 0), (3, .bp 3 0)], [(1, some [i64 kd, i64 ky, i64 ot, i64 ty, i64 us, i64 lf, st dt, .sl .plain nl ls.length (ints ls)]), (3, some [st r.name, bo x1, bo x2, bo x3, bo x4, bo x5, i64 r.least, i64 r.most])]⟩ := by
  by_cases h : r.most < dt.length
  · simp (maxSteps := 1000000) (disch := first | omega | (simp; done) | (simp; omega)) [W_id, bys_app, bys_snoc, f_custodyref28_Check_r7, f_custodyref28_Check_r8, kT, kF, dT, dF, h]
  · simp (maxSteps := 1000000) (disch := first | omega | (simp; done) | (simp; omega)) [W_id, bys_app, bys_snoc, f_custodyref28_Check_r7, f_custodyref28_Check_r8, f_custodyref28_Check_r9, kT, kF, dT, dF, h]
set_option maxHeartbeats 8000000 in
set_option maxRecDepth 100000 in
theorem rchk5 (E : Env) (h145 : E.G 145 = isLC) {kd ky ot ty us lf : Int} {dt : List UInt8} {ls : List Int} {nl : Option Bool} {r : Row} {G : Bool} {Q0 : AExit → ASt → Prop} (hd : dt.length ≤ 100000000) (hll : ls.length ≤ 100000000)
    (hQ0 : Q0 = retQ [ARes.t 2] (i64 ((if G = true then if r.most < dt.length then 2 else 0 else 1 : Nat) : Int))) (hG' : G = (keysOk r.uses ls && (hasF r.uses 16 || decide (dt = [])) && decide (r.least ≤ dt.length))) :
    awp E f_custodyref28_Check_r5 Q0 ⟨[(0, .agg [i64 kd, i64 ky, i64 ot, i64 ty, i64 us, i64 lf, st dt, .sl .plain nl ls.length (ints ls)])], [(1, .bp 1 0), (3, .bp 3 0)], [(1, some [i64 kd, i64 ky, i64 ot, i64 ty, i64 us, i64 lf, st dt, .sl .plain nl ls.length (ints ls)]), (3, some [st r.name, bo (hasF r.uses 1), bo (hasF r.uses 2), bo (hasF r.uses 4), bo (hasF r.uses 8), bo (hasF r.uses 16), i64 r.least, i64 r.most])]⟩ := by
  have hlp : isLC.pre [.sl .plain nl ls.length (ints ls), bo (hasF r.uses 8)] = True := isL_pre _ (by omega) rfl
  have hlq : isLC.post [.sl .plain nl ls.length (ints ls), bo (hasF r.uses 8)] = bo (lsOk ls (hasF r.uses 8)) := by simp
  cases b6 : keysOk r.uses ls
  · have g6 : lsOk ls (hasF r.uses 8) = false := b6
    have e : G = false := by simp [hG', b6]
    subst e
    simp (maxSteps := 1000000) (disch := first | omega | (simp; done) | (simp; omega)) [W_id, bys_app, bys_snoc, f_custodyref28_Check_r5, f_custodyref28_Check_r6, h145, hlp, hlq, kT, kF, dT, dF, g6, hQ0]
  have g6 : lsOk ls (hasF r.uses 8) = true := b6
  rw [b6] at hG'
  cases b7 : hasF r.uses 16
  · by_cases b8 : dt = []
    · have b8' : ¬ 0 < dt.length := by rw [b8]; simp
      by_cases b9 : r.least ≤ dt.length
      · have e : G = true := by rw [hG', b7, decide_eq_true b9, decide_eq_true b8]; rfl
        subst e
        have b9' : ¬ dt.length < r.least := by omega
        simp (maxSteps := 1000000) (disch := first | omega | (simp; done) | (simp; omega)) [W_id, bys_app, bys_snoc, f_custodyref28_Check_r5, f_custodyref28_Check_r6, h145, hlp, hlq, kT, kF, dT, dF, g6, b7, b8', b9', hQ0]
        exact rchk7 E hd hll
      · have e : G = false := by rw [hG', decide_eq_false b9, Bool.and_false]
        subst e
        have b9' : dt.length < r.least := by omega
        simp (maxSteps := 1000000) (disch := first | omega | (simp; done) | (simp; omega)) [W_id, bys_app, bys_snoc, f_custodyref28_Check_r5, f_custodyref28_Check_r6, h145, hlp, hlq, kT, kF, dT, dF, g6, b7, b8', b9', hQ0]
    · have e : G = false := by rw [hG', b7, decide_eq_false b8]; rfl
      subst e
      have b8' : 0 < dt.length := by cases dt <;> simp at *
      simp (maxSteps := 1000000) (disch := first | omega | (simp; done) | (simp; omega)) [W_id, bys_app, bys_snoc, f_custodyref28_Check_r5, f_custodyref28_Check_r6, h145, hlp, hlq, kT, kF, dT, dF, g6, b7, b8, b8', hQ0]
  · by_cases b9 : r.least ≤ dt.length
    · have e : G = true := by rw [hG', b7, decide_eq_true b9]; rfl
      subst e
      have b9' : ¬ dt.length < r.least := by omega
      by_cases b8' : 0 < dt.length
      · simp (maxSteps := 1000000) (disch := first | omega | (simp; done) | (simp; omega)) [W_id, bys_app, bys_snoc, f_custodyref28_Check_r5, f_custodyref28_Check_r6, h145, hlp, hlq, kT, kF, dT, dF, g6, b7, b8', b9', hQ0]
        exact rchk7 E hd hll
      · simp (maxSteps := 1000000) (disch := first | omega | (simp; done) | (simp; omega)) [W_id, bys_app, bys_snoc, f_custodyref28_Check_r5, f_custodyref28_Check_r6, h145, hlp, hlq, kT, kF, dT, dF, g6, b7, b8', b9', hQ0]
        exact rchk7 E hd hll
    · have e : G = false := by rw [hG', decide_eq_false b9, Bool.and_false]
      subst e
      have b9' : dt.length < r.least := by omega
      by_cases b8' : 0 < dt.length
      · simp (maxSteps := 1000000) (disch := first | omega | (simp; done) | (simp; omega)) [W_id, bys_app, bys_snoc, f_custodyref28_Check_r5, f_custodyref28_Check_r6, h145, hlp, hlq, kT, kF, dT, dF, g6, b7, b8', b9', hQ0]
      · simp (maxSteps := 1000000) (disch := first | omega | (simp; done) | (simp; omega)) [W_id, bys_app, bys_snoc, f_custodyref28_Check_r5, f_custodyref28_Check_r6, h145, hlp, hlq, kT, kF, dT, dF, g6, b7, b8', b9', hQ0]
end Go.Abs
end

section
namespace Go.Abs
set_option maxHeartbeats 8000000 in
set_option maxRecDepth 100000 in
theorem rchk_ok (E : Env) (h141 : E.G 141 = rrowsC) (h144 : E.G 144 = wthC) (h145 : E.G 145 = isLC) : ∀ ds, chkCC.pre ds → ds.length = f_custodyref28_Check.n ∧ awp E f_custodyref28_Check.body (retQ f_custodyref28_Check.res (chkCC.post ds)) (initSt f_custodyref28_Check.wr ds) := by
  rintro _ ⟨c, nl, hc, rfl⟩
  rw [chkC_post]
  obtain ⟨⟨hk, _⟩, hd, hll⟩ := hc
  by_cases h : 1 ≤ c.kind ∧ c.kind ≤ 27
  rotate_left
  · by_cases h1 : c.kind < 1
    · simp (maxSteps := 1000000) (disch := first | omega | (simp; done) | (simp; omega)) [W_id, bys_app, bys_snoc, f_custodyref28_Check, f_custodyref28_Check_r0, f_custodyref28_Check_r1, cmdL, kT, kF, dT, dF, chkC, h, h1]
    · have h2 : 27 < c.kind := by omega
      simp (maxSteps := 1000000) (disch := first | omega | (simp; done) | (simp; omega)) [W_id, bys_app, bys_snoc, f_custodyref28_Check, f_custodyref28_Check_r0, f_custodyref28_Check_r1, cmdL, kT, kF, dT, dF, chkC, h, h1, h2]
  obtain ⟨kd, ky, ot, ty, us, lf, dt, ls⟩ := c
  simp only at hk hd hll h
  obtain ⟨m, rfl⟩ : ∃ m : Nat, kd = (m : Int) + 1 := ⟨(kd - 1).toNat, by omega⟩
  have ht := rrows_take (i := m) (by omega)
  have hl := rrows_len
  have hR : rowOf ((m : Int) + 1) = rowL.getD m noRow := by rw [rowOf]; congr 1; omega
  have hlt : (m : Int) < 27 := by omega
  have hlt2 : 8 ≤ 216 - m * 8 := by omega
  have h1 : ¬ ((m : Int) + 1 < 1) := by omega
  have h2 : ¬ (27 < (m : Int) + 1) := by omega
  rw [chkC, if_neg (by simpa using h)]
  simp only [formOk, hR]
  generalize rowL.getD m noRow = r at *
  obtain ⟨G, hG⟩ : ∃ G, G = (numsOk ⟨(m : Int) + 1, ky, ot, ty, us, lf, dt, ls⟩ r.uses && useOk us && keysOk r.uses ls && (hasF r.uses 16 || decide (dt = [])) && decide (r.least ≤ dt.length)) := ⟨_, rfl⟩
  rw [← hG]
  simp only [numsOk] at hG
  simp (maxSteps := 1000000) (disch := first | omega | (simp; done) | (simp; omega)) [W_id, bys_app, bys_snoc, f_custodyref28_Check, f_custodyref28_Check_r0, f_custodyref28_Check_r1, f_custodyref28_Check_r2, cmdL, h141, kT, kF, dT, dF, ht, hl, hlt, hlt2, h1, h2, splice_rrow]
  refine awp_name fun Q0 hQ0 => ?_
  cases b0 : numOk r.uses 1 ky 4294967296
  · have g0 : inR ky (hasF r.uses 1) 4294967296 = false := b0
    have e : G = false := by simp [hG, b0]
    subst e
    simp (maxSteps := 1000000) (disch := first | omega | (simp; done) | (simp; omega)) [W_id, bys_app, bys_snoc, f_custodyref28_Check_r3, f_custodyref28_Check_r4, rrowA, h144, kT, kF, dT, dF, g0, hQ0]
  have g0 : inR ky (hasF r.uses 1) 4294967296 = true := b0
  cases b1 : numOk r.uses 2 ot 4294967296
  · have g1 : inR ot (hasF r.uses 2) 4294967296 = false := b1
    have e : G = false := by simp [hG, b0, b1]
    subst e
    simp (maxSteps := 1000000) (disch := first | omega | (simp; done) | (simp; omega)) [W_id, bys_app, bys_snoc, f_custodyref28_Check_r3, f_custodyref28_Check_r4, rrowA, h144, kT, kF, dT, dF, g0, g1, hQ0]
  have g1 : inR ot (hasF r.uses 2) 4294967296 = true := b1
  cases b2 : numOk r.uses 4 ty 31
  · have g2 : inR ty (hasF r.uses 4) 31 = false := b2
    have e : G = false := by simp [hG, b0, b1, b2]
    subst e
    simp (maxSteps := 1000000) (disch := first | omega | (simp; done) | (simp; omega)) [W_id, bys_app, bys_snoc, f_custodyref28_Check_r3, f_custodyref28_Check_r4, rrowA, h144, kT, kF, dT, dF, g0, g1, g2, hQ0]
  have g2 : inR ty (hasF r.uses 4) 31 = true := b2
  cases b3 : numOk r.uses 4 lf 1099511627776
  · have g3 : inR lf (hasF r.uses 4) 1099511627776 = false := b3
    have e : G = false := by simp [hG, b0, b1, b2, b3]
    subst e
    simp (maxSteps := 1000000) (disch := first | omega | (simp; done) | (simp; omega)) [W_id, bys_app, bys_snoc, f_custodyref28_Check_r3, f_custodyref28_Check_r4, rrowA, h144, kT, kF, dT, dF, g0, g1, g2, g3, hQ0]
  have g3 : inR lf (hasF r.uses 4) 1099511627776 = true := b3
  cases b4 : numOk r.uses 4 us 956
  · have g4 : inR us (hasF r.uses 4) 956 = false := b4
    have e : G = false := by simp [hG, b0, b1, b2, b3, b4]
    subst e
    simp (maxSteps := 1000000) (disch := first | omega | (simp; done) | (simp; omega)) [W_id, bys_app, bys_snoc, f_custodyref28_Check_r3, f_custodyref28_Check_r4, rrowA, h144, kT, kF, dT, dF, g0, g1, g2, g3, g4, hQ0]
  have g4 : inR us (hasF r.uses 4) 956 = true := b4
  have hu : useOk us = (andI us 956 == us) := by
    have k0 : 0 ≤ us ∧ us ≤ 956 := by
      simp only [numOk, Bool.and_eq_true, decide_eq_true_eq] at b4
      obtain ⟨p1, p2⟩ := b4
      refine ⟨p1, Int.le_trans p2 ?_⟩
      split <;> decide
    exact useOk_eq k0.1 k0.2
  cases b5 : useOk us
  · have g5 : (andI us 956 != us) = true := by rw [hu] at b5; simpa using b5
    have e : G = false := by simp [hG, b5]
    subst e
    simp (maxSteps := 1000000) (disch := first | omega | (simp; done) | (simp; omega)) [W_id, bys_app, bys_snoc, f_custodyref28_Check_r3, f_custodyref28_Check_r4, rrowA, h144, kT, kF, dT, dF, g0, g1, g2, g3, g4, g5, hQ0]
  have g5 : (andI us 956 != us) = false := by rw [hu] at b5; simpa using b5
  simp (maxSteps := 1000000) (disch := first | omega | (simp; done) | (simp; omega)) [W_id, bys_app, bys_snoc, f_custodyref28_Check_r3, f_custodyref28_Check_r4, rrowA, h144, kT, kF, dT, dF, g0, g1, g2, g3, g4, g5]
  have hG' : G = (keysOk r.uses ls && (hasF r.uses 16 || decide (dt = [])) && decide (r.least ≤ dt.length)) := by simp [hG, b0, b1, b2, b3, b4, b5]
  clear hG hR ht
  have hlp : isLC.pre [.sl .plain nl ls.length (ints ls), bo (hasF r.uses 8)] = True := isL_pre _ (by omega) rfl
  have hlq : isLC.post [.sl .plain nl ls.length (ints ls), bo (hasF r.uses 8)] = bo (lsOk ls (hasF r.uses 8)) := by simp
  exact rchk5 E h145 hd hll hQ0 hG'
end Go.Abs
end
