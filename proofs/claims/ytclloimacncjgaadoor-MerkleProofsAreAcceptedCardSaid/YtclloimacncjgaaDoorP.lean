/- Lemmas: an abstract interpreter, and what the functions compute. -/
import Derived.Test.YtclloimacncjgaaDoorO
import Derived.Test.YtclloimacncjgaaDoorT
import Derived.Test.YtclloimacncjgaaDoorE
import Derived.Test.YtclloimacncjgaaDoorN
import Derived.Test.YtclloimacncjgaaDoorM
set_option linter.unusedSimpArgs false
set_option linter.unusedVariables false
set_option linter.unusedSectionVars false
section
namespace Go.Abs
set_option maxRecDepth 100000
def rlfC : Contract := ⟨fun ds => ∃ d : List UInt8, d.length = 16 ∧ ds = [.agg (bys d)], fun ds => .agg (bys (digOf 1 [gBs (gCs (nth ds 0))]))⟩
def rndC : Contract := ⟨fun ds => ∃ a b : List UInt8, a.length = 16 ∧ b.length = 16 ∧ ds = [.agg (bys a), .agg (bys b)], fun ds => .agg (bys (digOf 2 [gBs (gCs (nth ds 0)), gBs (gCs (nth ds 1))]))⟩
theorem rlfC_pre {d : List UInt8} (h : d.length = 16) : rlfC.pre [.agg (bys d)] = True := eq_true ⟨d, h, rfl⟩
theorem rndC_pre {a b : List UInt8} (ha : a.length = 16) (hb : b.length = 16) : rndC.pre [.agg (bys a), .agg (bys b)] = True := eq_true ⟨a, b, ha, hb, rfl⟩
@[simp] theorem rlfC_post (d : List UInt8) : rlfC.post [.agg (bys d)] = .agg (bys (digOf 1 [d])) := by simp [rlfC]
@[simp] theorem rndC_post (a b : List UInt8) : rndC.post [.agg (bys a), .agg (bys b)] = .agg (bys (digOf 2 [a, b])) := by simp [rndC, nth]
theorem rof_p1 {t : Int} {nl : Option Bool} {d : List UInt8} (h : d.length = 16) : rofC.pre [i64 t, .sl .plain nl 1 [st d]] = True := eq_true ⟨t, nl, [d], by simp [totS, h], rfl⟩
theorem rof_p2 {t : Int} {nl : Option Bool} {a b : List UInt8} (h : a.length = 16) (h' : b.length = 16) : rofC.pre [i64 t, .sl .plain nl 2 [st a, st b]] = True := eq_true ⟨t, nl, [a, b], by simp [totS, h, h'], rfl⟩
theorem rof_q1 (t : Int) (m : Mode) (nl : Option Bool) (d : List UInt8) : rofC.post [i64 t, .sl m nl 1 [st d]] = .agg (bys (digOf t [d])) := by
  show AVal.agg (bys (digOf t (gSs (sts [d])))) = _
  simp
theorem rof_q2 (t : Int) (m : Mode) (nl : Option Bool) (a b : List UInt8) : rofC.post [i64 t, .sl m nl 2 [st a, st b]] = .agg (bys (digOf t [a, b])) := by
  show AVal.agg (bys (digOf t (gSs (sts [a, b])))) = _
  simp
theorem rlf_ok (E : Env) (h20 : E.G 20 = rofC) (h23 : E.G 23 = text16C) : ∀ ds, rlfC.pre ds → ds.length = f_custodyref08_leaf.n ∧ awp E f_custodyref08_leaf.body (retQ f_custodyref08_leaf.res (rlfC.post ds)) (initSt f_custodyref08_leaf.wr ds) := by
  rintro _ ⟨d, hd, rfl⟩
  rw [rlfC_post]
  have hl := digOf_len 1 [d]
  simp (maxSteps := 1000000) (disch := first | omega | (simp; done) | (simp; omega)) [W_id, bys_app, bys_snoc, f_custodyref08_leaf, h20, h23, text16_pre, rof_p1, rof_q1, hd, take_l16, splice_full, hl]
theorem rnd_ok (E : Env) (h20 : E.G 20 = rofC) (h23 : E.G 23 = text16C) : ∀ ds, rndC.pre ds → ds.length = f_custodyref08_node.n ∧ awp E f_custodyref08_node.body (retQ f_custodyref08_node.res (rndC.post ds)) (initSt f_custodyref08_node.wr ds) := by
  rintro _ ⟨a, b, ha, hb, rfl⟩
  rw [rndC_post]
  have hl := digOf_len 2 [a, b]
  simp (maxSteps := 1000000) (disch := first | omega | (simp; done) | (simp; omega)) [W_id, bys_app, bys_snoc, f_custodyref08_node, h20, h23, text16_pre, rof_p2, rof_q2, ha, hb, take_l16, splice_full, hl]
/-! ### Splitting -/
theorem spl_step {n i : Nat} (h : 2 ≤ n) (hi : 2 ^ i < n) (hc : ¬ (2 ^ i < n - 2 ^ i)) : 2 ^ i = spl n := by
  have h1 := spl_lt h
  have h2 := spl_twice h
  unfold spl at *
  rw [pow_uniq hi (by omega) h1 h2]
set_option maxHeartbeats 4000000 in
theorem rspl_ok (E : Env) : ∀ ds, splC.pre ds → ds.length = f_custodyref08_Split.n ∧ awp E f_custodyref08_Split.body (retQ f_custodyref08_Split.res (splC.post ds)) (initSt f_custodyref08_Split.wr ds) := by
  rintro _ ⟨n, h2, hn, rfl⟩
  rw [splC_post]
  simp (maxSteps := 1000000) (disch := first | omega | (simp; done) | (simp; omega)) [W_id, bys_app, bys_snoc, f_custodyref08_Split]
  refine awp_name fun Q0 hQ0 => ?_
  refine awp_for (fun i : Nat => ⟨[(0, i64 n)], [(3, i64 (2 ^ i : Nat))], []⟩) (fun i => n - 2 ^ i) (fun i => 2 ^ i < n) 0 rfl (by omega) fun i hi => ?_
  refine awp_name fun Q1 hQ1 => ?_
  by_cases h : 2 ^ i < n - 2 ^ i
  · have hp : 2 ^ (i + 1) = 2 * 2 ^ i := by rw [Nat.pow_succ]; omega
    have h0 := Nat.two_pow_pos i
    have e : (2 : Int) * ((2 ^ i : Nat) : Int) = ((2 ^ (i + 1) : Nat) : Int) := by rw [hp]; omega
    have hlt : ((2 ^ i : Nat) : Int) < (n : Int) - ((2 ^ i : Nat) : Int) := by omega
    generalize 2 ^ i = a at *
    simp (maxSteps := 1000000) (disch := first | omega | (simp; done) | (simp; omega)) [W_id, bys_app, bys_snoc, f_custodyref08_Split_l0, f_custodyref08_Split_r0, kT, kF, dT, dF, hlt, hQ1]
    refine ⟨i + 1, by omega, by omega, ?_⟩
    rw [e]; simp
  · have e := spl_step h2 hi h
    have hlt : ¬ ((2 ^ i : Nat) : Int) < (n : Int) - ((2 ^ i : Nat) : Int) := by omega
    rw [e] at hlt hi
    rw [e]
    simp (maxSteps := 1000000) (disch := first | omega | (simp; done) | (simp; omega)) [W_id, bys_app, bys_snoc, f_custodyref08_Split_l0, f_custodyref08_Split_r1, kT, kF, dT, dF, hQ1, hQ0, hlt]
set_option maxHeartbeats 4000000 in
theorem rroot_ok (E : Env) (k : Nat) (h20 : E.G 20 = rofC) (h201 : E.G 201 = rlfC) (h195 : E.G 195 = splC) (h202 : E.G 202 = rndC) (h197 : E.G 197 = limC rootC rootMu k) : ∀ ds, (limC rootC rootMu (k + 1)).pre ds → ds.length = f_custodyref08_Root.n ∧ awp E f_custodyref08_Root.body (retQ f_custodyref08_Root.res (rootC.post ds)) (initSt f_custodyref08_Root.wr ds) := by
  rintro _ ⟨⟨nl, l, h, hl, rfl⟩, hk⟩
  rw [dgsA, rootC_post h rfl rfl]
  have hk : l.length < k + 1 := hk
  by_cases h0 : l.length = 0
  · have e : l = [] := List.length_eq_zero_iff.1 h0
    subst e
    have hr : root [] = digOf 1 [] := root_few (by decide)
    have hp : rofC.pre [i64 1, .sl .plain (some true) 0 []] = True := rof_pre (l := []) rfl (by simp [totS])
    have hq : rofC.post [i64 1, .sl .plain (some true) 0 []] = .agg (bys (digOf 1 [])) := rof_post 1 (some true) 0 []
    have hl := digOf_len 1 []
    simp (maxSteps := 1000000) (disch := first | omega | (simp; done) | (simp; omega)) [W_id, bys_app, bys_snoc, f_custodyref08_Root, h20, hp, hq, kT, kF, dT, dF, hr, splice_bys0, hl, take_l16]
  by_cases h1 : l.length = 1
  · obtain ⟨d, rfl⟩ := List.length_eq_one_iff.1 h1
    have hd : d.length = 16 := (is16_cons.1 h).1
    have hr : root [d] = digOf 1 [d] := root_few (by simp)
    have hl := digOf_len 1 [d]
    simp (maxSteps := 1000000) (disch := first | omega | (simp; done) | (simp; omega)) [W_id, bys_app, bys_snoc, f_custodyref08_Root, f_custodyref08_Root_r0, h201, rlfC_pre, kT, kF, dT, dF, hr, splice_bys0, hd, take_l16, hl]
  have h2 : 2 ≤ l.length := by omega
  have b0 : ((l.length : Int) == 0) = false := beq_false_of_ne (by omega)
  have b1 : ((l.length : Int) == 1) = false := beq_false_of_ne (by omega)
  have hd := dgs_len h
  have hs := spl_lt h2
  have hs1 := spl_pos l.length
  have hr := root_two h2
  generalize hK : spl l.length = K at *
  have g1 : is16 (l.take K) := is16_take h K
  have g2 : is16 (l.drop K) := is16_drop h K
  have htk : (dgs (l.drop K)).take ((l.length - K) * 16) = dgs (l.drop K) := List.take_of_length_le (by rw [dgs_len g2, List.length_drop]; exact Nat.le_refl _)
  have lk1 : (l.take K).length = K := by rw [List.length_take]; omega
  have lk2 : (l.drop K).length = l.length - K := List.length_drop
  have hp1 : (limC rootC rootMu k).pre [.sl .plain nl K (bys (dgs (l.take K)))] = True := eq_true ⟨of_eq_true (rootC_pre g1 (by omega) lk1.symm rfl), by show K < k; omega⟩
  have hq1 : (limC rootC rootMu k).post [.sl .plain nl K (bys (dgs (l.take K)))] = .agg (bys (root (l.take K))) := rootC_post g1 lk1.symm rfl
  have hp2 : (limC rootC rootMu k).pre [.sl .plain nl (l.length - K) (bys (dgs (l.drop K)))] = True := eq_true ⟨of_eq_true (rootC_pre g2 (by omega) lk2.symm rfl), by show l.length - K < k; omega⟩
  have hq2 : (limC rootC rootMu k).post [.sl .plain nl (l.length - K) (bys (dgs (l.drop K)))] = .agg (bys (root (l.drop K))) := rootC_post g2 lk2.symm rfl
  have r1 := root_len (l.take K)
  have r2 := root_len (l.drop K)
  have hsl := digOf_len 2 [root (l.take K), root (l.drop K)]
  rw [hr]
  simp (maxSteps := 1000000) (disch := first | omega | (simp; done) | (simp; omega)) [W_id, bys_app, bys_snoc, f_custodyref08_Root, f_custodyref08_Root_r0, f_custodyref08_Root_r1, b0, b1, h195, splC_pre, hK, hd, dgs_take h, dgs_drop h, htk, h197, hp1, hq1, hp2, hq2, h202, rndC_pre r1 r2, kT, kF, dT, dF, splice_bys0, take_l16 hsl, hsl]
  try exact Nat.le_of_lt hs
/-! ### The peaks' form -/
def ronC : Contract := ⟨fun ds => ∃ n : Int, 0 ≤ n ∧ n ≤ 4294967296 ∧ ds = [i64 n], fun ds => i64 (oN (asI (nth ds 0)).toNat)⟩
theorem ronC_pre {n : Int} (h : 0 ≤ n) (h' : n ≤ 4294967296) : ronC.pre [i64 n] = True := eq_true ⟨n, h, h', rfl⟩
@[simp] theorem ronC_post (n : Int) : ronC.post [i64 n] = i64 (oN n.toNat) := by simp [ronC]
def hlf : Nat → Nat → Nat | n, 0 => n | n, i + 1 => hlf n i / 2
def cnt : Nat → Nat → Nat | _, 0 => 0 | n, i + 1 => cnt n i + hlf n i % 2
theorem cnt_ones (n : Nat) : ∀ i, cnt n i + oN (hlf n i) = oN n
  | 0 => by simp [cnt, hlf]
  | i + 1 => by
    have := cnt_ones n i
    rw [oN_eq (hlf n i)] at this
    simp only [cnt, hlf]; omega
theorem hlf_le (n : Nat) : ∀ i, hlf n i ≤ n
  | 0 => Nat.le_refl _
  | i + 1 => by have := hlf_le n i; simp only [hlf]; omega
theorem cnt_le (n : Nat) : ∀ i, cnt n i ≤ i
  | 0 => Nat.le_refl _
  | i + 1 => by have := cnt_le n i; simp only [cnt]; omega
theorem rones_ok (E : Env) : ∀ ds, ronC.pre ds → ds.length = f_custodyref08_ones.n ∧ awp E f_custodyref08_ones.body (retQ f_custodyref08_ones.res (ronC.post ds)) (initSt f_custodyref08_ones.wr ds) := by
  rintro _ ⟨n, h0, h1, rfl⟩
  rw [ronC_post]
  obtain ⟨m, rfl⟩ := Int.eq_ofNat_of_zero_le h0
  rw [Int.toNat_natCast]
  have hm : m ≤ 4294967296 := by omega
  simp (maxSteps := 1000000) (disch := first | omega | (simp; done) | (simp; omega)) [W_id, bys_app, bys_snoc, f_custodyref08_ones]
  refine awp_name fun Q0 hQ0 => ?_
  refine awp_for (fun i : Nat => ⟨[], [(0, i64 (hlf m i)), (3, i64 (cnt m i))], []⟩) (fun i => hlf m i) (fun _ => True) 0 rfl trivial fun i hi => ?_
  refine awp_name fun Q1 hQ1 => ?_
  have hle := hlf_le m i
  have hc := cnt_ones m i
  have hc1 := cnt_ones m (i + 1)
  have ho := oN_le 33 m (by omega)
  by_cases h : 0 < hlf m i
  · have hlt : (0 : Int) < (hlf m i : Int) := by omega
    have et : ((hlf m i : Nat) : Int).tmod 2 = ((hlf m i % 2 : Nat) : Int) := rfl
    simp (maxSteps := 1000000) (disch := first | omega | (simp; done) | (simp; omega)) [W_id, bys_app, bys_snoc, f_custodyref08_ones_l0, f_custodyref08_ones_r0, kT, kF, dT, dF, hlt, hQ1]
    refine ⟨i + 1, by simp only [hlf]; omega, by simp only [hlf]; omega, ?_⟩
    simp only [et]
    first | (simp only [cnt]; omega) | (rw [W_id (by omega) (by omega)]; simp only [cnt]; omega)
  · have hz : hlf m i = 0 := by omega
    rw [hz, oN_zero] at hc
    simp (maxSteps := 1000000) (disch := first | omega | (simp; done) | (simp; omega)) [W_id, bys_app, bys_snoc, f_custodyref08_ones_l0, f_custodyref08_ones_r1, kT, kF, dT, dF, hQ1, hQ0, hz]
    omega
set_option maxHeartbeats 4000000 in
theorem rval_ok (E : Env) (h214 : E.G 214 = ronC) : ∀ ds, valC.pre ds → ds.length = f_custodyref08_ValidPeaks.n ∧ awp E f_custodyref08_ValidPeaks.body (retQ f_custodyref08_ValidPeaks.res (valC.post ds)) (initSt f_custodyref08_ValidPeaks.wr ds) := by
  rintro _ ⟨n, nl, l, ⟨hn1, hn2⟩, hl, hk, rfl⟩
  rw [show valC.post [pkA n nl l] = bo (okP n l.length) from valC_post hl rfl rfl]
  unfold pkA dgsA
  by_cases h0 : 0 ≤ n
  · by_cases h1 : n ≤ 4294967296
    · simp (maxSteps := 1000000) (disch := first | omega | (simp; done) | (simp; omega)) [W_id, bys_app, bys_snoc, f_custodyref08_ValidPeaks, h214, ronC_pre h0 h1, dT, dF, h0, h1]
      simp only [okP, dT h0, dT h1, Bool.true_and]
      by_cases e : l.length = oN n.toNat
      · rw [e]; simp
      · rw [dF e]; simp; omega
    · simp (maxSteps := 1000000) (disch := first | omega | (simp; done) | (simp; omega)) [W_id, bys_app, bys_snoc, f_custodyref08_ValidPeaks, h214, dT, dF, h0, h1]
      simp only [okP, dF h1]; simp
  · simp (maxSteps := 1000000) (disch := first | omega | (simp; done) | (simp; omega)) [W_id, bys_app, bys_snoc, f_custodyref08_ValidPeaks, h214, dT, dF, h0]
    simp only [okP, dF h0]; simp
/-! ### The same -/
def samC : Contract := ⟨fun ds => ∃ (nl nl' : Option Bool) (a b : List (List UInt8)), is16 a ∧ is16 b ∧ a.length ≤ 1000000 ∧ b.length ≤ 1000000 ∧ ds = [dgsA nl a, dgsA nl' b], fun ds => bo (decide (gDs (nth ds 0) = gDs (nth ds 1)))⟩
theorem samC_pre {nl nl' : Option Bool} {a b : List (List UInt8)} {x y : List UInt8} {n m : Nat} (ha : is16 a) (hb : is16 b) (h1 : a.length ≤ 1000000) (h2 : b.length ≤ 1000000) (hn : n = a.length) (hm : m = b.length) (hx : x = dgs a) (hy : y = dgs b) : samC.pre [.sl .plain nl n (bys x), .sl .plain nl' m (bys y)] = True := eq_true ⟨nl, nl', a, b, ha, hb, h1, h2, by rw [hn, hm, hx, hy]; rfl⟩
theorem samC_post {M M' : Mode} {nl nl' : Option Bool} {a b : List (List UInt8)} {x y : List UInt8} {n m : Nat} (ha : is16 a) (hb : is16 b) (hn : n = a.length) (hm : m = b.length) (hx : x = dgs a) (hy : y = dgs b) : samC.post [.sl M nl n (bys x), .sl M' nl' m (bys y)] = bo (decide (a = b)) := by
  simp only [samC]
  rw [hn, hm, hx, hy, show nth [AVal.sl M nl a.length (bys (dgs a)), AVal.sl M' nl' b.length (bys (dgs b))] 0 = AVal.sl M nl a.length (bys (dgs a)) from rfl, show nth [AVal.sl M nl a.length (bys (dgs a)), AVal.sl M' nl' b.length (bys (dgs b))] 1 = AVal.sl M' nl' b.length (bys (dgs b)) from rfl, gDs_dgs ha, gDs_dgs hb]
theorem take_next {a b : List (List UInt8)} {i : Nat} (ha : i < a.length) (hb : i < b.length) (h : a.take i = b.take i) (he : dgAt a i = dgAt b i) : a.take (i + 1) = b.take (i + 1) := by
  rw [← List.take_append_getElem (i := i) (h := ha), ← List.take_append_getElem (i := i) (h := hb), h]
  simp only [dgAt, List.getD, List.getElem?_eq_getElem ha, List.getElem?_eq_getElem hb, Option.getD_some] at he
  rw [he]
set_option maxHeartbeats 4000000 in
theorem rsam_ok (E : Env) : ∀ ds, samC.pre ds → ds.length = f_custodyref08_Same.n ∧ awp E f_custodyref08_Same.body (retQ f_custodyref08_Same.res (samC.post ds)) (initSt f_custodyref08_Same.wr ds) := by
  rintro _ ⟨nl, nl', a, b, ha, hb, h1, h2, rfl⟩
  rw [show samC.post [dgsA nl a, dgsA nl' b] = bo (decide (a = b)) from samC_post ha hb rfl rfl rfl rfl]
  unfold dgsA
  have da := dgs_len ha
  have db := dgs_len hb
  by_cases hlen : a.length = b.length
  · have bn : ((a.length : Int) != (b.length : Int)) = false := by rw [hlen]; simp
    simp (maxSteps := 1000000) (disch := first | omega | (simp; done) | (simp; omega)) [W_id, bys_app, bys_snoc, f_custodyref08_Same, f_custodyref08_Same_r0, bn, kT, kF]
    refine awp_name fun Q0 hQ0 => ?_
    refine awp_for (fun i : Nat => ⟨[(0, .sl .plain nl a.length (bys (dgs a))), (1, .sl .plain nl' b.length (bys (dgs b)))], [(5, i64 i)], []⟩) (fun i => a.length - i) (fun i => i ≤ a.length ∧ a.take i = b.take i) 0 rfl (by simp) fun i hi => ?_
    refine awp_name fun Q1 hQ1 => ?_
    obtain ⟨hi, he⟩ := hi
    by_cases h : i < a.length
    · have hlt : (i : Int) < (a.length : Int) := by omega
      have ta := dgs_at ha h
      have tb := dgs_at hb (show i < b.length by omega)
      have la := dgAt_len ha h
      have lb := dgAt_len hb (show i < b.length by omega)
      have eqb := eqCells_ks8 la lb
      by_cases hab : dgAt a i = dgAt b i
      · rw [hab] at eqb
        have hn := take_next h (by omega) he hab
        simp (maxSteps := 1000000) (disch := first | omega | (simp; done) | (simp; omega)) [W_id, bys_app, bys_snoc, f_custodyref08_Same_l0, f_custodyref08_Same_r1, kT, kF, dT, dF, hlt, ta, tb, eqb, hab, da, db, hQ1]
        exact ⟨by omega, by omega, by omega, lb, i + 1, by omega, ⟨by omega, hn⟩, by omega⟩
      · have hne : ¬ a = b := fun e => hab (by rw [e])
        simp (maxSteps := 1000000) (disch := first | omega | (simp; done) | (simp; omega)) [W_id, bys_app, bys_snoc, f_custodyref08_Same_l0, f_custodyref08_Same_r1, kT, kF, dT, dF, hlt, ta, tb, eqb, hab, da, db, hQ1, hQ0, hne]
        exact ⟨by omega, by omega, by omega, la, lb⟩
    · have hlt : ¬ (i : Int) < (a.length : Int) := by omega
      have hab : a = b := by
        rw [List.take_of_length_le (by omega), List.take_of_length_le (by omega)] at he
        exact he
      subst hab
      simp (maxSteps := 1000000) (disch := first | omega | (simp; done) | (simp; omega)) [W_id, bys_app, bys_snoc, f_custodyref08_Same_l0, f_custodyref08_Same_r2, kT, kF, dT, dF, hlt, hQ1, hQ0]
  · have bn : ((a.length : Int) != (b.length : Int)) = true := by simpa using fun h => hlen (by omega)
    have hne : ¬ a = b := fun e => hlen (by rw [e])
    simp (maxSteps := 1000000) (disch := first | omega | (simp; done) | (simp; omega)) [W_id, bys_app, bys_snoc, f_custodyref08_Same, bn, kT, kF, hne]
def spkC : Contract := ⟨fun ds => ∃ (n m : Int) (nl nl' : Option Bool) (a b : List (List UInt8)), is16 a ∧ is16 b ∧ a.length ≤ 1000000 ∧ b.length ≤ 1000000 ∧ ds = [pkA n nl a, pkA m nl' b], fun ds => bo (decide (gPl (nth ds 0) = gPl (nth ds 1)) && decide (gPn (nth ds 0) = gPn (nth ds 1)))⟩
theorem spkC_pre {n m : Int} {nl nl' : Option Bool} {a b : List (List UInt8)} {x y : List UInt8} {i j : Nat} (ha : is16 a) (hb : is16 b) (h1 : a.length ≤ 1000000) (h2 : b.length ≤ 1000000) (hi : i = a.length) (hj : j = b.length) (hx : x = dgs a) (hy : y = dgs b) : spkC.pre [.agg [i64 n, .sl .plain nl i (bys x)], .agg [i64 m, .sl .plain nl' j (bys y)]] = True := eq_true ⟨n, m, nl, nl', a, b, ha, hb, h1, h2, by rw [hi, hj, hx, hy]; rfl⟩
theorem spkC_post {n m : Int} {M M' : Mode} {nl nl' : Option Bool} {a b : List (List UInt8)} {x y : List UInt8} {i j : Nat} (ha : is16 a) (hb : is16 b) (hi : i = a.length) (hj : j = b.length) (hx : x = dgs a) (hy : y = dgs b) : spkC.post [.agg [i64 n, .sl M nl i (bys x)], .agg [i64 m, .sl M' nl' j (bys y)]] = bo (decide (a = b) && decide (n = m)) := by
  simp only [spkC]
  rw [hi, hj, hx, hy, show nth [AVal.agg [i64 n, .sl M nl a.length (bys (dgs a))], AVal.agg [i64 m, .sl M' nl' b.length (bys (dgs b))]] 0 = AVal.agg [i64 n, .sl M nl a.length (bys (dgs a))] from rfl, show nth [AVal.agg [i64 n, .sl M nl a.length (bys (dgs a))], AVal.agg [i64 m, .sl M' nl' b.length (bys (dgs b))]] 1 = AVal.agg [i64 m, .sl M' nl' b.length (bys (dgs b))] from rfl, gPl_pkA, gPl_pkA, gPn_pkA, gPn_pkA, gDs_dgs ha, gDs_dgs hb]
theorem rspk_ok (E : Env) (h200 : E.G 200 = samC) : ∀ ds, spkC.pre ds → ds.length = f_custodyref08_SamePeaks.n ∧ awp E f_custodyref08_SamePeaks.body (retQ f_custodyref08_SamePeaks.res (spkC.post ds)) (initSt f_custodyref08_SamePeaks.wr ds) := by
  rintro _ ⟨n, m, nl, nl', a, b, ha, hb, h1, h2, rfl⟩
  rw [show spkC.post [pkA n nl a, pkA m nl' b] = bo (decide (a = b) && decide (n = m)) from spkC_post ha hb rfl rfl rfl rfl]
  unfold pkA dgsA
  have pre := samC_pre (nl := nl) (nl' := nl') ha hb h1 h2 rfl rfl rfl rfl
  have post := samC_post (M := .plain) (M' := .plain) (nl := nl) (nl' := nl') ha hb rfl rfl rfl rfl
  by_cases e : a = b
  · have e' : decide (a = b) = true := decide_eq_true e
    rw [e'] at post
    obtain rfl := e
    simp (maxSteps := 1000000) (disch := first | omega | (simp; done) | (simp; omega)) [W_id, bys_app, bys_snoc, f_custodyref08_SamePeaks, h200, pre, post, kT, kF, dT, dF]
    rfl
  · have e' : decide (a = b) = false := decide_eq_false e
    rw [e'] at post
    simp (maxSteps := 1000000) (disch := first | omega | (simp; done) | (simp; omega)) [W_id, bys_app, bys_snoc, f_custodyref08_SamePeaks, h200, pre, post, e, kT, kF, dT, dF]
/-! ### The top -/
set_option maxHeartbeats 4000000 in
theorem rtop_ok (E : Env) (h20 : E.G 20 = rofC) (h202 : E.G 202 = rndC) (h211 : E.G 211 = valC) : ∀ ds, topC.pre ds → ds.length = f_custodyref08_Top.n ∧ awp E f_custodyref08_Top.body (retQ f_custodyref08_Top.res (topC.post ds)) (initSt f_custodyref08_Top.wr ds) := by
  rintro _ ⟨n, nl, l, hn, hl, hlen, rfl⟩
  rw [show topC.post [pkA n nl l] = .tup [.agg (bys (topP n l).1), i64 (topP n l).2] from topC_post hl rfl rfl, topP]
  unfold pkA dgsA
  have v1 := valC_pre (nl := nl) hn hl hlen rfl rfl
  have v2 := valC_post (n := n) (m := .plain) (nl := nl) hl rfl rfl
  by_cases ho : okP n l.length = true
  · rw [if_pos ho]
    rw [ho] at v2
    have hz : (n = 0) ↔ (l.length = 0) := by
      simp only [okP, Bool.and_eq_true, decide_eq_true_eq] at ho
      obtain ⟨⟨g0, _⟩, g2⟩ := ho
      constructor
      · rintro rfl; rw [g2]; exact oN_zero
      · intro h
        have hn0 : ¬ 0 < n.toNat := fun h' => by have := oN_pos h'; omega
        omega
    by_cases h0 : n = 0
    · rw [if_pos h0]
      have hll : l = [] := List.length_eq_zero_iff.1 (hz.1 h0)
      subst h0 hll
      have hr : root [] = digOf 1 [] := root_few (by decide)
      have hp : rofC.pre [i64 1, .sl .plain (some true) 0 []] = True := rof_pre (l := []) rfl (by simp [totS])
      have hq : rofC.post [i64 1, .sl .plain (some true) 0 []] = .agg (bys (digOf 1 [])) := rof_post 1 (some true) 0 []
      have hll := digOf_len 1 []
      replace v1 : valC.pre [.agg [i64 0, .sl .plain nl 0 []]] = True := v1
      replace v2 : valC.post [.agg [i64 0, .sl .plain nl 0 []]] = bo true := v2
      simp (maxSteps := 1000000) (disch := first | omega | (simp; done) | (simp; omega)) [W_id, bys_app, bys_snoc, f_custodyref08_Top, h211, v1, v2, kT, kF, dT, dF, f_custodyref08_Top_r0, h20, hp, hq, hll, splice_full, take_l16 hll, hr]
    · rw [if_neg h0]
      have hpos : 0 < l.length := by omega
      have hd := dgs_len hl
      have hat := dgs_at hl (show l.length - 1 < l.length by omega)
      have hal := dgAt_len hl (show l.length - 1 < l.length by omega)
      have e1 : ((l.length : Int) - 1).toNat = l.length - 1 := by omega
      have b0 : ((l.length : Int) == 0) = false := beq_false_of_ne (by omega)
      simp (maxSteps := 1000000) (disch := first | omega | (simp; done) | (simp; omega)) [W_id, bys_app, bys_snoc, f_custodyref08_Top, h211, v1, v2, kT, kF, dT, dF, h0, f_custodyref08_Top_r0, f_custodyref08_Top_r1, e1, hd, hat, hal, splice_full, b0]
      refine ⟨⟨by omega, by omega⟩, by omega, ?_⟩
      refine awp_name fun Q0 hQ0 => ?_
      refine awp_for (fun i : Nat => ⟨[(0, .agg [i64 n, .sl .plain nl l.length (bys (dgs l))])], [(1, .bp 1 0), (2, .bp 2 0), (4, .bp 4 0), (5, i64 ((l.length : Int) - 2 - i))], [(1, some [i64 n, .sl .plain nl l.length (bys (dgs l))]), (2, some (bys (zeros 16))), (4, some (bys (topF l i)))]⟩) (fun i => l.length - i) (fun i => i ≤ l.length - 1) 0 (by simp [topF]) (Nat.zero_le _) fun i hi => ?_
      refine awp_name fun Q1 hQ1 => ?_
      have tl := topF_len hl hpos i
      have tk := take_l16 tl
      by_cases h : i < l.length - 1
      · have hlt : (0 : Int) ≤ (l.length : Int) - 2 - i := by omega
        have e2 : ((l.length : Int) - 2 - i).toNat = l.length - 2 - i := by omega
        have hat2 := dgs_at hl (show l.length - 2 - i < l.length by omega)
        have hal2 := dgAt_len hl (show l.length - 2 - i < l.length by omega)
        have es : digOf 2 [dgAt l (l.length - 2 - i), topF l i] = topF l (i + 1) := rfl
        have tl1 := topF_len hl hpos (i + 1)
        simp (maxSteps := 1000000) (disch := first | omega | (simp; done) | (simp; omega)) [W_id, bys_app, bys_snoc, f_custodyref08_Top_l0, f_custodyref08_Top_r2, kT, kF, dT, dF, hlt, e2, hd, hat2, h202, rndC_pre hal2 tl, tl, tk, es, tl1, splice_full, hQ1]
        exact ⟨⟨by omega, by omega⟩, by omega, i + 1, by omega, by omega, by omega, rfl⟩
      · have hlt : ¬ (0 : Int) ≤ (l.length : Int) - 2 - i := by omega
        have hii : i = l.length - 1 := by omega
        subst hii
        simp (maxSteps := 1000000) (disch := first | omega | (simp; done) | (simp; omega)) [W_id, bys_app, bys_snoc, f_custodyref08_Top_l0, f_custodyref08_Top_r3, kT, kF, dT, dF, hlt, tl, tk, splice_full, hQ1, hQ0]
        skip
  · rw [if_neg ho]
    have ho' : okP n l.length = false := by simpa using ho
    rw [ho'] at v2
    simp (maxSteps := 1000000) (disch := first | omega | (simp; done) | (simp; omega)) [W_id, bys_app, bys_snoc, f_custodyref08_Top, h211, v1, v2, kT, kF, splice_full]
end Go.Abs
end

section
namespace Go.Abs
set_option maxRecDepth 100000
def pkAt (l : List (List UInt8)) : Nat → Nat
  | 0 => 0
  | i + 1 => if 2 ^ (20 - i) ≤ l.length - pkAt l i then pkAt l i + 2 ^ (20 - i) else pkAt l i
def pkLs (l : List (List UInt8)) : Nat → List (List UInt8)
  | 0 => []
  | i + 1 => if 2 ^ (20 - i) ≤ l.length - pkAt l i then pkLs l i ++ [root ((l.drop (pkAt l i)).take (2 ^ (20 - i)))] else pkLs l i
def kN : Nat → Nat
  | 0 => 1048576
  | i + 1 => kN i / 2
theorem kN_eq : ∀ i, i ≤ 20 → kN i = 2 ^ (20 - i)
  | 0, _ => rfl
  | i + 1, h => by
    rw [kN, kN_eq i (by omega), show 20 - i = (20 - (i + 1)) + 1 by omega, Nat.pow_succ]
    omega
theorem kN_end : kN 21 = 0 := rfl
theorem pkAt_le (l : List (List UInt8)) : ∀ i, pkAt l i ≤ l.length
  | 0 => Nat.zero_le _
  | i + 1 => by have := pkAt_le l i; simp only [pkAt]; split <;> omega
theorem pkLs_len (l : List (List UInt8)) : ∀ i, (pkLs l i).length ≤ i
  | 0 => Nat.le_refl _
  | i + 1 => by
    have := pkLs_len l i; simp only [pkLs]; split
    · simp; omega
    · omega
theorem pkLs_16 (l : List (List UInt8)) : ∀ i, is16 (pkLs l i)
  | 0 => is16_nil
  | i + 1 => by
    have := pkLs_16 l i; simp only [pkLs]; split
    · exact is16_app.2 ⟨this, is16_cons.2 ⟨root_len _, is16_nil⟩⟩
    · exact this
theorem pkLs_all (l : List (List UInt8)) : ∀ i, i ≤ 21 → pkLs l i ++ pksL (21 - i) (l.drop (pkAt l i)) = pksL 21 l
  | 0, _ => by simp [pkLs, pkAt]
  | i + 1, h => by
    have ih := pkLs_all l i (by omega)
    have ha := pkAt_le l i
    rw [show 21 - i = (20 - i) + 1 by omega, pksL, List.length_drop] at ih
    rw [show 21 - (i + 1) = 20 - i by omega]
    simp only [pkLs, pkAt]
    split
    · rename_i hc
      rw [if_pos hc] at ih
      rw [← ih, List.append_assoc, List.drop_drop]; rfl
    · rename_i hc
      rw [if_neg hc] at ih
      exact ih
def pksC : Contract := ⟨fun ds => ∃ (nl : Option Bool) (l : List (List UInt8)), is16 l ∧ l.length ≤ 1000000 ∧ ds = [dgsA nl l], fun ds => pkA (gDs (nth ds 0)).length none (pksL 21 (gDs (nth ds 0)))⟩
theorem pksC_pre {nl : Option Bool} {l : List (List UInt8)} {b : List UInt8} {n : Nat} (h : is16 l) (hl : l.length ≤ 1000000) (hn : n = l.length) (hb : b = dgs l) : pksC.pre [.sl .plain nl n (bys b)] = True := eq_true ⟨nl, l, h, hl, by rw [hn, hb]; rfl⟩
theorem pksC_post {m : Mode} {nl : Option Bool} {l : List (List UInt8)} {b : List UInt8} {n : Nat} (h : is16 l) (hn : n = l.length) (hb : b = dgs l) : pksC.post [.sl m nl n (bys b)] = pkA l.length none (pksL 21 l) := by
  simp only [pksC]
  rw [hn, hb, show nth [AVal.sl m nl l.length (bys (dgs l))] 0 = AVal.sl m nl l.length (bys (dgs l)) from rfl, gDs_dgs h]
set_option maxHeartbeats 8000000 in
theorem rpks_ok (E : Env) (h197 : E.G 197 = rootC) : ∀ ds, pksC.pre ds → ds.length = f_custodyref08_Peaks.n ∧ awp E f_custodyref08_Peaks.body (retQ f_custodyref08_Peaks.res (pksC.post ds)) (initSt f_custodyref08_Peaks.wr ds) := by
  rintro _ ⟨nl, l, h, hl, rfl⟩
  rw [dgsA, pksC_post h rfl rfl]
  unfold pkA dgsA
  have hd := dgs_len h
  simp (maxSteps := 1000000) (disch := first | omega | (simp; done) | (simp; omega)) [W_id, bys_app, bys_snoc, f_custodyref08_Peaks, splice_full]
  refine awp_name fun Q0 hQ0 => ?_
  refine awp_for (fun i : Nat => ⟨[(0, .sl .plain nl l.length (bys (dgs l)))], [(2, .bp 2 0), (3, .bp 3 0), (4, i64 (pkAt l i)), (5, i64 (kN i))], [(2, some [i64 0, .sl (.own 16) none 0 []]), (3, some [i64 l.length, .sl (.own 16) none (pkLs l i).length (bys (dgs (pkLs l i)))])]⟩) (fun i => 21 - i) (fun i => i ≤ 21) 0 (by simp [pkAt, pkLs, kN]) (by decide) fun i hi => ?_
  refine awp_name fun Q1 hQ1 => ?_
  have hat := pkAt_le l i
  by_cases h0 : i < 21
  · have hk := kN_eq i (by omega)
    have hk1 : kN (i + 1) = kN i / 2 := rfl
    have hp := Nat.two_pow_pos (20 - i)
    have hpl : 2 ^ (20 - i) ≤ 2 ^ 20 := Nat.pow_le_pow_right (by decide) (by omega)
    rw [hk] at hk1 ⊢
    have hA := pkAt.eq_2 l i
    have hL := pkLs.eq_2 l i
    generalize 2 ^ (20 - i) = k at *
    have hlt : (0 : Int) < (k : Int) := by omega
    have pl := pkLs_len l i
    have p16 := pkLs_16 l i
    have pd := dgs_len p16
    by_cases hc : k ≤ l.length - pkAt l i
    · have hc' : (k : Int) ≤ (l.length : Int) - (pkAt l i : Int) := by omega
      rw [if_pos hc] at hA hL
      generalize hx : pkAt l i = x at *
      generalize hm : pkLs l i = m at *
      have g : is16 ((l.drop x).take k) := is16_take (is16_drop h x) k
      have gl : ((l.drop x).take k).length = k := by rw [List.length_take, List.length_drop]; omega
      have e1 := dgs_drop h x
      have e2 := dgs_take (is16_drop h x) k
      have r1 := rootC_pre (nl := nl) g (by omega) gl.symm rfl
      have r2 := rootC_post (nl := nl) g gl.symm rfl
      have r3 := root_len ((l.drop x).take k)
      have e3 : ((x : Int) + (k : Int)).toNat = x + k := by omega
      simp (maxSteps := 1000000) (disch := first | omega | (simp; done) | (simp; omega)) [W_id, bys_app, bys_snoc, f_custodyref08_Peaks_l0, f_custodyref08_Peaks_r0, kT, kF, dT, dF, hlt, hc', hd, e1, e2, h197, r1, r2, r3, take_l16, e3, pd, splice_full]
      refine ⟨⟨⟨by omega, by omega⟩, by omega⟩, ⟨by omega, by omega⟩, ?_⟩
      rw [hQ1]
      refine ⟨i + 1, by omega, by omega, ?_⟩
      rw [hA, hL, hk1]
      simp [bys_append]
    · have hc' : ¬ (k : Int) ≤ (l.length : Int) - (pkAt l i : Int) := by omega
      rw [if_neg hc] at hA hL
      simp (maxSteps := 1000000) (disch := first | omega | (simp; done) | (simp; omega)) [W_id, bys_app, bys_snoc, f_custodyref08_Peaks_l0, f_custodyref08_Peaks_r0, kT, kF, dT, dF, hlt, hc']
      rw [hQ1]
      refine ⟨i + 1, by omega, by omega, ?_⟩
      rw [hA, hL, hk1]
      simp
  · have hi' : i = 21 := by omega
    subst hi'
    have ha := pkLs_all l 21 (Nat.le_refl _)
    have ha' : pkLs l 21 = pksL 21 l := by rw [← ha]; simp [pksL]
    rw [kN_end]
    simp (maxSteps := 1000000) (disch := first | omega | (simp; done) | (simp; omega)) [W_id, bys_app, bys_snoc, f_custodyref08_Peaks_l0, f_custodyref08_Peaks_r1, kT, kF, dT, dF, hQ1, hQ0, splice_full, ha']
    skip
/-! ### Add -/
def radN (n : Int) (l : List (List UInt8)) (d : List UInt8) : (Int × List (List UInt8)) × Nat := addP n l d
def radC : Contract := ⟨padC.pre, fun ds => .tup [pkA (addP (gPn (nth ds 0)) (gPl (nth ds 0)) (gBs (gCs (nth ds 1)))).1.1 none (addP (gPn (nth ds 0)) (gPl (nth ds 0)) (gBs (gCs (nth ds 1)))).1.2, i64 (addP (gPn (nth ds 0)) (gPl (nth ds 0)) (gBs (gCs (nth ds 1)))).2]⟩
theorem radC_pre {n : Int} {nl : Option Bool} {l : List (List UInt8)} {b d : List UInt8} {k : Nat} (hn : inI n) (h : is16 l) (hl : l.length ≤ 1000000) (hd : d.length = 16) (hk : k = l.length) (hb : b = dgs l) : radC.pre [.agg [i64 n, .sl .plain nl k (bys b)], .agg (bys d)] = True := padC_pre hn h hl hd hk hb
theorem radC_post {n : Int} {m : Mode} {nl : Option Bool} {l : List (List UInt8)} {b d : List UInt8} {k : Nat} (h : is16 l) (hk : k = l.length) (hb : b = dgs l) : radC.post [.agg [i64 n, .sl m nl k (bys b)], .agg (bys d)] = .tup [pkA (addP n l d).1.1 none (addP n l d).1.2, i64 (addP n l d).2] := by
  simp only [radC]
  rw [hk, hb, show nth [AVal.agg [i64 n, .sl m nl l.length (bys (dgs l))], .agg (bys d)] 0 = AVal.agg [i64 n, .sl m nl l.length (bys (dgs l))] from rfl, show gBs (gCs (nth [AVal.agg [i64 n, .sl m nl l.length (bys (dgs l))], .agg (bys d)] 1)) = d from by simp [nth, gCs], gPn_pkA, gPl_pkA, gDs_dgs h]
theorem toN_hlf (n : Nat) : ∀ i, i ≤ t1N n → t1N (hlf n i) = t1N n - i
  | 0, _ => rfl
  | i + 1, h => by
    have ih := toN_hlf n i (by omega)
    have ho : hlf n i % 2 = 1 := by
      by_cases hc : hlf n i % 2 = 1
      · exact hc
      · rw [toN_even (by omega)] at ih; omega
    rw [toN_odd ho] at ih
    rw [hlf]; omega
theorem toN_pos_iff (n : Nat) : 0 < t1N n ↔ n % 2 = 1 := by
  by_cases h : n % 2 = 1
  · rw [toN_odd h]; omega
  · rw [toN_even (by omega)]; omega
set_option maxHeartbeats 8000000 in
theorem radd_ok (E : Env) (h201 : E.G 201 = rlfC) (h202 : E.G 202 = rndC) (h211 : E.G 211 = valC) : ∀ ds, radC.pre ds → ds.length = f_custodyref08_Add.n ∧ awp E f_custodyref08_Add.body (retQ f_custodyref08_Add.res (radC.post ds)) (initSt f_custodyref08_Add.wr ds) := by
  rintro _ ⟨n, nl, l, d, hn, hl, hlen, hd, rfl⟩
  rw [show radC.post [pkA n nl l, .agg (bys d)] = .tup [pkA (addP n l d).1.1 none (addP n l d).1.2, i64 (addP n l d).2] from radC_post hl rfl rfl, addP]
  unfold pkA dgsA
  have v1 := valC_pre (nl := nl) hn hl hlen rfl rfl
  have v2 := valC_post (n := n) (m := .plain) (nl := nl) hl rfl rfl
  have hk : okP n l.length = false ∨ okP n l.length = true := by cases okP n l.length <;> simp
  rcases hk with ho | ho
  · rw [ho] at v2
    have x1 : ¬ (okP n l.length = true ∧ n ≠ 4294967296) := by simp [ho]
    rw [if_neg x1]
    simp (maxSteps := 1000000) (disch := first | omega | (simp; done) | (simp; omega)) [W_id, bys_app, bys_snoc, f_custodyref08_Add, h211, v1, v2, kT, kF, hd, splice_full]
  · rw [ho] at v2
    by_cases h2 : n = 4294967296
    · have x1 : ¬ (okP n l.length = true ∧ n ≠ 4294967296) := by simp [h2]
      rw [if_neg x1]
      subst h2
      simp (maxSteps := 1000000) (disch := first | omega | (simp; done) | (simp; omega)) [W_id, bys_app, bys_snoc, f_custodyref08_Add, h211, v1, v2, kT, kF, hd, splice_full]
    · obtain ⟨g0, g1, g2⟩ : 0 ≤ n ∧ n < 4294967296 ∧ l.length = oN n.toNat := by
        simp only [okP, Bool.and_eq_true, decide_eq_true_eq] at ho
        exact ⟨ho.1.1, by omega, ho.2⟩
      have gt := toN_le_oN n.toNat
      have hbF : (n == 4294967296) = false := by simpa using h2
      rw [if_pos ⟨ho, h2⟩]
      obtain ⟨m, rfl⟩ := Int.eq_ofNat_of_zero_le g0
      rw [Int.toNat_natCast] at gt g2 ⊢
      have hlf0 : digOf 1 [d] = addF l d 0 := rfl
      have fl0 := addF_len l d 0
      have hdl := dgs_len hl
      simp (maxSteps := 1000000) (disch := first | omega | (simp; done) | (simp; omega)) [W_id, bys_app, bys_snoc, f_custodyref08_Add, h211, v1, v2, kT, kF, hd, splice_full, hbF, dF, h2, f_custodyref08_Add_r0, h201, rlfC_pre, hlf0, fl0, take_l16]
      refine awp_name fun Q0 hQ0 => ?_
      generalize ht : t1N m = t at *
      refine awp_for (fun i : Nat => ⟨[(0, .agg [i64 m, .sl .plain nl l.length (bys (dgs l))]), (1, .agg (bys d))], [(2, .bp 2 0), (4, .bp 4 0), (6, .bp 6 0), (7, i64 (hlf m i)), (8, i64 (l.length - i : Nat))], [(2, some [i64 m, .sl .plain nl l.length (bys (dgs l))]), (3, some (bys d)), (4, some [i64 0, .sl (.own 16) none 0 []]), (6, some (bys (addF l d i)))]⟩) (fun i => t - i) (fun i => i ≤ t) 0 (by simp [hlf]) (Nat.zero_le _) fun i hi => ?_
      refine awp_name fun Q1 hQ1 => ?_
      have fl := addF_len l d i
      have tk := take_l16 fl
      have hth := toN_hlf m i (by omega)
      have hle := hlf_le m i
      have et : ((hlf m i : Nat) : Int).tmod 2 = ((hlf m i % 2 : Nat) : Int) := rfl
      have hpi := toN_pos_iff (hlf m i)
      by_cases h : i < t
      · have ho1 : hlf m i % 2 = 1 := hpi.1 (by omega)
        have hat := dgs_at hl (show l.length - i - 1 < l.length by omega)
        have hal := dgAt_len hl (show l.length - i - 1 < l.length by omega)
        have es : digOf 2 [dgAt l (l.length - i - 1), addF l d i] = addF l d (i + 1) := by rw [addF, show l.length - 1 - i = l.length - i - 1 by omega]
        have fl1 := addF_len l d (i + 1)
        have ei : (((l.length - i : Nat) : Int) - 1).toNat = l.length - i - 1 := by omega
        simp (maxSteps := 1000000) (disch := first | omega | (simp; done) | (simp; omega)) [W_id, bys_app, bys_snoc, f_custodyref08_Add_l0, f_custodyref08_Add_r1, et, ho1, kT, kF, hat, hdl, ei, h202, rndC_pre hal fl, es, fl1, fl, tk, splice_full]
        refine ⟨⟨by omega, by omega⟩, by omega, ?_⟩
        rw [hQ1]
        refine ⟨i + 1, by omega, by omega, ?_⟩
        rw [hlf]
        simp
        omega
      · have hit : i = t := by omega
        subst hit
        have ho1 : hlf m i % 2 = 0 := by omega
        have el : dgs (addL l d i) = dgs (l.take (l.length - i)) ++ addF l d i := by rw [addL, dgs_append, dgs_cons, dgs_nil, List.append_nil]
        have ell : (addL l d i).length = l.length - i + 1 := by simp [addL]
        have htk := dgs_take hl (l.length - i)
        have htl := dgs_len (is16_take hl (l.length - i))
        rw [List.length_take, Nat.min_eq_left (by omega)] at htl
        simp (maxSteps := 1000000) (disch := first | omega | (simp; done) | (simp; omega)) [W_id, bys_app, bys_snoc, f_custodyref08_Add_l0, et, ho1, kT, kF]
        rw [hQ1]
        show Q0 (.exit 0) _
        rw [hQ0]
        show awp E f_custodyref08_Add_r2 _ _
        simp (maxSteps := 1000000) (disch := first | omega | (simp; done) | (simp; omega)) [W_id, bys_app, bys_snoc, f_custodyref08_Add_r2, splice_full, fl, tk, hdl, htk, htl, el, ell]
        omega
end Go.Abs
end

section
namespace Go.Abs
theorem dgAt_take {l : List (List UInt8)} {k i : Nat} (h : i < k) : dgAt (l.take k) i = dgAt l i := by
  simp only [dgAt, List.getD, List.getElem?_take, if_pos h]
theorem dgAt_drop (l : List (List UInt8)) (k i : Nat) : dgAt (l.drop k) i = dgAt l (k + i) := by
  simp only [dgAt, List.getD, List.getElem?_drop]
theorem dirs_sibs (l : List (List UInt8)) (i : Nat) (h : i < l.length) : (dirs l.length i).length = (sibs l i).length ∧ shortB ((upIn (dgAt l i) ((dirs l.length i).zip (sibs l i))).headD []) = root l := by
  by_cases h2 : 2 ≤ l.length
  · have hs := spl_lt h2
    have hp := spl_pos l.length
    rw [dirs_two h2, sibs_two h2]
    by_cases hi : i < spl l.length
    · have lt : (l.take (spl l.length)).length = spl l.length := by rw [List.length_take]; omega
      obtain ⟨e1, e2⟩ := dirs_sibs (l.take (spl l.length)) i (by omega)
      rw [lt] at e1 e2
      rw [dgAt_take hi] at e2
      rw [if_pos hi, if_pos hi]
      refine ⟨by simp [e1], ?_⟩
      rw [List.zip_cons_cons, upIn, List.headD_cons, e2, if_neg (by decide), root_two h2]; rfl
    · have lt : (l.drop (spl l.length)).length = l.length - spl l.length := List.length_drop
      obtain ⟨e1, e2⟩ := dirs_sibs (l.drop (spl l.length)) (i - spl l.length) (by omega)
      rw [lt] at e1 e2
      rw [dgAt_drop, show spl l.length + (i - spl l.length) = i by omega] at e2
      rw [if_neg hi, if_neg hi]
      refine ⟨by simp [e1], ?_⟩
      rw [List.zip_cons_cons, upIn, List.headD_cons, e2, if_pos rfl, root_two h2]; rfl
  · have hl : l.length = 1 := by omega
    obtain ⟨d, rfl⟩ := List.length_eq_one_iff.1 hl
    have hi : i = 0 := by simp at h; omega
    subst hi
    rw [dirs_few h2, sibs_few h2]
    refine ⟨rfl, ?_⟩
    rw [root_few h2]; rfl
termination_by l.length
decreasing_by all_goals (simp only [List.length_take, List.length_drop]; omega)
theorem lastB_rev (l : List (List UInt8)) : lastB l.reverse = l.headD [] := by
  cases l with
  | nil => rfl
  | cons a l =>
    simp [lastB, List.getD]
theorem vfy_prv {l : List (List UInt8)} {i : Nat} (h : i < l.length) (r : List UInt8) : vfyN r l.length i (dgAt l i) (prv l i) = decide (root l = r) := by
  obtain ⟨e1, e2⟩ := dirs_sibs l i h
  have hc : (0 : Int) ≤ (i : Int) ∧ (i : Int) < (l.length : Int) := by omega
  rw [vfyN, inpsI, if_pos hc, Int.toNat_natCast, Int.toNat_natCast, inps, prv_sibs, if_pos ⟨h, by rw [List.length_reverse]; exact e1⟩, List.reverse_reverse]
  simp only
  rw [lastB_rev, e2]
theorem zip_snoc {α β : Type} : ∀ (a : List α) (b : List β) (x : α) (y : β), a.length = b.length → (a ++ [x]).zip (b ++ [y]) = a.zip b ++ [(x, y)]
  | [], [], _, _, _ => rfl
  | [], _ :: _, _, _, h => by simp at h
  | _ :: _, [], _, _, h => by simp at h
  | a :: l, b :: m, x, y, h => by
    simp only [List.cons_append, List.zip_cons_cons]
    rw [zip_snoc l m x y (by simpa using h)]
theorem pre_fold (l : List (List UInt8)) (m : Nat) (w : Bool) (h1 : 1 ≤ m) (hm : m ≤ l.length) : ∃ (S : List (List UInt8)) (z : List UInt8), tdp l m w = S ++ (if w && (dpd m l.length).all (! ·) then [] else [z]) ∧ S.length = (dpd m l.length).length ∧
    foldP ((dpd m l.length).reverse.zip S.reverse) z z = (root (l.take m), root l) ∧ ((dpd m l.length).all (! ·) = true → z = root (l.take m)) := by
  by_cases he : m = l.length
  · rw [dpd_few (by omega), tdp_few (by omega)]
    refine ⟨[], root l, ?_, rfl, ?_, fun _ => ?_⟩
    · cases w <;> rfl
    · rw [he, List.take_length]; rfl
    · rw [he, List.take_length]
  · have h2 : 2 ≤ l.length := by omega
    have hs := spl_lt h2
    have hp := spl_pos l.length
    have hw := spl_twice h2
    rw [dpd_two ⟨h1, by omega⟩, tdp_two ⟨h2, he⟩]
    by_cases hk : m ≤ spl l.length
    · have lt : (l.take (spl l.length)).length = spl l.length := by rw [List.length_take]; omega
      obtain ⟨S, z, e1, e2, e3, e4⟩ := pre_fold (l.take (spl l.length)) m w h1 (by omega)
      rw [lt] at e1 e2 e3 e4
      rw [List.take_take, Nat.min_eq_left hk] at e3 e4
      rw [if_pos hk, if_pos hk]
      refine ⟨root (l.drop (spl l.length)) :: S, z, ?_, by simp [e2], ?_, fun ha => e4 (by simpa using ha)⟩
      · rw [e1]; simp
      · rw [List.reverse_cons, List.reverse_cons, zip_snoc _ _ _ _ (by simp [e2]), foldP_snoc, if_neg (by decide), e3, root_two h2]; rfl
    · have lt : (l.drop (spl l.length)).length = l.length - spl l.length := List.length_drop
      obtain ⟨S, z, e1, e2, e3, _⟩ := pre_fold (l.drop (spl l.length)) (m - spl l.length) false (by omega) (by omega)
      rw [lt] at e1 e2 e3
      rw [if_neg hk, if_neg hk]
      refine ⟨root (l.take (spl l.length)) :: S, z, ?_, by simp [e2], ?_, fun ha => by simp at ha⟩
      · rw [e1]; simp
      · have lm : (l.take m).length = m := by rw [List.length_take]; omega
        have sm : spl (l.take m).length = spl l.length := by
          rw [lm]; exact spl_pow (k := Nat.log2 (l.length - 1)) (by change spl l.length < m; omega) (by change m ≤ 2 * spl l.length; omega)
        have r1 : root (l.take m) = nd (root (l.take (spl l.length))) (root ((l.drop (spl l.length)).take (m - spl l.length))) := by
          rw [root_two (l := l.take m) (by omega), sm, List.take_take, Nat.min_eq_left (by omega), List.drop_take]; rfl
        rw [List.reverse_cons, List.reverse_cons, zip_snoc _ _ _ _ (by simp [e2]), foldP_snoc, if_pos rfl, e3, r1, root_two h2]; rfl
termination_by l.length
decreasing_by all_goals (simp only [List.length_take, List.length_drop]; omega)
theorem vp_sbp {l : List (List UInt8)} {m : Nat} (h1 : 1 ≤ m) (hm : m ≤ l.length) (r : List UInt8) : vpN (root (l.take m)) r m l.length (sbp l m true) = decide (root l = r) := by
  obtain ⟨S, z, e1, e2, e3, e4⟩ := pre_fold l m true h1 hm
  have hc : (1 : Int) ≤ (m : Int) ∧ (m : Int) ≤ (l.length : Int) := by omega
  rw [vpN, if_pos hc, Int.toNat_natCast, Int.toNat_natCast, sbp_tdp, e1]
  unfold vpS
  cases ha : (dpd m l.length).all (! ·) with
  | true =>
    have ez := e4 ha
    rw [ez] at e3
    simp only [Bool.and_true, if_true, List.append_nil, vpE, List.length_reverse, e2, e3, decide_true, Bool.true_and]
  | false =>
    simp [vpE, e2, e3]
end Go.Abs
end
