/- Lemmas: an abstract interpreter, and what the functions compute. -/
import Derived.Test.YtclloimacncjgaaDoorO
import Derived.Test.YtclloimacncjgaaDoorT
import Derived.Test.YtclloimacncjgaaDoorE
import Derived.Test.YtclloimacncjgaaDoorN
import Derived.Test.YtclloimacncjgaaDoorM
set_option linter.unusedSimpArgs false
set_option linter.unusedVariables false
set_option linter.unusedSectionVars false
section
namespace Go.Abs
set_option maxRecDepth 100000
def rlfC : Contract := ⟨fun ds => ∃ d : List UInt8, d.length = 16 ∧ ds = [.agg (bys d)], fun ds => .agg (bys (digOf 1 [gBs (gCs (nth ds 0))]))⟩
def rndC : Contract := ⟨fun ds => ∃ a b : List UInt8, a.length = 16 ∧ b.length = 16 ∧ ds = [.agg (bys a), .agg (bys b)], fun ds => .agg (bys (digOf 2 [gBs (gCs (nth ds 0)), gBs (gCs (nth ds 1))]))⟩
theorem rlfC_pre {d : List UInt8} (h : d.length = 16) : rlfC.pre [.agg (bys d)] = True := eq_true ⟨d, h, rfl⟩
theorem rndC_pre {a b : List UInt8} (ha : a.length = 16) (hb : b.length = 16) : rndC.pre [.agg (bys a), .agg (bys b)] = True := eq_true ⟨a, b, ha, hb, rfl⟩
@[simp] theorem rlfC_post (d : List UInt8) : rlfC.post [.agg (bys d)] = .agg (bys (digOf 1 [d])) := by simp [rlfC]
@[simp] theorem rndC_post (a b : List UInt8) : rndC.post [.agg (bys a), .agg (bys b)] = .agg (bys (digOf 2 [a, b])) := by simp [rndC, nth]
theorem rof_p1 {t : Int} {nl : Option Bool} {d : List UInt8} (h : d.length = 16) : rofC.pre [i64 t, .sl .plain nl 1 [st d]] = True := eq_true ⟨t, nl, [d], by simp [totS, h], rfl⟩
theorem rof_p2 {t : Int} {nl : Option Bool} {a b : List UInt8} (h : a.length = 16) (h' : b.length = 16) : rofC.pre [i64 t, .sl .plain nl 2 [st a, st b]] = True := eq_true ⟨t, nl, [a, b], by simp [totS, h, h'], rfl⟩
theorem rof_q1 (t : Int) (m : Mode) (nl : Option Bool) (d : List UInt8) : rofC.post [i64 t, .sl m nl 1 [st d]] = .agg (bys (digOf t [d])) := by
  show AVal.agg (bys (digOf t (gSs (sts [d])))) = _
  simp
theorem rof_q2 (t : Int) (m : Mode) (nl : Option Bool) (a b : List UInt8) : rofC.post [i64 t, .sl m nl 2 [st a, st b]] = .agg (bys (digOf t [a, b])) := by
  show AVal.agg (bys (digOf t (gSs (sts [a, b])))) = _
  simp
theorem rlf_ok (E : Env) (h20 : E.G 20 = rofC) (h23 : E.G 23 = text16C) : ∀ ds, rlfC.pre ds → ds.length = f_custodyref08_leaf.n ∧ awp E f_custodyref08_leaf.body (retQ f_custodyref08_leaf.res (rlfC.post ds)) (initSt f_custodyref08_leaf.wr ds) := by
  rintro _ ⟨d, hd, rfl⟩
  rw [rlfC_post]
  have hl := digOf_len 1 [d]
  simp (maxSteps := 1000000) (disch := first | omega | (simp; done) | (simp; omega)) [W_id, bys_app, bys_snoc, f_custodyref08_leaf, h20, h23, text16_pre, rof_p1, rof_q1, hd, take_l16, splice_full, hl]
theorem rnd_ok (E : Env) (h20 : E.G 20 = rofC) (h23 : E.G 23 = text16C) : ∀ ds, rndC.pre ds → ds.length = f_custodyref08_node.n ∧ awp E f_custodyref08_node.body (retQ f_custodyref08_node.res (rndC.post ds)) (initSt f_custodyref08_node.wr ds) := by
  rintro _ ⟨a, b, ha, hb, rfl⟩
  rw [rndC_post]
  have hl := digOf_len 2 [a, b]
  simp (maxSteps := 1000000) (disch := first | omega | (simp; done) | (simp; omega)) [W_id, bys_app, bys_snoc, f_custodyref08_node, h20, h23, text16_pre, rof_p2, rof_q2, ha, hb, take_l16, splice_full, hl]
/-! ### Splitting -/
theorem spl_step {n i : Nat} (h : 2 ≤ n) (hi : 2 ^ i < n) (hc : ¬ (2 ^ i < n - 2 ^ i)) : 2 ^ i = spl n := by
  have h1 := spl_lt h
  have h2 := spl_twice h
  unfold spl at *
  rw [pow_uniq hi (by omega) h1 h2]
set_option maxHeartbeats 4000000 in
theorem rspl_ok (E : Env) : ∀ ds, splC.pre ds → ds.length = f_custodyref08_Split.n ∧ awp E f_custodyref08_Split.body (retQ f_custodyref08_Split.res (splC.post ds)) (initSt f_custodyref08_Split.wr ds) := by
  rintro _ ⟨n, h2, hn, rfl⟩
  rw [splC_post]
  simp (maxSteps := 1000000) (disch := first | omega | (simp; done) | (simp; omega)) [W_id, bys_app, bys_snoc, f_custodyref08_Split]
  refine awp_name fun Q0 hQ0 => ?_
  refine awp_for (fun i : Nat => ⟨[(0, i64 n)], [(3, i64 (2 ^ i : Nat))], []⟩) (fun i => n - 2 ^ i) (fun i => 2 ^ i < n) 0 rfl (by omega) fun i hi => ?_
  refine awp_name fun Q1 hQ1 => ?_
  by_cases h : 2 ^ i < n - 2 ^ i
  · have hp : 2 ^ (i + 1) = 2 * 2 ^ i := by rw [Nat.pow_succ]; omega
    have h0 := Nat.two_pow_pos i
    have e : (2 : Int) * ((2 ^ i : Nat) : Int) = ((2 ^ (i + 1) : Nat) : Int) := by rw [hp]; omega
    have hlt : ((2 ^ i : Nat) : Int) < (n : Int) - ((2 ^ i : Nat) : Int) := by omega
    generalize 2 ^ i = a at *
    simp (maxSteps := 1000000) (disch := first | omega | (simp; done) | (simp; omega)) [W_id, bys_app, bys_snoc, f_custodyref08_Split_l0, f_custodyref08_Split_r0, kT, kF, dT, dF, hlt, hQ1]
    refine ⟨i + 1, by omega, by omega, ?_⟩
    rw [e]; simp
  · have e := spl_step h2 hi h
    have hlt : ¬ ((2 ^ i : Nat) : Int) < (n : Int) - ((2 ^ i : Nat) : Int) := by omega
    rw [e] at hlt hi
    rw [e]
    simp (maxSteps := 1000000) (disch := first | omega | (simp; done) | (simp; omega)) [W_id, bys_app, bys_snoc, f_custodyref08_Split_l0, f_custodyref08_Split_r1, kT, kF, dT, dF, hQ1, hQ0, hlt]
set_option maxHeartbeats 4000000 in
theorem rroot_ok (E : Env) (k : Nat) (h20 : E.G 20 = rofC) (h201 : E.G 201 = rlfC) (h195 : E.G 195 = splC) (h202 : E.G 202 = rndC) (h197 : E.G 197 = limC rootC rootMu k) : ∀ ds, (limC rootC rootMu (k + 1)).pre ds → ds.length = f_custodyref08_Root.n ∧ awp E f_custodyref08_Root.body (retQ f_custodyref08_Root.res (rootC.post ds)) (initSt f_custodyref08_Root.wr ds) := by
  rintro _ ⟨⟨nl, l, h, hl, rfl⟩, hk⟩
  rw [dgsA, rootC_post h rfl rfl]
  have hk : l.length < k + 1 := hk
  by_cases h0 : l.length = 0
  · have e : l = [] := List.length_eq_zero_iff.1 h0
    subst e
    have hr : root [] = digOf 1 [] := root_few (by decide)
    have hp : rofC.pre [i64 1, .sl .plain (some true) 0 []] = True := rof_pre (l := []) rfl (by simp [totS])
    have hq : rofC.post [i64 1, .sl .plain (some true) 0 []] = .agg (bys (digOf 1 [])) := rof_post 1 (some true) 0 []
    have hl := digOf_len 1 []
    simp (maxSteps := 1000000) (disch := first | omega | (simp; done) | (simp; omega)) [W_id, bys_app, bys_snoc, f_custodyref08_Root, h20, hp, hq, kT, kF, dT, dF, hr, splice_bys0, hl, take_l16]
  by_cases h1 : l.length = 1
  · obtain ⟨d, rfl⟩ := List.length_eq_one_iff.1 h1
    have hd : d.length = 16 := (is16_cons.1 h).1
    have hr : root [d] = digOf 1 [d] := root_few (by simp)
    have hl := digOf_len 1 [d]
    simp (maxSteps := 1000000) (disch := first | omega | (simp; done) | (simp; omega)) [W_id, bys_app, bys_snoc, f_custodyref08_Root, f_custodyref08_Root_r0, h201, rlfC_pre, kT, kF, dT, dF, hr, splice_bys0, hd, take_l16, hl]
  have h2 : 2 ≤ l.length := by omega
  have b0 : ((l.length : Int) == 0) = false := beq_false_of_ne (by omega)
  have b1 : ((l.length : Int) == 1) = false := beq_false_of_ne (by omega)
  have hd := dgs_len h
  have hs := spl_lt h2
  have hs1 := spl_pos l.length
  have hr := root_two h2
  generalize hK : spl l.length = K at *
  have g1 : is16 (l.take K) := is16_take h K
  have g2 : is16 (l.drop K) := is16_drop h K
  have htk : (dgs (l.drop K)).take ((l.length - K) * 16) = dgs (l.drop K) := List.take_of_length_le (by rw [dgs_len g2, List.length_drop]; exact Nat.le_refl _)
  have lk1 : (l.take K).length = K := by rw [List.length_take]; omega
  have lk2 : (l.drop K).length = l.length - K := List.length_drop
  have hp1 : (limC rootC rootMu k).pre [.sl .plain nl K (bys (dgs (l.take K)))] = True := eq_true ⟨of_eq_true (rootC_pre g1 (by omega) lk1.symm rfl), by show K < k; omega⟩
  have hq1 : (limC rootC rootMu k).post [.sl .plain nl K (bys (dgs (l.take K)))] = .agg (bys (root (l.take K))) := rootC_post g1 lk1.symm rfl
  have hp2 : (limC rootC rootMu k).pre [.sl .plain nl (l.length - K) (bys (dgs (l.drop K)))] = True := eq_true ⟨of_eq_true (rootC_pre g2 (by omega) lk2.symm rfl), by show l.length - K < k; omega⟩
  have hq2 : (limC rootC rootMu k).post [.sl .plain nl (l.length - K) (bys (dgs (l.drop K)))] = .agg (bys (root (l.drop K))) := rootC_post g2 lk2.symm rfl
  have r1 := root_len (l.take K)
  have r2 := root_len (l.drop K)
  have hsl := digOf_len 2 [root (l.take K), root (l.drop K)]
  rw [hr]
  simp (maxSteps := 1000000) (disch := first | omega | (simp; done) | (simp; omega)) [W_id, bys_app, bys_snoc, f_custodyref08_Root, f_custodyref08_Root_r0, f_custodyref08_Root_r1, b0, b1, h195, splC_pre, hK, hd, dgs_take h, dgs_drop h, htk, h197, hp1, hq1, hp2, hq2, h202, rndC_pre r1 r2, kT, kF, dT, dF, splice_bys0, take_l16 hsl, hsl]
  try exact Nat.le_of_lt hs
/-! ### The peaks' form -/
def ronC : Contract := ⟨fun ds => ∃ n : Int, 0 ≤ n ∧ n ≤ 4294967296 ∧ ds = [i64 n], fun ds => i64 (oN (asI (nth ds 0)).toNat)⟩
@[simp] theorem ronC_post (n : Int) : ronC.post [i64 n] = i64 (oN n.toNat) := by simp [ronC]
def samC : Contract := ⟨fun ds => ∃ (nl nl' : Option Bool) (a b : List (List UInt8)), is16 a ∧ is16 b ∧ a.length ≤ 1000000 ∧ b.length ≤ 1000000 ∧ ds = [dgsA nl a, dgsA nl' b], fun ds => bo (decide (gDs (nth ds 0) = gDs (nth ds 1)))⟩
theorem samC_pre {nl nl' : Option Bool} {a b : List (List UInt8)} {x y : List UInt8} {n m : Nat} (ha : is16 a) (hb : is16 b) (h1 : a.length ≤ 1000000) (h2 : b.length ≤ 1000000) (hn : n = a.length) (hm : m = b.length) (hx : x = dgs a) (hy : y = dgs b) : samC.pre [.sl .plain nl n (bys x), .sl .plain nl' m (bys y)] = True := eq_true ⟨nl, nl', a, b, ha, hb, h1, h2, by rw [hn, hm, hx, hy]; rfl⟩
theorem samC_post {M M' : Mode} {nl nl' : Option Bool} {a b : List (List UInt8)} {x y : List UInt8} {n m : Nat} (ha : is16 a) (hb : is16 b) (hn : n = a.length) (hm : m = b.length) (hx : x = dgs a) (hy : y = dgs b) : samC.post [.sl M nl n (bys x), .sl M' nl' m (bys y)] = bo (decide (a = b)) := by
  simp only [samC]
  rw [hn, hm, hx, hy, show nth [AVal.sl M nl a.length (bys (dgs a)), AVal.sl M' nl' b.length (bys (dgs b))] 0 = AVal.sl M nl a.length (bys (dgs a)) from rfl, show nth [AVal.sl M nl a.length (bys (dgs a)), AVal.sl M' nl' b.length (bys (dgs b))] 1 = AVal.sl M' nl' b.length (bys (dgs b)) from rfl, gDs_dgs ha, gDs_dgs hb]
theorem take_next {a b : List (List UInt8)} {i : Nat} (ha : i < a.length) (hb : i < b.length) (h : a.take i = b.take i) (he : dgAt a i = dgAt b i) : a.take (i + 1) = b.take (i + 1) := by
  rw [← List.take_append_getElem (i := i) (h := ha), ← List.take_append_getElem (i := i) (h := hb), h]
  simp only [dgAt, List.getD, List.getElem?_eq_getElem ha, List.getElem?_eq_getElem hb, Option.getD_some] at he
  rw [he]
set_option maxHeartbeats 4000000 in
theorem rsam_ok (E : Env) : ∀ ds, samC.pre ds → ds.length = f_custodyref08_Same.n ∧ awp E f_custodyref08_Same.body (retQ f_custodyref08_Same.res (samC.post ds)) (initSt f_custodyref08_Same.wr ds) := by
  rintro _ ⟨nl, nl', a, b, ha, hb, h1, h2, rfl⟩
  rw [show samC.post [dgsA nl a, dgsA nl' b] = bo (decide (a = b)) from samC_post ha hb rfl rfl rfl rfl]
  unfold dgsA
  have da := dgs_len ha
  have db := dgs_len hb
  by_cases hlen : a.length = b.length
  · have bn : ((a.length : Int) != (b.length : Int)) = false := by rw [hlen]; simp
    simp (maxSteps := 1000000) (disch := first | omega | (simp; done) | (simp; omega)) [W_id, bys_app, bys_snoc, f_custodyref08_Same, f_custodyref08_Same_r0, bn, kT, kF]
    refine awp_name fun Q0 hQ0 => ?_
    refine awp_for (fun i : Nat => ⟨[(0, .sl .plain nl a.length (bys (dgs a))), (1, .sl .plain nl' b.length (bys (dgs b)))], [(5, i64 i)], []⟩) (fun i => a.length - i) (fun i => i ≤ a.length ∧ a.take i = b.take i) 0 rfl (by simp) fun i hi => ?_
    refine awp_name fun Q1 hQ1 => ?_
    obtain ⟨hi, he⟩ := hi
    by_cases h : i < a.length
    · have hlt : (i : Int) < (a.length : Int) := by omega
      have ta := dgs_at ha h
      have tb := dgs_at hb (show i < b.length by omega)
      have la := dgAt_len ha h
      have lb := dgAt_len hb (show i < b.length by omega)
      have eqb := eqCells_ks8 la lb
      by_cases hab : dgAt a i = dgAt b i
      · rw [hab] at eqb
        have hn := take_next h (by omega) he hab
        simp (maxSteps := 1000000) (disch := first | omega | (simp; done) | (simp; omega)) [W_id, bys_app, bys_snoc, f_custodyref08_Same_l0, f_custodyref08_Same_r1, kT, kF, dT, dF, hlt, ta, tb, eqb, hab, da, db, hQ1]
        exact ⟨by omega, by omega, by omega, lb, i + 1, by omega, ⟨by omega, hn⟩, by omega⟩
      · have hne : ¬ a = b := fun e => hab (by rw [e])
        simp (maxSteps := 1000000) (disch := first | omega | (simp; done) | (simp; omega)) [W_id, bys_app, bys_snoc, f_custodyref08_Same_l0, f_custodyref08_Same_r1, kT, kF, dT, dF, hlt, ta, tb, eqb, hab, da, db, hQ1, hQ0, hne]
        exact ⟨by omega, by omega, by omega, la, lb⟩
    · have hlt : ¬ (i : Int) < (a.length : Int) := by omega
      have hab : a = b := by
        rw [List.take_of_length_le (by omega), List.take_of_length_le (by omega)] at he
        exact he
      subst hab
      simp (maxSteps := 1000000) (disch := first | omega | (simp; done) | (simp; omega)) [W_id, bys_app, bys_snoc, f_custodyref08_Same_l0, f_custodyref08_Same_r2, kT, kF, dT, dF, hlt, hQ1, hQ0]
  · have bn : ((a.length : Int) != (b.length : Int)) = true := by simpa using fun h => hlen (by omega)
    have hne : ¬ a = b := fun e => hlen (by rw [e])
    simp (maxSteps := 1000000) (disch := first | omega | (simp; done) | (simp; omega)) [W_id, bys_app, bys_snoc, f_custodyref08_Same, bn, kT, kF, hne]
end Go.Abs
end

section
namespace Go.Abs
theorem dgAt_take {l : List (List UInt8)} {k i : Nat} (h : i < k) : dgAt (l.take k) i = dgAt l i := by
  simp only [dgAt, List.getD, List.getElem?_take, if_pos h]
theorem dgAt_drop (l : List (List UInt8)) (k i : Nat) : dgAt (l.drop k) i = dgAt l (k + i) := by
  simp only [dgAt, List.getD, List.getElem?_drop]
theorem dirs_sibs (l : List (List UInt8)) (i : Nat) (h : i < l.length) : (dirs l.length i).length = (sibs l i).length ∧ shortB ((upIn (dgAt l i) ((dirs l.length i).zip (sibs l i))).headD []) = root l := by
  by_cases h2 : 2 ≤ l.length
  · have hs := spl_lt h2
    have hp := spl_pos l.length
    rw [dirs_two h2, sibs_two h2]
    by_cases hi : i < spl l.length
    · have lt : (l.take (spl l.length)).length = spl l.length := by rw [List.length_take]; omega
      obtain ⟨e1, e2⟩ := dirs_sibs (l.take (spl l.length)) i (by omega)
      rw [lt] at e1 e2
      rw [dgAt_take hi] at e2
      rw [if_pos hi, if_pos hi]
      refine ⟨by simp [e1], ?_⟩
      rw [List.zip_cons_cons, upIn, List.headD_cons, e2, if_neg (by decide), root_two h2]; rfl
    · have lt : (l.drop (spl l.length)).length = l.length - spl l.length := List.length_drop
      obtain ⟨e1, e2⟩ := dirs_sibs (l.drop (spl l.length)) (i - spl l.length) (by omega)
      rw [lt] at e1 e2
      rw [dgAt_drop, show spl l.length + (i - spl l.length) = i by omega] at e2
      rw [if_neg hi, if_neg hi]
      refine ⟨by simp [e1], ?_⟩
      rw [List.zip_cons_cons, upIn, List.headD_cons, e2, if_pos rfl, root_two h2]; rfl
  · have hl : l.length = 1 := by omega
    obtain ⟨d, rfl⟩ := List.length_eq_one_iff.1 hl
    have hi : i = 0 := by simp at h; omega
    subst hi
    rw [dirs_few h2, sibs_few h2]
    refine ⟨rfl, ?_⟩
    rw [root_few h2]; rfl
termination_by l.length
decreasing_by all_goals (simp only [List.length_take, List.length_drop]; omega)
theorem lastB_rev (l : List (List UInt8)) : lastB l.reverse = l.headD [] := by
  cases l with
  | nil => rfl
  | cons a l =>
    simp [lastB, List.getD]
theorem vfy_prv {l : List (List UInt8)} {i : Nat} (h : i < l.length) (r : List UInt8) : vfyN r l.length i (dgAt l i) (prv l i) = decide (root l = r) := by
  obtain ⟨e1, e2⟩ := dirs_sibs l i h
  have hc : (0 : Int) ≤ (i : Int) ∧ (i : Int) < (l.length : Int) := by omega
  rw [vfyN, inpsI, if_pos hc, Int.toNat_natCast, Int.toNat_natCast, inps, prv_sibs, if_pos ⟨h, by rw [List.length_reverse]; exact e1⟩, List.reverse_reverse]
  simp only
  rw [lastB_rev, e2]
theorem zip_snoc {α β : Type} : ∀ (a : List α) (b : List β) (x : α) (y : β), a.length = b.length → (a ++ [x]).zip (b ++ [y]) = a.zip b ++ [(x, y)]
  | [], [], _, _, _ => rfl
  | [], _ :: _, _, _, h => by simp at h
  | _ :: _, [], _, _, h => by simp at h
  | a :: l, b :: m, x, y, h => by
    simp only [List.cons_append, List.zip_cons_cons]
    rw [zip_snoc l m x y (by simpa using h)]
theorem pre_fold (l : List (List UInt8)) (m : Nat) (w : Bool) (h1 : 1 ≤ m) (hm : m ≤ l.length) : ∃ (S : List (List UInt8)) (z : List UInt8), tdp l m w = S ++ (if w && (dpd m l.length).all (! ·) then [] else [z]) ∧ S.length = (dpd m l.length).length ∧
    foldP ((dpd m l.length).reverse.zip S.reverse) z z = (root (l.take m), root l) ∧ ((dpd m l.length).all (! ·) = true → z = root (l.take m)) := by
  by_cases he : m = l.length
  · rw [dpd_few (by omega), tdp_few (by omega)]
    refine ⟨[], root l, ?_, rfl, ?_, fun _ => ?_⟩
    · cases w <;> rfl
    · rw [he, List.take_length]; rfl
    · rw [he, List.take_length]
  · have h2 : 2 ≤ l.length := by omega
    have hs := spl_lt h2
    have hp := spl_pos l.length
    have hw := spl_twice h2
    rw [dpd_two ⟨h1, by omega⟩, tdp_two ⟨h2, he⟩]
    by_cases hk : m ≤ spl l.length
    · have lt : (l.take (spl l.length)).length = spl l.length := by rw [List.length_take]; omega
      obtain ⟨S, z, e1, e2, e3, e4⟩ := pre_fold (l.take (spl l.length)) m w h1 (by omega)
      rw [lt] at e1 e2 e3 e4
      rw [List.take_take, Nat.min_eq_left hk] at e3 e4
      rw [if_pos hk, if_pos hk]
      refine ⟨root (l.drop (spl l.length)) :: S, z, ?_, by simp [e2], ?_, fun ha => e4 (by simpa using ha)⟩
      · rw [e1]; simp
      · rw [List.reverse_cons, List.reverse_cons, zip_snoc _ _ _ _ (by simp [e2]), foldP_snoc, if_neg (by decide), e3, root_two h2]; rfl
    · have lt : (l.drop (spl l.length)).length = l.length - spl l.length := List.length_drop
      obtain ⟨S, z, e1, e2, e3, _⟩ := pre_fold (l.drop (spl l.length)) (m - spl l.length) false (by omega) (by omega)
      rw [lt] at e1 e2 e3
      rw [if_neg hk, if_neg hk]
      refine ⟨root (l.take (spl l.length)) :: S, z, ?_, by simp [e2], ?_, fun ha => by simp at ha⟩
      · rw [e1]; simp
      · have lm : (l.take m).length = m := by rw [List.length_take]; omega
        have sm : spl (l.take m).length = spl l.length := by
          rw [lm]; exact spl_pow (k := Nat.log2 (l.length - 1)) (by change spl l.length < m; omega) (by change m ≤ 2 * spl l.length; omega)
        have r1 : root (l.take m) = nd (root (l.take (spl l.length))) (root ((l.drop (spl l.length)).take (m - spl l.length))) := by
          rw [root_two (l := l.take m) (by omega), sm, List.take_take, Nat.min_eq_left (by omega), List.drop_take]; rfl
        rw [List.reverse_cons, List.reverse_cons, zip_snoc _ _ _ _ (by simp [e2]), foldP_snoc, if_pos rfl, e3, r1, root_two h2]; rfl
termination_by l.length
decreasing_by all_goals (simp only [List.length_take, List.length_drop]; omega)
theorem vp_sbp {l : List (List UInt8)} {m : Nat} (h1 : 1 ≤ m) (hm : m ≤ l.length) (r : List UInt8) : vpN (root (l.take m)) r m l.length (sbp l m true) = decide (root l = r) := by
  obtain ⟨S, z, e1, e2, e3, e4⟩ := pre_fold l m true h1 hm
  have hc : (1 : Int) ≤ (m : Int) ∧ (m : Int) ≤ (l.length : Int) := by omega
  rw [vpN, if_pos hc, Int.toNat_natCast, Int.toNat_natCast, sbp_tdp, e1]
  unfold vpS
  cases ha : (dpd m l.length).all (! ·) with
  | true =>
    have ez := e4 ha
    rw [ez] at e3
    simp only [Bool.and_true, if_true, List.append_nil, vpE, List.length_reverse, e2, e3, decide_true, Bool.true_and]
  | false =>
    simp [vpE, e2, e3]
end Go.Abs
end

section
namespace Go.Abs
set_option maxRecDepth 100000
def otA (o : Option (List (List UInt8))) : AVal := match o with | some p => .otup 16 none p.length (bys (dgs p)) [i64 0] | none => .otup 16 none 0 [] [i64 11]
def rprC : Contract := ⟨prvC.pre, fun ds => otA (prvI (gDs (nth ds 0)) (asI (nth ds 1)))⟩
theorem rprC_pre {nl : Option Bool} {l : List (List UInt8)} {b : List UInt8} {k : Nat} {i : Int} (h : is16 l) (hl : l.length ≤ 1000000) (hk : k = l.length) (hb : b = dgs l) : rprC.pre [.sl .plain nl k (bys b), i64 i] = True := eq_true ⟨nl, l, i, h, hl, by rw [hk, hb]; rfl⟩
theorem rprC_post {m : Mode} {nl : Option Bool} {l : List (List UInt8)} {b : List UInt8} {k : Nat} (i : Int) (h : is16 l) (hk : k = l.length) (hb : b = dgs l) : rprC.post [.sl m nl k (bys b), i64 i] = otA (prvI l i) := by
  show otA (prvI (gDs (.sl m nl k (bys b))) i) = _
  rw [hk, hb, gDs_dgs h]
theorem prv_16 (l : List (List UInt8)) (i : Nat) : is16 (prv l i) := by rw [prv_sibs]; exact is16_rev (is16_sibs l i)
theorem prv_len (l : List (List UInt8)) (i : Nat) : (prv l i).length ≤ l.length := by rw [prv_sibs, List.length_reverse]; exact sibs_len l i
set_option maxHeartbeats 8000000 in
theorem rprv_ok (E : Env) (k : Nat) (h195 : E.G 195 = splC) (h197 : E.G 197 = rootC) (h196 : E.G 196 = limC rprC rootMu k) : ∀ ds, (limC rprC rootMu (k + 1)).pre ds → ds.length = f_custodyref08_Prove.n ∧ awp E f_custodyref08_Prove.body (retQ f_custodyref08_Prove.res (rprC.post ds)) (initSt f_custodyref08_Prove.wr ds) := by
  rintro _ ⟨⟨nl, l, i, h, hl, rfl⟩, hk⟩
  rw [dgsA, rprC_post i h rfl rfl]
  have hk : l.length < k + 1 := hk
  by_cases h0 : 0 ≤ i
  · by_cases hi : i < l.length
    · have g0 : ¬ i < 0 := by omega
      have g1 : ¬ (l.length : Int) ≤ i := by omega
      rw [prvI, if_pos ⟨h0, hi⟩]
      obtain ⟨n, rfl⟩ := Int.eq_ofNat_of_zero_le h0
      rw [Int.toNat_natCast]
      by_cases h1 : l.length = 1
      · have b1 : ((l.length : Int) == 1) = true := by rw [h1]; rfl
        rw [prv_few (by omega)]
        simp (maxSteps := 1000000) (disch := first | omega | (simp; done) | (simp; omega)) [W_id, bys_app, bys_snoc, f_custodyref08_Prove, f_custodyref08_Prove_r0, kT, kF, dT, dF, g0, g1, b1, otA]
      · have h2 : 2 ≤ l.length := by omega
        have b1 : ((l.length : Int) == 1) = false := beq_false_of_ne (by omega)
        have hd := dgs_len h
        have hs := spl_lt h2
        have hs1 := spl_pos l.length
        have hr := prv_two h2 n
        generalize hK : spl l.length = K at *
        have g1' : is16 (l.take K) := is16_take h K
        have g2 : is16 (l.drop K) := is16_drop h K
        have htk : (dgs (l.drop K)).take ((l.length - K) * 16) = dgs (l.drop K) := List.take_of_length_le (by rw [dgs_len g2, List.length_drop]; exact Nat.le_refl _)
        have lk1 : (l.take K).length = K := by rw [List.length_take]; omega
        have lk2 : (l.drop K).length = l.length - K := List.length_drop
        have r1 := root_len (l.take K)
        have r2 := root_len (l.drop K)
        have pa1 := rootC_pre (nl := nl) g1' (by omega) lk1.symm rfl
        have qa1 := rootC_post (nl := nl) g1' lk1.symm rfl
        have pa2 := rootC_pre (nl := nl) g2 (by omega) lk2.symm rfl
        have qa2 := rootC_post (nl := nl) g2 lk2.symm rfl
        have sp2 : splC.pre [i64 l.length] = True := splC_pre h2 (by omega)
        rw [hr]
        by_cases hc : n < K
        · rw [if_pos hc]
          have hci : (n : Int) < (K : Int) := by omega
          have hp1 : (limC rprC rootMu k).pre [.sl .plain nl K (bys (dgs (l.take K))), i64 n] = True := eq_true ⟨of_eq_true (rprC_pre g1' (by omega) lk1.symm rfl), by show K < k; omega⟩
          have hq1 : (limC rprC rootMu k).post [.sl .plain nl K (bys (dgs (l.take K))), i64 n] = otA (prvI (l.take K) n) := rprC_post n g1' lk1.symm rfl
          rw [prvI, if_pos (by omega), Int.toNat_natCast, otA] at hq1
          have p16 := prv_16 (l.take K) n
          have pl := prv_len (l.take K) n
          have pd := dgs_len p16
          generalize prv (l.take K) n = p at *
          simp (maxSteps := 1000000) (disch := first | omega | (simp; done) | (simp; omega)) [W_id, bys_app, bys_snoc, f_custodyref08_Prove, f_custodyref08_Prove_r0, f_custodyref08_Prove_r1, kT, kF, dT, dF, g0, g1, b1, otA, h195, sp2, hK, hci, hd, dgs_take h, dgs_drop h, htk, h196, hp1, hq1, h197, pa1, qa1, pa2, qa2, r1, r2, splice_full, take_l16, pd]
          omega
        · rw [if_neg hc]
          have hci : ¬ (n : Int) < (K : Int) := by omega
          have esub : (n : Int) - (K : Int) = ((n - K : Nat) : Int) := by omega
          have hp1 : (limC rprC rootMu k).pre [.sl .plain nl (l.length - K) (bys (dgs (l.drop K))), i64 (n - K : Nat)] = True := eq_true ⟨of_eq_true (rprC_pre g2 (by omega) lk2.symm rfl), by show l.length - K < k; omega⟩
          have hq1 : (limC rprC rootMu k).post [.sl .plain nl (l.length - K) (bys (dgs (l.drop K))), i64 (n - K : Nat)] = otA (prvI (l.drop K) (n - K : Nat)) := rprC_post _ g2 lk2.symm rfl
          rw [prvI, if_pos (by omega), Int.toNat_natCast, otA] at hq1
          have p16 := prv_16 (l.drop K) (n - K)
          have pl := prv_len (l.drop K) (n - K)
          have pd := dgs_len p16
          generalize prv (l.drop K) (n - K) = p at *
          simp (maxSteps := 1000000) (disch := first | omega | (simp; done) | (simp; omega)) [W_id, bys_app, bys_snoc, f_custodyref08_Prove, f_custodyref08_Prove_r0, f_custodyref08_Prove_r1, f_custodyref08_Prove_r2, kT, kF, dT, dF, g0, g1, b1, otA, h195, sp2, hK, hci, hd, dgs_take h, dgs_drop h, htk, h196, esub, hp1, hq1, h197, pa1, qa1, pa2, qa2, r1, r2, splice_full, take_l16, pd]
          omega
    · have g0 : ¬ i < 0 := by omega
      have g1 : (l.length : Int) ≤ i := by omega
      rw [prvI, if_neg (by omega)]
      simp (maxSteps := 1000000) (disch := first | omega | (simp; done) | (simp; omega)) [W_id, bys_app, bys_snoc, f_custodyref08_Prove, kT, kF, dT, dF, g0, g1, otA]
  · have g0 : i < 0 := by omega
    rw [prvI, if_neg (by omega)]
    simp (maxSteps := 1000000) (disch := first | omega | (simp; done) | (simp; omega)) [W_id, bys_app, bys_snoc, f_custodyref08_Prove, kT, kF, dT, dF, g0, otA]
/-! ### Prefixes -/
def sbNl (l : List (List UInt8)) (m : Nat) (w : Bool) : Option Bool := if m = l.length ∧ w = false then some false else none
def subC : Contract := ⟨fun ds => ∃ (nl : Option Bool) (l : List (List UInt8)) (m : Nat) (w : Bool), is16 l ∧ l.length ≤ 1000000 ∧ 1 ≤ m ∧ m ≤ l.length ∧ ds = [dgsA nl l, i64 m, bo w],
  fun ds => .sl (.own 16) (sbNl (gDs (nth ds 0)) (asI (nth ds 1)).toNat (asB (nth ds 2))) (sbp (gDs (nth ds 0)) (asI (nth ds 1)).toNat (asB (nth ds 2))).length (bys (dgs (sbp (gDs (nth ds 0)) (asI (nth ds 1)).toNat (asB (nth ds 2)))))⟩
theorem subC_pre {nl : Option Bool} {l : List (List UInt8)} {b : List UInt8} {k m : Nat} {w : Bool} (h : is16 l) (hl : l.length ≤ 1000000) (h1 : 1 ≤ m) (hm : m ≤ l.length) (hk : k = l.length) (hb : b = dgs l) : subC.pre [.sl .plain nl k (bys b), i64 m, bo w] = True := eq_true ⟨nl, l, m, w, h, hl, h1, hm, by rw [hk, hb]; rfl⟩
theorem subC_post {md : Mode} {nl : Option Bool} {l : List (List UInt8)} {b : List UInt8} {k : Nat} (m : Nat) (w : Bool) (h : is16 l) (hk : k = l.length) (hb : b = dgs l) : subC.post [.sl md nl k (bys b), i64 m, bo w] = .sl (.own 16) (sbNl l m w) (sbp l m w).length (bys (dgs (sbp l m w))) := by
  have e : gDs (nth [AVal.sl md nl k (bys b), i64 m, bo w] 0) = l := by rw [hk, hb]; exact gDs_dgs h
  have e1 : (asI (nth [AVal.sl md nl k (bys b), i64 m, bo w] 1)).toNat = m := Int.toNat_natCast m
  have e2 : asB (nth [AVal.sl md nl k (bys b), i64 m, bo w] 2) = w := rfl
  simp only [subC]
  rw [e, e1, e2]
theorem sbp_16 (l : List (List UInt8)) (m : Nat) (w : Bool) : is16 (sbp l m w) := by rw [sbp_tdp]; exact is16_rev (is16_tdp l m w)
theorem sbp_len (l : List (List UInt8)) (m : Nat) (w : Bool) : (sbp l m w).length ≤ l.length + 1 := by rw [sbp_tdp, List.length_reverse]; exact tdp_len l m w
set_option maxHeartbeats 8000000 in
theorem rsub_ok (E : Env) (k : Nat) (h195 : E.G 195 = splC) (h197 : E.G 197 = rootC) (h198 : E.G 198 = limC subC rootMu k) : ∀ ds, (limC subC rootMu (k + 1)).pre ds → ds.length = f_custodyref08_sub.n ∧ awp E f_custodyref08_sub.body (retQ f_custodyref08_sub.res (subC.post ds)) (initSt f_custodyref08_sub.wr ds) := by
  rintro _ ⟨⟨nl, l, m, w, h, hl, h1, hm, rfl⟩, hk⟩
  rw [dgsA, subC_post m w h rfl rfl]
  have hk : l.length < k + 1 := hk
  by_cases he : m = l.length
  · have b1 : ((m : Int) == (l.length : Int)) = true := by rw [he]; simp
    rw [sbp_few (by omega), sbNl]
    cases w with
    | true =>
      rw [if_neg (by simp)]
      simp (maxSteps := 1000000) (disch := first | omega | (simp; done) | (simp; omega)) [W_id, bys_app, bys_snoc, f_custodyref08_sub, b1, kT, kF]
    | false =>
      rw [if_pos ⟨he, rfl⟩]
      have r1 := rootC_pre (nl := nl) h hl rfl rfl
      have r2 := rootC_post (nl := nl) h rfl rfl
      have r3 := root_len l
      simp (maxSteps := 1000000) (disch := first | omega | (simp; done) | (simp; omega)) [W_id, bys_app, bys_snoc, f_custodyref08_sub, f_custodyref08_sub_r0, b1, kT, kF, h197, r1, r2, r3, splice_full]
  · have b1 : ((m : Int) == (l.length : Int)) = false := beq_false_of_ne (by omega)
    have h2 : 2 ≤ l.length := by omega
    rw [sbp_two ⟨h2, he⟩, show sbNl l m w = none from if_neg (fun hh => he hh.1)]
    have hd := dgs_len h
    have hs := spl_lt h2
    have hs1 := spl_pos l.length
    have hst := spl_twice h2
    generalize hK : spl l.length = K at *
    have g1' : is16 (l.take K) := is16_take h K
    have g2 : is16 (l.drop K) := is16_drop h K
    have htk : (dgs (l.drop K)).take ((l.length - K) * 16) = dgs (l.drop K) := List.take_of_length_le (by rw [dgs_len g2, List.length_drop]; exact Nat.le_refl _)
    have lk1 : (l.take K).length = K := by rw [List.length_take]; omega
    have lk2 : (l.drop K).length = l.length - K := List.length_drop
    have r1 := root_len (l.take K)
    have r2 := root_len (l.drop K)
    have pa1 := rootC_pre (nl := nl) g1' (by omega) lk1.symm rfl
    have qa1 := rootC_post (nl := nl) g1' lk1.symm rfl
    have pa2 := rootC_pre (nl := nl) g2 (by omega) lk2.symm rfl
    have qa2 := rootC_post (nl := nl) g2 lk2.symm rfl
    have sp2 : splC.pre [i64 l.length] = True := splC_pre h2 (by omega)
    by_cases hc : m ≤ K
    · rw [if_pos hc]
      have hci : (m : Int) ≤ (K : Int) := by omega
      have hp1 : (limC subC rootMu k).pre [.sl .plain nl K (bys (dgs (l.take K))), i64 m, bo w] = True := eq_true ⟨of_eq_true (subC_pre g1' (by omega) h1 (by omega) lk1.symm rfl), by show K < k; omega⟩
      have hq1 : (limC subC rootMu k).post [.sl .plain nl K (bys (dgs (l.take K))), i64 m, bo w] = .sl (.own 16) (sbNl (l.take K) m w) (sbp (l.take K) m w).length (bys (dgs (sbp (l.take K) m w))) := subC_post m w g1' lk1.symm rfl
      have p16 := sbp_16 (l.take K) m w
      have pl := sbp_len (l.take K) m w
      have pd := dgs_len p16
      generalize sbNl (l.take K) m w = nq at *
      generalize sbp (l.take K) m w = p at *
      simp (maxSteps := 1000000) (disch := first | omega | (simp; done) | (simp; omega)) [W_id, bys_app, bys_snoc, f_custodyref08_sub, f_custodyref08_sub_r0, f_custodyref08_sub_r1, kT, kF, dT, dF, b1, h195, sp2, hK, hci, hd, dgs_take h, dgs_drop h, htk, h198, hp1, hq1, h197, pa1, qa1, pa2, qa2, r1, r2, splice_full, take_l16, pd]
      omega
    · rw [if_neg hc]
      have hci : ¬ (m : Int) ≤ (K : Int) := by omega
      have esub : (m : Int) - (K : Int) = ((m - K : Nat) : Int) := by omega
      have hp1 : (limC subC rootMu k).pre [.sl .plain nl (l.length - K) (bys (dgs (l.drop K))), i64 (m - K : Nat), bo false] = True := eq_true ⟨of_eq_true (subC_pre g2 (by omega) (by omega) (by omega) lk2.symm rfl), by show l.length - K < k; omega⟩
      have hq1 : (limC subC rootMu k).post [.sl .plain nl (l.length - K) (bys (dgs (l.drop K))), i64 (m - K : Nat), bo false] = .sl (.own 16) (sbNl (l.drop K) (m - K) false) (sbp (l.drop K) (m - K) false).length (bys (dgs (sbp (l.drop K) (m - K) false))) := subC_post _ _ g2 lk2.symm rfl
      have p16 := sbp_16 (l.drop K) (m - K) false
      have pl := sbp_len (l.drop K) (m - K) false
      have pd := dgs_len p16
      generalize sbNl (l.drop K) (m - K) false = nq at *
      generalize sbp (l.drop K) (m - K) false = p at *
      simp (maxSteps := 1000000) (disch := first | omega | (simp; done) | (simp; omega)) [W_id, bys_app, bys_snoc, f_custodyref08_sub, f_custodyref08_sub_r0, f_custodyref08_sub_r1, f_custodyref08_sub_r2, kT, kF, dT, dF, b1, h195, sp2, hK, hci, hd, dgs_take h, dgs_drop h, htk, h198, esub, hp1, hq1, h197, pa1, qa1, pa2, qa2, r1, r2, splice_full, take_l16, pd]
      omega
def ppA (o : Option (List (List UInt8))) : AVal := match o with | some p => .tup [.sl .plain none p.length (bys (dgs p)), i64 0] | none => .tup [.sl .plain none 0 [], i64 11]
def rppC : Contract := ⟨pvpC.pre, fun ds => ppA (pvpI (gDs (nth ds 0)) (asI (nth ds 1)))⟩
theorem rppC_pre {nl : Option Bool} {l : List (List UInt8)} {b : List UInt8} {k : Nat} {i : Int} (h : is16 l) (hl : l.length ≤ 900000) (hk : k = l.length) (hb : b = dgs l) : rppC.pre [.sl .plain nl k (bys b), i64 i] = True := eq_true ⟨nl, l, i, h, hl, by rw [hk, hb]; rfl⟩
theorem rppC_post {m : Mode} {nl : Option Bool} {l : List (List UInt8)} {b : List UInt8} {k : Nat} (i : Int) (h : is16 l) (hk : k = l.length) (hb : b = dgs l) : rppC.post [.sl m nl k (bys b), i64 i] = ppA (pvpI l i) := by
  show ppA (pvpI (gDs (.sl m nl k (bys b))) i) = _
  rw [hk, hb, gDs_dgs h]
theorem rpp_ok (E : Env) (h198 : E.G 198 = subC) : ∀ ds, rppC.pre ds → ds.length = f_custodyref08_ProvePrefix.n ∧ awp E f_custodyref08_ProvePrefix.body (retQ f_custodyref08_ProvePrefix.res (rppC.post ds)) (initSt f_custodyref08_ProvePrefix.wr ds) := by
  rintro _ ⟨nl, l, m, h, hl, rfl⟩
  rw [dgsA, rppC_post m h rfl rfl]
  by_cases h1 : 1 ≤ m
  · by_cases hm : m ≤ l.length
    · have g0 : ¬ m < 1 := by omega
      have g1 : ¬ (l.length : Int) < m := by omega
      rw [pvpI, if_pos ⟨h1, hm⟩]
      obtain ⟨n, rfl⟩ := Int.eq_ofNat_of_zero_le (show 0 ≤ m by omega)
      rw [Int.toNat_natCast]
      have s1 := subC_pre (nl := nl) (w := true) h (by omega) (show 1 ≤ n by omega) (by omega) rfl rfl
      have s2 := subC_post (md := .plain) (nl := nl) n true h rfl rfl
      rw [show sbNl l n true = none from if_neg (by simp)] at s2
      simp (maxSteps := 1000000) (disch := first | omega | (simp; done) | (simp; omega)) [W_id, bys_app, bys_snoc, f_custodyref08_ProvePrefix, f_custodyref08_ProvePrefix_r0, g0, g1, kT, kF, dT, dF, h198, s1, s2, ppA]
    · have g0 : ¬ m < 1 := by omega
      have g1 : (l.length : Int) < m := by omega
      rw [pvpI, if_neg (by omega)]
      simp (maxSteps := 1000000) (disch := first | omega | (simp; done) | (simp; omega)) [W_id, bys_app, bys_snoc, f_custodyref08_ProvePrefix, g0, g1, kT, kF, dT, dF, ppA]
  · have g0 : m < 1 := by omega
    rw [pvpI, if_neg (by omega)]
    simp (maxSteps := 1000000) (disch := first | omega | (simp; done) | (simp; omega)) [W_id, bys_app, bys_snoc, f_custodyref08_ProvePrefix, g0, kT, kF, dT, dF, ppA]
end Go.Abs
end

section
namespace Go.Abs
set_option maxRecDepth 100000
theorem inps_snoc {n i : Nat} {d : List UInt8} (h2 : 2 ≤ n) (hi : i < n) (rest : List (List UInt8)) (x : List UInt8) : inps n i d (rest ++ [x]) = if i < spl n then (inps (spl n) i d rest).map fun l => l ++ [inpOf 2 [shortB (l.getLastD []), x]] else (inps (n - spl n) (i - spl n) d rest).map fun l => l ++ [inpOf 2 [x, shortB (l.getLastD [])]] := by
  have e := rin_eq (x :: rest.reverse) n i d hi
  rw [List.reverse_cons, List.reverse_reverse] at e
  rw [← e, rin, if_neg (by omega)]
  have hl := spl_lt h2
  have hp := spl_pos n
  by_cases hc : i < spl n
  · rw [if_pos hc, if_pos hc, rin_eq _ _ _ _ hc, List.reverse_reverse]
  · rw [if_neg hc, if_neg hc, rin_eq _ _ _ _ (by omega), List.reverse_reverse]
theorem inps_none {n i : Nat} {d : List UInt8} (h2 : 2 ≤ n) (hi : i < n) : inps n i d [] = none := by
  have e := rin_eq [] n i d hi
  rw [List.reverse_nil] at e
  rw [← e, rin, if_neg (by omega)]
theorem inps_one (d : List UInt8) (p : List (List UInt8)) : inps 1 0 d p = if p = [] then some [inpOf 1 [d]] else none := by
  rw [inps, dirs_few (by decide)]
  cases p with
  | nil => rfl
  | cons x p => rw [if_neg (by simp), if_neg (by simp)]
def riL (n i : Int) (d : List UInt8) (p : List (List UInt8)) : List (List UInt8) := if 0 ≤ i ∧ i < n then (if n = 1 then [inpOf 1 [d]] else (inpsI n i d p).getD []) else []
def riN (n i : Int) : Option Bool := if (0 ≤ i ∧ i < n) ∧ n = 1 then some false else none
def riA (n i : Int) (d : List UInt8) (p : List (List UInt8)) : AVal := .otup 1 (riN n i) (riL n i d p).length (blsC (riL n i d p)) [bo (inpsI n i d p).isSome]
def rinC : Contract := ⟨fun ds => ∃ (n i : Int) (d : List UInt8) (nl : Option Bool) (p : List (List UInt8)), n ≤ 9223372036854775807 ∧ d.length = 16 ∧ is16 p ∧ p.length ≤ 1000 ∧ ds = [i64 n, i64 i, .agg (bys d), dgsA nl p],
  fun ds => riA (asI (nth ds 0)) (asI (nth ds 1)) (gBs (gCs (nth ds 2))) (gDs (nth ds 3))⟩
theorem rinC_pre {n i : Int} {d : List UInt8} {nl : Option Bool} {p : List (List UInt8)} {b : List UInt8} {k : Nat} (hn : n ≤ 9223372036854775807) (hd : d.length = 16) (hp : is16 p) (hl : p.length ≤ 1000) (hk : k = p.length) (hb : b = dgs p) : rinC.pre [i64 n, i64 i, .agg (bys d), .sl .plain nl k (bys b)] = True := eq_true ⟨n, i, d, nl, p, hn, hd, hp, hl, by rw [hk, hb]; rfl⟩
theorem rinC_post {m : Mode} (n i : Int) {d : List UInt8} {nl : Option Bool} {p : List (List UInt8)} {b : List UInt8} {k : Nat} (hp : is16 p) (hk : k = p.length) (hb : b = dgs p) : rinC.post [i64 n, i64 i, .agg (bys d), .sl m nl k (bys b)] = riA n i d p := by
  show riA n i (gBs (gCs (.agg (bys d)))) (gDs (.sl m nl k (bys b))) = _
  rw [hk, hb, gDs_dgs hp]
  simp
def rinMu (ds : List AVal) : Nat := slen (nth ds 3)
theorem last_split {p : List (List UInt8)} (h : 0 < p.length) : p = p.take (p.length - 1) ++ [dgAt p (p.length - 1)] := by
  have := List.take_append_getElem (l := p) (i := p.length - 1) (h := by omega)
  rw [show p.length - 1 + 1 = p.length by omega, List.take_length] at this
  rw [dgAt, List.getD, List.getElem?_eq_getElem (by omega), Option.getD_some]
  exact this.symm
theorem getLastD_lastB (l : List (List UInt8)) : l.getLastD [] = lastB l := by
  cases l with
  | nil => rfl
  | cons a l => simp [lastB, List.getD, List.getLastD, List.getLast_eq_getElem]
theorem inp_p1 {t : Int} {nl : Option Bool} {d : List UInt8} (h : d.length = 16) : inputC.pre [i64 t, .sl .plain nl 1 [st d]] = True := input_pre (l := [d]) rfl (by simp [totS, h])
theorem inp_p2 {t : Int} {nl : Option Bool} {a b : List UInt8} (h : a.length = 16) (h' : b.length = 16) : inputC.pre [i64 t, .sl .plain nl 2 [st a, st b]] = True := input_pre (l := [a, b]) rfl (by simp [totS, h, h'])
theorem inp_q1 (t : Int) (nl : Option Bool) (d : List UInt8) : inputC.post [i64 t, .sl .plain nl 1 [st d]] = .sl (.own 1) (some false) (inpOf t [d]).length (bys (inpOf t [d])) := input_post t nl 1 [d]
theorem inp_q2 (t : Int) (nl : Option Bool) (a b : List UInt8) : inputC.post [i64 t, .sl .plain nl 2 [st a, st b]] = .sl (.own 1) (some false) (inpOf t [a, b]).length (bys (inpOf t [a, b])) := input_post t nl 2 [a, b]
theorem inpsI_snoc {n i : Int} {d : List UInt8} (h2 : 2 ≤ n) (h0 : 0 ≤ i) (hi : i < n) (rest : List (List UInt8)) (x : List UInt8) : inpsI n i d (rest ++ [x]) = if i < (spl n.toNat : Int) then (inpsI (spl n.toNat : Nat) i d rest).map fun l => l ++ [inpOf 2 [shortB (lastB l), x]] else (inpsI (n.toNat - spl n.toNat : Nat) (i - (spl n.toNat : Int)) d rest).map fun l => l ++ [inpOf 2 [x, shortB (lastB l)]] := by
  obtain ⟨m, rfl⟩ := Int.eq_ofNat_of_zero_le (show 0 ≤ n by omega)
  obtain ⟨j, rfl⟩ := Int.eq_ofNat_of_zero_le h0
  have hs := spl_lt (n := m) (by omega)
  have hp := spl_pos m
  rw [inpsI, if_pos ⟨h0, hi⟩, Int.toNat_natCast, Int.toNat_natCast, inps_snoc (by omega) (by omega)]
  by_cases hc : j < spl m
  · rw [if_pos hc, if_pos (by omega), inpsI, if_pos (by omega), Int.toNat_natCast, Int.toNat_natCast]
    simp only [getLastD_lastB]
  · rw [if_neg hc, if_neg (by omega), inpsI, if_pos (by omega), Int.toNat_natCast, show ((j : Int) - (spl m : Int)).toNat = j - spl m by omega]
    simp only [getLastD_lastB]
theorem riL_some {n i : Int} {d : List UInt8} {p l : List (List UInt8)} (hl : inpsI n i d p = some l) : riL n i d p = l := by
  have hz := hl
  rw [riL]
  unfold inpsI at hz
  split at hz
  · rename_i hr
    rw [if_pos hr]
    by_cases hk1 : n = 1
    · rw [if_pos hk1]
      have hi0 : i = 0 := by omega
      rw [hk1, hi0] at hz
      have := inps_one d p
      rw [show (1 : Int).toNat = 1 from rfl, show (0 : Int).toNat = 0 from rfl, this] at hz
      split at hz
      · exact Option.some.inj hz
      · cases hz
    · rw [if_neg hk1, hl]; rfl
  · cases hz
set_option maxHeartbeats 16000000 in
theorem rinp_ok (E : Env) (k : Nat) (h21 : E.G 21 = inputC) (h23 : E.G 23 = text16C) (h28 : E.G 28 = shortC) (h195 : E.G 195 = splC) (h203 : E.G 203 = limC rinC rinMu k) : ∀ ds, (limC rinC rinMu (k + 1)).pre ds → ds.length = f_custodyref08_Inputs.n ∧ awp E f_custodyref08_Inputs.body (retQ f_custodyref08_Inputs.res (rinC.post ds)) (initSt f_custodyref08_Inputs.wr ds) := by
  rintro _ ⟨⟨n, i, d, nl, p, hn, hd, hp, hpl, rfl⟩, hk⟩
  rw [dgsA, rinC_post n i hp rfl rfl]
  have hk : p.length < k + 1 := hk
  have tkd := take_l16 hd
  by_cases g0 : i < 0
  · have e0 : ¬ (0 ≤ i ∧ i < n) := by omega
    rw [riA, riL, if_neg e0, riN, if_neg (by omega), inpsI, if_neg e0]
    simp (maxSteps := 1000000) (disch := first | omega | (simp; done) | (simp; omega)) [W_id, bys_app, bys_snoc, f_custodyref08_Inputs, kT, kF, dT, dF, g0, hd, blsC]
  have h0 : 0 ≤ i := by omega
  by_cases g1 : n ≤ i
  · have e0 : ¬ (0 ≤ i ∧ i < n) := by omega
    rw [riA, riL, if_neg e0, riN, if_neg (by omega), inpsI, if_neg e0]
    simp (maxSteps := 1000000) (disch := first | omega | (simp; done) | (simp; omega)) [W_id, bys_app, bys_snoc, f_custodyref08_Inputs, kT, kF, dT, dF, g0, g1, hd, blsC]
  have hi : i < n := by omega
  by_cases h1 : n = 1
  · subst h1
    have hi0 : i = 0 := by omega
    subst hi0
    have eo : inpsI 1 0 d p = if p = [] then some [inpOf 1 [d]] else none := by rw [inpsI, if_pos (by decide)]; exact inps_one d p
    rw [riA, riL, if_pos (by decide), if_pos rfl, riN, if_pos (by decide), eo]
    have es : (if p = [] then some [inpOf 1 [d]] else none).isSome = ((p.length : Int) == 0) := by
      cases p with
      | nil => rfl
      | cons a p =>
        simp
        omega
    rw [es]
    simp (maxSteps := 1000000) (disch := first | omega | (simp; done) | (simp; omega)) [W_id, bys_app, bys_snoc, f_custodyref08_Inputs, f_custodyref08_Inputs_r0, kT, kF, dT, dF, hd, tkd, h23, text16_pre, h21, inp_p1, inp_q1, blsC]
    skip
  have h2 : 2 ≤ n := by omega
  have b1 : (n == 1) = false := beq_false_of_ne h1
  by_cases hp0 : p.length = 0
  · have e0 : p = [] := List.length_eq_zero_iff.1 hp0
    subst e0
    have eo : inpsI n i d [] = none := by rw [inpsI, if_pos ⟨h0, hi⟩]; exact inps_none (by omega) (by omega)
    rw [riA, riL, if_pos ⟨h0, hi⟩, if_neg h1, riN, if_neg (fun h => h1 h.2), eo]
    simp (maxSteps := 1000000) (disch := first | omega | (simp; done) | (simp; omega)) [W_id, bys_app, bys_snoc, f_custodyref08_Inputs, f_custodyref08_Inputs_r0, f_custodyref08_Inputs_r1, kT, kF, dT, dF, g0, g1, b1, hd, blsC]
  have hps := last_split (p := p) (by omega)
  have hdl := dgs_len hp
  have hat := dgs_at hp (show p.length - 1 < p.length by omega)
  have hal := dgAt_len hp (show p.length - 1 < p.length by omega)
  have htk := dgs_take hp (p.length - 1)
  have e1 : ((p.length : Int) - 1).toNat = p.length - 1 := by omega
  have r16 : is16 (p.take (p.length - 1)) := is16_take hp _
  have rl : (p.take (p.length - 1)).length = p.length - 1 := by simp
  have b0 : ((p.length : Int) == 0) = false := beq_false_of_ne (by omega)
  have hsn := inpsI_snoc (d := d) h2 h0 hi (p.take (p.length - 1)) (dgAt p (p.length - 1))
  rw [← hps] at hsn
  obtain ⟨m, rfl⟩ := Int.eq_ofNat_of_zero_le (show 0 ≤ n by omega)
  rw [Int.toNat_natCast] at hsn
  have hs := spl_lt (n := m) (by omega)
  have hs1 := spl_pos m
  have sp : splC.pre [i64 m] = True := splC_pre (by omega) (by omega)
  generalize hK : spl m = K at *
  have rn : riN (m : Int) i = none := if_neg (fun h => h1 h.2)
  rw [riA, riL, if_pos ⟨h0, hi⟩, if_neg h1, rn, hsn]
  have tkx := take_l16 hal
  by_cases hc : i < (K : Int)
  · rw [if_pos hc]
    have hp1 : (limC rinC rinMu k).pre [i64 K, i64 i, .agg (bys d), .sl .plain nl (p.length - 1) (bys (dgs (p.take (p.length - 1))))] = True := eq_true ⟨of_eq_true (rinC_pre (by omega) hd r16 (by omega) rl.symm rfl), by show p.length - 1 < k; omega⟩
    have hq1 : (limC rinC rinMu k).post [i64 K, i64 i, .agg (bys d), .sl .plain nl (p.length - 1) (bys (dgs (p.take (p.length - 1))))] = riA K i d (p.take (p.length - 1)) := rinC_post K i r16 rl.symm rfl
    rw [riA] at hq1
    have io := fun l h => inpsI_some (n := K) (i := i) (l := l) hd r16 h
    generalize riN (K : Int) i = rq at *
    cases hI : inpsI K i d (p.take (p.length - 1)) with
    | none =>
      rw [hI] at hq1
      generalize riL K i d (p.take (p.length - 1)) = L at *
      simp (maxSteps := 1000000) (disch := first | omega | (simp; done) | (simp; omega)) [W_id, bys_app, bys_snoc, f_custodyref08_Inputs, f_custodyref08_Inputs_r0, f_custodyref08_Inputs_r1, f_custodyref08_Inputs_r2, kT, kF, dT, dF, g0, g1, b1, b0, hd, tkd, hdl, e1, hat, hal, htk, splice_full, h195, sp, hK, hc, h203, hp1, hq1, blsC]
      omega
    | some l =>
      rw [hI, riL_some hI] at hq1
      obtain ⟨_, ll, ls⟩ := io l hI
      have y2 := blsC_at (l := l) (i := l.length - 1) (by omega)
      have sm := ls _ (getD_mem (l := l) (i := l.length - 1) (by omega))
      change hdA ((blsC l).drop (l.length - 1)) = .sl (.own 1) (some false) (lastB l).length (bys (lastB l)) at y2
      change (lastB l).length ≤ 51 at sm
      have x1 : ((l.length : Int) - 1).toNat = l.length - 1 := by omega
      have s1 : shortC.pre [.sl .plain (some false) (lastB l).length (bys (lastB l))] = True := short_pre rfl (by omega)
      have s2 : shortC.post [.sl .plain (some false) (lastB l).length (bys (lastB l))] = .agg (bys (shortB (lastB l))) := short_post _ _ _
      have s3 := shortB_len (lastB l)
      simp only [Option.map_some, Option.getD_some, Option.isSome_some]
      generalize shortB (lastB l) = sb at *
      have ea : blsC (l ++ [inpOf 2 [sb, dgAt p (p.length - 1)]]) = blsC l ++ [.sl (.own 1) (some false) (inpOf 2 [sb, dgAt p (p.length - 1)]).length (bys (inpOf 2 [sb, dgAt p (p.length - 1)]))] := (blsC_app _ _).symm
      have eb : (l ++ [inpOf 2 [sb, dgAt p (p.length - 1)]]).length = l.length + 1 := by simp
      rw [ea, eb]
      have bl := blsC_len l
      have pb := pureL_blsC l
      generalize blsC l = bs at *
      simp (maxSteps := 1000000) (disch := first | omega | (simp; done) | (simp; omega)) [W_id, bys_app, bys_snoc, f_custodyref08_Inputs, f_custodyref08_Inputs_r0, f_custodyref08_Inputs_r1, f_custodyref08_Inputs_r2, f_custodyref08_Inputs_r3, kT, kF, dT, dF, g0, g1, b1, b0, hd, tkd, hdl, e1, hat, hal, htk, splice_full, h195, sp, hK, hc, h203, hp1, hq1, x1, y2, h28, s1, s2, h23, text16_pre, s3, tkx, h21, inp_p2, inp_q2, bl, pb]
      omega
  · rw [if_neg hc]
    have hsub : (m : Int) - (K : Int) = ((m - K : Nat) : Int) := by omega
    have hp1 : (limC rinC rinMu k).pre [i64 (m - K : Nat), i64 (i - (K : Int)), .agg (bys d), .sl .plain nl (p.length - 1) (bys (dgs (p.take (p.length - 1))))] = True := eq_true ⟨of_eq_true (rinC_pre (by omega) hd r16 (by omega) rl.symm rfl), by show p.length - 1 < k; omega⟩
    have hq1 : (limC rinC rinMu k).post [i64 (m - K : Nat), i64 (i - (K : Int)), .agg (bys d), .sl .plain nl (p.length - 1) (bys (dgs (p.take (p.length - 1))))] = riA (m - K : Nat) (i - (K : Int)) d (p.take (p.length - 1)) := rinC_post _ _ r16 rl.symm rfl
    rw [riA] at hq1
    have io := fun l h => inpsI_some (n := (m - K : Nat)) (i := i - (K : Int)) (l := l) hd r16 h
    generalize riN ((m - K : Nat) : Int) (i - (K : Int)) = rq at *
    cases hI : inpsI (m - K : Nat) (i - (K : Int)) d (p.take (p.length - 1)) with
    | none =>
      rw [hI] at hq1
      generalize riL (m - K : Nat) (i - (K : Int)) d (p.take (p.length - 1)) = L at *
      simp (maxSteps := 1000000) (disch := first | omega | (simp; done) | (simp; omega)) [W_id, bys_app, bys_snoc, f_custodyref08_Inputs, f_custodyref08_Inputs_r0, f_custodyref08_Inputs_r1, f_custodyref08_Inputs_r2, f_custodyref08_Inputs_r4, kT, kF, dT, dF, g0, g1, b1, b0, hd, tkd, hdl, e1, hat, hal, htk, splice_full, h195, sp, hK, hc, h203, hsub, hp1, hq1, blsC]
      omega
    | some l =>
      rw [hI, riL_some hI] at hq1
      obtain ⟨_, ll, ls⟩ := io l hI
      have y2 := blsC_at (l := l) (i := l.length - 1) (by omega)
      have sm := ls _ (getD_mem (l := l) (i := l.length - 1) (by omega))
      change hdA ((blsC l).drop (l.length - 1)) = .sl (.own 1) (some false) (lastB l).length (bys (lastB l)) at y2
      change (lastB l).length ≤ 51 at sm
      have x1 : ((l.length : Int) - 1).toNat = l.length - 1 := by omega
      have s1 : shortC.pre [.sl .plain (some false) (lastB l).length (bys (lastB l))] = True := short_pre rfl (by omega)
      have s2 : shortC.post [.sl .plain (some false) (lastB l).length (bys (lastB l))] = .agg (bys (shortB (lastB l))) := short_post _ _ _
      have s3 := shortB_len (lastB l)
      simp only [Option.map_some, Option.getD_some, Option.isSome_some]
      generalize shortB (lastB l) = sb at *
      have ea : blsC (l ++ [inpOf 2 [dgAt p (p.length - 1), sb]]) = blsC l ++ [.sl (.own 1) (some false) (inpOf 2 [dgAt p (p.length - 1), sb]).length (bys (inpOf 2 [dgAt p (p.length - 1), sb]))] := (blsC_app _ _).symm
      have eb : (l ++ [inpOf 2 [dgAt p (p.length - 1), sb]]).length = l.length + 1 := by simp
      rw [ea, eb]
      have bl := blsC_len l
      have pb := pureL_blsC l
      generalize blsC l = bs at *
      simp (maxSteps := 1000000) (disch := first | omega | (simp; done) | (simp; omega)) [W_id, bys_app, bys_snoc, f_custodyref08_Inputs, f_custodyref08_Inputs_r0, f_custodyref08_Inputs_r1, f_custodyref08_Inputs_r2, f_custodyref08_Inputs_r4, f_custodyref08_Inputs_r5, kT, kF, dT, dF, g0, g1, b1, b0, hd, tkd, hdl, e1, hat, hal, htk, splice_full, h195, sp, hK, hc, h203, hsub, hp1, hq1, x1, y2, h28, s1, s2, h23, text16_pre, s3, tkx, h21, inp_p2, inp_q2, bl, pb]
      omega
set_option maxHeartbeats 8000000 in
theorem rvfy_ok (E : Env) (h28 : E.G 28 = shortC) (h203 : E.G 203 = rinC) : ∀ ds, vfyC.pre ds → ds.length = f_custodyref08_Verify.n ∧ awp E f_custodyref08_Verify.body (retQ f_custodyref08_Verify.res (vfyC.post ds)) (initSt f_custodyref08_Verify.wr ds) := by
  rintro _ ⟨r, n, i, d, nl, p, hr, hn, hd, hp, hpl, rfl⟩
  rw [dgsA, vfyC_post hp, vfyN]
  have pre := rinC_pre (nl := nl) (i := i) hn hd hp hpl rfl rfl
  have post := rinC_post (m := .plain) (d := d) (nl := nl) n i hp rfl rfl
  rw [riA] at post
  have tkd := take_l16 hd
  have tkr := take_l16 hr
  generalize riN n i = rq at *
  cases hI : inpsI n i d p with
  | none =>
    rw [hI] at post
    generalize riL n i d p = L at *
    simp (maxSteps := 1000000) (disch := first | omega | (simp; done) | (simp; omega)) [W_id, bys_app, bys_snoc, f_custodyref08_Verify, h203, pre, post, hr, hd, tkd, tkr, kT, kF, dT, dF]
  | some l =>
    rw [hI, riL_some hI] at post
    simp only at post ⊢
    obtain ⟨_, hl, hs⟩ := inpsI_some hd hp hI
    have y2 := blsC_at (l := l) (i := l.length - 1) (by omega)
    have sm := hs _ (getD_mem (l := l) (i := l.length - 1) (by omega))
    change hdA ((blsC l).drop (l.length - 1)) = .sl (.own 1) (some false) (lastB l).length (bys (lastB l)) at y2
    change (lastB l).length ≤ 51 at sm
    have x1 : ((l.length : Int) - 1).toNat = l.length - 1 := by omega
    have s1 : shortC.pre [.sl .plain (some false) (lastB l).length (bys (lastB l))] = True := short_pre rfl (by omega)
    have s2 : shortC.post [.sl .plain (some false) (lastB l).length (bys (lastB l))] = .agg (bys (shortB (lastB l))) := short_post _ _ _
    have hsl := shortB_len (lastB l)
    have eqb := eqCells_ks8 hsl hr
    have bl := blsC_len l
    have pb := pureL_blsC l
    generalize shortB (lastB l) = sb at *
    generalize blsC l = bs at *
    simp (maxSteps := 1000000) (disch := first | omega | (simp; done) | (simp; omega)) [W_id, bys_app, bys_snoc, f_custodyref08_Verify, h203, pre, post, hr, hd, tkd, tkr, kT, kF, dT, dF, x1, y2, h28, s1, s2, eqb, bl, pb, hsl]
    omega
/-! ### Pairs -/
def pairN : Nat → Nat → Bool → List UInt8 → List (List UInt8) → List UInt8 × List UInt8 × Bool
  | m, n, w, old, [] => if m = n ∧ w = true then (old, old, true) else (zeros 16, zeros 16, false)
  | m, n, w, old, x :: q => if m = n ∧ w = true then (old, old, false) else if m = n then (x, x, decide (q = [])) else if m ≤ spl n then ((pairN m (spl n) w old q).1, digOf 2 [(pairN m (spl n) w old q).2.1, x], (pairN m (spl n) w old q).2.2) else (digOf 2 [x, (pairN (m - spl n) (n - spl n) false old q).1], digOf 2 [x, (pairN (m - spl n) (n - spl n) false old q).2.1], (pairN (m - spl n) (n - spl n) false old q).2.2)
theorem pairN_len (old : List UInt8) (ho : old.length = 16) : ∀ (q : List (List UInt8)) (m n : Nat) (w : Bool), is16 q → (pairN m n w old q).1.length = 16 ∧ (pairN m n w old q).2.1.length = 16
  | [], m, n, w, _ => by
    rw [pairN]; split
    · exact ⟨ho, ho⟩
    · exact ⟨rfl, rfl⟩
  | x :: q, m, n, w, h => by
    obtain ⟨hx, hq⟩ := is16_cons.1 h
    rw [pairN]
    split
    · exact ⟨ho, ho⟩
    · split
      · exact ⟨hx, hx⟩
      · split
        · have ih := (pairN_len old ho q m (spl n) w hq).1
          exact ⟨ih, by simp only [digOf_len]⟩
        · simp only [digOf_len, and_self]
def pairL (t : List UInt8 × List UInt8 × Bool) : List AVal := bys (t.1 ++ t.2.1) ++ [bo t.2.2]
def pairA (t : List UInt8 × List UInt8 × Bool) : AVal := .agg (pairL t)
def pairC : Contract := ⟨fun ds => ∃ (old : List UInt8) (m n : Nat) (w : Bool) (nl : Option Bool) (p : List (List UInt8)), old.length = 16 ∧ 1 ≤ m ∧ m ≤ n ∧ n ≤ 9223372036854775807 ∧ is16 p ∧ p.length ≤ 1000 ∧ ds = [.agg (bys old), i64 m, i64 n, bo w, dgsA nl p],
  fun ds => pairA (pairN (asI (nth ds 1)).toNat (asI (nth ds 2)).toNat (asB (nth ds 3)) (gBs (gCs (nth ds 0))) (gDs (nth ds 4)).reverse)⟩
theorem pairC_pre {old : List UInt8} {m n : Nat} {w : Bool} {nl : Option Bool} {p : List (List UInt8)} {b : List UInt8} {k : Nat} (ho : old.length = 16) (h1 : 1 ≤ m) (h2 : m ≤ n) (hn : n ≤ 9223372036854775807) (hp : is16 p) (hl : p.length ≤ 1000) (hk : k = p.length) (hb : b = dgs p) : pairC.pre [.agg (bys old), i64 m, i64 n, bo w, .sl .plain nl k (bys b)] = True := eq_true ⟨old, m, n, w, nl, p, ho, h1, h2, hn, hp, hl, by rw [hk, hb]; rfl⟩
theorem pairC_post {old : List UInt8} {m n : Nat} {w : Bool} {md : Mode} {nl : Option Bool} {p : List (List UInt8)} {b : List UInt8} {k : Nat} (hp : is16 p) (hk : k = p.length) (hb : b = dgs p) : pairC.post [.agg (bys old), i64 m, i64 n, bo w, .sl md nl k (bys b)] = pairA (pairN m n w old p.reverse) := by
  have e : gDs (nth [.agg (bys old), i64 m, i64 n, bo w, .sl md nl k (bys b)] 4) = p := by rw [hk, hb]; exact gDs_dgs hp
  have e1 : (asI (nth [.agg (bys old), i64 m, i64 n, bo w, .sl md nl k (bys b)] 1)).toNat = m := Int.toNat_natCast m
  have e2 : (asI (nth [.agg (bys old), i64 m, i64 n, bo w, .sl md nl k (bys b)] 2)).toNat = n := Int.toNat_natCast n
  have e3 : gBs (gCs (nth [.agg (bys old), i64 m, i64 n, bo w, .sl md nl k (bys b)] 0)) = old := by simp [nth, gCs]
  simp only [pairC]
  rw [e, e1, e2, e3]; rfl
def pairMu (ds : List AVal) : Nat := slen (nth ds 4)
end Go.Abs
end

section
namespace Go.Abs
set_option maxRecDepth 100000
theorem pairL_len {t : List UInt8 × List UInt8 × Bool} (hx : t.1.length = 16) (hy : t.2.1.length = 16) : (pairL t).length = 33 := by simp [pairL, hx, hy]
theorem pairL_0 {t : List UInt8 × List UInt8 × Bool} (hx : t.1.length = 16) : (pairL t).take 16 = bys t.1 := by
  have h : (bys t.1).length = 16 := by simpa using hx
  rw [pairL, bys_append, List.append_assoc, ← h, List.take_left]
theorem pairL_16 {t : List UInt8 × List UInt8 × Bool} (hx : t.1.length = 16) (hy : t.2.1.length = 16) : ((pairL t).drop 16).take 16 = bys t.2.1 := by
  have h : (bys t.1).length = 16 := by simpa using hx
  have h' : (bys t.2.1).length = 16 := by simpa using hy
  have e : (pairL t).drop 16 = bys t.2.1 ++ [bo t.2.2] := by
    rw [pairL, bys_append, List.append_assoc]
    conv => lhs; rw [← h]
    rw [List.drop_left]
  rw [e]
  conv => lhs; rw [← h']
  rw [List.take_left]
theorem pairL_32 {t : List UInt8 × List UInt8 × Bool} (hx : t.1.length = 16) (hy : t.2.1.length = 16) : hdA ((pairL t).drop 32) = bo t.2.2 := by
  have h : (bys (t.1 ++ t.2.1)).length = 32 := by simp [hx, hy]
  rw [pairL, ← h, List.drop_left]; rfl
@[simp] theorem pairL_cell (t : List UInt8 × List UInt8 × Bool) : (∀ c ∈ pairL t, isCell c) ↔ True := by simp [pairL, or_imp, forall_and]
@[simp] theorem pairL_own (t : List UInt8 × List UInt8 × Bool) : (∀ c ∈ pairL t, ownTop c = false) ↔ True := by simp [pairL, or_imp, forall_and]
@[simp] theorem pairL_pure (t : List UInt8 × List UInt8 × Bool) : pureL (pairL t) = true := by simp [pairL]
@[simp] theorem pairL_refs (t : List UInt8 × List UInt8 × Bool) : refsL (pairL t) = [] := by simp [pairL]
theorem pair_zero : bys (zeros 32) ++ [bo false] = pairL (zeros 16, zeros 16, false) := rfl
theorem pair_fill {t : List UInt8 × List UInt8 × Bool} {x y : List UInt8} (b : Bool) (h1 : t.1.length = 16) (h2 : t.2.1.length = 16) (hx : x.length = 16) (hy : y.length = 16) : splice (splice (splice (pairL t) 0 (bys x)) 16 (bys y)) 32 [bo b] = pairL (x, y, b) := by
  obtain ⟨u, v, c⟩ := t
  simp only at h1 h2
  have hu : (bys u).length = 16 := by simpa using h1
  have hv : (bys v).length = 16 := by simpa using h2
  have hx' : (bys x).length = 16 := by simpa using hx
  have hy' : (bys y).length = 16 := by simpa using hy
  simp only [pairL, bys_append]
  generalize bys u = U at *
  generalize bys v = V at *
  generalize bys x = X at *
  generalize bys y = Y at *
  have e1 : splice (U ++ V ++ [bo c]) 0 X = X ++ V ++ [bo c] := by
    simp [splice, hx', ← hu]
  rw [e1]
  have e2 : splice (X ++ V ++ [bo c]) 16 Y = X ++ Y ++ [bo c] := by
    unfold splice
    rw [List.append_assoc X, ← hx', List.take_left, hx', hy', show 16 + 16 = (X ++ V).length by simp [hx', hv], ← List.append_assoc X, List.drop_left]
  rw [e2]
  unfold splice
  rw [show 32 = (X ++ Y).length by simp [hx', hy'], List.take_left, List.drop_of_length_le (by simp; omega)]
  simp
theorem pairZ_1 : ((zeros 16, zeros 16, false) : List UInt8 × List UInt8 × Bool).1.length = 16 := rfl
theorem pairZ_2 : ((zeros 16, zeros 16, false) : List UInt8 × List UInt8 × Bool).2.1.length = 16 := rfl
set_option maxHeartbeats 16000000 in
theorem rpair_ok (E : Env) (k : Nat) (h195 : E.G 195 = splC) (h202 : E.G 202 = rndC) (h205 : E.G 205 = limC pairC pairMu k) : ∀ ds, (limC pairC pairMu (k + 1)).pre ds → ds.length = f_custodyref08_pairOf.n ∧ awp E f_custodyref08_pairOf.body (retQ f_custodyref08_pairOf.res (pairC.post ds)) (initSt f_custodyref08_pairOf.wr ds) := by
  rintro _ ⟨⟨old, m, n, w, nl, p, ho, h1, hmn, hn, hp, hpl, rfl⟩, hk⟩
  rw [dgsA, pairC_post hp rfl rfl, pairA]
  have hk : p.length < k + 1 := hk
  have tko := take_l16 ho
  have zl := pairL_len pairZ_1 pairZ_2
  have fill := fun (x y : List UInt8) (b : Bool) (hx : x.length = 16) (hy : y.length = 16) => pair_fill b pairZ_1 pairZ_2 hx hy
  by_cases hw : m = n ∧ w = true
  · obtain ⟨rfl, rfl⟩ := hw
    have e : pairN m m true old p.reverse = (old, old, decide (p = [])) := by
      cases hq : p.reverse with
      | nil => rw [pairN, if_pos ⟨rfl, rfl⟩, List.reverse_eq_nil_iff.1 hq]; rfl
      | cons x q =>
        have : p ≠ [] := by intro h; rw [h] at hq; cases hq
        rw [pairN, if_pos ⟨rfl, rfl⟩, decide_eq_false this]
    have ed : ((p.length : Int) == 0) = decide (p = []) := by
      cases p with
      | nil => rfl
      | cons a p => simp; omega
    rw [e]
    have f1 := fill old old (decide (p = [])) ho ho
    have fl := pairL_len (t := (old, old, decide (p = []))) ho ho
    have flt := List.take_of_length_le (Nat.le_of_eq fl)
    simp (maxSteps := 1000000) (disch := first | omega | (simp; done) | (simp; omega)) [W_id, bys_app, bys_snoc, f_custodyref08_pairOf, pair_zero, kT, kF, dT, dF, ho, tko, ed, f1, fl, zl, splice_full, flt]
  · by_cases hp0 : p.length = 0
    · have e0 : p = [] := List.length_eq_zero_iff.1 hp0
      subst e0
      have e : pairN m n w old [].reverse = (zeros 16, zeros 16, false) := by rw [List.reverse_nil, pairN, if_neg hw]
      rw [e]
      have flt := List.take_of_length_le (Nat.le_of_eq zl)
      by_cases he : m = n
      · subst he
        have hwf : w = false := by
          cases w with
          | false => rfl
          | true => exact absurd ⟨rfl, rfl⟩ hw
        subst hwf
        simp (maxSteps := 1000000) (disch := first | omega | (simp; done) | (simp; omega)) [W_id, bys_app, bys_snoc, f_custodyref08_pairOf, f_custodyref08_pairOf_r0, pair_zero, kT, kF, dT, dF, ho, tko, zl, splice_full, flt]
      · have b1 : ((m : Int) == (n : Int)) = false := beq_false_of_ne (by omega)
        simp (maxSteps := 1000000) (disch := first | omega | (simp; done) | (simp; omega)) [W_id, bys_app, bys_snoc, f_custodyref08_pairOf, f_custodyref08_pairOf_r0, pair_zero, kT, kF, dT, dF, ho, tko, zl, splice_full, flt, b1]
    · have hrev : p.reverse = dgAt p (p.length - 1) :: (p.take (p.length - 1)).reverse := by
        conv => lhs; rw [last_split (p := p) (by omega)]
        simp
      have hdl := dgs_len hp
      have hat := dgs_at hp (show p.length - 1 < p.length by omega)
      have hal := dgAt_len hp (show p.length - 1 < p.length by omega)
      have htk := dgs_take hp (p.length - 1)
      have e1 : ((p.length : Int) - 1).toNat = p.length - 1 := by omega
      have r16 : is16 (p.take (p.length - 1)) := is16_take hp _
      have rl : (p.take (p.length - 1)).length = p.length - 1 := by simp
      have b0 : ((p.length : Int) == 0) = false := beq_false_of_ne (by omega)
      have tkx := take_l16 hal
      rw [hrev]
      generalize hx : dgAt p (p.length - 1) = x at *
      generalize hq : p.take (p.length - 1) = q at *
      by_cases he : m = n
      · subst he
        have hwf : w = false := by
          cases w with
          | false => rfl
          | true => exact absurd ⟨rfl, rfl⟩ hw
        subst hwf
        have e : pairN m m false old (x :: q.reverse) = (x, x, decide (q.length = 0)) := by
          rw [pairN, if_neg (by simp), if_pos rfl]
          cases q <;> simp
        rw [e]
        have ed : (((p.length - 1 : Nat) : Int) == 0) = decide (q.length = 0) := by
          rw [rl]
          by_cases h : p.length - 1 = 0
          · rw [h]; rfl
          · rw [decide_eq_false h]; exact beq_false_of_ne (by omega)
        rw [← ed]
        generalize hbb : (((p.length - 1 : Nat) : Int) == 0) = bb at *
        have f1 := fill x x bb hal hal
        have fl := pairL_len (t := (x, x, bb)) hal hal
        have flt := List.take_of_length_le (Nat.le_of_eq fl)
        simp (maxSteps := 1000000) (disch := first | omega | (simp; done) | (simp; omega)) [W_id, bys_app, bys_snoc, f_custodyref08_pairOf, f_custodyref08_pairOf_r0, f_custodyref08_pairOf_r1, pair_zero, kT, kF, dT, dF, ho, tko, zl, splice_full, flt, fl, b0, hdl, e1, hat, hal, tkx, htk, f1, hbb]
        omega
      · have b1 : ((m : Int) == (n : Int)) = false := beq_false_of_ne (by omega)
        have hlt : m < n := by omega
        have hs := spl_lt (n := n) (by omega)
        have hs1 := spl_pos n
        have hst := spl_twice (n := n) (by omega)
        have sp : splC.pre [i64 n] = True := splC_pre (by omega) (by omega)
        have q16r := is16_rev r16
        generalize hK : spl n = K at *
        by_cases hc : m ≤ K
        · have hci : (m : Int) ≤ (K : Int) := by omega
          have hp1 : (limC pairC pairMu k).pre [.agg (bys old), i64 m, i64 K, bo w, .sl .plain nl (p.length - 1) (bys (dgs q))] = True := eq_true ⟨of_eq_true (pairC_pre ho h1 hc (by omega) r16 (by omega) rl.symm rfl), by show p.length - 1 < k; omega⟩
          have hq1 : (limC pairC pairMu k).post [.agg (bys old), i64 m, i64 K, bo w, .sl .plain nl (p.length - 1) (bys (dgs q))] = pairA (pairN m K w old q.reverse) := pairC_post r16 rl.symm rfl
          rw [pairA] at hq1
          have e : pairN m n w old (x :: q.reverse) = ((pairN m K w old q.reverse).1, digOf 2 [(pairN m K w old q.reverse).2.1, x], (pairN m K w old q.reverse).2.2) := by
            rw [pairN, if_neg hw, if_neg he, hK, if_pos hc]
          obtain ⟨t1, t2⟩ := pairN_len old ho q.reverse m K w q16r
          rw [e]
          generalize pairN m K w old q.reverse = T at *
          obtain ⟨y, hy, hyl⟩ : ∃ y, digOf 2 [T.2.1, x] = y ∧ y.length = 16 := ⟨_, rfl, digOf_len _ _⟩
          rw [hy]
          have g1 := fill T.1 y T.2.2 t1 hyl
          have g2 := pairL_len t1 t2
          have g3 := pairL_0 t1
          have g4 := pairL_16 t1 t2
          have g5 := pairL_32 t1 t2
          have g6 := List.take_of_length_le (Nat.le_of_eq g2)
          have g7 := pairL_len (t := (T.1, y, T.2.2)) t1 hyl
          have g8 := List.take_of_length_le (Nat.le_of_eq g7)
          have tk1 := take_l16 t1
          have tk2 := take_l16 t2
          simp (maxSteps := 1000000) (disch := first | omega | (simp; done) | (simp; omega)) [W_id, bys_app, bys_snoc, f_custodyref08_pairOf, f_custodyref08_pairOf_r0, f_custodyref08_pairOf_r1, f_custodyref08_pairOf_r2, pair_zero, kT, kF, dT, dF, ho, tko, zl, splice_full, b1, b0, hdl, e1, hat, hal, tkx, htk, h195, sp, hK, hci, h205, hp1, hq1, g1, g2, g3, g4, g5, g6, g7, g8, hy, hyl, t1, t2, h202, rndC_pre t2 hal]
          omega
        · have hci : ¬ (m : Int) ≤ (K : Int) := by omega
          have hsm : (m : Int) - (K : Int) = ((m - K : Nat) : Int) := by omega
          have hsn : (n : Int) - (K : Int) = ((n - K : Nat) : Int) := by omega
          have hp1 : (limC pairC pairMu k).pre [.agg (bys old), i64 (m - K : Nat), i64 (n - K : Nat), bo false, .sl .plain nl (p.length - 1) (bys (dgs q))] = True := eq_true ⟨of_eq_true (pairC_pre ho (by omega) (by omega) (by omega) r16 (by omega) rl.symm rfl), by show p.length - 1 < k; omega⟩
          have hq1 : (limC pairC pairMu k).post [.agg (bys old), i64 (m - K : Nat), i64 (n - K : Nat), bo false, .sl .plain nl (p.length - 1) (bys (dgs q))] = pairA (pairN (m - K) (n - K) false old q.reverse) := pairC_post r16 rl.symm rfl
          rw [pairA] at hq1
          have e : pairN m n w old (x :: q.reverse) = (digOf 2 [x, (pairN (m - K) (n - K) false old q.reverse).1], digOf 2 [x, (pairN (m - K) (n - K) false old q.reverse).2.1], (pairN (m - K) (n - K) false old q.reverse).2.2) := by
            rw [pairN, if_neg hw, if_neg he, hK, if_neg hc]
          obtain ⟨t1, t2⟩ := pairN_len old ho q.reverse (m - K) (n - K) false q16r
          rw [e]
          generalize pairN (m - K) (n - K) false old q.reverse = T at *
          obtain ⟨y, hy, hyl⟩ : ∃ y, digOf 2 [x, T.1] = y ∧ y.length = 16 := ⟨_, rfl, digOf_len _ _⟩
          obtain ⟨z, hz, hzl⟩ : ∃ z, digOf 2 [x, T.2.1] = z ∧ z.length = 16 := ⟨_, rfl, digOf_len _ _⟩
          rw [hy, hz]
          have g1 := fill y z T.2.2 hyl hzl
          have g2 := pairL_len t1 t2
          have g3 := pairL_0 t1
          have g4 := pairL_16 t1 t2
          have g5 := pairL_32 t1 t2
          have g6 := List.take_of_length_le (Nat.le_of_eq g2)
          have g7 := pairL_len (t := (y, z, T.2.2)) hyl hzl
          have g8 := List.take_of_length_le (Nat.le_of_eq g7)
          simp (maxSteps := 1000000) (disch := first | omega | (simp; done) | (simp; omega)) [W_id, bys_app, bys_snoc, f_custodyref08_pairOf, f_custodyref08_pairOf_r0, f_custodyref08_pairOf_r1, f_custodyref08_pairOf_r2, f_custodyref08_pairOf_r3, pair_zero, kT, kF, dT, dF, ho, tko, zl, splice_full, b1, b0, hdl, e1, hat, hal, tkx, htk, h195, sp, hK, hci, hsm, hsn, h205, hp1, hq1, g1, g2, g3, g4, g5, g6, g7, g8, hy, hz, hyl, hzl, t1, t2, h202, rndC_pre hal t1, rndC_pre hal t2]
          omega
end Go.Abs
end

section
namespace Go.Abs
set_option maxRecDepth 100000
def hdO (pr : List (List UInt8)) : Option (List UInt8 × List (List UInt8)) := match pr with | [] => none | x :: p => some (x, p)
def vS (D : List Bool) (w : Bool) (old : List UInt8) (pr : List (List UInt8)) : Option (List UInt8 × List (List UInt8)) :=
  if w = true ∧ D.all (! ·) = true then some (old, pr) else hdO pr
theorem vS_true (D : List Bool) (old : List UInt8) (pr : List (List UInt8)) : vS D true old pr = vpS D old pr := by
  unfold vS vpS
  cases D.all (! ·) <;> simp
  cases pr <;> rfl
theorem nd_dig (a b : List UInt8) : digOf 2 [a, b] = nd a b := rfl
def pairOk (D : List Bool) (w : Bool) (old : List UInt8) (pr : List (List UInt8)) (u v : List UInt8) (ok : Bool) : Prop :=
  match vS D w old pr with
  | none => ok = false
  | some (x, r) => ok = decide (r.length = D.length) ∧ (r.length = D.length → u = (foldP (D.reverse.zip r) x x).1 ∧ v = (foldP (D.reverse.zip r) x x).2)
theorem pairOk_step {D : List Bool} {w w' b : Bool} {old x u v u' v' : List UInt8} {pr : List (List UInt8)} {ok : Bool} (hw : (w' = true ∧ (b :: D).all (! ·) = true) ↔ (w = true ∧ D.all (! ·) = true)) (h : pairOk D w old pr u v ok)
    (hu : u' = if b then nd x u else u) (hv : v' = if b then nd x v else nd v x) : pairOk (b :: D) w' old (pr ++ [x]) u' v' ok := by
  have key : ∀ (z : List UInt8) (r : List (List UInt8)), (ok = decide (r.length = D.length) ∧ (r.length = D.length → u = (foldP (D.reverse.zip r) z z).1 ∧ v = (foldP (D.reverse.zip r) z z).2)) →
      ok = decide ((r ++ [x]).length = (b :: D).length) ∧ ((r ++ [x]).length = (b :: D).length → u' = (foldP ((b :: D).reverse.zip (r ++ [x])) z z).1 ∧ v' = (foldP ((b :: D).reverse.zip (r ++ [x])) z z).2) := fun z r hr => by
    have hl : (r ++ [x]).length = (b :: D).length ↔ r.length = D.length := by simp
    refine ⟨?_, fun h => ?_⟩
    · simp only [hl]
      exact hr.1
    · have hrl := hl.1 h
      obtain ⟨k1, k2⟩ := hr.2 hrl
      rw [List.reverse_cons, zip_snoc _ _ _ _ (by simp [hrl]), foldP_snoc, hu, hv, ← k1, ← k2]
      cases b <;> simp
  unfold pairOk at h ⊢
  by_cases hc : w = true ∧ D.all (! ·) = true
  · have e1 : vS D w old pr = some (old, pr) := if_pos hc
    have e2 : vS (b :: D) w' old (pr ++ [x]) = some (old, pr ++ [x]) := if_pos (hw.2 hc)
    rw [e1] at h
    rw [e2]
    exact key old pr h
  · have e1 : vS D w old pr = hdO pr := if_neg hc
    have e2 : vS (b :: D) w' old (pr ++ [x]) = hdO (pr ++ [x]) := if_neg (fun h => hc (hw.1 h))
    rw [e1] at h
    rw [e2]
    cases pr with
    | nil =>
      have h' : ok = false := h
      refine ⟨?_, fun hl => by simp at hl⟩
      simp [h']
    | cons z r => exact key z r h
theorem pair_fold (old : List UInt8) : ∀ (q : List (List UInt8)) (m n : Nat) (w : Bool), 1 ≤ m → m ≤ n → pairOk (dpd m n) w old q.reverse (pairN m n w old q).1 (pairN m n w old q).2.1 (pairN m n w old q).2.2
  | [], m, n, w, h1, h2 => by
    rw [pairN]
    by_cases hw : m = n ∧ w = true
    · rw [if_pos hw, dpd_few (by omega)]
      unfold pairOk
      rw [show vS [] w old [].reverse = some (old, []) from if_pos ⟨hw.2, rfl⟩]
      exact ⟨rfl, fun _ => ⟨rfl, rfl⟩⟩
    · rw [if_neg hw]
      unfold pairOk
      by_cases hc : w = true ∧ (dpd m n).all (! ·) = true
      · rw [show vS (dpd m n) w old [].reverse = some (old, []) from if_pos hc]
        have hlt : m < n := by
          rcases Nat.lt_or_ge m n with h | h
          · exact h
          · exact absurd ⟨by omega, hc.1⟩ hw
        have hd : (dpd m n).length ≠ 0 := by rw [dpd_two ⟨h1, hlt⟩]; split <;> simp
        refine ⟨?_, fun h => absurd h.symm hd⟩
        rw [decide_eq_false (fun h => hd h.symm)]
      · rw [show vS (dpd m n) w old [].reverse = none from if_neg hc]
  | x :: q, m, n, w, h1, h2 => by
    rw [pairN, List.reverse_cons]
    by_cases hw : m = n ∧ w = true
    · rw [if_pos hw, dpd_few (by omega)]
      unfold pairOk
      rw [show vS [] w old (q.reverse ++ [x]) = some (old, q.reverse ++ [x]) from if_pos ⟨hw.2, rfl⟩]
      exact ⟨by simp, fun h => by simp at h⟩
    · rw [if_neg hw]
      by_cases he : m = n
      · have hwf : w = false := by
          cases w with
          | false => rfl
          | true => exact absurd ⟨he, rfl⟩ hw
        rw [if_pos he, dpd_few (by omega), hwf]
        unfold pairOk
        cases hq : q.reverse with
        | nil =>
          rw [List.reverse_eq_nil_iff.1 hq]
          exact ⟨rfl, fun _ => ⟨rfl, rfl⟩⟩
        | cons z r =>
          have hne : q ≠ [] := by intro h; rw [h] at hq; cases hq
          refine ⟨?_, fun h => by simp at h⟩
          simp [hne]
      · have hlt : m < n := by omega
        have hs := spl_lt (n := n) (by omega)
        have hs1 := spl_pos n
        rw [if_neg he, dpd_two ⟨h1, hlt⟩]
        by_cases hc : m ≤ spl n
        · rw [if_pos hc, if_pos hc]
          have ih := pair_fold old q m (spl n) w h1 hc
          generalize pairN m (spl n) w old q = T at ih ⊢
          obtain ⟨u, v, ok⟩ := T
          simp only [nd_dig] at ih ⊢
          exact pairOk_step (b := false) (by simp) ih (by simp) (by simp)
        · rw [if_neg hc, if_neg hc]
          have ih := pair_fold old q (m - spl n) (n - spl n) false (by omega) (by omega)
          generalize pairN (m - spl n) (n - spl n) false old q = T at ih ⊢
          obtain ⟨u, v, ok⟩ := T
          simp only [nd_dig] at ih ⊢
          exact pairOk_step (b := true) (by simp) ih (by simp) (by simp)
theorem pair_vpN {old root : List UInt8} {m n : Nat} (h1 : 1 ≤ m) (h2 : m ≤ n) (p : List (List UInt8)) : vpN old root m n p = ((pairN m n true old p.reverse).2.2 && decide ((pairN m n true old p.reverse).1 = old) && decide ((pairN m n true old p.reverse).2.1 = root)) := by
  have h := pair_fold old p.reverse m n true h1 h2
  rw [List.reverse_reverse] at h
  unfold pairOk at h
  rw [vS_true] at h
  have hc : (1 : Int) ≤ (m : Int) ∧ (m : Int) ≤ (n : Int) := by omega
  rw [vpN, if_pos hc, Int.toNat_natCast, Int.toNat_natCast]
  generalize pairN m n true old p.reverse = t at *
  cases hv : vpS (dpd m n) old p with
  | none =>
    rw [hv] at h
    simp only at h ⊢
    rw [h]; rfl
  | some xr =>
    obtain ⟨x, r⟩ := xr
    rw [hv] at h
    simp only at h ⊢
    obtain ⟨k1, k2⟩ := h
    unfold vpE
    by_cases hl : r.length = (dpd m n).length
    · obtain ⟨k3, k4⟩ := k2 hl
      rw [if_pos hl, k1, decide_eq_true hl, k3, k4, Bool.true_and]
    · rw [if_neg hl, k1, decide_eq_false hl]; rfl
set_option maxHeartbeats 8000000 in
theorem rvp_ok (E : Env) (h205 : E.G 205 = pairC) : ∀ ds, vprC.pre ds → ds.length = f_custodyref08_VerifyPrefix.n ∧ awp E f_custodyref08_VerifyPrefix.body (retQ f_custodyref08_VerifyPrefix.res (vprC.post ds)) (initSt f_custodyref08_VerifyPrefix.wr ds) := by
  rintro _ ⟨old, root, m, n, nl, p, ho, hr, hn, hp, hpl, rfl⟩
  rw [dgsA, vprC_post hp]
  have tko := take_l16 ho
  have tkr := take_l16 hr
  by_cases g0 : m < 1
  · rw [vpN, if_neg (by omega)]
    simp (maxSteps := 1000000) (disch := first | omega | (simp; done) | (simp; omega)) [W_id, bys_app, bys_snoc, f_custodyref08_VerifyPrefix, kT, kF, dT, dF, g0, ho, hr]
  by_cases g1 : n < m
  · rw [vpN, if_neg (by omega)]
    simp (maxSteps := 1000000) (disch := first | omega | (simp; done) | (simp; omega)) [W_id, bys_app, bys_snoc, f_custodyref08_VerifyPrefix, kT, kF, dT, dF, g0, g1, ho, hr]
  obtain ⟨a, rfl⟩ := Int.eq_ofNat_of_zero_le (show 0 ≤ m by omega)
  obtain ⟨b, rfl⟩ := Int.eq_ofNat_of_zero_le (show 0 ≤ n by omega)
  rw [pair_vpN (show 1 ≤ a by omega) (by omega)]
  have c1 := pairC_pre (w := true) (nl := nl) ho (show 1 ≤ a by omega) (show a ≤ b by omega) (by omega) hp hpl rfl rfl
  have c2 := pairC_post (old := old) (m := a) (n := b) (w := true) (md := .plain) (nl := nl) hp rfl rfl
  rw [pairA] at c2
  obtain ⟨t1, t2⟩ := pairN_len old ho p.reverse a b true (is16_rev hp)
  have zl := pairL_len pairZ_1 pairZ_2
  generalize pairN a b true old p.reverse = T at *
  have g2 := pairL_len t1 t2
  have g3 := pairL_0 t1
  have g4 := pairL_16 t1 t2
  have g5 := pairL_32 t1 t2
  have g6 := List.take_of_length_le (Nat.le_of_eq g2)
  have eq1 := eqCells_ks8 t1 ho
  have eq2 := eqCells_ks8 t2 hr
  obtain ⟨u, v, ok⟩ := T
  simp only at *
  cases ok with
  | false =>
    simp (maxSteps := 1000000) (disch := first | omega | (simp; done) | (simp; omega)) [W_id, bys_app, bys_snoc, f_custodyref08_VerifyPrefix, f_custodyref08_VerifyPrefix_r0, pair_zero, kT, kF, dT, dF, g0, g1, ho, hr, tko, tkr, h205, c1, c2, zl, g2, g3, g4, g5, g6, splice_full]
  | true =>
    by_cases hu : u = old
    · rw [decide_eq_true hu] at eq1 ⊢
      simp (maxSteps := 1000000) (disch := first | omega | (simp; done) | (simp; omega)) [W_id, bys_app, bys_snoc, f_custodyref08_VerifyPrefix, f_custodyref08_VerifyPrefix_r0, pair_zero, kT, kF, dT, dF, g0, g1, ho, hr, tko, tkr, h205, c1, c2, zl, g2, g3, g4, g5, g6, splice_full, eq1, eq2, t1, t2]
      skip
    · rw [decide_eq_false hu] at eq1 ⊢
      simp (maxSteps := 1000000) (disch := first | omega | (simp; done) | (simp; omega)) [W_id, bys_app, bys_snoc, f_custodyref08_VerifyPrefix, f_custodyref08_VerifyPrefix_r0, pair_zero, kT, kF, dT, dF, g0, g1, ho, hr, tko, tkr, h205, c1, c2, zl, g2, g3, g4, g5, g6, splice_full, eq1, eq2, t1, t2]
      skip
end Go.Abs
end
