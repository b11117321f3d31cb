/- Lemmas: an abstract interpreter, and what the functions compute. -/
import Derived.Test.YtclloimacncjgaaDoorO
import Derived.Test.YtclloimacncjgaaDoorT
import Derived.Test.YtclloimacncjgaaDoorE
import Derived.Test.YtclloimacncjgaaDoorN
import Derived.Test.YtclloimacncjgaaDoorM
set_option linter.unusedSimpArgs false
set_option linter.unusedVariables false
set_option linter.unusedSectionVars false
section
namespace Go.Abs
set_option maxRecDepth 100000
def rlfC : Contract := ⟨fun ds => ∃ d : List UInt8, d.length = 16 ∧ ds = [.agg (bys d)], fun ds => .agg (bys (digOf 1 [gBs (gCs (nth ds 0))]))⟩
def rndC : Contract := ⟨fun ds => ∃ a b : List UInt8, a.length = 16 ∧ b.length = 16 ∧ ds = [.agg (bys a), .agg (bys b)], fun ds => .agg (bys (digOf 2 [gBs (gCs (nth ds 0)), gBs (gCs (nth ds 1))]))⟩
@[simp] theorem rlfC_post (d : List UInt8) : rlfC.post [.agg (bys d)] = .agg (bys (digOf 1 [d])) := by simp [rlfC]
@[simp] theorem rndC_post (a b : List UInt8) : rndC.post [.agg (bys a), .agg (bys b)] = .agg (bys (digOf 2 [a, b])) := by simp [rndC, nth]
theorem spl_step {n i : Nat} (h : 2 ≤ n) (hi : 2 ^ i < n) (hc : ¬ (2 ^ i < n - 2 ^ i)) : 2 ^ i = spl n := by
  have h1 := spl_lt h
  have h2 := spl_twice h
  unfold spl at *
  rw [pow_uniq hi (by omega) h1 h2]
set_option maxHeartbeats 4000000 in
theorem rspl_ok (E : Env) : ∀ ds, splC.pre ds → ds.length = f_custodyref08_Split.n ∧ awp E f_custodyref08_Split.body (retQ f_custodyref08_Split.res (splC.post ds)) (initSt f_custodyref08_Split.wr ds) := by
  rintro _ ⟨n, h2, hn, rfl⟩
  rw [splC_post]
  simp (maxSteps := 1000000) (disch := first | omega | (simp; done) | (simp; omega)) [W_id, bys_app, bys_snoc, f_custodyref08_Split]
  refine awp_name fun Q0 hQ0 => ?_
  refine awp_for (fun i : Nat => ⟨[(0, i64 n)], [(3, i64 (2 ^ i : Nat))], []⟩) (fun i => n - 2 ^ i) (fun i => 2 ^ i < n) 0 rfl (by omega) fun i hi => ?_
  refine awp_name fun Q1 hQ1 => ?_
  by_cases h : 2 ^ i < n - 2 ^ i
  · have hp : 2 ^ (i + 1) = 2 * 2 ^ i := by rw [Nat.pow_succ]; omega
    have h0 := Nat.two_pow_pos i
    have e : (2 : Int) * ((2 ^ i : Nat) : Int) = ((2 ^ (i + 1) : Nat) : Int) := by rw [hp]; omega
    have hlt : ((2 ^ i : Nat) : Int) < (n : Int) - ((2 ^ i : Nat) : Int) := by omega
    generalize 2 ^ i = a at *
    simp (maxSteps := 1000000) (disch := first | omega | (simp; done) | (simp; omega)) [W_id, bys_app, bys_snoc, f_custodyref08_Split_l0, f_custodyref08_Split_r0, kT, kF, dT, dF, hlt, hQ1]
    refine ⟨i + 1, by omega, by omega, ?_⟩
    rw [e]; simp
  · have e := spl_step h2 hi h
    have hlt : ¬ ((2 ^ i : Nat) : Int) < (n : Int) - ((2 ^ i : Nat) : Int) := by omega
    rw [e] at hlt hi
    rw [e]
    simp (maxSteps := 1000000) (disch := first | omega | (simp; done) | (simp; omega)) [W_id, bys_app, bys_snoc, f_custodyref08_Split_l0, f_custodyref08_Split_r1, kT, kF, dT, dF, hQ1, hQ0, hlt]
def ronC : Contract := ⟨fun ds => ∃ n : Int, 0 ≤ n ∧ n ≤ 4294967296 ∧ ds = [i64 n], fun ds => i64 (oN (asI (nth ds 0)).toNat)⟩
@[simp] theorem ronC_post (n : Int) : ronC.post [i64 n] = i64 (oN n.toNat) := by simp [ronC]
def hlf : Nat → Nat → Nat | n, 0 => n | n, i + 1 => hlf n i / 2
def cnt : Nat → Nat → Nat | _, 0 => 0 | n, i + 1 => cnt n i + hlf n i % 2
end Go.Abs
end

section
namespace Go.Abs
theorem dgAt_take {l : List (List UInt8)} {k i : Nat} (h : i < k) : dgAt (l.take k) i = dgAt l i := by
  simp only [dgAt, List.getD, List.getElem?_take, if_pos h]
theorem dgAt_drop (l : List (List UInt8)) (k i : Nat) : dgAt (l.drop k) i = dgAt l (k + i) := by
  simp only [dgAt, List.getD, List.getElem?_drop]
theorem dirs_sibs (l : List (List UInt8)) (i : Nat) (h : i < l.length) : (dirs l.length i).length = (sibs l i).length ∧ shortB ((upIn (dgAt l i) ((dirs l.length i).zip (sibs l i))).headD []) = root l := by
  by_cases h2 : 2 ≤ l.length
  · have hs := spl_lt h2
    have hp := spl_pos l.length
    rw [dirs_two h2, sibs_two h2]
    by_cases hi : i < spl l.length
    · have lt : (l.take (spl l.length)).length = spl l.length := by rw [List.length_take]; omega
      obtain ⟨e1, e2⟩ := dirs_sibs (l.take (spl l.length)) i (by omega)
      rw [lt] at e1 e2
      rw [dgAt_take hi] at e2
      rw [if_pos hi, if_pos hi]
      refine ⟨by simp [e1], ?_⟩
      rw [List.zip_cons_cons, upIn, List.headD_cons, e2, if_neg (by decide), root_two h2]; rfl
    · have lt : (l.drop (spl l.length)).length = l.length - spl l.length := List.length_drop
      obtain ⟨e1, e2⟩ := dirs_sibs (l.drop (spl l.length)) (i - spl l.length) (by omega)
      rw [lt] at e1 e2
      rw [dgAt_drop, show spl l.length + (i - spl l.length) = i by omega] at e2
      rw [if_neg hi, if_neg hi]
      refine ⟨by simp [e1], ?_⟩
      rw [List.zip_cons_cons, upIn, List.headD_cons, e2, if_pos rfl, root_two h2]; rfl
  · have hl : l.length = 1 := by omega
    obtain ⟨d, rfl⟩ := List.length_eq_one_iff.1 hl
    have hi : i = 0 := by simp at h; omega
    subst hi
    rw [dirs_few h2, sibs_few h2]
    refine ⟨rfl, ?_⟩
    rw [root_few h2]; rfl
termination_by l.length
decreasing_by all_goals (simp only [List.length_take, List.length_drop]; omega)
theorem lastB_rev (l : List (List UInt8)) : lastB l.reverse = l.headD [] := by
  cases l with
  | nil => rfl
  | cons a l =>
    simp [lastB, List.getD]
theorem vfy_prv {l : List (List UInt8)} {i : Nat} (h : i < l.length) (r : List UInt8) : vfyN r l.length i (dgAt l i) (prv l i) = decide (root l = r) := by
  obtain ⟨e1, e2⟩ := dirs_sibs l i h
  have hc : (0 : Int) ≤ (i : Int) ∧ (i : Int) < (l.length : Int) := by omega
  rw [vfyN, inpsI, if_pos hc, Int.toNat_natCast, Int.toNat_natCast, inps, prv_sibs, if_pos ⟨h, by rw [List.length_reverse]; exact e1⟩, List.reverse_reverse]
  simp only
  rw [lastB_rev, e2]
theorem zip_snoc {α β : Type} : ∀ (a : List α) (b : List β) (x : α) (y : β), a.length = b.length → (a ++ [x]).zip (b ++ [y]) = a.zip b ++ [(x, y)]
  | [], [], _, _, _ => rfl
  | [], _ :: _, _, _, h => by simp at h
  | _ :: _, [], _, _, h => by simp at h
  | a :: l, b :: m, x, y, h => by
    simp only [List.cons_append, List.zip_cons_cons]
    rw [zip_snoc l m x y (by simpa using h)]
theorem pre_fold (l : List (List UInt8)) (m : Nat) (w : Bool) (h1 : 1 ≤ m) (hm : m ≤ l.length) : ∃ (S : List (List UInt8)) (z : List UInt8), tdp l m w = S ++ (if w && (dpd m l.length).all (! ·) then [] else [z]) ∧ S.length = (dpd m l.length).length ∧
    foldP ((dpd m l.length).reverse.zip S.reverse) z z = (root (l.take m), root l) ∧ ((dpd m l.length).all (! ·) = true → z = root (l.take m)) := by
  by_cases he : m = l.length
  · rw [dpd_few (by omega), tdp_few (by omega)]
    refine ⟨[], root l, ?_, rfl, ?_, fun _ => ?_⟩
    · cases w <;> rfl
    · rw [he, List.take_length]; rfl
    · rw [he, List.take_length]
  · have h2 : 2 ≤ l.length := by omega
    have hs := spl_lt h2
    have hp := spl_pos l.length
    have hw := spl_twice h2
    rw [dpd_two ⟨h1, by omega⟩, tdp_two ⟨h2, he⟩]
    by_cases hk : m ≤ spl l.length
    · have lt : (l.take (spl l.length)).length = spl l.length := by rw [List.length_take]; omega
      obtain ⟨S, z, e1, e2, e3, e4⟩ := pre_fold (l.take (spl l.length)) m w h1 (by omega)
      rw [lt] at e1 e2 e3 e4
      rw [List.take_take, Nat.min_eq_left hk] at e3 e4
      rw [if_pos hk, if_pos hk]
      refine ⟨root (l.drop (spl l.length)) :: S, z, ?_, by simp [e2], ?_, fun ha => e4 (by simpa using ha)⟩
      · rw [e1]; simp
      · rw [List.reverse_cons, List.reverse_cons, zip_snoc _ _ _ _ (by simp [e2]), foldP_snoc, if_neg (by decide), e3, root_two h2]; rfl
    · have lt : (l.drop (spl l.length)).length = l.length - spl l.length := List.length_drop
      obtain ⟨S, z, e1, e2, e3, _⟩ := pre_fold (l.drop (spl l.length)) (m - spl l.length) false (by omega) (by omega)
      rw [lt] at e1 e2 e3
      rw [if_neg hk, if_neg hk]
      refine ⟨root (l.take (spl l.length)) :: S, z, ?_, by simp [e2], ?_, fun ha => by simp at ha⟩
      · rw [e1]; simp
      · have lm : (l.take m).length = m := by rw [List.length_take]; omega
        have sm : spl (l.take m).length = spl l.length := by
          rw [lm]; exact spl_pow (k := Nat.log2 (l.length - 1)) (by change spl l.length < m; omega) (by change m ≤ 2 * spl l.length; omega)
        have r1 : root (l.take m) = nd (root (l.take (spl l.length))) (root ((l.drop (spl l.length)).take (m - spl l.length))) := by
          rw [root_two (l := l.take m) (by omega), sm, List.take_take, Nat.min_eq_left (by omega), List.drop_take]; rfl
        rw [List.reverse_cons, List.reverse_cons, zip_snoc _ _ _ _ (by simp [e2]), foldP_snoc, if_pos rfl, e3, r1, root_two h2]; rfl
termination_by l.length
decreasing_by all_goals (simp only [List.length_take, List.length_drop]; omega)
theorem vp_sbp {l : List (List UInt8)} {m : Nat} (h1 : 1 ≤ m) (hm : m ≤ l.length) (r : List UInt8) : vpN (root (l.take m)) r m l.length (sbp l m true) = decide (root l = r) := by
  obtain ⟨S, z, e1, e2, e3, e4⟩ := pre_fold l m true h1 hm
  have hc : (1 : Int) ≤ (m : Int) ∧ (m : Int) ≤ (l.length : Int) := by omega
  rw [vpN, if_pos hc, Int.toNat_natCast, Int.toNat_natCast, sbp_tdp, e1]
  unfold vpS
  cases ha : (dpd m l.length).all (! ·) with
  | true =>
    have ez := e4 ha
    rw [ez] at e3
    simp only [Bool.and_true, if_true, List.append_nil, vpE, List.length_reverse, e2, e3, decide_true, Bool.true_and]
  | false =>
    simp [vpE, e2, e3]
end Go.Abs
end

section
namespace Go.Abs
set_option maxRecDepth 100000
end Go.Abs
end

section
namespace Go.Abs
set_option maxRecDepth 100000
theorem inps_snoc {n i : Nat} {d : List UInt8} (h2 : 2 ≤ n) (hi : i < n) (rest : List (List UInt8)) (x : List UInt8) : inps n i d (rest ++ [x]) = if i < spl n then (inps (spl n) i d rest).map fun l => l ++ [inpOf 2 [shortB (l.getLastD []), x]] else (inps (n - spl n) (i - spl n) d rest).map fun l => l ++ [inpOf 2 [x, shortB (l.getLastD [])]] := by
  have e := rin_eq (x :: rest.reverse) n i d hi
  rw [List.reverse_cons, List.reverse_reverse] at e
  rw [← e, rin, if_neg (by omega)]
  have hl := spl_lt h2
  have hp := spl_pos n
  by_cases hc : i < spl n
  · rw [if_pos hc, if_pos hc, rin_eq _ _ _ _ hc, List.reverse_reverse]
  · rw [if_neg hc, if_neg hc, rin_eq _ _ _ _ (by omega), List.reverse_reverse]
theorem inps_none {n i : Nat} {d : List UInt8} (h2 : 2 ≤ n) (hi : i < n) : inps n i d [] = none := by
  have e := rin_eq [] n i d hi
  rw [List.reverse_nil] at e
  rw [← e, rin, if_neg (by omega)]
theorem inps_one (d : List UInt8) (p : List (List UInt8)) : inps 1 0 d p = if p = [] then some [inpOf 1 [d]] else none := by
  rw [inps, dirs_few (by decide)]
  cases p with
  | nil => rfl
  | cons x p => rw [if_neg (by simp), if_neg (by simp)]
def riL (n i : Int) (d : List UInt8) (p : List (List UInt8)) : List (List UInt8) := if 0 ≤ i ∧ i < n then (if n = 1 then [inpOf 1 [d]] else (inpsI n i d p).getD []) else []
def riN (n i : Int) : Option Bool := if (0 ≤ i ∧ i < n) ∧ n = 1 then some false else none
def riA (n i : Int) (d : List UInt8) (p : List (List UInt8)) : AVal := .otup 1 (riN n i) (riL n i d p).length (blsC (riL n i d p)) [bo (inpsI n i d p).isSome]
def rinC : Contract := ⟨fun ds => ∃ (n i : Int) (d : List UInt8) (nl : Option Bool) (p : List (List UInt8)), n ≤ 9223372036854775807 ∧ d.length = 16 ∧ is16 p ∧ p.length ≤ 1000 ∧ ds = [i64 n, i64 i, .agg (bys d), dgsA nl p],
  fun ds => riA (asI (nth ds 0)) (asI (nth ds 1)) (gBs (gCs (nth ds 2))) (gDs (nth ds 3))⟩
theorem rinC_pre {n i : Int} {d : List UInt8} {nl : Option Bool} {p : List (List UInt8)} {b : List UInt8} {k : Nat} (hn : n ≤ 9223372036854775807) (hd : d.length = 16) (hp : is16 p) (hl : p.length ≤ 1000) (hk : k = p.length) (hb : b = dgs p) : rinC.pre [i64 n, i64 i, .agg (bys d), .sl .plain nl k (bys b)] = True := eq_true ⟨n, i, d, nl, p, hn, hd, hp, hl, by rw [hk, hb]; rfl⟩
theorem rinC_post {m : Mode} (n i : Int) {d : List UInt8} {nl : Option Bool} {p : List (List UInt8)} {b : List UInt8} {k : Nat} (hp : is16 p) (hk : k = p.length) (hb : b = dgs p) : rinC.post [i64 n, i64 i, .agg (bys d), .sl m nl k (bys b)] = riA n i d p := by
  show riA n i (gBs (gCs (.agg (bys d)))) (gDs (.sl m nl k (bys b))) = _
  rw [hk, hb, gDs_dgs hp]
  simp
def rinMu (ds : List AVal) : Nat := slen (nth ds 3)
theorem last_split {p : List (List UInt8)} (h : 0 < p.length) : p = p.take (p.length - 1) ++ [dgAt p (p.length - 1)] := by
  have := List.take_append_getElem (l := p) (i := p.length - 1) (h := by omega)
  rw [show p.length - 1 + 1 = p.length by omega, List.take_length] at this
  rw [dgAt, List.getD, List.getElem?_eq_getElem (by omega), Option.getD_some]
  exact this.symm
theorem getLastD_lastB (l : List (List UInt8)) : l.getLastD [] = lastB l := by
  cases l with
  | nil => rfl
  | cons a l => simp [lastB, List.getD, List.getLastD, List.getLast_eq_getElem]
theorem inp_p1 {t : Int} {nl : Option Bool} {d : List UInt8} (h : d.length = 16) : inputC.pre [i64 t, .sl .plain nl 1 [st d]] = True := input_pre (l := [d]) rfl (by simp [totS, h])
theorem inp_p2 {t : Int} {nl : Option Bool} {a b : List UInt8} (h : a.length = 16) (h' : b.length = 16) : inputC.pre [i64 t, .sl .plain nl 2 [st a, st b]] = True := input_pre (l := [a, b]) rfl (by simp [totS, h, h'])
theorem inp_q1 (t : Int) (nl : Option Bool) (d : List UInt8) : inputC.post [i64 t, .sl .plain nl 1 [st d]] = .sl (.own 1) (some false) (inpOf t [d]).length (bys (inpOf t [d])) := input_post t nl 1 [d]
theorem inp_q2 (t : Int) (nl : Option Bool) (a b : List UInt8) : inputC.post [i64 t, .sl .plain nl 2 [st a, st b]] = .sl (.own 1) (some false) (inpOf t [a, b]).length (bys (inpOf t [a, b])) := input_post t nl 2 [a, b]
theorem inpsI_snoc {n i : Int} {d : List UInt8} (h2 : 2 ≤ n) (h0 : 0 ≤ i) (hi : i < n) (rest : List (List UInt8)) (x : List UInt8) : inpsI n i d (rest ++ [x]) = if i < (spl n.toNat : Int) then (inpsI (spl n.toNat : Nat) i d rest).map fun l => l ++ [inpOf 2 [shortB (lastB l), x]] else (inpsI (n.toNat - spl n.toNat : Nat) (i - (spl n.toNat : Int)) d rest).map fun l => l ++ [inpOf 2 [x, shortB (lastB l)]] := by
  obtain ⟨m, rfl⟩ := Int.eq_ofNat_of_zero_le (show 0 ≤ n by omega)
  obtain ⟨j, rfl⟩ := Int.eq_ofNat_of_zero_le h0
  have hs := spl_lt (n := m) (by omega)
  have hp := spl_pos m
  rw [inpsI, if_pos ⟨h0, hi⟩, Int.toNat_natCast, Int.toNat_natCast, inps_snoc (by omega) (by omega)]
  by_cases hc : j < spl m
  · rw [if_pos hc, if_pos (by omega), inpsI, if_pos (by omega), Int.toNat_natCast, Int.toNat_natCast]
    simp only [getLastD_lastB]
  · rw [if_neg hc, if_neg (by omega), inpsI, if_pos (by omega), Int.toNat_natCast, show ((j : Int) - (spl m : Int)).toNat = j - spl m by omega]
    simp only [getLastD_lastB]
theorem riL_some {n i : Int} {d : List UInt8} {p l : List (List UInt8)} (hl : inpsI n i d p = some l) : riL n i d p = l := by
  have hz := hl
  rw [riL]
  unfold inpsI at hz
  split at hz
  · rename_i hr
    rw [if_pos hr]
    by_cases hk1 : n = 1
    · rw [if_pos hk1]
      have hi0 : i = 0 := by omega
      rw [hk1, hi0] at hz
      have := inps_one d p
      rw [show (1 : Int).toNat = 1 from rfl, show (0 : Int).toNat = 0 from rfl, this] at hz
      split at hz
      · exact Option.some.inj hz
      · cases hz
    · rw [if_neg hk1, hl]; rfl
  · cases hz
set_option maxHeartbeats 16000000 in
theorem rinp_ok (E : Env) (k : Nat) (h21 : E.G 21 = inputC) (h23 : E.G 23 = text16C) (h28 : E.G 28 = shortC) (h195 : E.G 195 = splC) (h203 : E.G 203 = limC rinC rinMu k) : ∀ ds, (limC rinC rinMu (k + 1)).pre ds → ds.length = f_custodyref08_Inputs.n ∧ awp E f_custodyref08_Inputs.body (retQ f_custodyref08_Inputs.res (rinC.post ds)) (initSt f_custodyref08_Inputs.wr ds) := by
  rintro _ ⟨⟨n, i, d, nl, p, hn, hd, hp, hpl, rfl⟩, hk⟩
  rw [dgsA, rinC_post n i hp rfl rfl]
  have hk : p.length < k + 1 := hk
  have tkd := take_l16 hd
  by_cases g0 : i < 0
  · have e0 : ¬ (0 ≤ i ∧ i < n) := by omega
    rw [riA, riL, if_neg e0, riN, if_neg (by omega), inpsI, if_neg e0]
    simp (maxSteps := 1000000) (disch := first | omega | (simp; done) | (simp; omega)) [W_id, bys_app, bys_snoc, f_custodyref08_Inputs, kT, kF, dT, dF, g0, hd, blsC]
  have h0 : 0 ≤ i := by omega
  by_cases g1 : n ≤ i
  · have e0 : ¬ (0 ≤ i ∧ i < n) := by omega
    rw [riA, riL, if_neg e0, riN, if_neg (by omega), inpsI, if_neg e0]
    simp (maxSteps := 1000000) (disch := first | omega | (simp; done) | (simp; omega)) [W_id, bys_app, bys_snoc, f_custodyref08_Inputs, kT, kF, dT, dF, g0, g1, hd, blsC]
  have hi : i < n := by omega
  by_cases h1 : n = 1
  · subst h1
    have hi0 : i = 0 := by omega
    subst hi0
    have eo : inpsI 1 0 d p = if p = [] then some [inpOf 1 [d]] else none := by rw [inpsI, if_pos (by decide)]; exact inps_one d p
    rw [riA, riL, if_pos (by decide), if_pos rfl, riN, if_pos (by decide), eo]
    have es : (if p = [] then some [inpOf 1 [d]] else none).isSome = ((p.length : Int) == 0) := by
      cases p with
      | nil => rfl
      | cons a p =>
        simp
        omega
    rw [es]
    simp (maxSteps := 1000000) (disch := first | omega | (simp; done) | (simp; omega)) [W_id, bys_app, bys_snoc, f_custodyref08_Inputs, f_custodyref08_Inputs_r0, kT, kF, dT, dF, hd, tkd, h23, text16_pre, h21, inp_p1, inp_q1, blsC]
    skip
  have h2 : 2 ≤ n := by omega
  have b1 : (n == 1) = false := beq_false_of_ne h1
  by_cases hp0 : p.length = 0
  · have e0 : p = [] := List.length_eq_zero_iff.1 hp0
    subst e0
    have eo : inpsI n i d [] = none := by rw [inpsI, if_pos ⟨h0, hi⟩]; exact inps_none (by omega) (by omega)
    rw [riA, riL, if_pos ⟨h0, hi⟩, if_neg h1, riN, if_neg (fun h => h1 h.2), eo]
    simp (maxSteps := 1000000) (disch := first | omega | (simp; done) | (simp; omega)) [W_id, bys_app, bys_snoc, f_custodyref08_Inputs, f_custodyref08_Inputs_r0, f_custodyref08_Inputs_r1, kT, kF, dT, dF, g0, g1, b1, hd, blsC]
  have hps := last_split (p := p) (by omega)
  have hdl := dgs_len hp
  have hat := dgs_at hp (show p.length - 1 < p.length by omega)
  have hal := dgAt_len hp (show p.length - 1 < p.length by omega)
  have htk := dgs_take hp (p.length - 1)
  have e1 : ((p.length : Int) - 1).toNat = p.length - 1 := by omega
  have r16 : is16 (p.take (p.length - 1)) := is16_take hp _
  have rl : (p.take (p.length - 1)).length = p.length - 1 := by simp
  have b0 : ((p.length : Int) == 0) = false := beq_false_of_ne (by omega)
  have hsn := inpsI_snoc (d := d) h2 h0 hi (p.take (p.length - 1)) (dgAt p (p.length - 1))
  rw [← hps] at hsn
  obtain ⟨m, rfl⟩ := Int.eq_ofNat_of_zero_le (show 0 ≤ n by omega)
  rw [Int.toNat_natCast] at hsn
  have hs := spl_lt (n := m) (by omega)
  have hs1 := spl_pos m
  have sp : splC.pre [i64 m] = True := splC_pre (by omega) (by omega)
  generalize hK : spl m = K at *
  have rn : riN (m : Int) i = none := if_neg (fun h => h1 h.2)
  rw [riA, riL, if_pos ⟨h0, hi⟩, if_neg h1, rn, hsn]
  have tkx := take_l16 hal
  by_cases hc : i < (K : Int)
  · rw [if_pos hc]
    have hp1 : (limC rinC rinMu k).pre [i64 K, i64 i, .agg (bys d), .sl .plain nl (p.length - 1) (bys (dgs (p.take (p.length - 1))))] = True := eq_true ⟨of_eq_true (rinC_pre (by omega) hd r16 (by omega) rl.symm rfl), by show p.length - 1 < k; omega⟩
    have hq1 : (limC rinC rinMu k).post [i64 K, i64 i, .agg (bys d), .sl .plain nl (p.length - 1) (bys (dgs (p.take (p.length - 1))))] = riA K i d (p.take (p.length - 1)) := rinC_post K i r16 rl.symm rfl
    rw [riA] at hq1
    have io := fun l h => inpsI_some (n := K) (i := i) (l := l) hd r16 h
    generalize riN (K : Int) i = rq at *
    cases hI : inpsI K i d (p.take (p.length - 1)) with
    | none =>
      rw [hI] at hq1
      generalize riL K i d (p.take (p.length - 1)) = L at *
      simp (maxSteps := 1000000) (disch := first | omega | (simp; done) | (simp; omega)) [W_id, bys_app, bys_snoc, f_custodyref08_Inputs, f_custodyref08_Inputs_r0, f_custodyref08_Inputs_r1, f_custodyref08_Inputs_r2, kT, kF, dT, dF, g0, g1, b1, b0, hd, tkd, hdl, e1, hat, hal, htk, splice_full, h195, sp, hK, hc, h203, hp1, hq1, blsC]
      omega
    | some l =>
      rw [hI, riL_some hI] at hq1
      obtain ⟨_, ll, ls⟩ := io l hI
      have y2 := blsC_at (l := l) (i := l.length - 1) (by omega)
      have sm := ls _ (getD_mem (l := l) (i := l.length - 1) (by omega))
      change hdA ((blsC l).drop (l.length - 1)) = .sl (.own 1) (some false) (lastB l).length (bys (lastB l)) at y2
      change (lastB l).length ≤ 51 at sm
      have x1 : ((l.length : Int) - 1).toNat = l.length - 1 := by omega
      have s1 : shortC.pre [.sl .plain (some false) (lastB l).length (bys (lastB l))] = True := short_pre rfl (by omega)
      have s2 : shortC.post [.sl .plain (some false) (lastB l).length (bys (lastB l))] = .agg (bys (shortB (lastB l))) := short_post _ _ _
      have s3 := shortB_len (lastB l)
      simp only [Option.map_some, Option.getD_some, Option.isSome_some]
      generalize shortB (lastB l) = sb at *
      have ea : blsC (l ++ [inpOf 2 [sb, dgAt p (p.length - 1)]]) = blsC l ++ [.sl (.own 1) (some false) (inpOf 2 [sb, dgAt p (p.length - 1)]).length (bys (inpOf 2 [sb, dgAt p (p.length - 1)]))] := (blsC_app _ _).symm
      have eb : (l ++ [inpOf 2 [sb, dgAt p (p.length - 1)]]).length = l.length + 1 := by simp
      rw [ea, eb]
      have bl := blsC_len l
      have pb := pureL_blsC l
      generalize blsC l = bs at *
      simp (maxSteps := 1000000) (disch := first | omega | (simp; done) | (simp; omega)) [W_id, bys_app, bys_snoc, f_custodyref08_Inputs, f_custodyref08_Inputs_r0, f_custodyref08_Inputs_r1, f_custodyref08_Inputs_r2, f_custodyref08_Inputs_r3, kT, kF, dT, dF, g0, g1, b1, b0, hd, tkd, hdl, e1, hat, hal, htk, splice_full, h195, sp, hK, hc, h203, hp1, hq1, x1, y2, h28, s1, s2, h23, text16_pre, s3, tkx, h21, inp_p2, inp_q2, bl, pb]
      omega
  · rw [if_neg hc]
    have hsub : (m : Int) - (K : Int) = ((m - K : Nat) : Int) := by omega
    have hp1 : (limC rinC rinMu k).pre [i64 (m - K : Nat), i64 (i - (K : Int)), .agg (bys d), .sl .plain nl (p.length - 1) (bys (dgs (p.take (p.length - 1))))] = True := eq_true ⟨of_eq_true (rinC_pre (by omega) hd r16 (by omega) rl.symm rfl), by show p.length - 1 < k; omega⟩
    have hq1 : (limC rinC rinMu k).post [i64 (m - K : Nat), i64 (i - (K : Int)), .agg (bys d), .sl .plain nl (p.length - 1) (bys (dgs (p.take (p.length - 1))))] = riA (m - K : Nat) (i - (K : Int)) d (p.take (p.length - 1)) := rinC_post _ _ r16 rl.symm rfl
    rw [riA] at hq1
    have io := fun l h => inpsI_some (n := (m - K : Nat)) (i := i - (K : Int)) (l := l) hd r16 h
    generalize riN ((m - K : Nat) : Int) (i - (K : Int)) = rq at *
    cases hI : inpsI (m - K : Nat) (i - (K : Int)) d (p.take (p.length - 1)) with
    | none =>
      rw [hI] at hq1
      generalize riL (m - K : Nat) (i - (K : Int)) d (p.take (p.length - 1)) = L at *
      simp (maxSteps := 1000000) (disch := first | omega | (simp; done) | (simp; omega)) [W_id, bys_app, bys_snoc, f_custodyref08_Inputs, f_custodyref08_Inputs_r0, f_custodyref08_Inputs_r1, f_custodyref08_Inputs_r2, f_custodyref08_Inputs_r4, kT, kF, dT, dF, g0, g1, b1, b0, hd, tkd, hdl, e1, hat, hal, htk, splice_full, h195, sp, hK, hc, h203, hsub, hp1, hq1, blsC]
      omega
    | some l =>
      rw [hI, riL_some hI] at hq1
      obtain ⟨_, ll, ls⟩ := io l hI
      have y2 := blsC_at (l := l) (i := l.length - 1) (by omega)
      have sm := ls _ (getD_mem (l := l) (i := l.length - 1) (by omega))
      change hdA ((blsC l).drop (l.length - 1)) = .sl (.own 1) (some false) (lastB l).length (bys (lastB l)) at y2
      change (lastB l).length ≤ 51 at sm
      have x1 : ((l.length : Int) - 1).toNat = l.length - 1 := by omega
      have s1 : shortC.pre [.sl .plain (some false) (lastB l).length (bys (lastB l))] = True := short_pre rfl (by omega)
      have s2 : shortC.post [.sl .plain (some false) (lastB l).length (bys (lastB l))] = .agg (bys (shortB (lastB l))) := short_post _ _ _
      have s3 := shortB_len (lastB l)
      simp only [Option.map_some, Option.getD_some, Option.isSome_some]
      generalize shortB (lastB l) = sb at *
      have ea : blsC (l ++ [inpOf 2 [dgAt p (p.length - 1), sb]]) = blsC l ++ [.sl (.own 1) (some false) (inpOf 2 [dgAt p (p.length - 1), sb]).length (bys (inpOf 2 [dgAt p (p.length - 1), sb]))] := (blsC_app _ _).symm
      have eb : (l ++ [inpOf 2 [dgAt p (p.length - 1), sb]]).length = l.length + 1 := by simp
      rw [ea, eb]
      have bl := blsC_len l
      have pb := pureL_blsC l
      generalize blsC l = bs at *
      simp (maxSteps := 1000000) (disch := first | omega | (simp; done) | (simp; omega)) [W_id, bys_app, bys_snoc, f_custodyref08_Inputs, f_custodyref08_Inputs_r0, f_custodyref08_Inputs_r1, f_custodyref08_Inputs_r2, f_custodyref08_Inputs_r4, f_custodyref08_Inputs_r5, kT, kF, dT, dF, g0, g1, b1, b0, hd, tkd, hdl, e1, hat, hal, htk, splice_full, h195, sp, hK, hc, h203, hsub, hp1, hq1, x1, y2, h28, s1, s2, h23, text16_pre, s3, tkx, h21, inp_p2, inp_q2, bl, pb]
      omega
def pairN : Nat → Nat → Bool → List UInt8 → List (List UInt8) → List UInt8 × List UInt8 × Bool
  | m, n, w, old, [] => if m = n ∧ w = true then (old, old, true) else (zeros 16, zeros 16, false)
  | m, n, w, old, x :: q => if m = n ∧ w = true then (old, old, false) else if m = n then (x, x, decide (q = [])) else if m ≤ spl n then ((pairN m (spl n) w old q).1, digOf 2 [(pairN m (spl n) w old q).2.1, x], (pairN m (spl n) w old q).2.2) else (digOf 2 [x, (pairN (m - spl n) (n - spl n) false old q).1], digOf 2 [x, (pairN (m - spl n) (n - spl n) false old q).2.1], (pairN (m - spl n) (n - spl n) false old q).2.2)
def pairL (t : List UInt8 × List UInt8 × Bool) : List AVal := bys (t.1 ++ t.2.1) ++ [bo t.2.2]
def pairA (t : List UInt8 × List UInt8 × Bool) : AVal := .agg (pairL t)
def pairC : Contract := ⟨fun ds => ∃ (old : List UInt8) (m n : Nat) (w : Bool) (nl : Option Bool) (p : List (List UInt8)), old.length = 16 ∧ 1 ≤ m ∧ m ≤ n ∧ n ≤ 9223372036854775807 ∧ is16 p ∧ p.length ≤ 1000 ∧ ds = [.agg (bys old), i64 m, i64 n, bo w, dgsA nl p],
  fun ds => pairA (pairN (asI (nth ds 1)).toNat (asI (nth ds 2)).toNat (asB (nth ds 3)) (gBs (gCs (nth ds 0))) (gDs (nth ds 4)).reverse)⟩
theorem pairC_pre {old : List UInt8} {m n : Nat} {w : Bool} {nl : Option Bool} {p : List (List UInt8)} {b : List UInt8} {k : Nat} (ho : old.length = 16) (h1 : 1 ≤ m) (h2 : m ≤ n) (hn : n ≤ 9223372036854775807) (hp : is16 p) (hl : p.length ≤ 1000) (hk : k = p.length) (hb : b = dgs p) : pairC.pre [.agg (bys old), i64 m, i64 n, bo w, .sl .plain nl k (bys b)] = True := eq_true ⟨old, m, n, w, nl, p, ho, h1, h2, hn, hp, hl, by rw [hk, hb]; rfl⟩
def pairMu (ds : List AVal) : Nat := slen (nth ds 4)
end Go.Abs
end

section
namespace Go.Abs
set_option maxRecDepth 100000
@[simp] theorem pairL_cell (t : List UInt8 × List UInt8 × Bool) : (∀ c ∈ pairL t, isCell c) ↔ True := by simp [pairL, or_imp, forall_and]
@[simp] theorem pairL_own (t : List UInt8 × List UInt8 × Bool) : (∀ c ∈ pairL t, ownTop c = false) ↔ True := by simp [pairL, or_imp, forall_and]
@[simp] theorem pairL_pure (t : List UInt8 × List UInt8 × Bool) : pureL (pairL t) = true := by simp [pairL]
@[simp] theorem pairL_refs (t : List UInt8 × List UInt8 × Bool) : refsL (pairL t) = [] := by simp [pairL]
end Go.Abs
end

section
namespace Go.Abs
set_option maxRecDepth 100000
def hdO (pr : List (List UInt8)) : Option (List UInt8 × List (List UInt8)) := match pr with | [] => none | x :: p => some (x, p)
def vS (D : List Bool) (w : Bool) (old : List UInt8) (pr : List (List UInt8)) : Option (List UInt8 × List (List UInt8)) :=
  if w = true ∧ D.all (! ·) = true then some (old, pr) else hdO pr
theorem vS_true (D : List Bool) (old : List UInt8) (pr : List (List UInt8)) : vS D true old pr = vpS D old pr := by
  unfold vS vpS
  cases D.all (! ·) <;> simp
  cases pr <;> rfl
theorem nd_dig (a b : List UInt8) : digOf 2 [a, b] = nd a b := rfl
def pairOk (D : List Bool) (w : Bool) (old : List UInt8) (pr : List (List UInt8)) (u v : List UInt8) (ok : Bool) : Prop :=
  match vS D w old pr with
  | none => ok = false
  | some (x, r) => ok = decide (r.length = D.length) ∧ (r.length = D.length → u = (foldP (D.reverse.zip r) x x).1 ∧ v = (foldP (D.reverse.zip r) x x).2)
theorem pairOk_step {D : List Bool} {w w' b : Bool} {old x u v u' v' : List UInt8} {pr : List (List UInt8)} {ok : Bool} (hw : (w' = true ∧ (b :: D).all (! ·) = true) ↔ (w = true ∧ D.all (! ·) = true)) (h : pairOk D w old pr u v ok)
    (hu : u' = if b then nd x u else u) (hv : v' = if b then nd x v else nd v x) : pairOk (b :: D) w' old (pr ++ [x]) u' v' ok := by
  have key : ∀ (z : List UInt8) (r : List (List UInt8)), (ok = decide (r.length = D.length) ∧ (r.length = D.length → u = (foldP (D.reverse.zip r) z z).1 ∧ v = (foldP (D.reverse.zip r) z z).2)) →
      ok = decide ((r ++ [x]).length = (b :: D).length) ∧ ((r ++ [x]).length = (b :: D).length → u' = (foldP ((b :: D).reverse.zip (r ++ [x])) z z).1 ∧ v' = (foldP ((b :: D).reverse.zip (r ++ [x])) z z).2) := fun z r hr => by
    have hl : (r ++ [x]).length = (b :: D).length ↔ r.length = D.length := by simp
    refine ⟨?_, fun h => ?_⟩
    · simp only [hl]
      exact hr.1
    · have hrl := hl.1 h
      obtain ⟨k1, k2⟩ := hr.2 hrl
      rw [List.reverse_cons, zip_snoc _ _ _ _ (by simp [hrl]), foldP_snoc, hu, hv, ← k1, ← k2]
      cases b <;> simp
  unfold pairOk at h ⊢
  by_cases hc : w = true ∧ D.all (! ·) = true
  · have e1 : vS D w old pr = some (old, pr) := if_pos hc
    have e2 : vS (b :: D) w' old (pr ++ [x]) = some (old, pr ++ [x]) := if_pos (hw.2 hc)
    rw [e1] at h
    rw [e2]
    exact key old pr h
  · have e1 : vS D w old pr = hdO pr := if_neg hc
    have e2 : vS (b :: D) w' old (pr ++ [x]) = hdO (pr ++ [x]) := if_neg (fun h => hc (hw.1 h))
    rw [e1] at h
    rw [e2]
    cases pr with
    | nil =>
      have h' : ok = false := h
      refine ⟨?_, fun hl => by simp at hl⟩
      simp [h']
    | cons z r => exact key z r h
theorem pair_fold (old : List UInt8) : ∀ (q : List (List UInt8)) (m n : Nat) (w : Bool), 1 ≤ m → m ≤ n → pairOk (dpd m n) w old q.reverse (pairN m n w old q).1 (pairN m n w old q).2.1 (pairN m n w old q).2.2
  | [], m, n, w, h1, h2 => by
    rw [pairN]
    by_cases hw : m = n ∧ w = true
    · rw [if_pos hw, dpd_few (by omega)]
      unfold pairOk
      rw [show vS [] w old [].reverse = some (old, []) from if_pos ⟨hw.2, rfl⟩]
      exact ⟨rfl, fun _ => ⟨rfl, rfl⟩⟩
    · rw [if_neg hw]
      unfold pairOk
      by_cases hc : w = true ∧ (dpd m n).all (! ·) = true
      · rw [show vS (dpd m n) w old [].reverse = some (old, []) from if_pos hc]
        have hlt : m < n := by
          rcases Nat.lt_or_ge m n with h | h
          · exact h
          · exact absurd ⟨by omega, hc.1⟩ hw
        have hd : (dpd m n).length ≠ 0 := by rw [dpd_two ⟨h1, hlt⟩]; split <;> simp
        refine ⟨?_, fun h => absurd h.symm hd⟩
        rw [decide_eq_false (fun h => hd h.symm)]
      · rw [show vS (dpd m n) w old [].reverse = none from if_neg hc]
  | x :: q, m, n, w, h1, h2 => by
    rw [pairN, List.reverse_cons]
    by_cases hw : m = n ∧ w = true
    · rw [if_pos hw, dpd_few (by omega)]
      unfold pairOk
      rw [show vS [] w old (q.reverse ++ [x]) = some (old, q.reverse ++ [x]) from if_pos ⟨hw.2, rfl⟩]
      exact ⟨by simp, fun h => by simp at h⟩
    · rw [if_neg hw]
      by_cases he : m = n
      · have hwf : w = false := by
          cases w with
          | false => rfl
          | true => exact absurd ⟨he, rfl⟩ hw
        rw [if_pos he, dpd_few (by omega), hwf]
        unfold pairOk
        cases hq : q.reverse with
        | nil =>
          rw [List.reverse_eq_nil_iff.1 hq]
          exact ⟨rfl, fun _ => ⟨rfl, rfl⟩⟩
        | cons z r =>
          have hne : q ≠ [] := by intro h; rw [h] at hq; cases hq
          refine ⟨?_, fun h => by simp at h⟩
          simp [hne]
      · have hlt : m < n := by omega
        have hs := spl_lt (n := n) (by omega)
        have hs1 := spl_pos n
        rw [if_neg he, dpd_two ⟨h1, hlt⟩]
        by_cases hc : m ≤ spl n
        · rw [if_pos hc, if_pos hc]
          have ih := pair_fold old q m (spl n) w h1 hc
          generalize pairN m (spl n) w old q = T at ih ⊢
          obtain ⟨u, v, ok⟩ := T
          simp only [nd_dig] at ih ⊢
          exact pairOk_step (b := false) (by simp) ih (by simp) (by simp)
        · rw [if_neg hc, if_neg hc]
          have ih := pair_fold old q (m - spl n) (n - spl n) false (by omega) (by omega)
          generalize pairN (m - spl n) (n - spl n) false old q = T at ih ⊢
          obtain ⟨u, v, ok⟩ := T
          simp only [nd_dig] at ih ⊢
          exact pairOk_step (b := true) (by simp) ih (by simp) (by simp)
theorem pair_vpN {old root : List UInt8} {m n : Nat} (h1 : 1 ≤ m) (h2 : m ≤ n) (p : List (List UInt8)) : vpN old root m n p = ((pairN m n true old p.reverse).2.2 && decide ((pairN m n true old p.reverse).1 = old) && decide ((pairN m n true old p.reverse).2.1 = root)) := by
  have h := pair_fold old p.reverse m n true h1 h2
  rw [List.reverse_reverse] at h
  unfold pairOk at h
  rw [vS_true] at h
  have hc : (1 : Int) ≤ (m : Int) ∧ (m : Int) ≤ (n : Int) := by omega
  rw [vpN, if_pos hc, Int.toNat_natCast, Int.toNat_natCast]
  generalize pairN m n true old p.reverse = t at *
  cases hv : vpS (dpd m n) old p with
  | none =>
    rw [hv] at h
    simp only at h ⊢
    rw [h]; rfl
  | some xr =>
    obtain ⟨x, r⟩ := xr
    rw [hv] at h
    simp only at h ⊢
    obtain ⟨k1, k2⟩ := h
    unfold vpE
    by_cases hl : r.length = (dpd m n).length
    · obtain ⟨k3, k4⟩ := k2 hl
      rw [if_pos hl, k1, decide_eq_true hl, k3, k4, Bool.true_and]
    · rw [if_neg hl, k1, decide_eq_false hl]; rfl
end Go.Abs
end
