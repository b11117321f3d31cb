/- Lemmas: an abstract interpreter, and what the functions compute. -/
import Derived.Test.YtclloimacncjgaaDoorM
import Derived.Test.YtclloimacncjgaaDoorT
set_option linter.unusedSimpArgs false
set_option linter.unusedVariables false
set_option linter.unusedSectionVars false
section
namespace Go.Abs
def tdp (l : List (List UInt8)) (m : Nat) (whole : Bool) : List (List UInt8) :=
  if h : 2 ≤ l.length ∧ m ≠ l.length then (if m ≤ spl l.length then root (l.drop (spl l.length)) :: tdp (l.take (spl l.length)) m whole else root (l.take (spl l.length)) :: tdp (l.drop (spl l.length)) (m - spl l.length) false) else if whole then [] else [root l]
termination_by l.length
decreasing_by
  · rw [List.length_take]; have := spl_lt h.1; omega
  · rw [List.length_drop]; have := spl_pos l.length; omega
theorem tdp_two {l : List (List UInt8)} {m : Nat} (h : 2 ≤ l.length ∧ m ≠ l.length) (whole : Bool) : tdp l m whole = if m ≤ spl l.length then root (l.drop (spl l.length)) :: tdp (l.take (spl l.length)) m whole else root (l.take (spl l.length)) :: tdp (l.drop (spl l.length)) (m - spl l.length) false := by rw [tdp, dif_pos h]
theorem tdp_few {l : List (List UInt8)} {m : Nat} (h : ¬ (2 ≤ l.length ∧ m ≠ l.length)) (whole : Bool) : tdp l m whole = if whole then [] else [root l] := by rw [tdp, dif_neg h]
theorem sbp_two {l : List (List UInt8)} {m : Nat} (h : 2 ≤ l.length ∧ m ≠ l.length) (whole : Bool) : sbp l m whole = if m ≤ spl l.length then sbp (l.take (spl l.length)) m whole ++ [root (l.drop (spl l.length))] else sbp (l.drop (spl l.length)) (m - spl l.length) false ++ [root (l.take (spl l.length))] := by rw [sbp, dif_pos h]
theorem sbp_few {l : List (List UInt8)} {m : Nat} (h : ¬ (2 ≤ l.length ∧ m ≠ l.length)) (whole : Bool) : sbp l m whole = if whole then [] else [root l] := by rw [sbp, dif_neg h]
theorem sbp_tdp (l : List (List UInt8)) (m : Nat) (whole : Bool) : sbp l m whole = (tdp l m whole).reverse := by
  by_cases h : 2 ≤ l.length ∧ m ≠ l.length
  · have h1 := spl_lt h.1
    have h2 := spl_pos l.length
    rw [sbp_two h, tdp_two h]
    split
    · rw [List.reverse_cons, sbp_tdp (l.take (spl l.length)) m whole]
    · rw [List.reverse_cons, sbp_tdp (l.drop (spl l.length)) _ false]
  · rw [sbp_few h, tdp_few h]
    cases whole <;> rfl
termination_by l.length
decreasing_by all_goals (simp only [List.length_take, List.length_drop]; omega)
theorem is16_tdp (l : List (List UInt8)) (m : Nat) (whole : Bool) : is16 (tdp l m whole) := by
  by_cases h : 2 ≤ l.length ∧ m ≠ l.length
  · have h1 := spl_lt h.1
    have h2 := spl_pos l.length
    rw [tdp_two h]
    split
    · exact is16_cons.2 ⟨root_len _, is16_tdp _ m whole⟩
    · exact is16_cons.2 ⟨root_len _, is16_tdp _ _ false⟩
  · rw [tdp_few h]
    cases whole
    · exact is16_one (root_len _)
    · exact is16_nil
termination_by l.length
decreasing_by all_goals (simp only [List.length_take, List.length_drop]; omega)
theorem tdp_len (l : List (List UInt8)) (m : Nat) (whole : Bool) : (tdp l m whole).length ≤ l.length + 1 := by
  by_cases h : 2 ≤ l.length ∧ m ≠ l.length
  · have h1 := spl_lt h.1
    have h2 := spl_pos l.length
    rw [tdp_two h]
    split
    · have := tdp_len (l.take (spl l.length)) m whole
      rw [List.length_take] at this
      rw [List.length_cons]; omega
    · have := tdp_len (l.drop (spl l.length)) (m - spl l.length) false
      rw [List.length_drop] at this
      rw [List.length_cons]; omega
  · rw [tdp_few h]
    cases whole <;> simp
termination_by l.length
decreasing_by all_goals (simp only [List.length_take, List.length_drop]; omega)
def pvpI (l : List (List UInt8)) (m : Int) : Option (List (List UInt8)) := if 1 ≤ m ∧ m ≤ l.length then some (sbp l m.toNat true) else none
def pvpC : Contract := ⟨fun ds => ∃ (nl : Option Bool) (l : List (List UInt8)) (m : Int), is16 l ∧ l.length ≤ 900000 ∧ ds = [dgsA nl l, i64 m], fun ds => optA (pvpI (gDs (nth ds 0)) (asI (nth ds 1)))⟩
theorem pvpC_post {nl : Option Bool} {l : List (List UInt8)} (h : is16 l) (m : Int) : pvpC.post [dgsA nl l, i64 m] = optA (pvpI l m) := by
  show optA (pvpI (gDs (dgsA nl l)) m) = _
  rw [dgsA, gDs_dgs h]
attribute [local simp] wBox fnd
set_option maxHeartbeats 8000000 in
theorem pvp_fin (E : Env) (hC161 : E.C 161 = revW) (h162 : E.G 162 = revE) (o : List (Nat × AVal)) (S : List (List UInt8)) (hS : is16 S) (hSl : S.length ≤ 1000000) : awp E f_merkle_ProvePrefix_r4 (retQ [.t 4, .t 5] (optA (some S.reverse))) ⟨[], [(6, .sl (.own 16) none S.length (bys (dgs S)))], []⟩ := by
  have hdS := dgs_len hS
  rw [f_merkle_ProvePrefix_r4, awp_seq]
  by_cases hn : S = []
  · subst hn
    refine .inr ?_
    simp (maxSteps := 1000000) (disch := first | omega | (simp; done) | (simp; omega)) [W_id, bys_app, bys_snoc, h162, revE, optA, prfA]
  · have h0 : 0 < S.length := List.length_pos_iff.2 hn
    refine .inl ?_
    simp (maxSteps := 1000000) (disch := first | omega | (simp; done) | (simp; omega)) [W_id, bys_app, bys_snoc, hC161, okW, effW, wArg, okWA, h0, hdS, revW_pre hS h0, revW_out hS, hn, optA, prfA]
    exact List.take_of_length_le (by rw [dgs_len (is16_rev hS), List.length_reverse]; omega)
structure Pvp where
  l : List (List UInt8)
  m : Nat
  whole : Bool
  out : List (List UInt8)
set_option maxHeartbeats 8000000 in
theorem pvp_ok (E : Env) (h167 : E.G 167 = splC) (h168 : E.G 168 = rootC) (hC161 : E.C 161 = revW) (h162 : E.G 162 = revE) : ∀ ds, pvpC.pre ds → ds.length = f_merkle_ProvePrefix.n ∧ awp E f_merkle_ProvePrefix.body (retQ f_merkle_ProvePrefix.res (pvpC.post ds)) (initSt f_merkle_ProvePrefix.wr ds) := by
  rintro _ ⟨nl, l, m, h, hl, rfl⟩
  rw [pvpC_post h, dgsA]
  by_cases hm : 1 ≤ m ∧ m ≤ l.length
  · obtain ⟨k, rfl⟩ := Int.eq_ofNat_of_zero_le (show 0 ≤ m by omega)
    have c1 : ¬ ((k : Int) < 1) := by omega
    have c2 : ¬ ((l.length : Int) < k) := by omega
    rw [pvpI, if_pos hm, Int.toNat_natCast, sbp_tdp]
    have hT16 := is16_tdp l k true
    have hTl := tdp_len l k true
    generalize hT : tdp l k true = T at *
    simp (maxSteps := 1000000) (disch := first | omega | (simp; done) | (simp; omega)) [W_id, bys_app, bys_snoc, f_merkle_ProvePrefix, c1, c2, kT, kF, dT, dF]
    rw [f_merkle_ProvePrefix_r0]
    simp (maxSteps := 1000000) (disch := first | omega | (simp; done) | (simp; omega)) [W_id, bys_app, bys_snoc]
    refine awp_name fun Q1 hQ1 => ?_
    refine awp_for (fun s : Pvp => ⟨[], [(0, .sl .plain nl s.l.length (bys (dgs s.l))), (1, i64 s.m), (6, .sl (.own 16) none s.out.length (bys (dgs s.out))), (7, bo s.whole)], []⟩) (fun s => s.l.length) (fun s => is16 s.l ∧ is16 s.out ∧ 1 ≤ s.m ∧ s.m ≤ s.l.length ∧ s.l.length ≤ 900000 ∧ s.out.length + s.l.length ≤ l.length ∧ s.out ++ tdp s.l s.m s.whole = T) ⟨l, k, true, []⟩ rfl ⟨h, is16_nil, by simp; omega, by simp; omega, hl, by simp, by simpa using hT⟩ fun s hs => ?_
    obtain ⟨l', m, whole, out⟩ := s
    obtain ⟨hl16, ho16, hm1, hm2, hl9, hol, htd⟩ := hs
    simp only at hl16 ho16 hm1 hm2 hl9 hol htd ⊢
    have hdo := dgs_len ho16
    have hdl := dgs_len hl16
    refine awp_name fun Q2 hQ2 => ?_
    by_cases hlt : m < l'.length
    · have h2 : 2 ≤ l'.length := by omega
      have hs1 := spl_lt h2
      have hs0 := spl_pos l'.length
      rw [tdp_two ⟨h2, by omega⟩] at htd
      generalize hK : spl l'.length = K at *
      have lt1 : (m : Int) < l'.length := by omega
      have g1 := is16_take hl16 K
      have g2 := is16_drop hl16 K
      have htk : (dgs (l'.drop K)).take ((l'.length - K) * 16) = dgs (l'.drop K) := List.take_of_length_le (by rw [dgs_len g2, List.length_drop]; exact Nat.le_refl _)
      have lk1 : (l'.take K).length = K := by rw [List.length_take]; omega
      have lk2 : (l'.drop K).length = l'.length - K := List.length_drop
      have r1 := root_len (l'.take K)
      have r2 := root_len (l'.drop K)
      have p1 := rootC_pre (nl := nl) g1 (by omega) lk1.symm rfl
      have q1 := rootC_post (nl := nl) g1 lk1.symm rfl
      have p2 := rootC_pre (nl := nl) g2 (by omega) lk2.symm rfl
      have q2 := rootC_post (nl := nl) g2 lk2.symm rfl
      by_cases hmk : m ≤ K
      · have le1 : (m : Int) ≤ K := by omega
        rw [if_pos hmk] at htd
        simp (maxSteps := 1000000) (disch := first | omega | (simp; done) | (simp; omega)) [W_id, bys_app, bys_snoc, f_merkle_ProvePrefix_l0, f_merkle_ProvePrefix_r1, lt1, le1, kT, kF, dT, dF, h167, hK, splC_pre, hQ2, h168, hdl, dgs_take hl16, dgs_drop hl16, htk, p1, q1, p2, q2, r1, r2, take_l16, splice_bys0, hdo]
        refine ⟨by omega, by omega, by omega, ⟨l'.take K, m, whole, out ++ [root (l'.drop K)]⟩, ?_⟩
        refine ⟨by show (l'.take K).length < _; omega, ⟨g1, is16_app.2 ⟨ho16, is16_one r2⟩, hm1, by show m ≤ (l'.take K).length; omega, by show (l'.take K).length ≤ _; omega, by show (out ++ [_]).length + (l'.take K).length ≤ _; rw [List.length_append, List.length_singleton]; omega, by simpa using htd⟩, ?_⟩
        simp [lk1]
      · have le1 : ¬ ((m : Int) ≤ K) := by omega
        rw [if_neg hmk] at htd
        simp (maxSteps := 1000000) (disch := first | omega | (simp; done) | (simp; omega)) [W_id, bys_app, bys_snoc, f_merkle_ProvePrefix_l0, f_merkle_ProvePrefix_r1, f_merkle_ProvePrefix_r2, lt1, le1, kT, kF, dT, dF, h167, hK, splC_pre, hQ2, h168, hdl, dgs_take hl16, dgs_drop hl16, htk, p1, q1, p2, q2, r1, r2, take_l16, splice_bys0, hdo]
        refine ⟨by omega, by omega, by omega, ⟨l'.drop K, m - K, false, out ++ [root (l'.take K)]⟩, ?_⟩
        refine ⟨by show (l'.drop K).length < _; omega, ⟨g2, is16_app.2 ⟨ho16, is16_one r1⟩, by show 1 ≤ m - K; omega, by show m - K ≤ (l'.drop K).length; omega, by show (l'.drop K).length ≤ _; omega, by show (out ++ [_]).length + (l'.drop K).length ≤ _; rw [List.length_append, List.length_singleton]; omega, by simpa using htd⟩, ?_⟩
        simp
        omega
    · have lt1 : ¬ ((m : Int) < l'.length) := by omega
      rw [tdp_few (fun h => h.2 (by omega))] at htd
      cases whole with
      | true =>
        rw [if_pos rfl, List.append_nil] at htd
        have fin := pvp_fin E hC161 h162 [] out ho16 (by omega)
        rw [htd] at fin ho16 hdo
        simp (maxSteps := 1000000) (disch := first | omega | (simp; done) | (simp; omega)) [W_id, bys_app, bys_snoc, f_merkle_ProvePrefix_l0, lt1, kT, kF, dT, dF, hQ2, hQ1, f_merkle_ProvePrefix_r3, htd]
        exact fin
      | false =>
        rw [if_neg (by simp)] at htd
        have fin := pvp_fin E hC161 h162 [] (out ++ [root l']) (is16_app.2 ⟨ho16, is16_one (root_len _)⟩) (by simp; omega)
        have rl := root_len l'
        have p1 := rootC_pre (nl := nl) hl16 (by omega) rfl rfl
        have q1 := rootC_post (nl := nl) hl16 rfl rfl
        rw [htd] at fin
        have e1 : out.length + 1 = T.length := by rw [← htd]; simp
        have e2 : dgs out ++ root l' = dgs T := by rw [← htd]; simp
        simp (maxSteps := 1000000) (disch := first | omega | (simp; done) | (simp; omega)) [W_id, bys_app, bys_snoc, f_merkle_ProvePrefix_l0, lt1, kT, kF, dT, dF, hQ2, hQ1, f_merkle_ProvePrefix_r3, h168, p1, q1, rl, take_l16, splice_bys0, hdo, e2]
        rw [e1]
        exact ⟨by omega, fin⟩
  · have hmm : m < 1 ∨ (l.length : Int) < m := by omega
    rw [pvpI, if_neg hm]
    by_cases h1 : m < 1
    · simp (maxSteps := 1000000) (disch := first | omega | (simp; done) | (simp; omega)) [W_id, bys_app, bys_snoc, f_merkle_ProvePrefix, h1, kT, kF, dT, dF, optA]
    · have h2 : (l.length : Int) < m := by omega
      simp (maxSteps := 1000000) (disch := first | omega | (simp; done) | (simp; omega)) [W_id, bys_app, bys_snoc, f_merkle_ProvePrefix, h1, h2, kT, kF, dT, dF, optA]
end Go.Abs
end

section
namespace Go.Abs
def nd (a b : List UInt8) : List UInt8 := shortB (inpOf 2 [a, b])
@[simp] theorem nd_len (a b : List UInt8) : (nd a b).length = 16 := shortB_len _
def dpd (m n : Nat) : List Bool :=
  if h : 1 ≤ m ∧ m < n then (if m ≤ spl n then false :: dpd m (spl n) else true :: dpd (m - spl n) (n - spl n)) else []
termination_by n
decreasing_by
  · exact spl_lt (by omega)
  · have := spl_pos n; omega
theorem dpd_two {m n : Nat} (h : 1 ≤ m ∧ m < n) : dpd m n = if m ≤ spl n then false :: dpd m (spl n) else true :: dpd (m - spl n) (n - spl n) := by rw [dpd, dif_pos h]
theorem dpd_few {m n : Nat} (h : ¬ (1 ≤ m ∧ m < n)) : dpd m n = [] := by rw [dpd, dif_neg h]
theorem dpd_len : ∀ (k m n : Nat), n ≤ 2 ^ k → (dpd m n).length ≤ k
  | 0, m, n, h => by rw [dpd_few (by simp at h; omega)]; simp
  | k + 1, m, n, h => by
    by_cases h2 : 1 ≤ m ∧ m < n
    · have h0 : n - 1 ≠ 0 := by omega
      have hl : Nat.log2 (n - 1) < k + 1 := (Nat.log2_lt h0).2 (by omega)
      have hs : spl n ≤ 2 ^ k := Nat.pow_le_pow_right (by decide) (by omega)
      have ht := spl_twice (n := n) (by omega)
      rw [dpd_two h2]
      split
      · have := dpd_len k m (spl n) hs
        rw [List.length_cons]; omega
      · have := dpd_len k (m - spl n) (n - spl n) (by omega)
        rw [List.length_cons]; omega
    · rw [dpd_few h2]; simp
def foldP : List (Bool × List UInt8) → List UInt8 → List UInt8 → List UInt8 × List UInt8
  | [], x, y => (x, y)
  | (b, p) :: r, x, y => if b then foldP r (nd p x) (nd p y) else foldP r x (nd y p)
theorem foldP_snoc : ∀ (P : List (Bool × List UInt8)) (b : Bool) (p x y : List UInt8), foldP (P ++ [(b, p)]) x y = if b then (nd p (foldP P x y).1, nd p (foldP P x y).2) else ((foldP P x y).1, nd (foldP P x y).2 p)
  | [], b, p, x, y => by cases b <;> rfl
  | (c, q) :: P, b, p, x, y => by
    rw [List.cons_append, foldP, foldP_snoc P, foldP_snoc P, foldP]
    cases c <;> simp
theorem foldP_len : ∀ (P : List (Bool × List UInt8)) (x y : List UInt8), x.length = 16 → y.length = 16 → (foldP P x y).1.length = 16 ∧ (foldP P x y).2.length = 16
  | [], x, y, hx, hy => ⟨hx, hy⟩
  | (c, q) :: P, x, y, hx, hy => by
    rw [foldP]
    cases c
    · exact foldP_len P _ _ hx (nd_len _ _)
    · exact foldP_len P _ _ (nd_len _ _) (nd_len _ _)
def vpS (D : List Bool) (old : List UInt8) (pr : List (List UInt8)) : Option (List UInt8 × List (List UInt8)) :=
  if D.all (! ·) then some (old, pr) else match pr with | [] => none | x :: p => some (x, p)
def vpE (old root : List UInt8) (D : List Bool) (x : List UInt8) (pr : List (List UInt8)) : Bool :=
  if pr.length = D.length then decide ((foldP (D.reverse.zip pr) x x).1 = old) && decide ((foldP (D.reverse.zip pr) x x).2 = root) else false
def vpN (old root : List UInt8) (m n : Int) (pr : List (List UInt8)) : Bool :=
  if 1 ≤ m ∧ m ≤ n then (match vpS (dpd m.toNat n.toNat) old pr with | none => false | some (x, p) => vpE old root (dpd m.toNat n.toNat) x p) else false
def vprC : Contract := ⟨fun ds => ∃ (old root : List UInt8) (m n : Int) (nl : Option Bool) (p : List (List UInt8)), old.length = 16 ∧ root.length = 16 ∧ n ≤ 9223372036854775807 ∧ is16 p ∧ p.length ≤ 1000 ∧ ds = [.agg (bys old), .agg (bys root), i64 m, i64 n, dgsA nl p],
  fun ds => bo (vpN (gBs (gCs (nth ds 0))) (gBs (gCs (nth ds 1))) (asI (nth ds 2)) (asI (nth ds 3)) (gDs (nth ds 4)))⟩
theorem vprC_pre {old root : List UInt8} {m n : Int} {nl : Option Bool} {p : List (List UInt8)} (ho : old.length = 16) (hr : root.length = 16) (hn : n ≤ 9223372036854775807) (hp : is16 p) (hl : p.length ≤ 1000) : vprC.pre [.agg (bys old), .agg (bys root), i64 m, i64 n, .sl .plain nl p.length (bys (dgs p))] = True := eq_true ⟨old, root, m, n, nl, p, ho, hr, hn, hp, hl, rfl⟩
theorem vprC_post {old root : List UInt8} {m n : Int} {nl : Option Bool} {p : List (List UInt8)} (hp : is16 p) : vprC.post [.agg (bys old), .agg (bys root), i64 m, i64 n, .sl .plain nl p.length (bys (dgs p))] = bo (vpN old root m n p) := by
  show bo (vpN (gBs (gCs (.agg (bys old)))) (gBs (gCs (.agg (bys root)))) m n (gDs (.sl .plain nl p.length (bys (dgs p))))) = _
  rw [gDs_dgs hp]
  simp
set_option maxHeartbeats 8000000 in
theorem vp_fold (E : Env) (h165 : E.G 165 = shM) (h169 : E.G 169 = nodeM) (o : List (Nat × AVal)) (old root x : List UInt8) (nl nx : Option Bool) (D : List Bool) (pr : List (List UInt8)) (x11 : AVal) (ho : old.length = 16) (hrt : root.length = 16) (hx : x.length = 16) (hp : is16 pr) (hpl : pr.length ≤ 1000) (hl : pr.length = D.length)
    (h11 : dem x11 = .sl .plain nx D.length (bos D.reverse)) (hr : refs x11 = []) :
    awp E f_merkle_VerifyPrefix_r6 (retQ [.t 10] (bo (decide ((foldP (D.reverse.zip pr) x x).1 = old) && decide ((foldP (D.reverse.zip pr) x x).2 = root)))) ⟨[(0, .agg (bys old)), (1, .agg (bys root))], [(4, .sl .plain nl pr.length (bys (dgs pr))), (5, .bp 5 0), (6, .bp 6 0), (11, x11), (14, .bp 14 0)], [(5, some (bys old)), (6, some (bys root)), (14, some (bys x))]⟩ := by
  have hdp := dgs_len hp
  have hb' := bos_length D.reverse
  have hzl : (D.reverse.zip pr).length = pr.length := by rw [List.length_zip, List.length_reverse, hl, Nat.min_self]
  simp (maxSteps := 1000000) (disch := first | omega | (simp; done) | (simp; omega)) [W_id, bys_app, bys_snoc, f_merkle_VerifyPrefix_r6, take_l16, splice_bys0, hx]
  refine awp_name fun Q1 hQ1 => ?_
  refine awp_for (fun i : Nat => ⟨[(0, .agg (bys old)), (1, .agg (bys root))], [(5, .bp 5 0), (6, .bp 6 0), (11, x11), (14, .bp 14 0), (15, .bp 15 0), (65, .sl .plain nl pr.length (bys (dgs pr))), (66, i64 pr.length), (67, i64 i)], [(5, some (bys old)), (6, some (bys root)), (14, some (bys (foldP ((D.reverse.zip pr).take i) x x).1)), (15, some (bys (foldP ((D.reverse.zip pr).take i) x x).2))]⟩) (fun i => pr.length - i) (fun i => i ≤ pr.length) 0 (by simp [foldP]) (by simp) fun i hi => ?_
  obtain ⟨hu, hv⟩ := foldP_len ((D.reverse.zip pr).take i) x x hx hx
  by_cases h : i < pr.length
  · have lt : (i : Int) < pr.length := by omega
    have x1 := dgs_at hp h
    have x2 := dgAt_len hp h
    have y1 := bos_at (l := D.reverse) (i := i) (by rw [List.length_reverse]; omega)
    have st : foldP ((D.reverse.zip pr).take (i + 1)) x x = if D.reverse.getD i false then (nd (dgAt pr i) (foldP ((D.reverse.zip pr).take i) x x).1, nd (dgAt pr i) (foldP ((D.reverse.zip pr).take i) x x).2) else ((foldP ((D.reverse.zip pr).take i) x x).1, nd (foldP ((D.reverse.zip pr).take i) x x).2 (dgAt pr i)) := by
      rw [List.take_succ_eq_append_getElem (by omega), List.getElem_zip]
      rw [foldP_snoc]
      have e1 : D.reverse[i]'(by rw [List.length_reverse]; omega) = D.reverse.getD i false := by rw [List.getD, List.getElem?_eq_getElem (by rw [List.length_reverse]; omega)]; rfl
      have e2 : pr[i] = dgAt pr i := by rw [dgAt, List.getD, List.getElem?_eq_getElem h]; rfl
      rw [e1, e2]
    generalize foldP ((D.reverse.zip pr).take i) x x = R at *
    obtain ⟨u, v⟩ := R
    simp only at hu hv st ⊢
    generalize dgAt pr i = p at *
    have hil := fun u v (hu : List.length u = 16) (hv : List.length v = 16) => inq_len (t := 2) (is16_two hu hv)
    have i1 : (inpOf 2 [p, u]).length ≤ 51 := by have := hil p u x2 hu; simp only [List.length_cons, List.length_nil] at this; omega
    have i2 : (inpOf 2 [p, v]).length ≤ 51 := by have := hil p v x2 hv; simp only [List.length_cons, List.length_nil] at this; omega
    have i3 : (inpOf 2 [v, p]).length ≤ 51 := by have := hil v p hv x2; simp only [List.length_cons, List.length_nil] at this; omega
    have n1 : shortB (inpOf 2 [p, u]) = nd p u := rfl
    have n2 : shortB (inpOf 2 [p, v]) = nd p v := rfl
    have n3 : shortB (inpOf 2 [v, p]) = nd v p := rfl
    have l1 := nd_len p u
    have l2 := nd_len p v
    have l3 := nd_len v p
    cases hf : D.reverse.getD i false with
    | true =>
      rw [hf] at y1 st
      simp (maxSteps := 1000000) (disch := first | omega | (simp; done) | (simp; omega)) [W_id, bys_app, bys_snoc, f_merkle_VerifyPrefix_l1, f_merkle_VerifyPrefix_r7, lt, kT, kF, dT, dF, x1, x2, y1, h11, hdp, hl, h165, shM_pre, h169, nodeM_pre x2 hu, nodeM_pre x2 hv, take_l16, hQ1, splice_bys0, n1, n2, n3, l1, l2, l3, hu, hv]
      exact ⟨by omega, by omega, by omega, by rw [hb', List.length_reverse]; omega, by rw [hr]; simp, i + 1, by omega, by omega, by simp, by simp [st], by simp [st]⟩
    | false =>
      rw [hf] at y1 st
      simp (maxSteps := 1000000) (disch := first | omega | (simp; done) | (simp; omega)) [W_id, bys_app, bys_snoc, f_merkle_VerifyPrefix_l1, f_merkle_VerifyPrefix_r7, lt, kT, kF, dT, dF, x1, x2, y1, h11, hdp, hl, h165, shM_pre, h169, nodeM_pre hv x2, take_l16, hQ1, splice_bys0, n1, n2, n3, l1, l2, l3, hu, hv]
      exact ⟨by omega, by omega, by omega, by rw [hb', List.length_reverse]; omega, by rw [hr]; simp, i + 1, by omega, by omega, by simp, by simp [st], by simp [st]⟩
  · have lt : ¬ ((i : Int) < pr.length) := by omega
    have hip : (D.reverse.zip pr).take i = D.reverse.zip pr := List.take_of_length_le (by omega)
    rw [hip] at hu hv ⊢
    generalize foldP (D.reverse.zip pr) x x = R at *
    obtain ⟨u, v⟩ := R
    simp only at hu hv hQ1 ⊢
    have e1 := eqCells_ks8 hu ho
    have e2 := eqCells_ks8 hv hrt
    by_cases huo : u = old
    · have e3 : decide (u = old) = true := by simp [huo]
      rw [e3] at e1
      simp (maxSteps := 1000000) (disch := first | omega | (simp; done) | (simp; omega)) [W_id, bys_app, bys_snoc, f_merkle_VerifyPrefix_l1, f_merkle_VerifyPrefix_r8, lt, kT, kF, dT, dF, hQ1, e1, e2, e3, take_l16, hu, hv, ho, hrt]
    · have e3 : decide (u = old) = false := by simp [huo]
      rw [e3] at e1
      simp (maxSteps := 1000000) (disch := first | omega | (simp; done) | (simp; omega)) [W_id, bys_app, bys_snoc, f_merkle_VerifyPrefix_l1, f_merkle_VerifyPrefix_r8, lt, kT, kF, dT, dF, hQ1, e1, e3, take_l16, hu, hv, ho, hrt]
def vp_tail : ACode := match f_merkle_VerifyPrefix_r3 with | .seq _ c => c | c => c
def vp_alt : ACode := match f_merkle_VerifyPrefix_r3 with | .seq c _ => c | c => c
theorem vp_r3 : f_merkle_VerifyPrefix_r3 = .seq vp_alt vp_tail := rfl
def vpO (D : List Bool) (old root : List UInt8) (pr : List (List UInt8)) : Bool := match vpS D old pr with | none => false | some (x, p) => vpE old root D x p
set_option maxHeartbeats 8000000 in
theorem vp_mid (E : Env) (h165 : E.G 165 = shM) (h169 : E.G 169 = nodeM) (old root : List UInt8) (nl nx : Option Bool) (D : List Bool) (pr : List (List UInt8)) (x11 : AVal) (ho : old.length = 16) (hrt : root.length = 16) (hp : is16 pr) (hpl : pr.length ≤ 1000)
    (h11 : dem x11 = .sl .plain nx D.length (bos D.reverse)) (hr : refs x11 = []) :
    awp E vp_tail (retQ [.t 10] (bo (vpO D old root pr))) ⟨[(0, .agg (bys old)), (1, .agg (bys root)), (4, .sl .plain nl pr.length (bys (dgs pr)))], [(5, .bp 5 0), (6, .bp 6 0), (11, x11), (12, bo (D.all (! ·)))], [(5, some (bys old)), (6, some (bys root))]⟩ := by
  simp only [vp_tail, f_merkle_VerifyPrefix_r3]
  have hdp := dgs_len hp
  have hb' := bos_length D.reverse
  cases hw : D.all (! ·) with
  | true =>
    by_cases hl : pr.length = D.length
    · have hl' : ((pr.length : Int) == D.length) = true := by simp [hl]
      have e : vpO D old root pr = (decide ((foldP (D.reverse.zip pr) old old).1 = old) && decide ((foldP (D.reverse.zip pr) old old).2 = root)) := by
        rw [vpO, vpS.eq_def, hw, if_pos rfl]
        simp only [vpE, if_pos hl]
      rw [e]
      have fin := vp_fold E h165 h169 [] old root old nl nx D pr x11 ho hrt ho hp hpl hl h11 hr
      simp (maxSteps := 1000000) (disch := first | omega | (simp; done) | (simp; omega)) [W_id, bys_app, bys_snoc, take_l16, splice_bys0, ho, kT, kF, dT, dF, f_merkle_VerifyPrefix_r5, hl', h11]
      exact fin
    · have hl' : ((pr.length : Int) == D.length) = false := beq_false_of_ne (by omega)
      have e : vpO D old root pr = false := by
        rw [vpO, vpS.eq_def, hw, if_pos rfl]
        simp only [vpE, if_neg hl]
      rw [e]
      simp (maxSteps := 1000000) (disch := first | omega | (simp; done) | (simp; omega)) [W_id, bys_app, bys_snoc, take_l16, splice_bys0, ho, kT, kF, dT, dF, f_merkle_VerifyPrefix_r5, hl', h11]
  | false =>
    cases pr with
    | nil =>
      have e : vpO D old root [] = false := by
        rw [vpO, vpS, hw, if_neg (by simp)]
      rw [e]
      simp (maxSteps := 1000000) (disch := first | omega | (simp; done) | (simp; omega)) [W_id, bys_app, bys_snoc, take_l16, splice_bys0, ho, kT, kF, dT, dF]
    | cons x p =>
      obtain ⟨hx, hp'⟩ := is16_cons.1 hp
      rw [List.length_cons] at hpl
      have hdp' := dgs_len hp'
      have hxd : (x ++ dgs p).take 16 = x := by rw [← hx, List.take_left]
      have hxe : (x ++ dgs p).drop 16 = dgs p := by rw [← hx, List.drop_left]
      have e0 : ¬ ((p.length : Int) + 1 = 0) := by omega
      have htk : (dgs p).take (p.length * 16) = dgs p := List.take_of_length_le (by omega)
      by_cases hl : p.length = D.length
      · have hl' : ((p.length : Int) == D.length) = true := by simp [hl]
        have e : vpO D old root (x :: p) = (decide ((foldP (D.reverse.zip p) x x).1 = old) && decide ((foldP (D.reverse.zip p) x x).2 = root)) := by
          rw [vpO, vpS, hw, if_neg (by simp)]
          simp only [vpE, if_pos hl]
        rw [e]
        have fin := vp_fold E h165 h169 [] old root x nl nx D p x11 ho hrt hx hp' (by omega) hl h11 hr
        simp (maxSteps := 1000000) (disch := first | omega | (simp; done) | (simp; omega)) [W_id, bys_app, bys_snoc, take_l16, splice_bys0, ho, hx, kT, kF, dT, dF, f_merkle_VerifyPrefix_r4, f_merkle_VerifyPrefix_r5, hl', h11, hxd, hxe, e0, hdp', htk]
        exact ⟨by omega, fin⟩
      · have hl' : ((p.length : Int) == D.length) = false := beq_false_of_ne (by omega)
        have e : vpO D old root (x :: p) = false := by
          rw [vpO, vpS, hw, if_neg (by simp)]
          simp only [vpE, if_neg hl]
        rw [e]
        simp (maxSteps := 1000000) (disch := first | omega | (simp; done) | (simp; omega)) [W_id, bys_app, bys_snoc, take_l16, splice_bys0, ho, hx, kT, kF, dT, dF, f_merkle_VerifyPrefix_r4, f_merkle_VerifyPrefix_r5, hl', h11, hxd, hxe, e0, hdp']
        omega
end Go.Abs
end

section
namespace Go.Abs
attribute [local simp] wBox fnd
@[simp] theorem frmT_bo (b : Bool) : frmT (bo b) = true := rfl
@[simp] theorem deep_bo (ids : List Nat) (bx : Nat → List AVal) (b : Bool) : deep ids bx (bo b) = bo b := rfl
@[simp] theorem frmT_i64 (b : Int) : frmT (i64 b) = true := rfl
structure Vpr where
  m : Nat
  n : Nat
  out : List Bool
set_option maxHeartbeats 8000000 in
theorem vp_top (E : Env) (h167 : E.G 167 = splC) (h165 : E.G 165 = shM) (h169 : E.G 169 = nodeM) (hC174 : E.C 174 = revWb) (h175 : E.G 175 = revE) (old root : List UInt8) (m n : Nat) (nl : Option Bool) (pr : List (List UInt8)) (ho : old.length = 16) (hrt : root.length = 16) (hn : n ≤ 9223372036854775807) (hp : is16 pr) (hpl : pr.length ≤ 1000) (hm : 1 ≤ m) (hmn : m ≤ n) :
    awp E f_merkle_VerifyPrefix_r0 (retQ [.t 10] (bo (vpO (dpd m n) old root pr))) ⟨[(0, .agg (bys old)), (1, .agg (bys root)), (4, .sl .plain nl pr.length (bys (dgs pr)))], [(2, i64 m), (3, i64 n), (5, .bp 5 0), (6, .bp 6 0)], [(5, some (bys old)), (6, some (bys root))]⟩ := by
  have hDl := dpd_len 63 m n (by omega)
  have mid := fun x11 nx => vp_mid E h165 h169 old root nl nx (dpd m n) pr x11 ho hrt hp hpl
  obtain ⟨D, hD⟩ : ∃ D, D = dpd m n := ⟨_, rfl⟩
  rw [← hD] at hDl mid ⊢
  rw [f_merkle_VerifyPrefix_r0]
  simp (maxSteps := 1000000) (disch := first | omega | (simp; done) | (simp; omega)) [W_id, bys_app, bys_snoc]
  refine awp_name fun Q1 hQ1 => ?_
  refine awp_for (fun s : Vpr => ⟨[(0, .agg (bys old)), (1, .agg (bys root)), (4, .sl .plain nl pr.length (bys (dgs pr)))], [(2, i64 s.m), (3, i64 s.n), (5, .bp 5 0), (6, .bp 6 0), (11, .sl (.own 1) none s.out.length (bos s.out)), (12, bo (s.out.all (! ·)))], [(5, some (bys old)), (6, some (bys root))]⟩) (fun s => s.n) (fun s => 1 ≤ s.m ∧ s.m ≤ s.n ∧ s.n ≤ n ∧ s.out ++ dpd s.m s.n = D) ⟨m, n, []⟩ rfl ⟨hm, hmn, Nat.le_refl _, by simpa using hD.symm⟩ fun s hs => ?_
  obtain ⟨m', n', out⟩ := s
  obtain ⟨h1, h2, h3, h4⟩ := hs
  simp only at h1 h2 h3 h4 ⊢
  have hol : out.length ≤ 63 := by rw [← h4, List.length_append] at hDl; omega
  have hbo := bos_length out
  refine awp_name fun Q2 hQ2 => ?_
  by_cases hlt : m' < n'
  · have lt1 : (m' : Int) < n' := by omega
    have hk1 := spl_lt (n := n') (by omega)
    have hk0 := spl_pos n'
    rw [dpd_two ⟨h1, hlt⟩] at h4
    generalize hK : spl n' = k at *
    have hap : ∀ b : Bool, bos out ++ [bo b] = bos (out ++ [b]) := fun b => bos_app out [b]
    by_cases hmk : m' ≤ k
    · have le1 : (m' : Int) ≤ k := by omega
      have gt1 : ¬ ((k : Int) < m') := by omega
      rw [if_pos hmk] at h4
      simp (maxSteps := 1000000) (disch := first | omega | (simp; done) | (simp; omega)) [W_id, bys_app, bys_snoc, f_merkle_VerifyPrefix_l0, f_merkle_VerifyPrefix_r1, lt1, le1, gt1, kT, kF, dT, dF, h167, hK, splC_pre, hQ2, hap]
      refine ⟨by omega, ⟨m', k, out ++ [false]⟩, hk1, ⟨h1, hmk, by show k ≤ n; omega, by simpa using h4⟩, ?_⟩
      simp
    · have le1 : ¬ ((m' : Int) ≤ k) := by omega
      have gt1 : (k : Int) < m' := by omega
      rw [if_neg hmk] at h4
      simp (maxSteps := 1000000) (disch := first | omega | (simp; done) | (simp; omega)) [W_id, bys_app, bys_snoc, f_merkle_VerifyPrefix_l0, f_merkle_VerifyPrefix_r1, f_merkle_VerifyPrefix_r2, lt1, le1, gt1, kT, kF, dT, dF, h167, hK, splC_pre, hQ2, hap]
      refine ⟨by omega, ⟨m' - k, n' - k, out ++ [true]⟩, by show n' - k < n'; omega, ⟨by show 1 ≤ m' - k; omega, by show m' - k ≤ n' - k; omega, by show n' - k ≤ n; omega, by simpa using h4⟩, by show (m' : Int) - k = ((m' - k : Nat) : Int); omega, by show (n' : Int) - k = ((n' - k : Nat) : Int); omega, ?_⟩
      simp
  · have lt1 : ¬ ((m' : Int) < n') := by omega
    rw [dpd_few (by omega), List.append_nil] at h4
    subst h4
    simp (maxSteps := 1000000) (disch := first | omega | (simp; done) | (simp; omega)) [W_id, bys_app, bys_snoc, f_merkle_VerifyPrefix_l0, lt1, kT, kF, dT, dF, hQ2, hQ1]
    rw [vp_r3, awp_seq, vp_alt, f_merkle_VerifyPrefix_r3]
    simp only []
    show _ ∨ _
    by_cases h0 : out = []
    · subst h0
      refine .inr ?_
      simp (maxSteps := 1000000) (disch := first | omega | (simp; done) | (simp; omega)) [W_id, bys_app, bys_snoc, h175, revE]
      exact ⟨rfl, mid _ _ rfl rfl⟩
    · have h1 : 0 < out.length := List.length_pos_iff.2 h0
      refine .inl ?_
      have hb' := bos_length out.reverse
      simp (maxSteps := 1000000) (disch := first | omega | (simp; done) | (simp; omega)) [W_id, bys_app, bys_snoc, hC174, okW, effW, wArg, okWA, h1, revWb_pre h1, revWb_out (l := out), frmT_bys, hbo, hb', refsL_bos]
      have hs : (bos out.reverse).take out.length = bos out.reverse := List.take_of_length_le (by rw [hb', List.length_reverse]; exact Nat.le_refl _)
      rw [hs]
      exact mid _ _ rfl rfl
set_option maxHeartbeats 4000000 in
theorem vpr_ok (E : Env) (h167 : E.G 167 = splC) (h165 : E.G 165 = shM) (h169 : E.G 169 = nodeM) (hC174 : E.C 174 = revWb) (h175 : E.G 175 = revE) : ∀ ds, vprC.pre ds → ds.length = f_merkle_VerifyPrefix.n ∧ awp E f_merkle_VerifyPrefix.body (retQ f_merkle_VerifyPrefix.res (vprC.post ds)) (initSt f_merkle_VerifyPrefix.wr ds) := by
  rintro _ ⟨old, root, m, n, nl, p, ho, hr, hn, hp, hpl, rfl⟩
  rw [dgsA, vprC_post hp, vpN]
  by_cases hm : 1 ≤ m ∧ m ≤ n
  · obtain ⟨m', rfl⟩ := Int.eq_ofNat_of_zero_le (show 0 ≤ m by omega)
    obtain ⟨n', rfl⟩ := Int.eq_ofNat_of_zero_le (show 0 ≤ n by omega)
    have c1 : ¬ ((m' : Int) < 1) := by omega
    have c2 : ¬ ((n' : Int) < m') := by omega
    rw [if_pos hm, Int.toNat_natCast, Int.toNat_natCast]
    have top := vp_top E h167 h165 h169 hC174 h175 old root m' n' nl p ho hr (by omega) hp hpl (by omega) (by omega)
    simp (maxSteps := 1000000) (disch := first | omega | (simp; done) | (simp; omega)) [W_id, bys_app, bys_snoc, f_merkle_VerifyPrefix, c1, c2, kT, kF, dT, dF, ho, hr]
    exact top
  · rw [if_neg hm]
    by_cases h1 : m < 1
    · simp (maxSteps := 1000000) (disch := first | omega | (simp; done) | (simp; omega)) [W_id, bys_app, bys_snoc, f_merkle_VerifyPrefix, h1, kT, kF, dT, dF, ho, hr]
    · have h2 : n < m := by omega
      simp (maxSteps := 1000000) (disch := first | omega | (simp; done) | (simp; omega)) [W_id, bys_app, bys_snoc, f_merkle_VerifyPrefix, h1, h2, kT, kF, dT, dF, ho, hr]
end Go.Abs
end
