/- Lemmas: an abstract interpreter, and what the functions compute. -/
import Derived.Test.YtclloimacncjgaaDoorQ
import Derived.Test.YtclloimacncjgaaDoorE
set_option linter.unusedSimpArgs false
set_option linter.unusedVariables false
set_option linter.unusedSectionVars false
section
namespace Go.Abs
set_option maxRecDepth 100000
theorem set_ne {r : List UInt8} (h : r.length = 16) : ¬ r = r.set 0 (at8 r 0 + 1) := by
  match r, h with
  | x :: l, _ =>
    intro e
    simp only [List.set_cons_zero, List.cons.injEq, and_true] at e
    have hx : at8 (x :: l) 0 = x := rfl
    rw [hx] at e
    have := congrArg UInt8.toNat e
    rw [UInt8.toNat_add] at this
    have h1 := x.toNat_lt
    change x.toNat = (x.toNat + 1) % 256 at this
    omega
set_option maxHeartbeats 8000000 in
theorem law_KA_ok (E : Env) (h215 : E.G 215 = sanC) (h163 : E.G 163 = prvC) (h171 : E.G 171 = pvpC) (h168 : E.G 168 = rootC) (h173 : E.G 173 = vfyC) (h176 : E.G 176 = vprC) : ∀ ds, lawKA.pre ds → ds.length = f_custodylaw08_MerkleProofsAreAccepted.n ∧ awp E f_custodylaw08_MerkleProofsAreAccepted.body (retQ f_custodylaw08_MerkleProofsAreAccepted.res (lawKA.post ds)) (initSt f_custodylaw08_MerkleProofsAreAccepted.wr ds) := by
  rintro _ ⟨nl, l, i, m, hl, rfl⟩
  rw [show lawKA.post [dgsA nl l, u8 i, u8 m] = bo true from rfl]
  unfold dgsA
  by_cases h0 : l.length = 0
  · have hc : ((l.length : Int) == 0) = true := by rw [h0]; rfl
    simp (maxSteps := 1000000) (disch := first | omega | (simp; done) | (simp; omega)) [W_id, bys_app, bys_snoc, f_custodylaw08_MerkleProofsAreAccepted, h215, san8_pre, san8_post, hc, kT, kF]
  have hcF : ((l.length : Int) == 0) = false := beq_false_of_ne (by omega)
  by_cases h : l.length ≤ 70
  · have hc : ¬ (70 : Int) < (l.length : Int) := by omega
    have hdl := dgs_len hl
    have ek : ((i.toNat : Nat) : Int).tmod (l.length : Int) = ((i.toNat % l.length : Nat) : Int) := rfl
    have em : ((m.toNat : Nat) : Int).tmod (l.length : Int) = ((m.toNat % l.length : Nat) : Int) := rfl
    have hk : i.toNat % l.length < l.length := Nat.mod_lt _ (by omega)
    have hm : m.toNat % l.length < l.length := Nat.mod_lt _ (by omega)
    have ne0 : ¬ (l.length : Int) = 0 := by omega
    generalize i.toNat % l.length = k at *
    generalize m.toNat % l.length = j at *
    have e1j : (1 : Int) + (j : Int) = ((j + 1 : Nat) : Int) := by omega
    have rl := root_len l
    have tkr := take_l16 rl
    have r1 := rootC_pre (nl := nl) hl (by omega) rfl rfl
    have r2 := rootC_post (nl := nl) hl rfl rfl
    have s3 : prvC.pre [.sl .plain nl l.length (bys (dgs l)), i64 k] = True := eq_true ⟨nl, l, k, hl, by omega, rfl⟩
    have s4 := prvC_post (nl := nl) hl k
    rw [dgsA, prvI, if_pos (by omega), Int.toNat_natCast, optA, prfA] at s4
    have s7 : pvpC.pre [.sl .plain nl l.length (bys (dgs l)), i64 (j + 1 : Nat)] = True := eq_true ⟨nl, l, ((j + 1 : Nat) : Int), hl, by omega, rfl⟩
    have s8 := pvpC_post (nl := nl) hl ((j + 1 : Nat) : Int)
    rw [dgsA, pvpI, if_pos (by omega), Int.toNat_natCast, optA, prfA] at s8
    have ps : is16 (prv l k) := by rw [prv_sibs]; exact is16_rev (is16_sibs l k)
    have ss : is16 (sbp l (j + 1) true) := by rw [sbp_tdp]; exact is16_rev (is16_tdp l (j + 1) true)
    have pl : (prv l k).length ≤ 1000 := by rw [prv_sibs, List.length_reverse]; have := sibs_len l k; omega
    have sl : (sbp l (j + 1) true).length ≤ 1000 := by rw [sbp_tdp, List.length_reverse]; have := tdp_len l (j + 1) true; omega
    have at1 := dgs_at hl hk
    have al := dgAt_len hl hk
    have tk2 := dgs_take hl (j + 1)
    have t16 : is16 (l.take (j + 1)) := is16_take hl _
    have tl : (l.take (j + 1)).length = j + 1 := by rw [List.length_take]; omega
    have q1 := rootC_pre (nl := nl) t16 (by omega) tl.symm rfl
    have q2 := rootC_post (nl := nl) t16 tl.symm rfl
    have ql := root_len (l.take (j + 1))
    have v1 := fun (r : List UInt8) (hr : r.length = 16) => vfyC_pre (r := r) (n := l.length) (i := k) (d := dgAt l k) (nl := if prv l k = [] then none else some false) (p := prv l k) hr (by omega) al ps pl
    have v2 := fun (r : List UInt8) => vfyC_post (r := r) (n := l.length) (i := k) (d := dgAt l k) (nl := if prv l k = [] then none else some false) (p := prv l k) ps
    have w1 := fun (r : List UInt8) (hr : r.length = 16) => vprC_pre (old := root (l.take (j + 1))) (root := r) (m := (j + 1 : Nat)) (n := l.length) (nl := if sbp l (j + 1) true = [] then none else some false) (p := sbp l (j + 1) true) ql hr (by omega) ss sl
    have w2 := fun (r : List UInt8) => vprC_post (old := root (l.take (j + 1))) (root := r) (m := (j + 1 : Nat)) (n := l.length) (nl := if sbp l (j + 1) true = [] then none else some false) (p := sbp l (j + 1) true) ss
    simp only [vfy_prv hk] at v2
    simp only [vp_sbp (m := j + 1) (by omega) (show j + 1 ≤ l.length by omega)] at w2
    generalize (if prv l k = [] then none else some false) = n1 at *
    generalize (if sbp l (j + 1) true = [] then none else some false) = n2 at *
    have hne := set_ne rl
    have dl : ((root l).set 0 (at8 (root l) 0 + 1)).length = 16 := by rw [List.length_set, rl]
    have hsp : splice (bys (root l)) 0 [u8 (at8 (root l) 0 + 1)] = bys ((root l).set 0 (at8 (root l) 0 + 1)) := splice_bys (by omega)
    have hh : hdA (bys (root l)) = u8 (at8 (root l) 0) := hd_bys0 (by omega)
    have x1 := v1 (root l) rl
    have x2 := v2 (root l)
    have x3 := v1 _ dl
    have x4 := v2 ((root l).set 0 (at8 (root l) 0 + 1))
    have y1 := w1 (root l) rl
    have y2 := w2 (root l)
    have y3 := w1 _ dl
    have y4 := w2 ((root l).set 0 (at8 (root l) 0 + 1))
    rw [decide_eq_true rfl] at x2 y2
    rw [decide_eq_false hne] at x4 y4
    clear v1 v2 w1 w2 hne
    generalize (root l).set 0 (at8 (root l) 0 + 1) = D at *
    have tkd := take_l16 dl
    generalize root (l.take (j + 1)) = R1 at *
    generalize prv l k = p at *
    generalize sbp l (j + 1) true = q at *
    generalize dgAt l k = dk at *
    generalize hR : root l = R at *
    generalize hj : j + 1 = jj at *
    simp (maxSteps := 1000000) (disch := first | omega | (simp; done) | (simp; omega)) [W_id, bys_app, bys_snoc, f_custodylaw08_MerkleProofsAreAccepted, h215, san8_pre, san8_post, hcF, hc, kT, kF, dT, dF]
    simp only [f_custodylaw08_MerkleProofsAreAccepted_r0]
    simp (maxSteps := 1000000) (disch := first | omega | (simp; done) | (simp; omega)) [W_id, bys_app, bys_snoc, ek, em, e1j, h168, r1, r2, rl, tkr, splice_full, h163, s3, s4, h171, s7, s8, hdl, at1, tk2, h173, x1, x2, x3, x4, h176, y1, y2, y3, y4, q1, q2, hh, hsp, dl, tkd, ne0]
    refine ⟨fun e => ?_, by omega, by omega, by omega, by omega, by omega, by omega⟩
    rw [e] at hk
    simp at hk
  · have hc : (70 : Int) < (l.length : Int) := by omega
    simp (maxSteps := 1000000) (disch := first | omega | (simp; done) | (simp; omega)) [W_id, bys_app, bys_snoc, f_custodylaw08_MerkleProofsAreAccepted, h215, san8_pre, san8_post, hcF, hc, kT, kF, dT, dF]
end Go.Abs
end

section
namespace Go.Abs
set_option maxRecDepth 100000
set_option maxHeartbeats 8000000 in
theorem law_KG_ok (E : Env) (h215 : E.G 215 = sanC) (h182 : E.G 182 = padC) (h185 : E.G 185 = topC) (h168 : E.G 168 = rootC) (h210 : E.G 210 = pksC) (h209 : E.G 209 = spkC) : ∀ ds, lawKG.pre ds → ds.length = f_custodylaw08_MerklePeaksGrow.n ∧ awp E f_custodylaw08_MerklePeaksGrow.body (retQ f_custodylaw08_MerklePeaksGrow.res (lawKG.post ds)) (initSt f_custodylaw08_MerklePeaksGrow.wr ds) := by
  rintro _ ⟨nl, l, d, hl, hd, rfl⟩
  rw [show lawKG.post [dgsA nl l, .agg (bys d)] = bo true from rfl]
  unfold dgsA
  have tkd := take_l16 hd
  by_cases h : l.length ≤ 70
  · have hc : ¬ (70 : Int) < (l.length : Int) := by omega
    have hdl := dgs_len hl
    simp (maxSteps := 1000000) (disch := first | omega | (simp; done) | (simp; omega)) [W_id, bys_app, bys_snoc, f_custodylaw08_MerklePeaksGrow, h215, san8_pre, san8_post, hc, kT, kF, dT, dF, hd, f_custodylaw08_MerklePeaksGrow_r0, splice_two]
    refine awp_name fun Q0 hQ0 => ?_
    refine awp_for (fun a : Nat × Option Bool => ⟨[(0, .sl .plain nl l.length (bys (dgs l))), (1, .agg (bys d))], [(3, .bp 3 0), (5, bo true), (6, .bp 6 0), (7, i64 a.1)], [(3, some (bys d)), (6, some [i64 a.1, .sl .plain a.2 (pksL 21 (l.take a.1)).length (bys (dgs (pksL 21 (l.take a.1))))])]⟩) (fun a => l.length - a.1) (fun a => a.1 ≤ l.length) (0, none) (by simp [pksL_nil]) (by simp) fun a ha => ?_
    refine awp_name fun Q1 hQ1 => ?_
    obtain ⟨i, np⟩ := a
    simp only at ha ⊢
    have tkl : (l.take i).length = i := by rw [List.length_take]; omega
    have m16 := pksL_16 21 (l.take i)
    have ml : (pksL 21 (l.take i)).length ≤ 1000000 := by
      have := oN_le 21 i (by omega)
      rw [pksL_len 21 _ (by omega), tkl]; omega
    have tp := topP_pks (k := 21) (l := l.take i) (by omega) (by omega)
    rw [tkl] at tp
    have t1 := topC_pre (n := i) (nl := np) ⟨by omega, by omega⟩ m16 ml rfl rfl
    have t2 := topC_post (n := i) (m := .plain) (nl := np) m16 rfl rfl
    rw [tp] at t2
    have t16 : is16 (l.take i) := is16_take hl i
    have r1 := rootC_pre (nl := nl) t16 (by omega) tkl.symm rfl
    have r2 := rootC_post (nl := nl) t16 tkl.symm rfl
    have rl := root_len (l.take i)
    have tkr := take_l16 rl
    have eqb := eqCells_ks8 rl rl
    rw [decide_eq_true rfl] at eqb
    have hti := dgs_take hl i
    by_cases hi : i < l.length
    · have hlt : (i : Int) < (l.length : Int) := by omega
      have ti := dgs_at hl hi
      have li := dgAt_len hl hi
      have ai := addP_pks (k := 21) (l := l.take i) (dgAt l i) (by omega) (by omega)
      have ao := addP_pks (k := 21) (l := l.take i) d (by omega) (by omega)
      have tn : l.take i ++ [dgAt l i] = l.take (i + 1) := by
        rw [← List.take_append_getElem (i := i) (h := hi)]
        simp [dgAt, List.getD, List.getElem?_eq_getElem hi]
      rw [tn, tkl] at ai
      rw [tkl] at ao
      have b1 := padC_pre (n := i) (nl := np) (d := dgAt l i) ⟨by omega, by omega⟩ m16 ml li rfl rfl
      have b2 := padC_post (n := i) (m := .plain) (nl := np) (d := dgAt l i) m16 rfl rfl
      have c1 := padC_pre (n := i) (nl := np) (d := d) ⟨by omega, by omega⟩ m16 ml hd rfl rfl
      have c2 := padC_post (n := i) (m := .plain) (nl := np) (d := d) m16 rfl rfl
      rw [ai] at b2
      rw [ao] at c2
      unfold pkA dgsA at b2 c2
      generalize addNl i (pksL 21 (l.take i)) = nl2 at b2 c2
      generalize pksL 21 (l.take i ++ [d]) = O at c2
      generalize pksL 21 (l.take i) = P at *
      generalize hP : pksL 21 (l.take (i + 1)) = P' at *
      generalize root (l.take i) = R at *
      simp (maxSteps := 1000000) (disch := first | omega | (simp; done) | (simp; omega)) [W_id, bys_app, bys_snoc, f_custodylaw08_MerklePeaksGrow_l0, f_custodylaw08_MerklePeaksGrow_r1, kT, kF, dT, dF, hlt, hdl, ti, h182, b1, b2, c1, c2, splice_two, tkd, h185, t1, t2, rl, splice_full, tkr, hti, h168, r1, r2, eqb]
      refine ⟨by omega, by omega, by omega, ?_⟩
      rw [hQ1]
      exact ⟨(i + 1, nl2), by show l.length - (i + 1) < l.length - i; omega, by show i + 1 ≤ l.length; omega, by rw [hP]; simp⟩
    · have hi : i = l.length := by omega
      subst hi
      simp (maxSteps := 1000000) (disch := first | omega | (simp; done) | (simp; omega)) [W_id, bys_app, bys_snoc, f_custodylaw08_MerklePeaksGrow_l0, kT, kF, dT, dF]
      rw [hQ1]
      show Q0 (.exit 0) _
      rw [hQ0]
      show awp E f_custodylaw08_MerklePeaksGrow_r2 _ _
      rw [List.take_length] at *
      have k1 := pksC_pre (nl := nl) hl (by omega) rfl rfl
      have k2 := pksC_post (m := .plain) (nl := nl) hl rfl rfl
      unfold pkA dgsA at k2
      have q1 := spkC_pre (n := l.length) (m := l.length) (nl := np) (nl' := none) m16 m16 ml ml rfl rfl rfl rfl
      have q2 := spkC_post (n := l.length) (m := l.length) (M := .plain) (M' := .plain) (nl := np) (nl' := none) m16 m16 rfl rfl rfl rfl
      rw [decide_eq_true rfl, decide_eq_true rfl] at q2
      generalize pksL 21 l = P at *
      generalize root l = R at *
      simp (maxSteps := 1000000) (disch := first | omega | (simp; done) | (simp; omega)) [W_id, bys_app, bys_snoc, f_custodylaw08_MerklePeaksGrow_r2, kT, kF, dT, dF, h185, t1, t2, splice_full, rl, tkr, h210, k1, k2, h209, q1, q2, h168, r1, r2, eqb]
  · have hc : (70 : Int) < (l.length : Int) := by omega
    simp (maxSteps := 1000000) (disch := first | omega | (simp; done) | (simp; omega)) [W_id, bys_app, bys_snoc, f_custodylaw08_MerklePeaksGrow, h215, san8_pre, san8_post, hc, kT, kF, dT, dF, hd]
end Go.Abs
end

section
namespace Go.Abs
theorem vb_of {P : Nat × Bool → Prop} {l m : List (Nat × Bool)} (h : l.all (fun p => m.contains p) = true) (hm : ∀ p ∈ m, P p) : ∀ p ∈ l, P p := fun p hp => by
  have := List.all_eq_true.1 h p hp
  exact hm p (by simpa using this)
theorem vb_rec {P : Nat × Bool → Prop} {f : Nat} {l m : List (Nat × Bool)} (h : l.all (fun p => p == (f, false) || m.contains p) = true) (hm : ∀ p ∈ m, P p) : ∀ p ∈ l, p ≠ (f, false) → P p := fun p hp hn => by
  have := List.all_eq_true.1 h p hp
  rw [Bool.or_eq_true] at this
  rcases this with h1 | h1
  · exact absurd (by simpa using h1) hn
  · exact hm p (by simpa using h1)
def db32T : List UInt8 := [0, 1, 28, 2, 29, 14, 24, 3, 30, 22, 20, 15, 25, 17, 4, 8, 31, 27, 13, 23, 21, 19, 16, 7, 26, 12, 18, 6, 11, 5, 10, 9]
theorem has_dgs {cs : List AVal} (h : (GT.sl (.arr 16 (.int .u8))).has cs) : ∃ l : List (List UInt8), is16 l ∧ cs = [dgsA none l] := by
  obtain ⟨ess, h1, rfl, h3⟩ := h
  suffices H : ∃ l : List (List UInt8), is16 l ∧ l.length = ess.length ∧ ess.flatten = bys (dgs l) by
    obtain ⟨l, k1, k2, k3⟩ := H
    exact ⟨l, k1, by rw [dgsA, k2, k3]⟩
  clear h3
  induction ess with
  | nil => exact ⟨[], is16_nil, rfl, rfl⟩
  | cons e ess ih =>
    obtain ⟨l, k1, k2, k3⟩ := ih fun c hc => h1 c (by simp [hc])
    obtain ⟨x, a0, rfl⟩ := has_arr8 (h1 e (by simp))
    exact ⟨x :: l, is16_cons.2 ⟨a0, k1⟩, by simp [k2], by rw [List.flatten_cons, k3, dgs_cons, bys_append]⟩
theorem has_pks {cs : List AVal} (h : (GT.st [.int .i64, .sl (.arr 16 (.int .u8))]).has cs) : ∃ (n : Int) (l : List (List UInt8)), inI n ∧ is16 l ∧ cs = [i64 n, dgsA none l] := by
  simp only [GT.has, GT.hasL] at h
  obtain ⟨a1, r1, rfl, h1, a2, r2, rfl, h2, rfl⟩ := h
  obtain ⟨n, x1, y1, rfl⟩ := has_i64 (by simpa only [GT.has] using h1)
  obtain ⟨l, hl, rfl⟩ := has_dgs (by simpa only [GT.has] using h2)
  exact ⟨n, l, ⟨x1, y1⟩, hl, rfl⟩
theorem lawKM_pre (as : List AVal) (h : hasA [.st [.int .i64, .sl (.arr 16 (.int .u8))], .arr 16 (.int .u8)] as) : lawKM.pre as := by
  simp only [hasA] at h
  obtain ⟨c0, _, rfl, h0, c1, _, rfl, h1, rfl⟩ := h
  obtain ⟨n, l, hn, hl, rfl⟩ := has_pks h0
  obtain ⟨d, hd, rfl⟩ := has_arr8 h1
  exact ⟨n, none, l, d, hn, hl, hd, rfl⟩
theorem lawKA_pre (as : List AVal) (h : hasA [.sl (.arr 16 (.int .u8)), .int .u8, .int .u8] as) : lawKA.pre as := by
  simp only [hasA] at h
  obtain ⟨c0, _, rfl, h0, c1, _, rfl, h1, c2, _, rfl, h2, rfl⟩ := h
  obtain ⟨l, hl, rfl⟩ := has_dgs h0
  obtain ⟨i, rfl⟩ := has_u8 h1
  obtain ⟨m, rfl⟩ := has_u8 h2
  exact ⟨none, l, i, m, hl, rfl⟩
theorem lawKG_pre (as : List AVal) (h : hasA [.sl (.arr 16 (.int .u8)), .arr 16 (.int .u8)] as) : lawKG.pre as := by
  simp only [hasA] at h
  obtain ⟨c0, _, rfl, h0, c1, _, rfl, h1, rfl⟩ := h
  obtain ⟨l, hl, rfl⟩ := has_dgs h0
  obtain ⟨d, hd, rfl⟩ := has_arr8 h1
  exact ⟨none, l, d, hl, hd, rfl⟩
end Go.Abs
end
