/- Lemmas: an abstract interpreter, and what the functions compute. -/
import Derived.Test.YtclloimacncjgaaDoorM
import Derived.Test.YtclloimacncjgaaDoorE
import Derived.Test.YtclloimacncjgaaDoorP
import Derived.Test.YtclloimacncjgaaDoorO
set_option linter.unusedSimpArgs false
set_option linter.unusedVariables false
set_option linter.unusedSectionVars false
section
namespace Go.Abs
theorem inp1_inj {a b : List UInt8} (ha : a.length = 16) (hb : b.length = 16) (h : inpOf 1 [a] = inpOf 1 [b]) : a = b := by
  simp only [inpOf, List.cons.injEq, true_and] at h
  have := flatMap_encS_inj (fun s hs => by simp at hs; rw [hs]; omega) (fun s hs => by simp at hs; rw [hs]; omega) h
  simpa using this
theorem inp2_inj {a b c d : List UInt8} (ha : a.length = 16) (hb : b.length = 16) (hc : c.length = 16) (hd : d.length = 16) (h : inpOf 2 [a, b] = inpOf 2 [c, d]) : a = c ∧ b = d := by
  simp only [inpOf, List.cons.injEq, true_and] at h
  have := flatMap_encS_inj (fun s hs => by simp at hs; rcases hs with e | e <;> (rw [e]; omega)) (fun s hs => by simp at hs; rcases hs with e | e <;> (rw [e]; omega)) h
  simpa using this
theorem topDiff_rev (x y : List (List UInt8)) (h : x.length = y.length) : topDiff x.reverse y.reverse = (x.zip y).find? fun q => decide (¬ q.1 = q.2) := by
  have key : ∀ (x y : List (List UInt8)), x.length = y.length → x.reverse.zip y.reverse = (x.zip y).reverse := by
    intro x
    induction x with
    | nil => intro y h; cases y with
      | nil => rfl
      | cons b y => simp at h
    | cons a x ih => intro y h; cases y with
      | nil => simp at h
      | cons b y =>
        have hl : x.reverse.length = y.reverse.length := by simpa using h
        rw [List.reverse_cons, List.reverse_cons, List.zip_append hl, ih y (by simpa using h)]
        show _ = ((a, b) :: x.zip y).reverse
        rw [List.reverse_cons]; rfl
  rw [topDiff, key x y h, List.reverse_reverse]
theorem up_diff (d b : List UInt8) (hd : d.length = 16) (hb : b.length = 16) (D : List Bool) : ∀ (p q : List (List UInt8)), D.length = p.length → D.length = q.length → is16 p → is16 q → shortB ((upIn d (D.zip p)).headD []) = shortB ((upIn b (D.zip q)).headD []) →
    match ((upIn d (D.zip p)).zip (upIn b (D.zip q))).find? (fun q => decide (¬ q.1 = q.2)) with | some w => w.1 ≠ w.2 ∧ shortB w.1 = shortB w.2 | none => d = b ∧ p = q := by
  induction D with
  | nil =>
    intro p q h1 h2 _ _ hs
    have ep : p = [] := List.length_eq_zero_iff.1 h1.symm
    have eq : q = [] := List.length_eq_zero_iff.1 h2.symm
    subst ep
    subst eq
    simp only [List.zip_nil_left, upIn, List.zip_cons_cons, List.headD_cons] at hs ⊢
    by_cases h : inpOf 1 [d] = inpOf 1 [b]
    · have hdb := inp1_inj hd hb h
      generalize inpOf 1 [d] = x at *
      generalize inpOf 1 [b] = y at *
      simp [List.find?_cons, h, hdb]
    · generalize inpOf 1 [d] = x at *
      generalize inpOf 1 [b] = y at *
      simp [List.find?_cons, h, hs]
  | cons r D ih =>
    intro p q h1 h2 hp hq hs
    cases p with
    | nil => simp at h1
    | cons x p =>
      cases q with
      | nil => simp at h2
      | cons y q =>
        obtain ⟨hx, hp⟩ := is16_cons.1 hp
        obtain ⟨hy, hq⟩ := is16_cons.1 hq
        have ih := ih p q (by simpa using h1) (by simpa using h2) hp hq
        simp only [List.zip_cons_cons, upIn, List.headD_cons] at hs ⊢
        have l1 := shortB_len ((upIn d (D.zip p)).headD [])
        have l2 := shortB_len ((upIn b (D.zip q)).headD [])
        generalize hu : shortB ((upIn d (D.zip p)).headD []) = su at *
        generalize hv : shortB ((upIn b (D.zip q)).headD []) = sv at *
        have e : inpOf 2 (if r = true then [x, su] else [su, x]) = inpOf 2 (if r = true then [y, sv] else [sv, y]) → x = y ∧ su = sv := fun h => by
          cases r with
          | true => exact inp2_inj hx l1 hy l2 h
          | false => exact (inp2_inj l1 hx l2 hy h).symm
        generalize inpOf 2 (if r = true then [x, su] else [su, x]) = X at *
        generalize inpOf 2 (if r = true then [y, sv] else [sv, y]) = Y at *
        rw [List.find?_cons]
        by_cases h : X = Y
        · have e := e h
          have := ih e.2
          simp only [h, not_true, decide_false]
          revert this
          cases ((upIn d (D.zip p)).zip (upIn b (D.zip q))).find? (fun q => decide (¬ q.1 = q.2)) with
          | none => exact fun t => ⟨t.1, by rw [e.1, t.2]⟩
          | some w => exact fun t => t
        · simp only [h, not_false_eq_true, decide_true]
          exact ⟨h, hs⟩
theorem lastB_rv (l : List (List UInt8)) : lastB l.reverse = l.headD [] := by
  cases l with
  | nil => rfl
  | cons a l => simp [lastB, List.getD]
theorem inpsI_form {n i : Int} {d : List UInt8} {p x : List (List UInt8)} (h : inpsI n i d p = some x) : (dirs n.toNat i.toNat).length = p.length ∧ x = (upIn d ((dirs n.toNat i.toNat).zip p.reverse)).reverse := by
  unfold inpsI at h
  split at h
  · unfold inps at h
    split at h
    · rename_i hc
      exact ⟨hc.2, (Option.some.inj h).symm⟩
    · cases h
  · cases h
theorem cl_some {n i : Int} {d b : List UInt8} {p q : List (List UInt8)} (hd : d.length = 16) (hb : b.length = 16) (hp : is16 p) (hq : is16 q) {u v : List UInt8} (h : clN n i d b p q = some (u, v)) : u ≠ v ∧ shortB u = shortB v := by
  unfold clN at h
  cases hx : inpsI n i d p with
  | none => rw [hx] at h; cases h
  | some x =>
    cases hy : inpsI n i b q with
    | none => rw [hx, hy] at h; cases h
    | some y =>
      rw [hx, hy] at h
      simp only at h
      split at h
      · rename_i hs
        obtain ⟨l1, e1⟩ := inpsI_form hx
        obtain ⟨l2, e2⟩ := inpsI_form hy
        rw [e1, e2, lastB_rv, lastB_rv] at hs
        have := up_diff d b hd hb _ _ _ (by rw [l1, List.length_reverse]) (by rw [l2, List.length_reverse]) (is16_rev hp) (is16_rev hq) hs
        rw [e1, e2, topDiff_rev _ _ (by rw [upIn_len, upIn_len, List.length_zip, List.length_zip, List.length_reverse, List.length_reverse, l1.symm.trans l2])] at h
        rw [h] at this
        exact this
      · cases h
theorem cl_none {r : List UInt8} {n i : Int} {d b : List UInt8} {p q : List (List UInt8)} (hd : d.length = 16) (hb : b.length = 16) (hp : is16 p) (hq : is16 q) (h : clN n i d b p q = none) (h1 : vfyN r n i d p = true) (h2 : vfyN r n i b q = true) : d = b ∧ p = q := by
  unfold clN at h
  unfold vfyN at h1 h2
  cases hx : inpsI n i d p with
  | none => rw [hx] at h1; cases h1
  | some x =>
    cases hy : inpsI n i b q with
    | none => rw [hy] at h2; cases h2
    | some y =>
      rw [hx, hy] at h
      rw [hx] at h1
      rw [hy] at h2
      simp only [decide_eq_true_eq] at h h1 h2
      have hs : shortB (lastB x) = shortB (lastB y) := h1.trans h2.symm
      rw [if_pos hs] at h
      obtain ⟨l1, e1⟩ := inpsI_form hx
      obtain ⟨l2, e2⟩ := inpsI_form hy
      rw [e1, e2, lastB_rv, lastB_rv] at hs
      have := up_diff d b hd hb _ _ _ (by rw [l1, List.length_reverse]) (by rw [l2, List.length_reverse]) (is16_rev hp) (is16_rev hq) hs
      rw [e1, e2, topDiff_rev _ _ (by rw [upIn_len, upIn_len, List.length_zip, List.length_zip, List.length_reverse, List.length_reverse, l1.symm.trans l2])] at h
      rw [h] at this
      exact ⟨this.1, by simpa using this.2⟩
end Go.Abs
end

section
namespace Go.Abs
def free (C : List (List UInt8)) : Prop := ∀ u ∈ C, ∀ v ∈ C, shortB u = shortB v → u = v
end Go.Abs
end

section
namespace Go.Abs
end Go.Abs
end

section
namespace Go.Abs
set_option maxRecDepth 100000
def rclA (o : Option (List UInt8 × List UInt8)) : AVal := match o with
  | some (u, v) => .agg [.sl .plain (some false) u.length (bys u), .sl .plain (some false) v.length (bys v), bo true]
  | none => .agg [.sl .plain none 0 [], .sl .plain none 0 [], bo false]
def rclC : Contract := ⟨clC.pre, fun ds => rclA (clN (asI (nth ds 0)) (asI (nth ds 1)) (gBs (gCs (nth ds 2))) (gBs (gCs (nth ds 3))) (gDs (nth ds 4)) (gDs (nth ds 5)))⟩
theorem rclC_pre {n i : Int} {a b : List UInt8} {nl nl' : Option Bool} {p q : List (List UInt8)} (hn : n ≤ 9223372036854775807) (ha : a.length = 16) (hb : b.length = 16) (hp : is16 p) (hl : p.length ≤ 1000) (hq : is16 q) (hl' : q.length ≤ 1000) : rclC.pre [i64 n, i64 i, .agg (bys a), .agg (bys b), .sl .plain nl p.length (bys (dgs p)), .sl .plain nl' q.length (bys (dgs q))] = True := eq_true ⟨n, i, a, b, nl, nl', p, q, hn, ha, hb, hp, hl, hq, hl', rfl⟩
theorem rclC_post {n i : Int} {a b : List UInt8} {nl nl' : Option Bool} {p q : List (List UInt8)} (hp : is16 p) (hq : is16 q) : rclC.post [i64 n, i64 i, .agg (bys a), .agg (bys b), .sl .plain nl p.length (bys (dgs p)), .sl .plain nl' q.length (bys (dgs q))] = rclA (clN n i a b p q) := by
  show rclA (clN n i (gBs (gCs (.agg (bys a)))) (gBs (gCs (.agg (bys b)))) (gDs (.sl .plain nl p.length (bys (dgs p)))) (gDs (.sl .plain nl' q.length (bys (dgs q))))) = _
  rw [gDs_dgs hp, gDs_dgs hq]
  simp
theorem spl_3 (a b c x y z : AVal) : splice [a, b, c] 0 [x, y, z] = [x, y, z] := rfl
set_option maxHeartbeats 8000000 in
theorem rcl_loop (E : Env) (n i : Int) (a b : List UInt8) (nl nl' rq rq' : Option Bool) (p q x y : List (List UInt8)) (hxy : x.length = y.length) (hxl : x.length ≤ 1001) (hs : ∀ b ∈ x, b.length ≤ 51) (hs' : ∀ b ∈ y, b.length ≤ 51) :
    awp E f_custodyref08_Clash_r0 (retQ [.cell 12 (some 3) 12] (rclA (topDiff x y))) ⟨[(0, i64 n), (1, i64 i), (2, .agg (bys a)), (3, .agg (bys b)), (4, .sl .plain nl p.length (bys (dgs p))), (5, .sl .plain nl' q.length (bys (dgs q)))], [(12, .bp 12 0), (13, .sl .plain rq x.length (blsC x)), (15, .sl .plain rq' x.length (blsC y))], [(8, some (bys a)), (9, some (bys b)), (12, some [.sl (.own 1) none 0 [], .sl (.own 1) none 0 [], bo false])]⟩ := by
  have gx : ∀ k, k < x.length → hdA ((blsC x).drop k) = .sl (.own 1) (some false) (x.getD k []).length (bys (x.getD k [])) := fun k hk => blsC_at hk
  have gy : ∀ k, k < y.length → hdA ((blsC y).drop k) = .sl (.own 1) (some false) (y.getD k []).length (bys (y.getD k [])) := fun k hk => blsC_at hk
  have sx : ∀ k, k < x.length → (x.getD k []).length ≤ 51 := fun k hk => hs _ (getD_mem hk)
  have sy : ∀ k, k < y.length → (y.getD k []).length ≤ 51 := fun k hk => hs' _ (getD_mem hk)
  have hz : (x.zip y).length = x.length := by rw [List.length_zip, ← hxy, Nat.min_self]
  simp (maxSteps := 1000000) [f_custodyref08_Clash_r0]
  refine awp_name fun Q1 hQ1 => ?_
  refine awp_for (fun k : Nat => ⟨[(0, i64 n), (1, i64 i), (2, .agg (bys a)), (3, .agg (bys b)), (4, .sl .plain nl p.length (bys (dgs p))), (5, .sl .plain nl' q.length (bys (dgs q)))], [(12, .bp 12 0), (13, .sl .plain rq x.length (blsC x)), (15, .sl .plain rq' x.length (blsC y)), (17, i64 ((k : Int) - 1))], [(8, some (bys a)), (9, some (bys b)), (12, some [.sl (.own 1) none 0 [], .sl (.own 1) none 0 [], bo false])]⟩) (fun k => k) (fun k => k ≤ x.length ∧ ((x.zip y).drop k).all (fun q => decide (q.1 = q.2)) = true) x.length (by rw [W_id (by omega) (by omega)]) ⟨Nat.le_refl _, by rw [List.drop_of_length_le (by omega)]; rfl⟩ fun k hk => ?_
  obtain ⟨hk, hall⟩ := hk
  cases k with
  | zero =>
    have e := topDiff_none hall
    simp (maxSteps := 1000000) (disch := first | omega | (simp; done) | (simp; omega)) [W_id, bys_app, bys_snoc, f_custodyref08_Clash_l0, kT, kF, dT, dF, hQ1, f_custodyref08_Clash_r2, e, rclA, spl_3]
  | succ k =>
    have hk' : k < x.length := hk
    have g1 := gx k hk'
    have g2 := gy k (by omega)
    have s1 := sx k hk'
    have s2 := sy k (by omega)
    have c0 : ((k + 1 : Nat) : Int) - 1 = k := by omega
    have hcons : (x.zip y).drop k = (x.getD k [], y.getD k []) :: (x.zip y).drop (k + 1) := by
      have h1 : k < (x.zip y).length := by omega
      have h2 : (x.zip y)[k] = (x.getD k [], y.getD k []) := by
        rw [List.getElem_zip, List.getD, List.getD, List.getElem?_eq_getElem hk', List.getElem?_eq_getElem (by omega)]; rfl
      rw [← h2, ← List.drop_eq_getElem_cons h1]
    by_cases hd : x.getD k [] = y.getD k []
    · rw [← hd] at g2 hcons
      generalize x.getD k [] = u at *
      simp (maxSteps := 1000000) (disch := first | omega | (simp; done) | (simp; omega)) [W_id, bys_app, bys_snoc, f_custodyref08_Clash_l0, f_custodyref08_Clash_r1, kT, kF, dT, dF, hQ1, g1, g2, c0]
      refine ⟨by omega, by omega, by omega, by omega, k, by omega, ⟨by omega, fun u' v' hm => ?_⟩, rfl⟩
      rw [hcons] at hm
      rcases List.mem_cons.1 hm with hm | hm
      · cases hm; rfl
      · simpa using List.all_eq_true.1 hall _ hm
    · have e := topDiff_eq hxy hk' hall hd
      generalize x.getD k [] = u at *
      generalize y.getD k [] = v at *
      simp (maxSteps := 1000000) (disch := first | omega | (simp; done) | (simp; omega)) [W_id, bys_app, bys_snoc, f_custodyref08_Clash_l0, f_custodyref08_Clash_r1, kT, kF, dT, dF, hQ1, g1, g2, c0, hd, e, rclA, spl_3]
      omega
set_option maxHeartbeats 8000000 in
theorem rcl_ok (E : Env) (h203 : E.G 203 = rinC) (h28 : E.G 28 = shortC) : ∀ ds, rclC.pre ds → ds.length = f_custodyref08_Clash.n ∧ awp E f_custodyref08_Clash.body (retQ f_custodyref08_Clash.res (rclC.post ds)) (initSt f_custodyref08_Clash.wr ds) := by
  rintro _ ⟨n, i, a, b, nl, nl', p, q, hn, ha, hb, hp, hpl, hq, hql, rfl⟩
  rw [dgsA, dgsA, rclC_post hp hq, clN]
  have pre := rinC_pre (nl := nl) (i := i) hn ha hp hpl rfl rfl
  have post := rinC_post (m := .plain) (d := a) (nl := nl) n i hp rfl rfl
  have pre' := rinC_pre (nl := nl') (i := i) hn hb hq hql rfl rfl
  have post' := rinC_post (m := .plain) (d := b) (nl := nl') n i hq rfl rfl
  rw [riA] at post post'
  have tka := take_l16 ha
  have tkb := take_l16 hb
  generalize riN n i = rq at *
  cases hX : inpsI n i a p with
  | none =>
    rw [hX] at post
    generalize riL n i a p = L at *
    cases hY : inpsI n i b q with
    | none =>
      rw [hY] at post'
      generalize riL n i b q = L' at *
      simp (maxSteps := 1000000) (disch := first | omega | (simp; done) | (simp; omega)) [W_id, bys_app, bys_snoc, f_custodyref08_Clash, h203, pre, post, pre', post', ha, hb, tka, tkb, kT, kF, dT, dF, rclA, spl_3]
    | some y =>
      rw [hY] at post'
      generalize riL n i b q = L' at *
      simp (maxSteps := 1000000) (disch := first | omega | (simp; done) | (simp; omega)) [W_id, bys_app, bys_snoc, f_custodyref08_Clash, h203, pre, post, pre', post', ha, hb, tka, tkb, kT, kF, dT, dF, rclA, spl_3]
  | some x =>
    cases hY : inpsI n i b q with
    | none =>
      rw [hX] at post
      rw [hY] at post'
      generalize riL n i a p = L at *
      generalize riL n i b q = L' at *
      simp (maxSteps := 1000000) (disch := first | omega | (simp; done) | (simp; omega)) [W_id, bys_app, bys_snoc, f_custodyref08_Clash, h203, pre, post, pre', post', ha, hb, tka, tkb, kT, kF, dT, dF, rclA, spl_3]
    | some y =>
      rw [hX, riL_some hX] at post
      rw [hY, riL_some hY] at post'
      simp only at post post' ⊢
      obtain ⟨e1, hl, hs⟩ := inpsI_some ha hp hX
      obtain ⟨e2, hl', hs'⟩ := inpsI_some hb hq hY
      have hxy : x.length = y.length := by omega
      have gx : ∀ k, k < x.length → hdA ((blsC x).drop k) = .sl (.own 1) (some false) (x.getD k []).length (bys (x.getD k [])) := fun k hk => blsC_at hk
      have gy : ∀ k, k < y.length → hdA ((blsC y).drop k) = .sl (.own 1) (some false) (y.getD k []).length (bys (y.getD k [])) := fun k hk => blsC_at hk
      have sx : ∀ k, k < x.length → (x.getD k []).length ≤ 51 := fun k hk => hs _ (getD_mem hk)
      have sy : ∀ k, k < y.length → (y.getD k []).length ≤ 51 := fun k hk => hs' _ (getD_mem hk)
      have y2 := gx (x.length - 1) (by omega)
      have y3 := gy (x.length - 1) (by omega)
      have sm := sx (x.length - 1) (by omega)
      have sm' := sy (x.length - 1) (by omega)
      have ex : x.getD (x.length - 1) [] = lastB x := rfl
      have ey : y.getD (x.length - 1) [] = lastB y := by rw [hxy]; rfl
      rw [ex] at y2 sm
      rw [ey] at y3 sm'
      have x1 : ((x.length : Int) - 1).toNat = x.length - 1 := by omega
      have s1 : shortC.pre [.sl .plain (some false) (lastB x).length (bys (lastB x))] = True := short_pre rfl (by omega)
      have s2 : shortC.post [.sl .plain (some false) (lastB x).length (bys (lastB x))] = .agg (bys (shortB (lastB x))) := short_post _ _ _
      have s3 : shortC.pre [.sl .plain (some false) (lastB y).length (bys (lastB y))] = True := short_pre rfl (by omega)
      have s4 : shortC.post [.sl .plain (some false) (lastB y).length (bys (lastB y))] = .agg (bys (shortB (lastB y))) := short_post _ _ _
      have hsx := shortB_len (lastB x)
      have hsy := shortB_len (lastB y)
      have bx' := blsC_len x
      have by'' := blsC_len y
      have px := pureL_blsC x
      have py := pureL_blsC y
      have loop := rcl_loop E n i a b nl nl' rq rq p q x y hxy (by omega) hs hs'
      generalize topDiff x y = td at *
      generalize hSx : shortB (lastB x) = ux at *
      generalize hSy : shortB (lastB y) = uy at *
      generalize lastB x = bx at *
      generalize lastB y = by' at *
      have eqb := eqCells_ks8 hsx hsy
      by_cases hsh : ux = uy
      · rw [if_pos hsh]
        rw [decide_eq_true hsh] at eqb
        simp (maxSteps := 1000000) (disch := first | omega | (simp; done) | (simp; omega)) [W_id, bys_app, bys_snoc, f_custodyref08_Clash, h203, pre, post, pre', post', ha, hb, tka, tkb, kT, kF, dT, dF, ← hxy, y2, y3, x1, h28, s1, s2, s3, s4, eqb, bx', by'', px, py]
        refine ⟨by omega, by omega, by omega, by omega, ?_⟩
        exact ⟨⟨hsx, hsy⟩, loop⟩
      · rw [if_neg hsh]
        rw [decide_eq_false hsh] at eqb
        simp (maxSteps := 1000000) (disch := first | omega | (simp; done) | (simp; omega)) [W_id, bys_app, bys_snoc, f_custodyref08_Clash, h203, pre, post, pre', post', ha, hb, tka, tkb, kT, kF, dT, dF, ← hxy, y2, y3, x1, h28, s1, s2, s3, s4, eqb, rclA, spl_3, bx', by'', px, py]
        omega
end Go.Abs
end

section
namespace Go.Abs
set_option maxRecDepth 100000
def plC (l : List (List UInt8)) : List AVal := l.map fun b => .sl .plain (some false) b.length (bys b)
@[simp] theorem plC_len (l : List (List UInt8)) : (plC l).length = l.length := by simp [plC]
@[simp] theorem pureL_plC : ∀ l : List (List UInt8), pureL (plC l) = true
  | [] => rfl
  | x :: l => by show (true && pureL (plC l)) = true; rw [pureL_plC l]; rfl
end Go.Abs
end
