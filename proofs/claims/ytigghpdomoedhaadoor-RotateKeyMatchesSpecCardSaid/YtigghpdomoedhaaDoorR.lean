/- Lemmas: an abstract interpreter, and what the functions compute. -/
import Derived.Test.YtigghpdomoedhaaDoorP
import Derived.Test.YtigghpdomoedhaaDoorQ
import Derived.Test.YtigghpdomoedhaaDoorO
import Derived.Test.YtigghpdomoedhaaDoorM
import Derived.Test.YtigghpdomoedhaaDoorL
set_option linter.unusedSimpArgs false
set_option linter.unusedVariables false
set_option linter.unusedSectionVars false
section
namespace Go.Abs
set_option maxRecDepth 100000
theorem tab0_L : tabL none ⟨0, []⟩ = [i64 0, .sl .plain none 0 []] := rfl
theorem kfail_ok (E : Env) : ∀ ds, kfailC.pre ds → ds.length = f_rotate_Key_1.n ∧ awp E f_rotate_Key_1.body (retQ f_rotate_Key_1.res (kfailC.post ds)) (initSt f_rotate_Key_1.wr ds) := by
  rintro _ ⟨e, rfl⟩
  rw [kfail_post, tab0_L]
  simp (maxSteps := 1000000) (disch := first | omega | (simp; done) | (simp; omega)) [W_id, bys_app, bys_snoc, f_rotate_Key_1, kT, kF, spl_22, spl_11]
  skip
theorem spl_99 (a b c d e f g h i a' b' c' d' e' f' g' h' i' : AVal) : splice [a, b, c, d, e, f, g, h, i] 0 [a', b', c', d', e', f', g', h', i'] = [a', b', c', d', e', f', g', h', i'] := rfl
theorem spl_92 (a b c d e f g h i x : AVal) : splice [a, b, c, d, e, f, g, h, i] 2 [x] = [a, b, x, d, e, f, g, h, i] := rfl
theorem spl_tt (na nb : Option Bool) (t u : TabR) : splice (tabL na t) 0 (tabL nb u) = tabL nb u := rfl
theorem min_if (a b : Int) : (if b < a then b else a) = min a b := by split <;> omega
set_option maxHeartbeats 16000000 in
theorem key_ok (E : Env) (h75 : E.G 75 = nxtC) (h225 : E.G 225 = kfailC) (h226 : E.G 226 = ckC) (h227 : E.G 227 = putCn) (h228 : E.G 228 = addCn) : ∀ ds, rotKC.pre ds → ds.length = f_rotate_Key.n ∧ awp E f_rotate_Key.body (retQ f_rotate_Key.res (rotKC.post ds)) (initSt f_rotate_Key.wr ds) := by
  rintro _ ⟨na, nb, nc, nl, p, t, s, now, i, hp, ⟨hv, ha⟩, hs, rfl⟩
  rw [rot_post]
  have c1 := ck_pre (na := na) (nb := nb) (nc := nc) (nl := nl) now i hp ⟨hv, ha⟩
  have c2 := ck_post na nb nc nl p t now i
  by_cases hf : fitK p t.keys now i = 0
  · obtain ⟨k, g⟩ := rotG (p := p) s hv hf
    rw [ck_key g, hf] at c2
    have n1 := nxt_pre hs
    obtain ⟨l1, l2, l3, _⟩ := life_rng (p := p) g.ok g.live g.now0 g.now1
    obtain ⟨r1, r2, r3, r4, r5, r6, r7⟩ := okK_rng g.ok
    have hko := ha.2.2 k (getK_mem g.got)
    have q1 := put_pre (some false) (nl := nl) (t := t) (tVal_ok hv).1 (kOk_old hko)
    have q2 := put_post (some false) nl t (oldK k)
    rw [put_old hv g.got] at q2
    have w1 := addK_pre none (nl := some false) (t := ⟨t.next, setO t.keys i k⟩) (k := freshK p s now i k) (tOk_old hv g.got) ha.2.1 (kOk_fresh g hko)
    have w2 := addK_post none (some false) ⟨t.next, setO t.keys i k⟩ (freshK p s now i k)
    rw [add_fresh g] at w2
    have hm : maxT = 1099511627776 := rfl
    have htn : topN = 2147483647 := rfl
    have hh := g.has
    have hty : 0 ≤ k.ty ∧ k.ty < p.types.length := by
      simp only [hasP, Bool.and_eq_true] at hh
      simpa [hasTy] using hh.1
    have f2 := typsL_f2 (l := p.types) (i := k.ty.toNat) (by omega)
    have e2 : (tyAt p k.ty).life = (p.types.getD k.ty.toNat ⟨[], 0, 0⟩).life := rfl
    rw [← e2] at f2
    have hlf : lifeK p k now = if 0 < (tyAt p k.ty).life then min (min (k.fin - k.beg) (maxT - now)) (tyAt p k.ty).life else min (k.fin - k.beg) (maxT - now) := rfl
    generalize (tyAt p k.ty).life = L at *
    have g0 := g.now0
    have g1 := g.now1
    have gv := g.ver
    have hr1 : awp E f_rotate_Key_r1 (retQ [.cell 10 (some 2) 10, .cell 11 (some 1) 11, .t 12, .t 13] (.tup [.agg (tabL none (rotK p t s now i).t), .agg [st (rotK p t s now i).s], i64 (rotK p t s now i).id, i64 (rotK p t s now i).e]))
        ⟨[(0, .agg (polL na nb nc p)), (1, .agg (tabL nl t)), (2, .agg [st s]), (3, i64 now), (4, i64 i)],
         [(6, .bp 6 0), (7, .bp 7 0), (10, .bp 10 0), (11, .bp 11 0), (14, .fn 225 [] []), (15, .bp 15 0), (17, i64 (lifeK p k now))],
         [(5, some (polL na nb nc p)), (6, some (tabL nl t)), (7, some [st s]), (10, some [i64 0, .sl (.own 9) none 0 []]), (11, some [st []]), (15, some (keyL k))]⟩ := by
      have fr : [i64 0, i64 k.ty, st (drv s valL []), i64 k.uses, i64 now, i64 (now + lifeK p k now), i64 (k.ver + 1), i64 i, bo false] = keyL (freshK p s now i k) := rfl
      have fo : splice (keyL k) 3 [i64 (andI k.uses 176)] = keyL (oldK k) := rfl
      have ft : tabL (some false) ⟨t.next, setO t.keys i k⟩ = tabL (some false) ⟨t.next, setO t.keys i k⟩ := rfl
      simp only [tabA, if_true] at q2
      rw [rotK, if_pos hf]
      by_cases hc : t.keys.length < 4096 ∧ t.next < topN
      · rw [if_pos hc] at w2 ⊢
        simp only [tabA, if_true] at w2
        rw [f_rotate_Key_r1]
        simp (maxSteps := 1000000) (disch := first | omega | (simp; done) | (simp; omega)) [W_id, bys_app, bys_snoc, h75, h227, n1, q1, q2, kT, kF, dT, dF, fr, fo, spl_99, spl_92, spl_tt]
        rw [f_rotate_Key_r2]
        simp (maxSteps := 1000000) (disch := first | omega | (simp; done) | (simp; omega)) [W_id, bys_app, bys_snoc, h228, w1, w2, kT, kF, dT, dF, spl_tt, spl_t2]
        rw [f_rotate_Key_r3]
        simp (maxSteps := 1000000) (disch := first | omega | (simp; done) | (simp; omega)) [W_id, bys_app, bys_snoc, kT, kF, dT, dF, spl_tt, spl_t2, spl_11]
        skip
      · rw [if_neg hc] at w2 ⊢
        simp only [tabA] at w2
        rw [f_rotate_Key_r1]
        simp (maxSteps := 1000000) (disch := first | omega | (simp; done) | (simp; omega)) [W_id, bys_app, bys_snoc, h75, h227, n1, q1, q2, kT, kF, dT, dF, fr, fo, spl_99, spl_92, spl_tt]
        rw [f_rotate_Key_r2]
        simp (maxSteps := 1000000) (disch := first | omega | (simp; done) | (simp; omega)) [W_id, bys_app, bys_snoc, h228, h225, w1, w2, kT, kF, dT, dF, spl_tt, spl_t2, spl_11]
        skip
    by_cases hb : 0 < L
    · rw [if_pos hb, hm] at hlf
      simp (maxSteps := 1000000) (disch := first | omega | (simp; done) | (simp; omega)) [W_id, bys_app, bys_snoc, f_rotate_Key, h226, c1, c2, kT, kF, dT, dF, key0_R, spl_k, spl_9]
      rw [f_rotate_Key_r0]
      simp (maxSteps := 1000000) (disch := first | omega | (simp; done) | (simp; omega)) [W_id, bys_app, bys_snoc, f2, hb, kT, kF, dT, dF, ↓eff_minW, minW_i64, min_if, hlf.symm]
      exact ⟨hty, by omega, by omega, hr1⟩
    · rw [if_neg hb, hm] at hlf
      simp (maxSteps := 1000000) (disch := first | omega | (simp; done) | (simp; omega)) [W_id, bys_app, bys_snoc, f_rotate_Key, h226, c1, c2, kT, kF, dT, dF, key0_R, spl_k, spl_9]
      rw [f_rotate_Key_r0]
      simp (maxSteps := 1000000) (disch := first | omega | (simp; done) | (simp; omega)) [W_id, bys_app, bys_snoc, f2, hb, kT, kF, dT, dF, ↓eff_minW, minW_i64, min_if, hlf.symm]
      exact ⟨hty, by omega, by omega, hr1⟩
  · have e : rotK p t s now i = ⟨⟨0, []⟩, [], 0, fitK p t.keys now i⟩ := by rw [rotK, if_neg hf]
    rw [e]
    have hb : (fitK p t.keys now i == 0) = false := beq_false_of_ne hf
    generalize fitK p t.keys now i = f at *
    simp (maxSteps := 1000000) (disch := first | omega | (simp; done) | (simp; omega)) [W_id, bys_app, bys_snoc, f_rotate_Key, h225, h226, c1, c2, kT, kF, dT, dF, hb, spl_22, spl_11, key0_R, spl_k, spl_9, tab0_L]
end Go.Abs
end

section
namespace Go.Abs
set_option maxRecDepth 100000
theorem spl_ta (a b c d x y : AVal) (nl : Option Bool) (t : TabR) : splice [a, b, c, d] 0 (tabL nl t ++ [x, y]) = tabL nl t ++ [x, y] := rfl
theorem ta_cell (x y : Int) (nl : Option Bool) (t : TabR) : (∀ c : AVal, c ∈ tabL nl t ∨ c = i64 x ∨ c = i64 y → isCell c) ∧ (∀ c : AVal, c ∈ tabL nl t ∨ c = i64 x ∨ c = i64 y → ownTop c = false) := by
  refine ⟨?_, ?_⟩
  · rintro c (h | rfl | rfl)
    · exact (tabL_cell nl t).2 trivial c h
    · simp
    · simp
  · rintro c (h | rfl | rfl)
    · exact (tabL_own nl t).2 trivial c h
    · simp
    · simp
theorem six_cell (n y : Int) (m : Nat) (ks : List AVal) (x : List UInt8) : (∀ c ∈ ([i64 n, .sl .plain none m ks, st x, i64 y, .sl .plain none 0 [], i64 0] : List AVal), isCell c) ∧ (∀ c ∈ ([i64 n, .sl .plain none m ks, st x, i64 y, .sl .plain none 0 [], i64 0] : List AVal), ownTop c = false) := by
  constructor <;> simp
theorem ta_3 (x y : AVal) (nl : Option Bool) (t : TabR) : hdA ((tabL nl t ++ [x, y]).drop 3) = y := rfl
theorem ta_2 (x y : AVal) (nl : Option Bool) (t : TabR) : hdA ((tabL nl t ++ [x, y]).drop 2) = x := rfl
theorem ta_t (x y : AVal) (nl : Option Bool) (t : TabR) : (tabL nl t ++ [x, y]).take 2 = tabL nl t := rfl
set_option maxHeartbeats 16000000 in
theorem rkey_ok (E : Env) (h81 : E.G 81 = nxtC) (h257 : E.G 257 = fitC) (h258 : E.G 258 = getC) (h259 : E.G 259 = putCn) (h260 : E.G 260 = raddCn) : ∀ ds, rrotKC.pre ds → ds.length = f_custodyref35_Key.n ∧ awp E f_custodyref35_Key.body (retQ f_custodyref35_Key.res (rrotKC.post ds)) (initSt f_custodyref35_Key.wr ds) := by
  rintro _ ⟨na, nb, nc, nl, p, t, s, now, i, hp, ⟨hv, ha⟩, hs, rfl⟩
  rw [rrot_post]
  have c1 := fit_pre (na := na) (nb := nb) (nc := nc) (nl := nl) now i hp ⟨hv, ha⟩
  have c2 := fit_post na nb nc nl p t now i
  by_cases hf : fitK p t.keys now i = 0
  · obtain ⟨k, g⟩ := rotG (p := p) s hv hf
    rw [hf] at c2
    have e1 := get_pre (nl := nl) (t := t) i (tVal_ok hv).1
    have e3 := get_post nl t i
    rw [g.got, getA] at e3
    have n1 := nxt_pre hs
    obtain ⟨l1, l2, l3, _⟩ := life_rng (p := p) g.ok g.live g.now0 g.now1
    obtain ⟨r1, r2, r3, r4, r5, r6, r7⟩ := okK_rng g.ok
    have hko := ha.2.2 k (getK_mem g.got)
    have q1 := put_pre (some false) (nl := nl) (t := t) (tVal_ok hv).1 (kOk_old hko)
    have q2 := put_post (some false) nl t (oldK k)
    rw [put_old hv g.got] at q2
    have w1 := radd_pre none (nl := some false) (t := ⟨t.next, setO t.keys i k⟩) (k := freshK p s now i k) (tOk_old hv g.got) ha.2.1 (kOk_fresh g hko)
    have w2 := radd_post none (some false) ⟨t.next, setO t.keys i k⟩ (freshK p s now i k)
    rw [add_fresh g] at w2
    have hm : maxT = 1099511627776 := rfl
    have htn : topN = 2147483647 := rfl
    have hh := g.has
    have hty : 0 ≤ k.ty ∧ k.ty < p.types.length := by
      simp only [hasP, Bool.and_eq_true] at hh
      simpa [hasTy] using hh.1
    have f2 := typsL_f2 (l := p.types) (i := k.ty.toNat) (by omega)
    have e2 : (tyAt p k.ty).life = (p.types.getD k.ty.toNat ⟨[], 0, 0⟩).life := rfl
    rw [← e2] at f2
    have hlf : lifeK p k now = if 0 < (tyAt p k.ty).life then min (min (k.fin - k.beg) (maxT - now)) (tyAt p k.ty).life else min (k.fin - k.beg) (maxT - now) := rfl
    generalize (tyAt p k.ty).life = L at *
    have g0 := g.now0
    have g1 := g.now1
    have gv := g.ver
    have hr1 : awp E f_custodyref35_Key_r1 (retQ [.cell 10 (some 6) 10] (.agg (tabL none (rotK p t s now i).t ++ [st (rotK p t s now i).s, i64 (rotK p t s now i).id, .sl .plain none 0 [], i64 (rotK p t s now i).e])))
        ⟨[(0, .agg (polL na nb nc p)), (1, .agg (tabL nl t)), (2, .agg [st s]), (3, i64 now), (4, i64 i)],
         [(6, .bp 6 0), (10, .bp 10 0), (12, .bp 12 0), (14, st (drv s valL [])), (15, .bp 15 0), (16, i64 (lifeK p k now))],
         [(5, some (polL na nb nc p)), (6, some (tabL nl t)), (7, some [st s]), (10, some [i64 0, .sl (.own 9) none 0 [], st [], i64 0, .sl (.own 1) none 0 [], i64 0]), (12, some (keyL k)), (15, some [st (drv s seedL [])])]⟩ := by
      have fr : [i64 0, i64 k.ty, st (drv s valL []), i64 k.uses, i64 now, i64 (now + lifeK p k now), i64 (k.ver + 1), i64 i, bo false] = keyL (freshK p s now i k) := rfl
      have fo : splice (keyL k) 3 [i64 (andI k.uses 176)] = keyL (oldK k) := rfl
      simp only [tabA, if_true] at q2
      rw [rotK, if_pos hf]
      by_cases hc : t.keys.length < 4096 ∧ t.next < topN
      · rw [if_pos hc] at w2 ⊢
        simp only [if_true] at w2
        rw [f_custodyref35_Key_r1]
        simp (maxSteps := 1000000) (disch := first | omega | (simp; done) | (simp; omega)) [W_id, bys_app, bys_snoc, h259, h260, q1, q2, w1, w2, kT, kF, dT, dF, fr, fo, spl_99, spl_9, spl_tt, spl_t2, spl_ta, ta_3, ta_2, ta_t]
        rw [f_custodyref35_Key_r2]
        simp (maxSteps := 1000000) (disch := first | omega | (simp; done) | (simp; omega)) [W_id, bys_app, bys_snoc, kT, kF, dT, dF, spl_tt, spl_t2, spl_ta, ta_3, ta_2, ta_t]
        exact ⟨ta_cell _ _ _ _, ⟨rfl, six_cell _ _ _ _ _⟩, Nat.le_refl 6, rfl⟩
      · rw [if_neg hc] at w2 ⊢
        simp only [] at w2
        rw [f_custodyref35_Key_r1]
        simp (maxSteps := 1000000) (disch := first | omega | (simp; done) | (simp; omega)) [W_id, bys_app, bys_snoc, h259, h260, q1, q2, w1, w2, kT, kF, dT, dF, fr, fo, spl_99, spl_9, spl_tt, spl_t2, spl_ta, ta_3, ta_2, ta_t]
        exact ⟨ta_cell _ _ _ _, Nat.le_refl 6, rfl⟩
    by_cases hb : 0 < L
    · rw [if_pos hb, hm] at hlf
      simp (maxSteps := 1000000) (disch := first | omega | (simp; done) | (simp; omega)) [W_id, bys_app, bys_snoc, f_custodyref35_Key, h257, c1, c2, kT, kF, dT, dF, key0_R, spl_k, spl_9]
      rw [f_custodyref35_Key_r0]
      simp (maxSteps := 1000000) (disch := first | omega | (simp; done) | (simp; omega)) [W_id, bys_app, bys_snoc, h258, h81, e1, e3, n1, f2, hb, kT, kF, dT, dF, ↓eff_minW, minW_i64, min_if, hlf.symm, key0_R, spl_k, spl_9, spl_11]
      exact ⟨hty, by omega, by omega, hr1⟩
    · rw [if_neg hb, hm] at hlf
      simp (maxSteps := 1000000) (disch := first | omega | (simp; done) | (simp; omega)) [W_id, bys_app, bys_snoc, f_custodyref35_Key, h257, c1, c2, kT, kF, dT, dF, key0_R, spl_k, spl_9]
      rw [f_custodyref35_Key_r0]
      simp (maxSteps := 1000000) (disch := first | omega | (simp; done) | (simp; omega)) [W_id, bys_app, bys_snoc, h258, h81, e1, e3, n1, f2, hb, kT, kF, dT, dF, ↓eff_minW, minW_i64, min_if, hlf.symm, key0_R, spl_k, spl_9, spl_11]
      exact ⟨hty, by omega, by omega, hr1⟩
  · have e : rotK p t s now i = ⟨⟨0, []⟩, [], 0, fitK p t.keys now i⟩ := by rw [rotK, if_neg hf]
    rw [e]
    have hb : (fitK p t.keys now i == 0) = false := beq_false_of_ne hf
    generalize fitK p t.keys now i = f at *
    simp (maxSteps := 1000000) (disch := first | omega | (simp; done) | (simp; omega)) [W_id, bys_app, bys_snoc, f_custodyref35_Key, h257, c1, c2, kT, kF, dT, dF, hb, key0_R, spl_k, spl_9, tab0_L]
    exact ⟨Nat.le_refl 6, rfl⟩
end Go.Abs
end

section
namespace Go.Abs
set_option maxRecDepth 100000
def gInts (d : AVal) : List Int := (gCs d).map asI
@[simp] theorem gInts_L (m : Mode) (nl : Option Bool) (n : Nat) (l : List Int) : gInts (.sl m nl n (intsL l)) = l := by
  have h : ∀ l : List Int, (intsL l).map asI = l := fun l => by
    induction l with
    | nil => rfl
    | cons a l ih => rw [show intsL (a :: l) = i64 a :: intsL l from rfl, List.map_cons, ih]; rfl
  exact h l
def gNl (d : AVal) : Option Bool := match d with | .agg [_, .sl _ nl _ _] => nl | _ => none
def allA (n' : Option Bool) (o : AllO) : AVal := .tup [.agg (tabL n' o.t), .agg [st o.s], .sl .plain none o.m.length (intsL o.m), i64 o.e]
def allC : Contract := ⟨fun ds => ∃ (na nb nc nl ni : Option Bool) (p : PolR) (t : TabR) (s : List UInt8) (now : Int) (ids : List Int), polOk p ∧ tGood t ∧ s.length < 1000000000 ∧ ids.length ≤ 1000 ∧ ds = [.agg (polL na nb nc p), .agg (tabL nl t), .agg [st s], i64 now, .sl .plain ni ids.length (intsL ids)],
  fun ds => allA (if gInts (nth ds 4) = [] then gNl (nth ds 1) else none) (allK (gPol (gCs (nth ds 0))) (asI (nth ds 3)) (gInts (nth ds 4)) (gTab (gCs (nth ds 1))) (gSd (nth ds 2)) [])⟩
theorem all_pre {na nb nc nl ni : Option Bool} {p : PolR} {t : TabR} {s : List UInt8} (now : Int) {ids : List Int} (hp : polOk p) (h : tGood t) (hs : s.length < 1000000000) (hi : ids.length ≤ 1000) : allC.pre [.agg (polL na nb nc p), .agg (tabL nl t), .agg [st s], i64 now, .sl .plain ni ids.length (intsL ids)] = True := eq_true ⟨na, nb, nc, nl, ni, p, t, s, now, ids, hp, h, hs, hi, rfl⟩
theorem all_post (na nb nc nl ni : Option Bool) (p : PolR) (t : TabR) (s : List UInt8) (now : Int) (ids : List Int) (n : Nat) : allC.post [.agg (polL na nb nc p), .agg (tabL nl t), .agg [st s], i64 now, .sl .plain ni n (intsL ids)] = allA (if ids = [] then nl else none) (allK p now ids t s []) := by
  show allA (if gInts (.sl .plain ni n (intsL ids)) = [] then gNl (.agg (tabL nl t)) else none) (allK (gPol (polL na nb nc p)) now (gInts (.sl .plain ni n (intsL ids))) (gTab (tabL nl t)) (gSd (.agg [st s])) []) = _
  rw [gPol_polL, gTab_tabL, gSd_st, gInts_L]; rfl
structure AllS where
  n : Nat
  nl : Option Bool
  t : TabR
  s : List UInt8
  m : List Int
set_option maxHeartbeats 16000000 in
theorem all_ok (E : Env) (h229 : E.G 229 = rotKC) : ∀ ds, allC.pre ds → ds.length = f_rotate_All.n ∧ awp E f_rotate_All.body (retQ f_rotate_All.res (allC.post ds)) (initSt f_rotate_All.wr ds) := by
  rintro _ ⟨na, nb, nc, nl, ni, p, t, s, now, ids, hp, hg, hs, hi, rfl⟩
  rw [all_post]
  simp (maxSteps := 1000000) (disch := first | omega | (simp; done) | (simp; omega)) [W_id, bys_app, bys_snoc, f_rotate_All, kT, kF, dT, dF]
  refine awp_name fun Q0 hQ0 => ?_
  refine awp_for (fun a : AllS => ⟨[(0, .agg (polL na nb nc p)), (1, .agg (tabL nl t)), (2, .agg [st s]), (3, i64 now), (4, .sl .plain ni ids.length (intsL ids))],
    [(5, .bp 5 0), (6, .bp 6 0), (7, .bp 7 0), (10, .bp 10 0), (11, .bp 11 0), (14, .sl (.own 1) none a.m.length (intsL a.m)), (21, .sl .plain ni ids.length (intsL ids)), (22, i64 ids.length), (23, i64 a.n)],
    [(5, some (polL na nb nc p)), (6, some (tabL a.nl a.t)), (7, some [st a.s]), (10, some [i64 0, .sl (.own 9) none 0 []]), (11, some [st []])]⟩)
    (fun a => ids.length - a.n) (fun a => a.n ≤ ids.length ∧ a.m.length = a.n ∧ tGood a.t ∧ a.s.length < 1000000000 ∧ a.nl = (if a.n = 0 then nl else none) ∧ allK p now ids t s [] = allK p now (ids.drop a.n) a.t a.s a.m) ⟨0, nl, t, s, []⟩ (by simp) ⟨Nat.zero_le _, rfl, hg, hs, rfl, rfl⟩ fun a ha => ?_
  obtain ⟨n, n', u, v, m⟩ := a
  obtain ⟨h1, h2, h3, h4, h5, h6⟩ := ha
  simp only at h1 h2 h3 h4 h5 h6 ⊢
  rw [h6] at hQ0
  by_cases h : n < ids.length
  · have lt : (n : Int) < ids.length := by omega
    have hne : ¬ ids = [] := by intro he; rw [he] at h; simp at h
    rw [if_neg hne] at hQ0
    have ka := intsL_gd h
    have kd : ids.drop n = ids.getD n 0 :: ids.drop (n + 1) := by rw [List.drop_eq_getElem_cons h, List.getD, List.getElem?_eq_getElem h]; rfl
    rw [kd, allK] at hQ0 h6
    generalize ids.getD n 0 = i at *
    have c1 := rot_pre (na := na) (nb := nb) (nc := nc) (nl := n') now i hp h3 h4
    have c2 := rot_post na nb nc n' p u v now i
    have hgood := rot_good (p := p) (s := v) (now := now) (i := i) h3
    generalize rotK p u v now i = r at *
    by_cases he : r.e = 0
    · rw [if_pos he] at hQ0 h6
      rw [he] at c2
      obtain ⟨g1, g2⟩ := hgood he
      simp (maxSteps := 1000000) (disch := first | omega | (simp; done) | (simp; omega)) [W_id, bys_app, bys_snoc, f_rotate_All_l0, f_rotate_All_r0, lt, kT, kF, dT, dF, ka, h229, c1, c2, spl_t2, spl_11, spl_22]
      rw [f_rotate_All_r1]
      simp (maxSteps := 1000000) (disch := first | omega | (simp; done) | (simp; omega)) [W_id, bys_app, bys_snoc, kT, kF, dT, dF, spl_tt, spl_t2, spl_11, intsL_snoc]
      exact ⟨by omega, ⟨by omega, by omega⟩, ⟨n + 1, none, r.t, r.s, m ++ [r.id]⟩, by show ids.length - (n + 1) < _; omega, ⟨by show n + 1 ≤ _; omega, by simp [h2], g1, by show r.s.length < _; omega, by simp, h6⟩, ⟨⟨by simp, rfl⟩, by show (n : Int) + 1 = ((n + 1 : Nat) : Int); omega⟩, rfl, rfl⟩
    · rw [if_neg he] at hQ0
      have hb : (r.e == 0) = false := beq_false_of_ne he
      simp (maxSteps := 1000000) (disch := first | omega | (simp; done) | (simp; omega)) [W_id, bys_app, bys_snoc, f_rotate_All_l0, f_rotate_All_r0, lt, kT, kF, dT, dF, ka, h229, c1, c2, spl_t2, spl_11, hb, spl_22, tab0_L, hQ0, allA]
      omega
  · have lt : ¬ (n : Int) < ids.length := by omega
    rw [List.drop_eq_nil_of_le (by omega), allK] at hQ0
    have e : n' = if ids = [] then nl else none := by
      rw [h5]
      by_cases h0 : n = 0
      · rw [if_pos h0, if_pos (List.length_eq_zero_iff.1 (by omega))]
      · rw [if_neg h0, if_neg (fun h' => h0 (by rw [h'] at h1; simpa using h1))]
    rw [← e] at hQ0
    simp (maxSteps := 1000000) (disch := first | omega | (simp; done) | (simp; omega)) [W_id, bys_app, bys_snoc, f_rotate_All_l0, f_rotate_All_r2, lt, kT, kF, dT, dF, spl_t2, spl_11, hQ0, allA]
    skip
end Go.Abs
end

section
namespace Go.Abs
set_option maxRecDepth 100000
def maxWv (x y : AVal) : AVal := match x, y with | .lit (.int k a), .lit (.int _ b) => .lit (.int k (if b > a then b else a)) | _, _ => .undef
theorem eff_maxWv (E : Env) (get : Nat → AVal) (getB : Nat → Option (List AVal)) (x y : Arg) : eff E get getB (.max2 x y) = { val := maxWv (arg E get x) (arg E get y) } := rfl
theorem maxWv_i64 (a b : Int) : maxWv (i64 a) (i64 b) = i64 (if b > a then b else a) := rfl
theorem max_if (a b : Int) : (if b > a then b else a) = max a b := by split <;> omega
def dueC : Contract := ⟨fun ds => ∃ (na nb nc nl : Option Bool) (p : PolR) (t : TabR) (now ahead : Int), polOk p ∧ tGood t ∧ ds = [.agg (polL na nb nc p), .agg (tabL nl t), i64 now, i64 ahead],
  fun ds => let l := dueK (gPol (gCs (nth ds 0))) (gTab (gCs (nth ds 1))).keys (asI (nth ds 2)) (asI (nth ds 3)); .sl (.own 1) none l.length (intsL l)⟩
theorem due_pre {na nb nc nl : Option Bool} {p : PolR} {t : TabR} (now ahead : Int) (hp : polOk p) (h : tGood t) : dueC.pre [.agg (polL na nb nc p), .agg (tabL nl t), i64 now, i64 ahead] = True := eq_true ⟨na, nb, nc, nl, p, t, now, ahead, hp, h, rfl⟩
theorem due_post (na nb nc nl : Option Bool) (p : PolR) (t : TabR) (now ahead : Int) : dueC.post [.agg (polL na nb nc p), .agg (tabL nl t), i64 now, i64 ahead] = .sl (.own 1) none (dueK p t.keys now ahead).length (intsL (dueK p t.keys now ahead)) := by
  show (let l := dueK (gPol (polL na nb nc p)) (gTab (tabL nl t)).keys now ahead; AVal.sl (.own 1) none l.length (intsL l)) = _
  rw [gPol_polL, gTab_tabL]
set_option maxHeartbeats 16000000 in
theorem due_ok (E : Env) (h233 : E.G 233 = succC) (h239 : E.G 239 = liveC) (h240 : E.G 240 = hasC) : ∀ ds, dueC.pre ds → ds.length = f_rotate_Due.n ∧ awp E f_rotate_Due.body (retQ f_rotate_Due.res (dueC.post ds)) (initSt f_rotate_Due.wr ds) := by
  rintro _ ⟨na, nb, nc, nl, p, t, now, ahead, hp, hg, rfl⟩
  rw [due_post]
  obtain ⟨hv, ha⟩ := hg
  obtain ⟨tk, hl, _, hk⟩ := tVal_ok hv
  have hm : maxT = 1099511627776 := rfl
  by_cases c1 : min now ahead < 0
  · have e : dueK p t.keys now ahead = [] := by rw [dueK, if_neg (by omega)]
    rw [e]
    simp (maxSteps := 1000000) (disch := first | omega | (simp; done) | (simp; omega)) [W_id, bys_app, bys_snoc, f_rotate_Due, ↓eff_minW, minW_i64, min_if, ↓eff_maxWv, maxWv_i64, max_if, c1, kT, kF, dT, dF]
    skip
  by_cases c2 : 1099511627776 < max now ahead
  · have e : dueK p t.keys now ahead = [] := by rw [dueK, if_neg (by omega)]
    rw [e]
    simp (maxSteps := 1000000) (disch := first | omega | (simp; done) | (simp; omega)) [W_id, bys_app, bys_snoc, f_rotate_Due, ↓eff_minW, minW_i64, min_if, ↓eff_maxWv, maxWv_i64, max_if, c1, c2, kT, kF, dT, dF]
    skip
  · have e : dueK p t.keys now ahead = dueL p t.keys now ahead t.keys.length := by rw [dueK, if_pos (by omega)]
    rw [e]
    have b0 : 0 ≤ now ∧ 0 ≤ ahead ∧ now ≤ 1099511627776 ∧ ahead ≤ 1099511627776 := by omega
    obtain ⟨b1, b2, b3, b4⟩ := b0
    simp (maxSteps := 1000000) (disch := first | omega | (simp; done) | (simp; omega)) [W_id, bys_app, bys_snoc, f_rotate_Due, f_rotate_Due_r0, ↓eff_minW, minW_i64, min_if, ↓eff_maxWv, maxWv_i64, max_if, c1, c2, kT, kF, dT, dF]
    refine awp_name fun Q0 hQ0 => ?_
    refine awp_for (fun n : Nat => ⟨[(0, .agg (polL na nb nc p)), (1, .agg (tabL nl t)), (2, i64 now), (3, i64 ahead)], [(4, .bp 4 0), (5, .bp 5 0), (9, .sl (.own 1) none (dueL p t.keys now ahead n).length (intsL (dueL p t.keys now ahead n))), (25, .sl .plain nl t.keys.length (keysL t.keys)), (26, i64 t.keys.length), (27, i64 n)], [(4, some (polL na nb nc p)), (5, some (tabL nl t))]⟩) (fun n => t.keys.length - n) (fun n => n ≤ t.keys.length) 0 (by simp [dueL]) (by omega) fun n hn => ?_
    by_cases h : n < t.keys.length
    · have lt : (n : Int) < t.keys.length := by omega
      have ka := keysL_at h
      have dt := dueL_T (p := p) (now := now) (ahead := ahead) h
      have df := dueL_F (p := p) (now := now) (ahead := ahead) h
      have hle := dueL_le p t.keys now ahead n
      have hko := ha.2.2 _ (keyAt_mem h)
      generalize keyAt t.keys n = k at *
      have s1 := succ_pre (nl := nl) (t := t) k.id hv
      have s2 := succ_post nl t k.id
      have l1 := live_pre now hko
      have l2 := live_post k now
      have m1 := has_pre (na := na) (nb := nb) (nc := nc) (f := 1) hp hko.2.1 ⟨by omega, by omega⟩
      obtain ⟨_, _, _, _, _, ⟨f1, f2⟩, _⟩ := hko
      generalize hD : dueL p t.keys now ahead n = D at *
      rw [dueF] at dt df
      cases hn1 : nxtK t.keys k.id with
      | some j =>
        have df := df (by simp [hn1])
        rw [hn1, nxtA] at s2
        simp (maxSteps := 1000000) (disch := first | omega | (simp; done) | (simp; omega)) [W_id, bys_app, bys_snoc, f_rotate_Due_l0, f_rotate_Due_r1, lt, h233, h239, h240, s1, s2, l1, l2, m1, kT, kF, dT, dF, spl_9, ka, df]
        exact ⟨by omega, n + 1, by omega, by omega, by rw [df]; exact ⟨rfl, rfl⟩, by omega⟩
      | none =>
        rw [hn1, nxtA] at s2
        cases hn2 : liveK k now with
        | false =>
          have df := df (by simp [hn2])
          simp (maxSteps := 1000000) (disch := first | omega | (simp; done) | (simp; omega)) [W_id, bys_app, bys_snoc, f_rotate_Due_l0, f_rotate_Due_r1, lt, h233, h239, h240, s1, s2, l1, l2, m1, kT, kF, dT, dF, spl_9, ka, hn2, df]
          exact ⟨by omega, n + 1, by omega, by omega, by rw [df]; exact ⟨rfl, rfl⟩, by omega⟩
        | true =>
          cases hn3 : hasP p k.ty 1 with
          | false =>
            have df := df (by simp [hn3])
            simp (maxSteps := 1000000) (disch := first | omega | (simp; done) | (simp; omega)) [W_id, bys_app, bys_snoc, f_rotate_Due_l0, f_rotate_Due_r1, lt, h233, h239, h240, s1, s2, l1, l2, m1, kT, kF, dT, dF, spl_9, ka, hn2, hn3, df]
            exact ⟨by omega, n + 1, by omega, by omega, by rw [df]; exact ⟨rfl, rfl⟩, by omega⟩
          | true =>
            by_cases hn4 : k.fin ≤ now + ahead
            · have dt := dt (by simp [hn1, hn2, hn3, hn4])
              simp (maxSteps := 1000000) (disch := first | omega | (simp; done) | (simp; omega)) [W_id, bys_app, bys_snoc, f_rotate_Due_l0, f_rotate_Due_r1, lt, h233, h239, h240, s1, s2, l1, l2, m1, kT, kF, dT, dF, spl_9, ka, hn2, hn3, hn4, intsL_snoc]
              exact ⟨by omega, ⟨by omega, by omega⟩, n + 1, by omega, by omega, by rw [dt]; exact ⟨by simp, rfl⟩, by omega⟩
            · have df := df (by simp [hn4])
              simp (maxSteps := 1000000) (disch := first | omega | (simp; done) | (simp; omega)) [W_id, bys_app, bys_snoc, f_rotate_Due_l0, f_rotate_Due_r1, lt, h233, h239, h240, s1, s2, l1, l2, m1, kT, kF, dT, dF, spl_9, ka, hn2, hn3, hn4, df]
              exact ⟨by omega, n + 1, by omega, by omega, by rw [df]; exact ⟨rfl, rfl⟩, by omega⟩
    · have lt : ¬ (n : Int) < t.keys.length := by omega
      have e : n = t.keys.length := by omega
      subst e
      simp (maxSteps := 1000000) (disch := first | omega | (simp; done) | (simp; omega)) [W_id, bys_app, bys_snoc, f_rotate_Due_l0, f_rotate_Due_r2, lt, kT, kF, dT, dF, hQ0]
      skip
end Go.Abs
end
