/- Lemmas: an abstract interpreter, and what the functions compute. -/
import Derived.Test.YtigghpdomoedhaaDoorL
import Derived.Test.YtigghpdomoedhaaDoorT
import Derived.Test.YtigghpdomoedhaaDoorM
import Derived.Test.YtigghpdomoedhaaDoorN
set_option linter.unusedSimpArgs false
set_option linter.unusedVariables false
set_option linter.unusedSectionVars false
section
namespace Go.Abs
set_option maxRecDepth 100000
def bLen (n : Nat) : Prop := n ≤ 9223372036854775807
def tAll (t : TabR) : Prop := bLen t.keys.length ∧ isI64 t.next ∧ ∀ k ∈ t.keys, kOk k
def valTC : Contract := ⟨fun ds => ∃ (nl : Option Bool) (t : TabR), tAll t ∧ ds = [.agg (tabL nl t)], fun ds => bo (okT (gTab (gCs (nth ds 0))))⟩
theorem valT_pre {nl : Option Bool} {t : TabR} (h : tAll t) : valTC.pre [.agg (tabL nl t)] = True := eq_true ⟨nl, t, h, rfl⟩
@[simp] theorem valT_post (nl : Option Bool) (t : TabR) : valTC.post [.agg (tabL nl t)] = bo (okT t) := by
  show bo (okT (gTab (tabL nl t))) = _
  rw [gTab_tabL]
def lastK (l : List KeyR) (n : Nat) : Int := if n = 0 then 0 else (keyAt l (n - 1)).id
set_option maxHeartbeats 8000000 in
theorem valT_ok (E : Env) (h272 : E.G 272 = withC) (h273 : E.G 273 = okKC) : ∀ ds, valTC.pre ds → ds.length = f_custodyref27_ValidTable.n ∧ awp E f_custodyref27_ValidTable.body (retQ f_custodyref27_ValidTable.res (valTC.post ds)) (initSt f_custodyref27_ValidTable.wr ds) := by
  rintro _ ⟨nl, t, ⟨hl, hi, hk⟩, rfl⟩
  rw [valT_post, okT]
  have hlen : t.keys.length ≤ 9223372036854775807 := hl
  by_cases h1 : t.keys.length ≤ 4096
  · have h1' : ¬ (4096 : Int) < t.keys.length := by omega
    cases h2 : inB t.next 1 2147483647 with
    | false =>
      have e2 : decide (1 ≤ t.next ∧ t.next ≤ topN) = false := by
        rw [← h2, inB, Bool.decide_and]; rfl
      rw [e2]
      simp (maxSteps := 1000000) (disch := first | omega | (simp; done) | (simp; omega)) [W_id, bys_app, bys_snoc, f_custodyref27_ValidTable, h272, h1, h1', h2, kT, kF, dT, dF]
    | true =>
      have e2 : decide (1 ≤ t.next ∧ t.next ≤ topN) = true := by
        rw [← h2, inB, Bool.decide_and]; rfl
      rw [e2, decide_eq_true h1]
      simp (maxSteps := 1000000) (disch := first | omega | (simp; done) | (simp; omega)) [W_id, bys_app, bys_snoc, f_custodyref27_ValidTable, f_custodyref27_ValidTable_r0, h272, h1, h1', h2, kT, kF, dT, dF]
      refine awp_name fun Q0 hQ0 => ?_
      refine awp_for (fun n : Nat => ⟨[(0, .agg (tabL nl t))], [(1, .bp 1 0), (3, i64 (lastK t.keys n)), (4, i64 n)], [(1, some (tabL nl t))]⟩) (fun n => t.keys.length - n) (fun n => n ≤ t.keys.length ∧ okL t.next 0 t.keys = okL t.next (lastK t.keys n) (t.keys.drop n)) 0 (by simp [lastK]) ⟨by omega, by simp [lastK]⟩ fun n hn => ?_
      obtain ⟨hn, ho⟩ := hn
      rw [ho] at hQ0
      by_cases h : n < t.keys.length
      · have lt : (n : Int) < t.keys.length := by omega
        have ka := keysL_at h
        have kd : t.keys.drop n = keyAt t.keys n :: t.keys.drop (n + 1) := by rw [List.drop_eq_getElem_cons h, keyAt_eq h]
        have kl : lastK t.keys (n + 1) = (keyAt t.keys n).id := by simp [lastK]
        have hko := hk _ (keyAt_mem h)
        rw [kd, okL] at ho hQ0
        have e1 := okK_pre hko
        have e3 := okK_post (keyAt t.keys n)
        generalize keyAt t.keys n = k at *
        generalize lastK t.keys n = la at *
        cases b1 : okK k with
        | false =>
          rw [b1] at e3 hQ0
          simp (maxSteps := 1000000) (disch := first | omega | (simp; done) | (simp; omega)) [W_id, bys_app, bys_snoc, f_custodyref27_ValidTable_l0, f_custodyref27_ValidTable_r1, h273, lt, kT, kF, dT, dF, ka, spl_9, e1, e3, hQ0]
          omega
        | true =>
          rw [b1] at e3 hQ0 ho
          by_cases b2 : la < k.id
          · by_cases b3 : k.id < t.next
            · by_cases b4 : k.par < t.next
              · simp only [b2, b3, b4, decide_true, Bool.true_and] at hQ0 ho
                simp (maxSteps := 1000000) (disch := first | omega | (simp; done) | (simp; omega)) [W_id, bys_app, bys_snoc, f_custodyref27_ValidTable_l0, f_custodyref27_ValidTable_r1, h273, lt, kT, kF, dT, dF, ka, spl_9, e1, e3, hQ0, b2, b3, b4]
                exact ⟨by omega, n + 1, by omega, ⟨by omega, by rw [kl]; exact ho⟩, kl.symm, by omega⟩
              · simp only [b4, decide_false, Bool.and_false, Bool.false_and] at hQ0
                simp (maxSteps := 1000000) (disch := first | omega | (simp; done) | (simp; omega)) [W_id, bys_app, bys_snoc, f_custodyref27_ValidTable_l0, f_custodyref27_ValidTable_r1, h273, lt, kT, kF, dT, dF, ka, spl_9, e1, e3, hQ0, b2, b3, b4]
                omega
            · simp only [b3, decide_false, Bool.and_false, Bool.false_and] at hQ0
              simp (maxSteps := 1000000) (disch := first | omega | (simp; done) | (simp; omega)) [W_id, bys_app, bys_snoc, f_custodyref27_ValidTable_l0, f_custodyref27_ValidTable_r1, h273, lt, kT, kF, dT, dF, ka, spl_9, e1, e3, hQ0, b2, b3]
              omega
          · simp only [b2, decide_false, Bool.and_false, Bool.false_and] at hQ0
            simp (maxSteps := 1000000) (disch := first | omega | (simp; done) | (simp; omega)) [W_id, bys_app, bys_snoc, f_custodyref27_ValidTable_l0, f_custodyref27_ValidTable_r1, h273, lt, kT, kF, dT, dF, ka, spl_9, e1, e3, hQ0, b2]
            omega
      · have lt : ¬ (n : Int) < t.keys.length := by omega
        rw [List.drop_eq_nil_of_le (by omega), okL] at hQ0
        simp (maxSteps := 1000000) (disch := first | omega | (simp; done) | (simp; omega)) [W_id, bys_app, bys_snoc, f_custodyref27_ValidTable_l0, f_custodyref27_ValidTable_r2, lt, kT, kF, dT, dF, hQ0]
        skip
  · have h1' : (4096 : Int) < t.keys.length := by omega
    rw [decide_eq_false h1]
    simp (maxSteps := 1000000) (disch := first | omega | (simp; done) | (simp; omega)) [W_id, bys_app, bys_snoc, f_custodyref27_ValidTable, h1, h1', kT, kF, dT, dF]
end Go.Abs
end

section
namespace Go.Abs
set_option maxRecDepth 100000
def samTC : Contract := ⟨fun ds => ∃ (na nb : Option Bool) (t : TabR), kLen t.keys ∧ ds = [.agg (tabL na t), .agg (tabL nb t)], fun _ => bo true⟩
theorem samT_pre {na nb : Option Bool} {t : TabR} (h : kLen t.keys) : samTC.pre [.agg (tabL na t), .agg (tabL nb t)] = True := eq_true ⟨na, nb, t, h, rfl⟩
@[simp] theorem samT_post (ds : List AVal) : samTC.post ds = bo true := rfl
def ksK : List LK := [.int .i64, .int .i64, .str, .int .i64, .int .i64, .int .i64, .int .i64, .int .i64, .bool]
theorem eqK_self (k : KeyR) : eqCells ksK (keyL k) (keyL k) = true := by simp [ksK, keyL, eqCells, eqLK]
theorem okK_cells (k : KeyR) : okCells ksK (keyL k) := ⟨rfl, rfl, trivial, rfl, rfl, rfl, rfl, rfl, trivial, trivial⟩
set_option maxHeartbeats 8000000 in
theorem samT_ok (E : Env) : ∀ ds, samTC.pre ds → ds.length = f_custodyref27_Same.n ∧ awp E f_custodyref27_Same.body (retQ f_custodyref27_Same.res (samTC.post ds)) (initSt f_custodyref27_Same.wr ds) := by
  rintro _ ⟨na, nb, t, hl, rfl⟩
  rw [samT_post]
  have hlen : t.keys.length ≤ 100000000 := hl
  simp (maxSteps := 1000000) (disch := first | omega | (simp; done) | (simp; omega)) [W_id, bys_app, bys_snoc, f_custodyref27_Same, f_custodyref27_Same_r0, kT, kF, dT, dF]
  refine awp_name fun Q0 hQ0 => ?_
  refine awp_for (fun n : Nat => ⟨[(0, .agg (tabL na t)), (1, .agg (tabL nb t))], [(2, .bp 2 0), (3, .bp 3 0), (5, i64 n)], [(2, some (tabL na t)), (3, some (tabL nb t))]⟩) (fun n => t.keys.length - n) (fun n => n ≤ t.keys.length) 0 (by simp) (by omega) fun n hn => ?_
  by_cases h : n < t.keys.length
  · have lt : (n : Int) < t.keys.length := by omega
    have ka := keysL_at h
    generalize keyAt t.keys n = k at *
    have ek := eqK_self k
    have ok := okK_cells k
    unfold ksK at ek ok
    simp (maxSteps := 1000000) (disch := first | omega | (simp; done) | (simp; omega)) [W_id, bys_app, bys_snoc, f_custodyref27_Same_l0, f_custodyref27_Same_r1, lt, kT, kF, dT, dF, ka, ek, ok]
    exact ⟨by omega, n + 1, by omega, by omega, by omega⟩
  · have lt : ¬ (n : Int) < t.keys.length := by omega
    simp (maxSteps := 1000000) (disch := first | omega | (simp; done) | (simp; omega)) [W_id, bys_app, bys_snoc, f_custodyref27_Same_l0, f_custodyref27_Same_r2, lt, kT, kF, dT, dF, hQ0]
    skip
def samLC : Contract := ⟨fun ds => ∃ (na nb : Option Bool) (l : List Int), l.length ≤ 100000000 ∧ ds = [.sl .plain na l.length (intsL l), .sl .plain nb l.length (intsL l)], fun _ => bo true⟩
theorem samL_pre {na nb : Option Bool} {l : List Int} (h : l.length ≤ 100000000) : samLC.pre [.sl .plain na l.length (intsL l), .sl .plain nb l.length (intsL l)] = True := eq_true ⟨na, nb, l, h, rfl⟩
@[simp] theorem samL_post (ds : List AVal) : samLC.post ds = bo true := rfl
theorem intsL_gd {l : List Int} {n : Nat} (h : n < l.length) : hdA ((intsL l).drop n) = i64 (l.getD n 0) := by
  rw [List.drop_eq_getElem_cons (by simpa using h), List.getD, List.getElem?_eq_getElem h]
  simp [intsL, hdA]
set_option maxHeartbeats 8000000 in
theorem samL_ok (E : Env) : ∀ ds, samLC.pre ds → ds.length = f_custodyref14_Same.n ∧ awp E f_custodyref14_Same.body (retQ f_custodyref14_Same.res (samLC.post ds)) (initSt f_custodyref14_Same.wr ds) := by
  rintro _ ⟨na, nb, l, hl, rfl⟩
  rw [samL_post]
  simp (maxSteps := 1000000) (disch := first | omega | (simp; done) | (simp; omega)) [W_id, bys_app, bys_snoc, f_custodyref14_Same, f_custodyref14_Same_r0, kT, kF, dT, dF]
  refine awp_name fun Q0 hQ0 => ?_
  refine awp_for (fun n : Nat => ⟨[(0, .sl .plain na l.length (intsL l)), (1, .sl .plain nb l.length (intsL l))], [(5, i64 n)], []⟩) (fun n => l.length - n) (fun n => n ≤ l.length) 0 (by simp) (by omega) fun n hn => ?_
  by_cases h : n < l.length
  · have lt : (n : Int) < l.length := by omega
    have ka := intsL_gd h
    generalize l.getD n 0 = k at *
    simp (maxSteps := 1000000) (disch := first | omega | (simp; done) | (simp; omega)) [W_id, bys_app, bys_snoc, f_custodyref14_Same_l0, f_custodyref14_Same_r1, lt, kT, kF, dT, dF, ka]
    exact ⟨by omega, n + 1, by omega, by omega, by omega⟩
  · have lt : ¬ (n : Int) < l.length := by omega
    simp (maxSteps := 1000000) (disch := first | omega | (simp; done) | (simp; omega)) [W_id, bys_app, bys_snoc, f_custodyref14_Same_l0, f_custodyref14_Same_r2, lt, kT, kF, dT, dF, hQ0]
    skip
/-! ### Small policies -/
def fewP (p : PolR) : Bool := decide (p.types.length ≤ 40) && decide (p.rules.length ≤ 100) && decide (p.quos.length ≤ 40) && p.types.all fun t => decide (t.name.length ≤ 40)
def namOk (p : PolR) : Prop := ∀ t ∈ p.types, t.name.length ≤ 9223372036854775807
def polBig (p : PolR) : Prop := bLen p.types.length ∧ bLen p.rules.length ∧ bLen p.quos.length
def fewPC : Contract := ⟨fun ds => ∃ (na nb nc : Option Bool) (p : PolR), polBig p ∧ namOk p ∧ ds = [.agg (polL na nb nc p)], fun ds => bo (fewP (gPol (gCs (nth ds 0))))⟩
theorem fewP_pre {na nb nc : Option Bool} {p : PolR} (h : polBig p) (hn : namOk p) : fewPC.pre [.agg (polL na nb nc p)] = True := eq_true ⟨na, nb, nc, p, h, hn, rfl⟩
@[simp] theorem fewP_post (na nb nc : Option Bool) (p : PolR) : fewPC.post [.agg (polL na nb nc p)] = bo (fewP p) := by
  show bo (fewP (gPol (polL na nb nc p))) = _
  rw [gPol_polL]
theorem typsL_f0 {l : List TypR} {i : Nat} (h : i < l.length) : hdA ((typsL l).drop (i * 3)) = st (l.getD i ⟨[], 0, 0⟩).name := by
  rw [typsL, flat_drop (w := 3) (enc := typL) (fun _ => rfl), List.drop_eq_getElem_cons h, List.flatMap_cons, List.getD, List.getElem?_eq_getElem h]; rfl
set_option maxHeartbeats 8000000 in
theorem fewP_ok (E : Env) : ∀ ds, fewPC.pre ds → ds.length = f_custodyref14_Few.n ∧ awp E f_custodyref14_Few.body (retQ f_custodyref14_Few.res (fewPC.post ds)) (initSt f_custodyref14_Few.wr ds) := by
  rintro _ ⟨na, nb, nc, p, ⟨hp1, hp2, hp3⟩, hn, rfl⟩
  unfold bLen at hp1 hp2 hp3
  rw [fewP_post, fewP]
  by_cases h1 : p.types.length ≤ 40
  · have h1' : ¬ (40 : Int) < p.types.length := by omega
    by_cases h2 : p.rules.length ≤ 100
    · have h2' : ¬ (100 : Int) < p.rules.length := by omega
      by_cases h3 : p.quos.length ≤ 40
      · have h3' : ¬ (40 : Int) < p.quos.length := by omega
        rw [decide_eq_true h1, decide_eq_true h2, decide_eq_true h3]
        simp (maxSteps := 1000000) (disch := first | omega | (simp; done) | (simp; omega)) [W_id, bys_app, bys_snoc, f_custodyref14_Few, f_custodyref14_Few_r0, h1, h1', h2, h2', h3, h3', kT, kF, dT, dF]
        refine awp_name fun Q0 hQ0 => ?_
        refine awp_for (fun n : Nat => ⟨[(0, .agg (polL na nb nc p))], [(1, .bp 1 0), (3, i64 n)], [(1, some (polL na nb nc p))]⟩) (fun n => p.types.length - n) (fun n => n ≤ p.types.length ∧ (p.types.all fun t => decide (t.name.length ≤ 40)) = ((p.types.drop n).all fun t => decide (t.name.length ≤ 40))) 0 (by simp) ⟨by omega, by simp⟩ fun n hn' => ?_
        obtain ⟨hn', ha⟩ := hn'
        by_cases h : n < p.types.length
        · have lt : (n : Int) < p.types.length := by omega
          have f0 := typsL_f0 h
          have kd : p.types.drop n = p.types.getD n ⟨[], 0, 0⟩ :: p.types.drop (n + 1) := by rw [List.drop_eq_getElem_cons h, List.getD, List.getElem?_eq_getElem h]; rfl
          have hno := hn (p.types.getD n ⟨[], 0, 0⟩) (by rw [List.getD, List.getElem?_eq_getElem h]; exact List.getElem_mem h)
          rw [kd, List.all_cons] at ha
          generalize p.types.getD n ⟨[], 0, 0⟩ = ty at *
          by_cases c : ty.name.length ≤ 40
          · have c' : ¬ (40 : Int) < ty.name.length := by omega
            rw [decide_eq_true c, Bool.true_and] at ha
            simp (maxSteps := 1000000) (disch := first | omega | (simp; done) | (simp; omega)) [W_id, bys_app, bys_snoc, f_custodyref14_Few_l0, f_custodyref14_Few_r1, lt, kT, kF, dT, dF, f0, c']
            exact ⟨by omega, n + 1, by omega, ⟨by omega, ha⟩, by omega⟩
          · have c' : (40 : Int) < ty.name.length := by omega
            rw [decide_eq_false c, Bool.false_and] at ha
            simp (maxSteps := 1000000) (disch := first | omega | (simp; done) | (simp; omega)) [W_id, bys_app, bys_snoc, f_custodyref14_Few_l0, f_custodyref14_Few_r1, lt, kT, kF, dT, dF, f0, c', hQ0, ha]
            omega
        · have lt : ¬ (n : Int) < p.types.length := by omega
          rw [List.drop_eq_nil_of_le (by omega), List.all_nil] at ha
          simp (maxSteps := 1000000) (disch := first | omega | (simp; done) | (simp; omega)) [W_id, bys_app, bys_snoc, f_custodyref14_Few_l0, f_custodyref14_Few_r2, lt, kT, kF, dT, dF, hQ0, ha]
          skip
      · have h3' : (40 : Int) < p.quos.length := by omega
        rw [decide_eq_false h3]
        simp (maxSteps := 1000000) (disch := first | omega | (simp; done) | (simp; omega)) [W_id, bys_app, bys_snoc, f_custodyref14_Few, h1, h1', h2, h2', h3, h3', kT, kF, dT, dF]
    · have h2' : (100 : Int) < p.rules.length := by omega
      rw [decide_eq_false h2]
      simp (maxSteps := 1000000) (disch := first | omega | (simp; done) | (simp; omega)) [W_id, bys_app, bys_snoc, f_custodyref14_Few, h1, h1', h2, h2', kT, kF, dT, dF]
  · have h1' : (40 : Int) < p.types.length := by omega
    rw [decide_eq_false h1]
    simp (maxSteps := 1000000) (disch := first | omega | (simp; done) | (simp; omega)) [W_id, bys_app, bys_snoc, f_custodyref14_Few, h1, h1', kT, kF, dT, dF]
end Go.Abs
end

section
namespace Go.Abs
set_option maxRecDepth 100000
def tGood (t : TabR) : Prop := tVal t ∧ tAll t
def fitG (p : PolR) (l : List KeyR) (now i : Int) (k : KeyR) : Int :=
  if liveK k now = true then (if (nxtK l i).isSome = true then 12 else if hasP p k.ty 1 = true then (if subU k.uses (usesK p k.ty) = true then (if k.ver = topN then 2 else 0) else 10) else 10) else 13
def fitK (p : PolR) (l : List KeyR) (now i : Int) : Int :=
  if now < 0 then 1 else if now < maxT then (match getK l i with | none => 11 | some k => fitG p l now i k) else 1
def ckK (l : List KeyR) (now i : Int) : KeyR := if now < 0 then key0 else if now < maxT then (getK l i).getD key0 else key0
def fitC : Contract := ⟨fun ds => ∃ (na nb nc nl : Option Bool) (p : PolR) (t : TabR) (now i : Int), polOk p ∧ tGood t ∧ ds = [.agg (polL na nb nc p), .agg (tabL nl t), i64 now, i64 i],
  fun ds => i64 (fitK (gPol (gCs (nth ds 0))) (gTab (gCs (nth ds 1))).keys (asI (nth ds 2)) (asI (nth ds 3)))⟩
theorem fit_pre {na nb nc nl : Option Bool} {p : PolR} {t : TabR} (now i : Int) (hp : polOk p) (h : tGood t) : fitC.pre [.agg (polL na nb nc p), .agg (tabL nl t), i64 now, i64 i] = True := eq_true ⟨na, nb, nc, nl, p, t, now, i, hp, h, rfl⟩
theorem fit_post (na nb nc nl : Option Bool) (p : PolR) (t : TabR) (now i : Int) : fitC.post [.agg (polL na nb nc p), .agg (tabL nl t), i64 now, i64 i] = i64 (fitK p t.keys now i) := by
  show i64 (fitK (gPol (polL na nb nc p)) (gTab (tabL nl t)).keys now i) = _
  rw [gPol_polL, gTab_tabL]
def ckC : Contract := ⟨fitC.pre, fun ds => .tup [.agg (keyL (ckK (gTab (gCs (nth ds 1))).keys (asI (nth ds 2)) (asI (nth ds 3)))), i64 (fitK (gPol (gCs (nth ds 0))) (gTab (gCs (nth ds 1))).keys (asI (nth ds 2)) (asI (nth ds 3)))]⟩
theorem ck_pre {na nb nc nl : Option Bool} {p : PolR} {t : TabR} (now i : Int) (hp : polOk p) (h : tGood t) : ckC.pre [.agg (polL na nb nc p), .agg (tabL nl t), i64 now, i64 i] = True := eq_true ⟨na, nb, nc, nl, p, t, now, i, hp, h, rfl⟩
theorem ck_post (na nb nc nl : Option Bool) (p : PolR) (t : TabR) (now i : Int) : ckC.post [.agg (polL na nb nc p), .agg (tabL nl t), i64 now, i64 i] = .tup [.agg (keyL (ckK t.keys now i)), i64 (fitK p t.keys now i)] := by
  show AVal.tup [.agg (keyL (ckK (gTab (tabL nl t)).keys now i)), i64 (fitK (gPol (polL na nb nc p)) (gTab (tabL nl t)).keys now i)] = _
  rw [gPol_polL, gTab_tabL]
set_option maxHeartbeats 16000000 in
theorem check_ok (E : Env) (h230 : E.G 230 = getC) (h239 : E.G 239 = liveC) (h240 : E.G 240 = hasC) (h245 : E.G 245 = subUC) (h244 : E.G 244 = useC) (h233 : E.G 233 = succC) : ∀ ds, ckC.pre ds → ds.length = f_rotate_check.n ∧ awp E f_rotate_check.body (retQ f_rotate_check.res (ckC.post ds)) (initSt f_rotate_check.wr ds) := by
  rintro _ ⟨na, nb, nc, nl, p, t, now, i, hp, ⟨hv, ha⟩, rfl⟩
  rw [ck_post, ckK, fitK]
  obtain ⟨tk, hl, _, hk⟩ := tVal_ok hv
  by_cases h0 : now < 0
  · rw [if_pos h0, if_pos h0]
    simp (maxSteps := 1000000) (disch := first | omega | (simp; done) | (simp; omega)) [W_id, bys_app, bys_snoc, f_rotate_check, h0, kT, kF, dT, dF, key0_R, spl_k]
    skip
  by_cases h1 : now < maxT
  · have h1' : now < 1099511627776 := h1
    rw [if_neg h0, if_neg h0, if_pos h1, if_pos h1]
    have e1 := get_pre (nl := nl) (t := t) i tk
    have e2 := get_post nl t i
    have f1 := succ_pre (nl := nl) (t := t) i hv
    have f2 := succ_post nl t i
    cases hg : getK t.keys i with
    | none =>
      have hn : nxtK t.keys i = none := by rw [nxtK, hg]; rfl
      rw [hg, getA] at e2
      rw [hn, nxtA] at f2
      simp (maxSteps := 1000000) (disch := first | omega | (simp; done) | (simp; omega)) [W_id, bys_app, bys_snoc, f_rotate_check, f_rotate_check_r0, h230, h233, e1, e2, f1, f2, h0, h1', kT, kF, dT, dF, key0_R, spl_k, spl_9]
      skip
    | some k =>
      have hko := ha.2.2 k (getK_mem hg)
      rw [hg, getA] at e2
      have l1 := live_pre now hko
      have l2 := live_post k now
      have m1 := has_pre (na := na) (nb := nb) (nc := nc) (f := 1) hp hko.2.1 ⟨by omega, by omega⟩
      have u1 := use_pre (na := na) (nb := nb) (nc := nc) hp hko.2.1
      have s1 := subU_pre (b := usesK p k.ty) hko.2.2.2.1
      simp only [fitG, Option.getD_some]
      cases hli : liveK k now with
      | false =>
        cases hn : nxtK t.keys i with
        | none =>
          rw [hn, nxtA] at f2
          simp (maxSteps := 1000000) (disch := first | omega | (simp; done) | (simp; omega)) [W_id, bys_app, bys_snoc, f_rotate_check, f_rotate_check_r0, h230, h233, h239, e1, e2, f1, f2, l1, l2, hli, h0, h1', kT, kF, dT, dF, key0_R, spl_k, spl_9]
          skip
        | some j =>
          rw [hn, nxtA] at f2
          simp (maxSteps := 1000000) (disch := first | omega | (simp; done) | (simp; omega)) [W_id, bys_app, bys_snoc, f_rotate_check, f_rotate_check_r0, h230, h233, h239, e1, e2, f1, f2, l1, l2, hli, h0, h1', kT, kF, dT, dF, key0_R, spl_k, spl_9]
          skip
      | true =>
        cases hn : nxtK t.keys i with
        | some j =>
          rw [hn, nxtA] at f2
          simp (maxSteps := 1000000) (disch := first | omega | (simp; done) | (simp; omega)) [W_id, bys_app, bys_snoc, f_rotate_check, f_rotate_check_r0, h230, h233, h239, e1, e2, f1, f2, l1, l2, hli, h0, h1', kT, kF, dT, dF, key0_R, spl_k, spl_9]
          skip
        | none =>
          rw [hn, nxtA] at f2
          cases hh : hasP p k.ty 1 with
          | false =>
            simp (maxSteps := 1000000) (disch := first | omega | (simp; done) | (simp; omega)) [W_id, bys_app, bys_snoc, f_rotate_check, f_rotate_check_r0, h240, m1, hh, h230, h233, h239, e1, e2, f1, f2, l1, l2, hli, h0, h1', kT, kF, dT, dF, key0_R, spl_k, spl_9]
            skip
          | true =>
            cases hs : subU k.uses (usesK p k.ty) with
            | false =>
              simp (maxSteps := 1000000) (disch := first | omega | (simp; done) | (simp; omega)) [W_id, bys_app, bys_snoc, f_rotate_check, f_rotate_check_r0, h240, h244, h245, m1, u1, s1, hh, hs, h230, h233, h239, e1, e2, f1, f2, l1, l2, hli, h0, h1', kT, kF, dT, dF, key0_R, spl_k, spl_9]
              skip
            | true =>
              by_cases hv : k.ver = topN
              · have hv' : k.ver = 2147483647 := hv
                simp (maxSteps := 1000000) (disch := first | omega | (simp; done) | (simp; omega)) [W_id, bys_app, bys_snoc, f_rotate_check, f_rotate_check_r0, h240, h244, h245, m1, u1, s1, hh, hs, hv', topN, h230, h233, h239, e1, e2, f1, f2, l1, l2, hli, h0, h1', kT, kF, dT, dF, key0_R, spl_k, spl_9]
                skip
              · have hv' : (k.ver == 2147483647) = false := beq_false_of_ne hv
                simp (maxSteps := 1000000) (disch := first | omega | (simp; done) | (simp; omega)) [W_id, bys_app, bys_snoc, f_rotate_check, f_rotate_check_r0, f_rotate_check_r1, h240, h244, h245, m1, u1, s1, hh, hs, hv', hv, h230, h233, h239, e1, e2, f1, f2, l1, l2, hli, h0, h1', kT, kF, dT, dF, key0_R, spl_k, spl_9]
                skip
  · have h1' : ¬ now < 1099511627776 := h1
    rw [if_neg h0, if_neg h0, if_neg h1, if_neg h1]
    simp (maxSteps := 1000000) (disch := first | omega | (simp; done) | (simp; omega)) [W_id, bys_app, bys_snoc, f_rotate_check, h0, h1', kT, kF, dT, dF, key0_R, spl_k]
    skip
end Go.Abs
end

section
namespace Go.Abs
set_option maxRecDepth 100000
set_option maxHeartbeats 16000000 in
theorem fits_ok (E : Env) (h258 : E.G 258 = getC) (h269 : E.G 269 = liveC) (h270 : E.G 270 = hasC) (h275 : E.G 275 = subUC) (h277 : E.G 277 = useC) (h264 : E.G 264 = succC) : ∀ ds, fitC.pre ds → ds.length = f_custodyref35_fits.n ∧ awp E f_custodyref35_fits.body (retQ f_custodyref35_fits.res (fitC.post ds)) (initSt f_custodyref35_fits.wr ds) := by
  rintro _ ⟨na, nb, nc, nl, p, t, now, i, hp, ⟨hv, ha⟩, rfl⟩
  rw [fit_post, fitK]
  obtain ⟨tk, hl, _, hk⟩ := tVal_ok hv
  by_cases h0 : now < 0
  · rw [if_pos h0]
    simp (maxSteps := 1000000) (disch := first | omega | (simp; done) | (simp; omega)) [W_id, bys_app, bys_snoc, f_custodyref35_fits, h0, kT, kF, dT, dF, key0_R, spl_k]
    skip
  by_cases h1 : now < maxT
  · have h1' : now < 1099511627776 := h1
    rw [if_neg h0, if_pos h1]
    have e1 := get_pre (nl := nl) (t := t) i tk
    have e2 := get_post nl t i
    have f1 := succ_pre (nl := nl) (t := t) i hv
    have f2 := succ_post nl t i
    cases hg : getK t.keys i with
    | none =>
      have hn : nxtK t.keys i = none := by rw [nxtK, hg]; rfl
      rw [hg, getA] at e2
      rw [hn, nxtA] at f2
      simp (maxSteps := 1000000) (disch := first | omega | (simp; done) | (simp; omega)) [W_id, bys_app, bys_snoc, f_custodyref35_fits, f_custodyref35_fits_r0, f_custodyref35_fits_r1, f_custodyref35_fits_r2, f_custodyref35_fits_r3, f_custodyref35_fits_r4, h258, h264, e1, e2, f1, f2, h0, h1', kT, kF, dT, dF, key0_R, spl_k, spl_9]
      skip
    | some k =>
      have hko := ha.2.2 k (getK_mem hg)
      rw [hg, getA] at e2
      have l1 := live_pre now hko
      have l2 := live_post k now
      have m1 := has_pre (na := na) (nb := nb) (nc := nc) (f := 1) hp hko.2.1 ⟨by omega, by omega⟩
      have u1 := use_pre (na := na) (nb := nb) (nc := nc) hp hko.2.1
      have s1 := subU_pre (b := usesK p k.ty) hko.2.2.2.1
      simp only [fitG]
      cases hli : liveK k now with
      | false =>
        cases hn : nxtK t.keys i with
        | none =>
          rw [hn, nxtA] at f2
          simp (maxSteps := 1000000) (disch := first | omega | (simp; done) | (simp; omega)) [W_id, bys_app, bys_snoc, f_custodyref35_fits, f_custodyref35_fits_r0, f_custodyref35_fits_r1, f_custodyref35_fits_r2, f_custodyref35_fits_r3, f_custodyref35_fits_r4, h258, h264, h269, e1, e2, f1, f2, l1, l2, hli, h0, h1', kT, kF, dT, dF, key0_R, spl_k, spl_9]
          skip
        | some j =>
          rw [hn, nxtA] at f2
          simp (maxSteps := 1000000) (disch := first | omega | (simp; done) | (simp; omega)) [W_id, bys_app, bys_snoc, f_custodyref35_fits, f_custodyref35_fits_r0, f_custodyref35_fits_r1, f_custodyref35_fits_r2, f_custodyref35_fits_r3, f_custodyref35_fits_r4, h258, h264, h269, e1, e2, f1, f2, l1, l2, hli, h0, h1', kT, kF, dT, dF, key0_R, spl_k, spl_9]
          skip
      | true =>
        cases hn : nxtK t.keys i with
        | some j =>
          rw [hn, nxtA] at f2
          simp (maxSteps := 1000000) (disch := first | omega | (simp; done) | (simp; omega)) [W_id, bys_app, bys_snoc, f_custodyref35_fits, f_custodyref35_fits_r0, f_custodyref35_fits_r1, f_custodyref35_fits_r2, f_custodyref35_fits_r3, f_custodyref35_fits_r4, h258, h264, h269, e1, e2, f1, f2, l1, l2, hli, h0, h1', kT, kF, dT, dF, key0_R, spl_k, spl_9]
          skip
        | none =>
          rw [hn, nxtA] at f2
          cases hh : hasP p k.ty 1 with
          | false =>
            simp (maxSteps := 1000000) (disch := first | omega | (simp; done) | (simp; omega)) [W_id, bys_app, bys_snoc, f_custodyref35_fits, f_custodyref35_fits_r0, f_custodyref35_fits_r1, f_custodyref35_fits_r2, f_custodyref35_fits_r3, f_custodyref35_fits_r4, h270, h277, h275, m1, u1, s1, hh, h258, h264, h269, e1, e2, f1, f2, l1, l2, hli, h0, h1', kT, kF, dT, dF, key0_R, spl_k, spl_9]
            skip
          | true =>
            cases hs : subU k.uses (usesK p k.ty) with
            | false =>
              simp (maxSteps := 1000000) (disch := first | omega | (simp; done) | (simp; omega)) [W_id, bys_app, bys_snoc, f_custodyref35_fits, f_custodyref35_fits_r0, f_custodyref35_fits_r1, f_custodyref35_fits_r2, f_custodyref35_fits_r3, f_custodyref35_fits_r4, h270, h277, h275, m1, u1, s1, hh, hs, h258, h264, h269, e1, e2, f1, f2, l1, l2, hli, h0, h1', kT, kF, dT, dF, key0_R, spl_k, spl_9]
              skip
            | true =>
              by_cases hv : k.ver = topN
              · have hv' : k.ver = 2147483647 := hv
                simp (maxSteps := 1000000) (disch := first | omega | (simp; done) | (simp; omega)) [W_id, bys_app, bys_snoc, f_custodyref35_fits, f_custodyref35_fits_r0, f_custodyref35_fits_r1, f_custodyref35_fits_r2, f_custodyref35_fits_r3, f_custodyref35_fits_r4, h270, h277, h275, m1, u1, s1, hh, hs, hv', topN, h258, h264, h269, e1, e2, f1, f2, l1, l2, hli, h0, h1', kT, kF, dT, dF, key0_R, spl_k, spl_9]
                skip
              · have hv' : (k.ver == 2147483647) = false := beq_false_of_ne hv
                simp (maxSteps := 1000000) (disch := first | omega | (simp; done) | (simp; omega)) [W_id, bys_app, bys_snoc, f_custodyref35_fits, f_custodyref35_fits_r0, f_custodyref35_fits_r1, f_custodyref35_fits_r2, f_custodyref35_fits_r3, f_custodyref35_fits_r4, f_custodyref35_fits_r5, h270, h277, h275, m1, u1, s1, hh, hs, hv', hv, h258, h264, h269, e1, e2, f1, f2, l1, l2, hli, h0, h1', kT, kF, dT, dF, key0_R, spl_k, spl_9]
                skip
  · have h1' : ¬ now < 1099511627776 := h1
    rw [if_neg h0, if_neg h1]
    simp (maxSteps := 1000000) (disch := first | omega | (simp; done) | (simp; omega)) [W_id, bys_app, bys_snoc, f_custodyref35_fits, h0, h1', kT, kF, dT, dF, key0_R, spl_k]
    skip

end Go.Abs
end
