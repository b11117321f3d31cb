/- Lemmas: an abstract interpreter, and what the functions compute. -/
import Derived.Test.YtigghpdomoedhaaDoorR
import Derived.Test.YtigghpdomoedhaaDoorP
import Derived.Test.YtigghpdomoedhaaDoorT
set_option linter.unusedSimpArgs false
set_option linter.unusedVariables false
set_option linter.unusedSectionVars false
section
namespace Go.Abs
set_option maxRecDepth 100000
def valueC : Contract := ⟨fun ds => ds = [u8 7], fun _ => st v00⟩
@[simp] theorem value_pre : valueC.pre [u8 7] = True := eq_true rfl
@[simp] theorem value_post (ds : List AVal) : valueC.post ds = st v00 := rfl
theorem val_splice {i : Nat} (h : i < 32) (c : UInt8) : splice (bys (List.replicate i c ++ zeros (32 - i))) i [u8 c] = bys (List.replicate (i + 1) c ++ zeros (32 - (i + 1))) := by
  have e : bys (List.replicate i c ++ zeros (32 - i)) = bys (List.replicate i c) ++ u8 0 :: bys (zeros (32 - (i + 1))) := by
    rw [← bys_app, show 32 - i = (32 - (i + 1)) + 1 by omega, zeros, List.replicate_succ]; rfl
  rw [e, splice, List.replicate_succ', List.append_assoc, ← bys_app, ← bys_app]
  have hl : (bys (List.replicate i c)).length = i := by simp
  rw [List.take_append_of_le_length (by omega), List.take_of_length_le (by omega), List.drop_append, hl, List.drop_eq_nil_of_le (by simp), List.nil_append, show i + [u8 c].length - i = 1 by simp]
  simp [bys]
set_option maxHeartbeats 8000000 in
theorem value_ok (E : Env) : ∀ ds, valueC.pre ds → ds.length = f_custodylaw35_value.n ∧ awp E f_custodylaw35_value.body (retQ f_custodylaw35_value.res (valueC.post ds)) (initSt f_custodylaw35_value.wr ds) := by
  rintro _ rfl
  rw [value_post]
  simp (maxSteps := 1000000) (disch := first | omega | (simp; done) | (simp; omega)) [W_id, bys_app, bys_snoc, f_custodylaw35_value, kT, kF, dT, dF]
  refine awp_name fun Q0 hQ0 => ?_
  refine awp_for (fun i : Nat => ⟨[(0, u8 7)], [(3, .bv 5 1 0 32 32), (4, i64 i)], [(5, some (bys (List.replicate i 7 ++ zeros (32 - i))))]⟩) (fun i => 32 - i) (fun i => i ≤ 32) 0 (by simp) (by omega) fun i hi => ?_
  by_cases h : i < 32
  · have lt : (i : Int) < 32 := by omega
    have vs := val_splice h 7
    simp (maxSteps := 1000000) (disch := first | omega | (simp; done) | (simp; omega)) [W_id, bys_app, bys_snoc, f_custodylaw35_value_l0, f_custodylaw35_value_r0, lt, kT, kF, dT, dF, vs]
    exact ⟨by omega, i + 1, by omega, by omega, by omega, by rw [show 32 - (i + 1) = 31 - i by omega]⟩
  · have lt : ¬ (i : Int) < 32 := by omega
    have e : i = 32 := by omega
    subst e
    simp (maxSteps := 1000000) (disch := first | omega | (simp; done) | (simp; omega)) [W_id, bys_app, bys_snoc, f_custodylaw35_value_l0, f_custodylaw35_value_r1, lt, kT, kF, dT, dF, hQ0]
    rfl
/-! ### few -/
theorem few_ok' {p : PolR} (h : fewP p = true) : polOk p := by
  simp only [fewP, Bool.and_eq_true, decide_eq_true_eq] at h
  exact ⟨by omega, by omega, by omega⟩

def fewL (p : PolR) (t : TabR) : Bool := fewP p && decide (t.keys.length ≤ 30) && okT t
def lfewC : Contract := ⟨fun ds => ∃ (na nb nc nl : Option Bool) (p : PolR) (t : TabR), polBig p ∧ namOk p ∧ tAll t ∧ ds = [.agg (polL na nb nc p), .agg (tabL nl t)], fun ds => bo (fewL (gPol (gCs (nth ds 0))) (gTab (gCs (nth ds 1))))⟩
theorem lfew_pre {na nb nc nl : Option Bool} {p : PolR} {t : TabR} (h : polBig p) (hn : namOk p) (ht : tAll t) : lfewC.pre [.agg (polL na nb nc p), .agg (tabL nl t)] = True := eq_true ⟨na, nb, nc, nl, p, t, h, hn, ht, rfl⟩
theorem lfew_post (na nb nc nl : Option Bool) (p : PolR) (t : TabR) : lfewC.post [.agg (polL na nb nc p), .agg (tabL nl t)] = bo (fewL p t) := by
  show bo (fewL (gPol (polL na nb nc p)) (gTab (tabL nl t))) = _
  rw [gPol_polL, gTab_tabL]
set_option maxHeartbeats 8000000 in
theorem lfew_ok (E : Env) (h278 : E.G 278 = fewPC) (h274 : E.G 274 = valTC) : ∀ ds, lfewC.pre ds → ds.length = f_custodylaw35_few.n ∧ awp E f_custodylaw35_few.body (retQ f_custodylaw35_few.res (lfewC.post ds)) (initSt f_custodylaw35_few.wr ds) := by
  rintro _ ⟨na, nb, nc, nl, p, t, hp, hn, ht, rfl⟩
  rw [lfew_post, fewL]
  have hlen : t.keys.length ≤ 9223372036854775807 := ht.1
  have e1 := fewP_pre (na := na) (nb := nb) (nc := nc) hp hn
  have e2 := valT_pre (nl := nl) ht
  cases hf : fewP p with
  | false =>
    simp (maxSteps := 1000000) (disch := first | omega | (simp; done) | (simp; omega)) [W_id, bys_app, bys_snoc, f_custodylaw35_few, h278, e1, hf, kT, kF, dT, dF]
    skip
  | true =>
    by_cases h1 : t.keys.length ≤ 30
    · have h1' : ¬ (30 : Int) < t.keys.length := by omega
      rw [decide_eq_true h1]
      simp (maxSteps := 1000000) (disch := first | omega | (simp; done) | (simp; omega)) [W_id, bys_app, bys_snoc, f_custodylaw35_few, f_custodylaw35_few_r0, h278, h274, e1, e2, hf, h1, h1', kT, kF, dT, dF]
      skip
    · have h1' : (30 : Int) < t.keys.length := by omega
      rw [decide_eq_false h1]
      simp (maxSteps := 1000000) (disch := first | omega | (simp; done) | (simp; omega)) [W_id, bys_app, bys_snoc, f_custodylaw35_few, h278, e1, hf, h1, h1', kT, kF, dT, dF]
      skip
end Go.Abs
end

section
namespace Go.Abs
set_option maxRecDepth 100000
def sanRC : Contract := ⟨fun ds => ds = [], fun _ => bo true⟩
@[simp] theorem sanR_pre : sanRC.pre [] = True := eq_true rfl
@[simp] theorem sanR_post (ds : List AVal) : sanRC.post ds = bo true := rfl
theorem p00_L : [st [], .sl .plain (some false) 1 [st [97], i64 25, i64 50], .sl .plain none 0 [], .sl .plain none 0 []] = polL (some false) none none p00 := rfl
theorem t00_L : [i64 2, .sl .plain (some false) 1 [i64 1, i64 0, st v00, i64 24, i64 10, i64 40, i64 1, i64 0, bo false]] = tabL (some false) t00 := rfl
theorem awp_cut {E : Env} {Q : AExit → ASt → Prop} {s : ASt} {a b : ACode} (h : ∀ B, B = b → awp E (.seq a B) Q s) : awp E (.seq a b) Q s := h b rfl
theorem spl_4p (a b c d : AVal) (x y z : Option Bool) (p : PolR) : splice [a, b, c, d] 0 (polL x y z p) = polL x y z p := rfl
theorem spl_4l (a b c d e f g h : AVal) : splice [a, b, c, d] 0 [e, f, g, h] = [e, f, g, h] := rfl
theorem spl_33 (a b c d e f : AVal) : splice [a, b, c] 0 [d, e, f] = [d, e, f] := rfl
theorem spl_41b (a b c d e : AVal) : splice [a, b, c, d] 1 [e] = [a, e, c, d] := rfl
set_option maxHeartbeats 64000000 in
theorem sanR_ok (E : Env) (h288 : E.G 288 = valueC) (h267 : E.G 267 = samLC) (h238 : E.G 238 = allC) (h241 : E.G 241 = dueC) (h229 : E.G 229 = rotKC) (h234 : E.G 234 = linCn) (h235 : E.G 235 = newC) (h233 : E.G 233 = succC) : ∀ ds, sanRC.pre ds → ds.length = f_custodylaw35_sanity.n ∧ awp E f_custodylaw35_sanity.body (retQ f_custodylaw35_sanity.res (sanRC.post ds)) (initSt f_custodylaw35_sanity.wr ds) := by
  rintro _ rfl
  rw [sanR_post]
  have d0 : ([115] : List UInt8).length < 1000000000 := by decide
  have g1 := good01 [115]
  have r0 := rot00 [115]
  have a0 := all01 [115]
  have hv : (drv [115] valL []).length = 32 := drv_len _ _ _
  have hs : (drv [115] seedL []).length < 1000000000 := by rw [drv_len]; omega
  generalize drv [115] valL [] = v at *
  generalize drv [115] seedL [] = s at *
  have k1 := rot_pre (na := some false) (nb := none) (nc := none) (nl := some false) (s := [115]) 30 1 pol00 good00 d0
  have k2 := rot_post (some false) none none (some false) p00 t00 [115] 30 1
  have k3 := rot_pre (na := some false) (nb := none) (nc := none) (nl := none) (s := s) 30 1 pol00 g1 hs
  have k4 := rot_post (some false) none none none p00 (u00 v) s 30 1
  have k5 := rot_pre (na := some false) (nb := none) (nc := none) (nl := some false) (s := s) 40 1 pol00 good00 hs
  have k6 := rot_post (some false) none none (some false) p00 t00 s 40 1
  have n1 := succ_pre (nl := none) (t := u00 v) 1 g1.1
  have n2 := succ_post none (u00 v) 1
  have w1 := new_pre (nl := none) (t := u00 v) 1 g1.1
  have w2 := new_post none (u00 v) 1
  have l1 := lin_pre none (nl := none) (t := u00 v) 1 g1.1
  have l2 := lin_post none none (u00 v) 1
  have a1 := all_pre (na := some false) (nb := none) (nc := none) (nl := some false) (ni := some false) (s := [115]) 30 (ids := [1]) pol00 good00 d0 (by decide)
  have a2 := all_post (some false) none none (some false) (some false) p00 t00 [115] 30 [1] 1
  have u1 := due_pre (na := some false) (nb := none) (nc := none) (nl := some false) 30 10 pol00 good00
  have u2 := due_post (some false) none none (some false) p00 t00 30 10
  rw [r0] at k2
  rw [rot12] at k4
  rw [rot13] at k6
  rw [nxt01, nxtA] at n2
  rw [new01, newA] at w2
  rw [line01, linA] at l2
  rw [a0, allA, if_neg (by decide)] at a2
  rw [due01] at u2
  refine ⟨rfl, ?_⟩
  simp only [f_custodylaw35_sanity]
  refine awp_name fun Q9 hQ9 => ?_
  refine awp_cut fun B hB => ?_
  simp (maxSteps := 1000000) (disch := first | omega | (simp; done) | (simp; omega)) [W_id, bys_app, bys_snoc, kT]
  rw [hB]; clear hB
  refine awp_cut fun B hB => ?_
  simp (maxSteps := 1000000) (disch := first | omega | (simp; done) | (simp; omega)) [W_id, bys_app, bys_snoc, spl_4p, spl_4l, spl_33, spl_41b, spl_22, spl_11, spl_99, spl_t2, spl_9, kT, p00_L]
  rw [hB]; clear hB
  refine awp_cut fun B hB => ?_
  simp (maxSteps := 1000000) (disch := first | omega | (simp; done) | (simp; omega)) [W_id, bys_app, bys_snoc, h288, spl_4p, spl_4l, spl_33, spl_41b, spl_22, spl_11, spl_99, spl_t2, spl_9, kT, t00_L]
  rw [hB]; clear hB
  refine awp_cut fun B hB => ?_
  simp (maxSteps := 1000000) (disch := first | omega | (simp; done) | (simp; omega)) [W_id, bys_app, bys_snoc, h229, k1, k2, spl_4p, spl_4l, spl_33, spl_41b, spl_22, spl_11, spl_99, spl_t2, spl_9, kT]
  rw [hB]; clear hB
  refine awp_cut fun B hB => ?_
  simp (maxSteps := 1000000) (disch := first | omega | (simp; done) | (simp; omega)) [W_id, bys_app, bys_snoc, h233, n1, n2, spl_4p, spl_4l, spl_33, spl_41b, spl_22, spl_11, spl_99, spl_t2, spl_9, kT]
  rw [hB]; clear hB
  refine awp_cut fun B hB => ?_
  simp (maxSteps := 1000000) (disch := first | omega | (simp; done) | (simp; omega)) [W_id, bys_app, bys_snoc, h235, w1, w2, spl_4p, spl_4l, spl_33, spl_41b, spl_22, spl_11, spl_99, spl_t2, spl_9, kT]
  rw [hB]; clear hB
  refine awp_cut fun B hB => ?_
  simp (maxSteps := 1000000) (disch := first | omega | (simp; done) | (simp; omega)) [W_id, bys_app, bys_snoc, h234, l1, l2, spl_4p, spl_4l, spl_33, spl_41b, spl_22, spl_11, spl_99, spl_t2, spl_9, kT]
  rw [hB]; clear hB
  refine awp_cut fun B hB => ?_
  simp (maxSteps := 1000000) (disch := first | omega | (simp; done) | (simp; omega)) [W_id, bys_app, bys_snoc, h229, k3, k4, spl_4p, spl_4l, spl_33, spl_41b, spl_22, spl_11, spl_99, spl_t2, spl_9, kT]
  rw [hB]; clear hB
  refine awp_cut fun B hB => ?_
  simp (maxSteps := 1000000) (disch := first | omega | (simp; done) | (simp; omega)) [W_id, bys_app, bys_snoc, h229, k5, k6, spl_4p, spl_4l, spl_33, spl_41b, spl_22, spl_11, spl_99, spl_t2, spl_9, kT]
  rw [hB]; clear hB
  refine awp_cut fun B hB => ?_
  have il1 : intsL [1] = [i64 1] := rfl
  have il2 : intsL [2] = [i64 2] := rfl
  have il3 : intsL [1, 2] = [i64 1, i64 2] := rfl
  rw [il1] at a2
  have a1' : allC.pre [.agg (polL (some false) none none p00), .agg (tabL (some false) t00), .agg [st [115]], i64 30, .sl .plain (some false) 1 [i64 1]] = True := a1
  rw [il1] at u2
  simp (maxSteps := 1000000) (disch := first | omega | (simp; done) | (simp; omega)) [W_id, bys_app, bys_snoc, h238, a1', a2, spl_4p, spl_4l, spl_33, spl_41b, spl_22, spl_11, spl_99, spl_t2, spl_9, kT]
  rw [hB]; clear hB
  refine awp_cut fun B hB => ?_
  simp (maxSteps := 1000000) (disch := first | omega | (simp; done) | (simp; omega)) [W_id, bys_app, bys_snoc, h241, u1, u2, spl_4p, spl_4l, spl_33, spl_41b, spl_22, spl_11, spl_99, spl_t2, spl_9, kT]
  rw [hB]; clear hB
  refine awp_cut fun B hB => ?_
  have ul : (u00 v).keys.length = 2 := rfl
  have uk : keysL (u00 v).keys = [i64 1, i64 0, st v00, i64 16, i64 10, i64 40, i64 1, i64 0, bo false, i64 2, i64 0, st v, i64 24, i64 30, i64 60, i64 2, i64 1, bo false] := rfl
  simp (maxSteps := 1000000) (disch := first | omega | (simp; done) | (simp; omega)) [W_id, bys_app, bys_snoc, ul, uk, kT, kF, dT, dF]
  rw [hB, f_custodylaw35_sanity_r0]; clear hB
  refine awp_cut fun B hB => ?_
  simp (maxSteps := 1000000) (disch := first | omega | (simp; done) | (simp; omega)) [W_id, bys_app, bys_snoc, ul, uk, spl_4p, spl_4l, spl_33, spl_41b, spl_22, spl_11, spl_99, spl_92, spl_t2, spl_9, kT, kF, dT, dF]
  rw [hB]; clear hB
  refine awp_cut fun B hB => ?_
  simp (maxSteps := 1000000) (disch := first | omega | (simp; done) | (simp; omega)) [W_id, bys_app, bys_snoc, ul, uk, spl_4p, spl_4l, spl_33, spl_41b, spl_22, spl_11, spl_99, spl_92, spl_t2, spl_9, kT, kF, dT, dF]
  rw [hB]; clear hB
  have sm1 : samLC.pre [.sl .plain none 2 [i64 1, i64 2], .sl .plain (some false) 2 [i64 1, i64 2]] = True := samL_pre (l := [1, 2]) (by decide)
  have sm2 : samLC.pre [.sl .plain none 1 [i64 2], .sl .plain (some false) 1 [i64 2]] = True := samL_pre (l := [2]) (by decide)
  have sm3 : samLC.pre [.sl .plain none 1 [i64 1], .sl .plain (some false) 1 [i64 1]] = True := samL_pre (l := [1]) (by decide)
  have ek : eqCells [.int .i64, .int .i64, .str, .int .i64, .int .i64, .int .i64, .int .i64, .int .i64, .bool] [i64 2, i64 0, st [], i64 24, i64 30, i64 60, i64 2, i64 1, bo false] [i64 2, i64 0, st [], i64 24, i64 30, i64 60, i64 2, i64 1, bo false] = true := eqK_self (k02 [])
  have ok : okCells [.int .i64, .int .i64, .str, .int .i64, .int .i64, .int .i64, .int .i64, .int .i64, .bool] [i64 2, i64 0, st [], i64 24, i64 30, i64 60, i64 2, i64 1, bo false] := okK_cells (k02 [])
  simp (maxSteps := 20000000) (disch := first | omega | (simp; done) | (simp; omega)) [W_id, bys_app, bys_snoc, h267, sm1, sm2, sm3, il1, il2, il3, ul, uk, hv, ek, ok, spl_4p, spl_4l, spl_33, spl_41b, spl_22, spl_11, spl_99, spl_92, spl_t2, spl_9, kT, kF, dT, dF, hQ9]
end Go.Abs
end
