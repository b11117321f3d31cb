/- Lemmas: an abstract interpreter, and what the functions compute. -/
import Derived.Test.YtigghpdomoedhaaDoorS
import Derived.Test.YtigghpdomoedhaaDoorR
import Derived.Test.YtigghpdomoedhaaDoorM
import Derived.Test.YtigghpdomoedhaaDoorE
set_option linter.unusedSimpArgs false
set_option linter.unusedVariables false
set_option linter.unusedSectionVars false
section
namespace Go.Abs
def lawArg (p : PolR) (t : TabR) : Prop := polBig p ∧ namOk p ∧ tAll t
theorem few_all {p : PolR} {t : TabR} (h : fewL p t = true) (ht : tAll t) : polOk p ∧ tGood t := by
  simp only [fewL, Bool.and_eq_true] at h
  exact ⟨few_ok' h.1.1, h.2, ht⟩
end Go.Abs
end

section
namespace Go.Abs
set_option maxRecDepth 100000
def pE : PolR := ⟨[], [], [], []⟩
theorem pE_L : [st [], .sl .plain none 0 [], .sl .plain none 0 [], .sl .plain none 0 []] = polL none none none pE := rfl
theorem pE_few : polBig pE ∧ namOk pE := ⟨⟨Nat.zero_le _, Nat.zero_le _, Nat.zero_le _⟩, fun t h => by cases h⟩
def lawRL : Contract := ⟨fun ds => ∃ (t : TabR) (i : Int), tAll t ∧ ds = [.agg (tabL none t), i64 i], fun _ => bo true⟩
theorem cntG_le (l : List KeyR) (i : Int) : cntG l i ≤ l.length := List.length_filter_le _ _
set_option maxHeartbeats 16000000 in
theorem law_RL_ok (E : Env) (h280 : E.G 280 = sanRC) (h281 : E.G 281 = lfewC) (h267 : E.G 267 = samLC) (h265 : E.G 265 = linCf) (h266 : E.G 266 = newC) (h264 : E.G 264 = succC) (h234 : E.G 234 = linCn) (h235 : E.G 235 = newC) (h233 : E.G 233 = succC) : ∀ ds, lawRL.pre ds → ds.length = f_custodylaw35_RotateLinesMatchSpec.n ∧ awp E f_custodylaw35_RotateLinesMatchSpec.body (retQ f_custodylaw35_RotateLinesMatchSpec.res (lawRL.post ds)) (initSt f_custodylaw35_RotateLinesMatchSpec.wr ds) := by
  rintro _ ⟨t, i, ht, rfl⟩
  show _ ∧ awp E _ (retQ _ (bo true)) _
  have f1 := lfew_pre (na := none) (nb := none) (nc := none) (nl := none) pE_few.1 pE_few.2 ht
  have f2 := lfew_post none none none none pE t
  cases hf : fewL pE t with
  | false =>
    rw [hf] at f2
    simp (maxSteps := 1000000) (disch := first | omega | (simp; done) | (simp; omega)) [W_id, bys_app, bys_snoc, f_custodylaw35_RotateLinesMatchSpec, h280, h281, f1, f2, pE_L, kT, kF, dT, dF]
    skip
  | true =>
    rw [hf] at f2
    obtain ⟨hpo, hv, _⟩ := few_all hf ht
    have hlen : t.keys.length ≤ 4096 := (tVal_ok hv).2.1
    have n1 := succ_pre (nl := none) (t := t) i hv
    have n2 := succ_post none t i
    have w1 := new_pre (nl := none) (t := t) i hv
    have w2 := new_post none t i
    have l1 := lin_pre none (nl := none) (t := t) i hv
    have l2 := lin_post none none t i
    have m1 := lin_pre (some false) (nl := none) (t := t) i hv
    have m2 := lin_post (some false) none t i
    simp (maxSteps := 1000000) (disch := first | omega | (simp; done) | (simp; omega)) [W_id, bys_app, bys_snoc, f_custodylaw35_RotateLinesMatchSpec, h280, h281, f1, f2, pE_L, kT, kF, dT, dF]
    rw [f_custodylaw35_RotateLinesMatchSpec_r0]
    cases hg : getK t.keys i with
    | none =>
      have e1 : linK t.keys i = none := by rw [linK, hg]; rfl
      have e2 : newK t.keys i = none := by rw [newK, e1]; rfl
      have e3 : nxtK t.keys i = none := by rw [nxtK, hg]; rfl
      rw [e1, linA] at l2 m2
      rw [e2, newA] at w2
      rw [e3, nxtA] at n2
      have s1 : samLC.pre [.sl .plain none 0 [], .sl .plain none 0 []] = True := samL_pre (l := []) (by decide)
      simp (maxSteps := 1000000) (disch := first | omega | (simp; done) | (simp; omega)) [W_id, bys_app, bys_snoc, h233, h264, h235, h266, h234, h265, h267, n1, n2, w1, w2, l1, l2, m1, m2, s1, kT, kF, dT, dF]
      skip
    | some k =>
      have e1 : linK t.keys i = some (lineK t.keys i) := by rw [linK, hg]; rfl
      have hL := lineK_len t.keys _ i (cntG_le t.keys i)
      rw [e1, linA] at l2 m2
      generalize lineK t.keys i = L at *
      have e2 : newK t.keys i = some (L.getLastD 0) := by rw [newK, e1]; rfl
      rw [e2, newA] at w2
      have s1 := samL_pre (na := none) (nb := some false) (l := L) (by omega)
      cases hx : nxtK t.keys i with
      | none =>
        rw [hx, nxtA] at n2
        simp (maxSteps := 1000000) (disch := first | omega | (simp; done) | (simp; omega)) [W_id, bys_app, bys_snoc, h233, h264, h235, h266, h234, h265, h267, n1, n2, w1, w2, l1, l2, m1, m2, s1, kT, kF, dT, dF]
        skip
      | some j =>
        rw [hx, nxtA] at n2
        simp (maxSteps := 1000000) (disch := first | omega | (simp; done) | (simp; omega)) [W_id, bys_app, bys_snoc, h233, h264, h235, h266, h234, h265, h267, n1, n2, w1, w2, l1, l2, m1, m2, s1, kT, kF, dT, dF]
        skip
end Go.Abs
end

section
namespace Go.Abs
set_option maxRecDepth 100000
def sd4 : List UInt8 := [115, 101, 101, 100]
theorem rot_fail {p : PolR} {t : TabR} {s : List UInt8} {now i : Int} (h : (rotK p t s now i).e ≠ 0) : (rotK p t s now i).t = ⟨0, []⟩ ∧ (rotK p t s now i).id = 0 := by
  unfold rotK at h ⊢
  split
  · rename_i h1
    rw [if_pos h1] at h
    split
    · rename_i h2; rw [if_pos h2] at h; exact absurd rfl h
    · exact ⟨rfl, rfl⟩
  · exact ⟨rfl, rfl⟩
theorem andI_self (x : Int) : andI (andI x 176) 176 = andI x 176 := by
  have h1 : ∀ a b : Int, andI a b = W ((BitVec.ofInt 64 a &&& BitVec.ofInt 64 b).toNat : Int) := fun _ _ => rfl
  rw [h1 (andI x 176) 176, h1 x 176, ofInt_W, BitVec.and_assoc, BitVec.and_self]
theorem andI_mono (x : Int) : andI (andI x 176) x = andI x 176 := by
  have h1 : ∀ a b : Int, andI a b = W ((BitVec.ofInt 64 a &&& BitVec.ofInt 64 b).toNat : Int) := fun _ _ => rfl
  rw [h1 (andI x 176) x, h1 x 176, ofInt_W, BitVec.and_comm, ← BitVec.and_assoc, BitVec.and_self]
theorem new_at {p : PolR} {t : TabR} {s : List UInt8} {now i : Int} (hv : tVal t) (hf : fitK p t.keys now i = 0) {n : Nat} (h : n < t.keys.length) :
    keyAt (newT p t s now i).keys n = if (keyAt t.keys n).id = i then oldK (keyAt t.keys n) else keyAt t.keys n := by
  obtain ⟨k, g⟩ := rotG (p := p) s hv hf
  have tk := (tVal_ok hv).1
  have gk := gotK tk.1 g.got
  have hlb := gk.lb
  have e : (newT p t s now i).keys = setO t.keys i k ++ [{ freshK p s now i k with id := t.next }] := by rw [newT, g.key]
  have h' : n < (setO t.keys i k).length := by rw [setO_len]; exact h
  rw [e, keyAt, List.getD, List.getElem?_append_left h', ← List.getD, setO]
  by_cases hn : lbK t.keys i = n
  · subst hn
    rw [gk.at', if_pos gk.id, List.getD, List.getElem?_set_self h]; rfl
  · have hid : (keyAt t.keys n).id ≠ i := by
      intro hid
      rcases Nat.lt_or_gt_of_ne hn with hlt | hlt
      · have := srt_at tk.1 hlt h; rw [gk.at', gk.id] at this; omega
      · have := srt_at tk.1 hlt hlb; rw [gk.at', gk.id] at this; omega
    rw [if_neg hid, List.getD, List.getElem?_set_ne hn, ← List.getD]; rfl
def lawRR : Contract := ⟨fun ds => ∃ (p : PolR) (t : TabR) (a b : Int), lawArg p t ∧ ds = [.agg (polL none none none p), .agg (tabL none t), .agg [i64 a, i64 b]], fun _ => bo true⟩
set_option maxHeartbeats 16000000 in
theorem keeps_loop (E : Env) {p : PolR} {t u : TabR} {a b : Int} {x y : List UInt8} (hl : t.keys.length ≤ 4096) (hu : u.keys.length = t.keys.length + 1)
    (hk : ∀ n < t.keys.length, keyAt u.keys n = if (keyAt t.keys n).id = b then oldK (keyAt t.keys n) else keyAt t.keys n) :
    awp E f_custodylaw35_RotateKeepsTheRest_r2 (retQ [.t 6] (bo true)) ⟨[(0, .agg (polL none none none p)), (1, .agg (tabL none t)), (2, .agg [i64 a, i64 b])], [(4, .bp 4 0), (5, .bp 5 0), (7, bo true), (8, .bp 8 0)], [(3, some (polL none none none p)), (4, some (tabL none t)), (5, some [i64 a, i64 b]), (8, some (tabL none u)), (9, some [st x])]⟩ := by
  rw [f_custodylaw35_RotateKeepsTheRest_r2]
  simp (maxSteps := 1000000) (disch := first | omega | (simp; done) | (simp; omega)) [W_id, bys_app, bys_snoc, kT]
  refine awp_name fun Q0 hQ0 => ?_
  refine awp_for (fun n : Nat => ⟨[(0, .agg (polL none none none p)), (1, .agg (tabL none t)), (2, .agg [i64 a, i64 b])], [(4, .bp 4 0), (5, .bp 5 0), (7, bo true), (8, .bp 8 0), (12, i64 n)], [(3, some (polL none none none p)), (4, some (tabL none t)), (5, some [i64 a, i64 b]), (8, some (tabL none u)), (9, some [st x])]⟩) (fun n => t.keys.length - n) (fun n => n ≤ t.keys.length) 0 (by simp) (by omega) fun n hn => ?_
  by_cases h : n < t.keys.length
  · have lt : (n : Int) < t.keys.length := by omega
    have ka := keysL_at h
    have kb := keysL_at (l := u.keys) (i := n) (by omega)
    have hkn := hk n h
    generalize keyAt t.keys n = k at *
    generalize keyAt u.keys n = k' at *
    by_cases hb : k.id = b
    · rw [if_pos hb] at hkn
      subst hkn
      have ek := eqK_self k
      have ok := okK_cells k
      unfold ksK at ek ok
      have f1 : hdA ((keyL (oldK k)).drop 3) = i64 (andI k.uses 176) := rfl
      have f2 : splice (keyL (oldK k)) 3 [i64 k.uses] = keyL k := rfl
      have a1 := andI_self k.uses
      have a2 := andI_mono k.uses
      simp (maxSteps := 1000000) (disch := first | omega | (simp; done) | (simp; omega)) [W_id, bys_app, bys_snoc, f_custodylaw35_RotateKeepsTheRest_l0, f_custodylaw35_RotateKeepsTheRest_r3, lt, kT, kF, dT, dF, ka, kb, spl_9, hb, f1, a1, a2, f_custodylaw35_RotateKeepsTheRest_r4, f_custodylaw35_RotateKeepsTheRest_r5, f2, ek, ok]
      exact ⟨by omega, by omega, by omega, n + 1, by omega, by omega, by omega⟩
    · rw [if_neg hb] at hkn
      subst hkn
      have ek := eqK_self k'
      have ok := okK_cells k'
      unfold ksK at ek ok
      have bb : (k'.id == b) = false := beq_false_of_ne hb
      simp (maxSteps := 1000000) (disch := first | omega | (simp; done) | (simp; omega)) [W_id, bys_app, bys_snoc, f_custodylaw35_RotateKeepsTheRest_l0, f_custodylaw35_RotateKeepsTheRest_r3, f_custodylaw35_RotateKeepsTheRest_r5, lt, kT, kF, dT, dF, ka, kb, spl_9, bb, ek, ok]
      exact ⟨by omega, by omega, by omega, n + 1, by omega, by omega, by omega⟩
  · have lt : ¬ (n : Int) < t.keys.length := by omega
    simp (maxSteps := 1000000) (disch := first | omega | (simp; done) | (simp; omega)) [W_id, bys_app, bys_snoc, f_custodylaw35_RotateKeepsTheRest_l0, f_custodylaw35_RotateKeepsTheRest_r6, lt, kT, kF, dT, dF, hQ0]
    skip
set_option maxHeartbeats 16000000 in
theorem law_RR_ok (E : Env) (h280 : E.G 280 = sanRC) (h281 : E.G 281 = lfewC) (h274 : E.G 274 = valTC) (h229 : E.G 229 = rotKC) : ∀ ds, lawRR.pre ds → ds.length = f_custodylaw35_RotateKeepsTheRest.n ∧ awp E f_custodylaw35_RotateKeepsTheRest.body (retQ f_custodylaw35_RotateKeepsTheRest.res (lawRR.post ds)) (initSt f_custodylaw35_RotateKeepsTheRest.wr ds) := by
  rintro _ ⟨p, t, a, b, ⟨hp, hn, ht⟩, rfl⟩
  show _ ∧ awp E _ (retQ _ (bo true)) _
  have f1 := lfew_pre (na := none) (nb := none) (nc := none) (nl := none) hp hn ht
  have f2 := lfew_post none none none none p t
  cases hf : fewL p t with
  | false =>
    rw [hf] at f2
    simp (maxSteps := 1000000) (disch := first | omega | (simp; done) | (simp; omega)) [W_id, bys_app, bys_snoc, f_custodylaw35_RotateKeepsTheRest, h280, h281, f1, f2, kT, kF, dT, dF]
    skip
  | true =>
    rw [hf] at f2
    obtain ⟨hpo, hg⟩ := few_all hf ht
    obtain ⟨_, hlen, hnx, _⟩ := tVal_ok hg.1
    have htn : topN = 2147483647 := rfl
    have k1 := rot_pre (na := none) (nb := none) (nc := none) (nl := none) (s := sd4) a b hpo hg (by decide)
    have k2 := rot_post none none none none p t sd4 a b
    unfold sd4 at k1 k2
    simp (maxSteps := 1000000) (disch := first | omega | (simp; done) | (simp; omega)) [W_id, bys_app, bys_snoc, f_custodylaw35_RotateKeepsTheRest, h280, h281, f1, f2, kT, kF, dT, dF]
    rw [f_custodylaw35_RotateKeepsTheRest_r0]
    refine awp_cut fun B hB => ?_
    by_cases he : (rotK p t [115, 101, 101, 100] a b).e = 0
    · obtain ⟨r1, r2, r3⟩ := rot_ok he
      have hng := newT_good (s := [115, 101, 101, 100]) hg r1 r2
      have hat := fun n (h : n < t.keys.length) => new_at (p := p) (s := [115, 101, 101, 100]) hg.1 r1 h
      have hul : (newT p t [115, 101, 101, 100] a b).keys.length = t.keys.length + 1 := by simp [newT, setO_len]
      have hun : (newT p t [115, 101, 101, 100] a b).next = t.next + 1 := rfl
      have v1 := valT_pre (nl := none) hng.2
      have v2 := valT_post none (newT p t [115, 101, 101, 100] a b)
      rw [show okT (newT p t [115, 101, 101, 100] a b) = true from hng.1] at v2
      rw [r3] at k2
      generalize newT p t [115, 101, 101, 100] a b = u at *
      generalize drv [115, 101, 101, 100] seedL [] = x at *
      have kl := keeps_loop E (p := p) (a := a) (x := x) (y := x) hlen hul hat
      simp (maxSteps := 1000000) (disch := first | omega | (simp; done) | (simp; omega)) [W_id, bys_app, bys_snoc, h229, k1, k2, kT, kF, dT, dF, spl_t2, spl_11, spl_22]
      rw [hB]; clear hB
      simp (maxSteps := 1000000) (disch := first | omega | (simp; done) | (simp; omega)) [W_id, bys_app, bys_snoc, kT, kF, dT, dF]
      rw [f_custodylaw35_RotateKeepsTheRest_r1]
      simp (maxSteps := 1000000) (disch := first | omega | (simp; done) | (simp; omega)) [W_id, bys_app, bys_snoc, hul, hun, h274, v1, v2, kT, kF, dT, dF]
      exact kl
    · obtain ⟨r1, r2⟩ := rot_fail he
      have hb : ((rotK p t [115, 101, 101, 100] a b).e == 0) = false := beq_false_of_ne he
      rw [r1, r2] at k2
      generalize rotK p t [115, 101, 101, 100] a b = r at *
      simp (maxSteps := 1000000) (disch := first | omega | (simp; done) | (simp; omega)) [W_id, bys_app, bys_snoc, h229, k1, k2, kT, kF, dT, dF, spl_t2, spl_11, spl_22]
      rw [hB]; clear hB
      simp (maxSteps := 1000000) (disch := first | omega | (simp; done) | (simp; omega)) [W_id, bys_app, bys_snoc, kT, kF, dT, dF, hb]
end Go.Abs
end

section
namespace Go.Abs
def frT (p : PolR) (t : TabR) (s : List UInt8) (now i : Int) (k : KeyR) : KeyR := { freshK p s now i k with id := t.next }
theorem newT_keys {p : PolR} {t : TabR} {s : List UInt8} {now i : Int} {k : KeyR} (g : RotG p t s now i k) : (newT p t s now i).keys = setO t.keys i k ++ [frT p t s now i k] := by rw [newT, g.key]; rfl
theorem get_last {p : PolR} {t : TabR} {s : List UInt8} {now i : Int} {k : KeyR} (hg : tGood t) (g : RotG p t s now i k) (hf : fitK p t.keys now i = 0) (hc : t.keys.length < 4096 ∧ t.next < topN) : getK (newT p t s now i).keys t.next = some (frT p t s now i k) := by
  have hn := newT_good (s := s) hg hf hc
  have hs := (tVal_ok hn.1).1.1
  have hlen : t.keys.length < (newT p t s now i).keys.length := by rw [newT_keys g, List.length_append, setO_len]; simp
  have hat := getK_at hs hlen
  have e : (newT p t s now i).keys[t.keys.length] = frT p t s now i k := by
    have h0 : (newT p t s now i).keys[t.keys.length]? = some (frT p t s now i k) := by
      rw [newT_keys g, List.getElem?_append_right (by rw [setO_len]; omega), setO_len, Nat.sub_self]; rfl
    rw [List.getElem?_eq_getElem hlen] at h0
    exact Option.some.inj h0
  rw [e] at hat
  exact hat
theorem get_old {p : PolR} {t : TabR} {s : List UInt8} {now i : Int} (hg : tGood t) (hf : fitK p t.keys now i = 0) (hc : t.keys.length < 4096 ∧ t.next < topN) {j : Int} {x : KeyR} (hx : getK t.keys j = some x) : getK (newT p t s now i).keys j = some (if x.id = i then oldK x else x) := by
  have hn := newT_good (s := s) hg hf hc
  have hs := (tVal_ok hn.1).1.1
  have tk := (tVal_ok hg.1).1
  have gx := gotK tk.1 hx
  obtain ⟨k, g⟩ := rotG (p := p) s hg.1 hf
  have hlen : lbK t.keys j < (newT p t s now i).keys.length := by rw [newT_keys g, List.length_append, setO_len]; have := gx.lb; simp; omega
  have ha := new_at (p := p) (s := s) hg.1 hf gx.lb
  rw [gx.at'] at ha
  have hat := getK_at hs hlen
  rw [← keyAt_eq hlen, ha] at hat
  have e : (if x.id = i then oldK x else x).id = j := by
    split
    · exact gx.id
    · exact gx.id
  rw [e] at hat
  exact hat
theorem nxt_fresh {p : PolR} {t : TabR} {s : List UInt8} {now i : Int} {k : KeyR} (hg : tGood t) (g : RotG p t s now i k) (hf : fitK p t.keys now i = 0) (hc : t.keys.length < 4096 ∧ t.next < topN) : nxtK (newT p t s now i).keys i = some t.next := by
  have h1 := get_old (s := s) hg hf hc g.got
  have hid := getK_id g.got
  rw [if_pos hid] at h1
  have h2 : sucK (oldK k) (frT p t s now i k) = true := by
    have h3 : (oldK k).id = i := hid
    simp only [sucK, h3, Bool.and_eq_true, decide_eq_true_eq, beq_iff_eq]
    refine ⟨⟨⟨g.i1, rfl⟩, rfl⟩, rfl⟩
  rw [nxtK, h1, Option.bind_some, newT_keys g, List.reverse_append, List.reverse_singleton, List.singleton_append, List.find?_cons, h2]; rfl
theorem nxt_last {p : PolR} {t : TabR} {s : List UInt8} {now i : Int} {k : KeyR} (hg : tGood t) (g : RotG p t s now i k) (hf : fitK p t.keys now i = 0) (hc : t.keys.length < 4096 ∧ t.next < topN) : nxtK (newT p t s now i).keys t.next = none := by
  have hn := newT_good (s := s) hg hf hc
  rw [nxtK, get_last hg g hf hc, Option.bind_some]
  have : (newT p t s now i).keys.reverse.find? (sucK (frT p t s now i k)) = none := by
    rw [List.find?_eq_none]
    intro x hx
    have h1 := ((tVal_ok hn.1).2.2.2 x (List.mem_reverse.1 hx)).2.2.1
    have h2 : (newT p t s now i).next = t.next + 1 := rfl
    have h3 : (frT p t s now i k).id = t.next := rfl
    simp only [sucK, h3]
    have h4 : decide (t.next < x.id) = false := by simp; omega
    rw [h4]; simp
  rw [this]; rfl
theorem new_fresh {p : PolR} {t : TabR} {s : List UInt8} {now i : Int} {k : KeyR} (hg : tGood t) (g : RotG p t s now i k) (hf : fitK p t.keys now i = 0) (hc : t.keys.length < 4096 ∧ t.next < topN) : newK (newT p t s now i).keys i = some t.next := by
  have h1 := get_old (s := s) hg hf hc g.got
  rw [newK, linK, h1, Option.map_some, lineK_some (nxt_fresh hg g hf hc), lineK_none (nxt_last hg g hf hc)]; rfl
end Go.Abs
end

section
namespace Go.Abs
set_option maxRecDepth 100000
def lawRF : Contract := ⟨fun ds => ∃ (p : PolR) (t : TabR) (a b z : Int), lawArg p t ∧ ds = [.agg (polL none none none p), .agg (tabL none t), .agg [i64 a, i64 b], i64 z], fun _ => bo true⟩
theorem alw_eq {p : PolR} {t : TabR} {s : List UInt8} {now i : Int} {k : KeyR} (g : RotG p t s now i k) (z : Int) : (alwK (some (frT p t s now i k)) z now).e = (alwK (some k) z now).e := by
  obtain ⟨l1, _⟩ := life_rng (p := p) g.ok g.live g.now0 g.now1
  have h : liveK (frT p t s now i k) now = true := by
    simp only [liveK, Bool.and_eq_true, decide_eq_true_eq]
    refine ⟨?_, ?_⟩
    · show now ≤ now; omega
    · show now < now + lifeK p k now; omega
  have h2 : (frT p t s now i k).uses = k.uses := rfl
  simp only [alwK, h, g.live, if_true, h2]
  split <;> rfl
set_option maxHeartbeats 16000000 in
theorem fresh_w (E : Env) (h230 : E.G 230 = getC) (h235 : E.G 235 = newC) (h243 : E.G 243 = alwC) (h275 : E.G 275 = subUC) (h277 : E.G 277 = useC) {p : PolR} {t u : TabR} {a b z : Int} {x : List UInt8} {k f : KeyR}
    (hpo : polOk p) (hg : tGood t) (hu : tGood u) (hun : isI64 t.next) (g1 : getK t.keys b = some k) (g2 : getK u.keys t.next = some f) (g3 : newK u.keys b = some t.next)
    (hty : f.ty = k.ty) (hus : f.uses = k.uses) (hraw : f.raw = false) (hin : 0 ≤ k.ty ∧ k.ty < p.types.length) (hsub : subU k.uses (usesK p k.ty) = true)
    (hal : (alwK (some f) z a).e = (alwK (some k) z a).e) (hl1 : f.fin - f.beg ≤ k.fin - k.beg) (hl2 : 0 < (tyAt p k.ty).life → f.fin - f.beg ≤ (tyAt p k.ty).life) :
    awp E f_custodylaw35_RotateFreshKeys_r1 (retQ [.t 8] (bo true)) ⟨[(0, .agg (polL none none none p)), (1, .agg (tabL none t)), (2, .agg [i64 a, i64 b]), (3, i64 z)], [(4, .bp 4 0), (5, .bp 5 0), (6, .bp 6 0), (9, bo true), (10, .bp 10 0), (12, i64 t.next)], [(4, some (polL none none none p)), (5, some (tabL none t)), (6, some [i64 a, i64 b]), (10, some (tabL none u)), (11, some [st x])]⟩ := by
  obtain ⟨tk, _, _, hk⟩ := tVal_ok hg.1
  obtain ⟨uk, _, _, huk⟩ := tVal_ok hu.1
  obtain ⟨r1, _, _, r4, r5, _, _⟩ := okK_rng (hk k (getK_mem g1)).1
  obtain ⟨s1, _, _, s4, s5, _, _⟩ := okK_rng (huk f (getK_mem g2)).1
  have hm : maxT = 1099511627776 := rfl
  have hko := hg.2.2.2 k (getK_mem g1)
  have a1 := get_pre (nl := none) (t := t) b tk
  have a2 := get_post none t b
  rw [g1, getA] at a2
  have b1 := get_pre (nl := none) (t := u) t.next uk
  have b2 := get_post none u t.next
  rw [g2, getA] at b2
  have c1 := new_pre (nl := none) (t := u) b hu.1
  have c2 := new_post none u b
  rw [g3, newA] at c2
  have d1 := alw_pre (nl := none) b z a hg
  have d2 := alw_post none t b z a
  rw [g1] at d2
  have e1 := alw_pre (nl := none) t.next z a hu
  have e2 := alw_post none u t.next z a
  rw [g2, hal] at e2
  generalize (alwK (some k) z a).e = ae at *
  generalize (alwK (some k) z a).k = ak at *
  generalize (alwK (some f) z a).k = bk at *
  have u1 := use_pre (na := none) (nb := none) (nc := none) hpo hko.2.1
  have w1 := subU_pre (b := usesK p k.ty) hko.2.2.2.1
  have f2 := typsL_f2 (l := p.types) (i := k.ty.toNat) (by omega)
  have e3 : (tyAt p k.ty).life = (p.types.getD k.ty.toNat ⟨[], 0, 0⟩).life := rfl
  rw [← e3] at f2
  generalize (tyAt p k.ty).life = L at *
  have t1 : ¬ k.ty < 0 := by omega
  have t2 : ¬ (p.types.length : Int) ≤ k.ty := by omega
  have t3 : k.ty < (p.types.length : Int) := by omega
  rw [f_custodylaw35_RotateFreshKeys_r1]
  refine awp_cut fun B hB => ?_
  simp (maxSteps := 1000000) (disch := first | omega | (simp; done) | (simp; omega)) [W_id, bys_app, bys_snoc, h230, a1, a2, kT, kF, dT, dF, spl_9, key0_R, spl_k]
  rw [hB]; clear hB
  refine awp_cut fun B hB => ?_
  simp (maxSteps := 1000000) (disch := first | omega | (simp; done) | (simp; omega)) [W_id, bys_app, bys_snoc, h230, b1, b2, kT, kF, dT, dF, spl_9, key0_R, spl_k]
  rw [hB]; clear hB
  refine awp_cut fun B hB => ?_
  simp (maxSteps := 1000000) (disch := first | omega | (simp; done) | (simp; omega)) [W_id, bys_app, bys_snoc, h235, c1, c2, kT, kF, dT, dF]
  rw [hB]; clear hB
  refine awp_cut fun B hB => ?_
  simp (maxSteps := 1000000) (disch := first | omega | (simp; done) | (simp; omega)) [W_id, bys_app, bys_snoc, hty, t1, t2, t3, kT, kF, dT, dF]
  rw [hB, f_custodylaw35_RotateFreshKeys_r2]; clear hB
  refine awp_cut fun B hB => ?_
  simp (maxSteps := 1000000) (disch := first | omega | (simp; done) | (simp; omega)) [W_id, bys_app, bys_snoc, h243, d1, d2, kT, kF, dT, dF, spl_9, key0_R, spl_k]
  rw [hB]; clear hB
  refine awp_cut fun B hB => ?_
  simp (maxSteps := 1000000) (disch := first | omega | (simp; done) | (simp; omega)) [W_id, bys_app, bys_snoc, h243, e1, e2, kT, kF, dT, dF, spl_9, key0_R, spl_k]
  rw [hB]; clear hB
  refine awp_cut fun B hB => ?_
  simp (maxSteps := 1000000) (disch := first | omega | (simp; done) | (simp; omega)) [W_id, bys_app, bys_snoc, hty, f2, kT, kF, dT, dF]
  refine ⟨⟨by omega, by omega⟩, by omega, by omega, ?_⟩
  rw [hB]; clear hB
  refine awp_cut fun B hB => ?_
  simp (maxSteps := 1000000) (disch := first | omega | (simp; done) | (simp; omega)) [W_id, bys_app, bys_snoc, kT, kF, dT, dF]
  rw [hB]; clear hB
  refine awp_cut fun B hB => ?_
  simp (maxSteps := 1000000) (disch := first | omega | (simp; done) | (simp; omega)) [W_id, bys_app, bys_snoc, h275, h277, u1, w1, hty, hus, hsub, kT, kF, dT, dF]
  rw [hB]; clear hB
  by_cases hL : L ≤ 0
  · simp (maxSteps := 1000000) (disch := first | omega | (simp; done) | (simp; omega)) [W_id, bys_app, bys_snoc, hl1, hL, hty, hraw, kT, kF, dT, dF]
    skip
  · have hL2 := hl2 (by omega)
    simp (maxSteps := 1000000) (disch := first | omega | (simp; done) | (simp; omega)) [W_id, bys_app, bys_snoc, hl1, hL, hL2, hty, hraw, kT, kF, dT, dF]
    skip
set_option maxHeartbeats 16000000 in
theorem law_RF_ok (E : Env) (h280 : E.G 280 = sanRC) (h281 : E.G 281 = lfewC) (h275 : E.G 275 = subUC) (h277 : E.G 277 = useC) (h243 : E.G 243 = alwC) (h229 : E.G 229 = rotKC) (h235 : E.G 235 = newC) (h230 : E.G 230 = getC) : ∀ ds, lawRF.pre ds → ds.length = f_custodylaw35_RotateFreshKeys.n ∧ awp E f_custodylaw35_RotateFreshKeys.body (retQ f_custodylaw35_RotateFreshKeys.res (lawRF.post ds)) (initSt f_custodylaw35_RotateFreshKeys.wr ds) := by
  rintro _ ⟨p, t, a, b, z, ⟨hp, hn, ht⟩, rfl⟩
  show _ ∧ awp E _ (retQ _ (bo true)) _
  have f1 := lfew_pre (na := none) (nb := none) (nc := none) (nl := none) hp hn ht
  have f2 := lfew_post none none none none p t
  cases hf : fewL p t with
  | false =>
    rw [hf] at f2
    simp (maxSteps := 1000000) (disch := first | omega | (simp; done) | (simp; omega)) [W_id, bys_app, bys_snoc, f_custodylaw35_RotateFreshKeys, h280, h281, f1, f2, kT, kF, dT, dF]
    skip
  | true =>
    rw [hf] at f2
    obtain ⟨hpo, hg⟩ := few_all hf ht
    have k1 := rot_pre (na := none) (nb := none) (nc := none) (nl := none) (s := sd4) a b hpo hg (by decide)
    have k2 := rot_post none none none none p t sd4 a b
    by_cases he : (rotK p t sd4 a b).e = 0
    · obtain ⟨r1, r2, r3⟩ := rot_ok he
      obtain ⟨k, g⟩ := rotG (p := p) sd4 hg.1 r1
      have hng := newT_good (s := sd4) hg r1 r2
      have q2 := get_last (s := sd4) hg g r1 r2
      have q3 := new_fresh (s := sd4) hg g r1 r2
      obtain ⟨l1, l2, l3, l4⟩ := life_rng (p := p) g.ok g.live g.now0 g.now1
      have hh := g.has
      have hin : 0 ≤ k.ty ∧ k.ty < p.types.length := by
        simp only [hasP, Bool.and_eq_true] at hh
        simpa [hasTy] using hh.1
      have fw := fun (x : List UInt8) => fresh_w E h230 h235 h243 h275 h277 (z := z) (a := a) (x := x) hpo hg hng ht.2.1 g.got q2 q3 rfl rfl rfl hin g.sub (alw_eq g z)
        (by show a + lifeK p k a - a ≤ _; omega) (fun h => by show a + lifeK p k a - a ≤ _; have := l4 h; omega)
      rw [r3] at k2
      generalize newT p t sd4 a b = u at *
      generalize drv sd4 seedL [] = x at *
      have fx := fw x
      unfold sd4 at k1 k2
      simp (maxSteps := 1000000) (disch := first | omega | (simp; done) | (simp; omega)) [W_id, bys_app, bys_snoc, f_custodylaw35_RotateFreshKeys, h280, h281, f1, f2, kT, kF, dT, dF]
      rw [f_custodylaw35_RotateFreshKeys_r0]
      refine awp_cut fun B hB => ?_
      simp (maxSteps := 1000000) (disch := first | omega | (simp; done) | (simp; omega)) [W_id, bys_app, bys_snoc, h229, k1, k2, kT, kF, dT, dF, spl_t2, spl_11, spl_22]
      rw [hB]; clear hB
      simp (maxSteps := 1000000) (disch := first | omega | (simp; done) | (simp; omega)) [W_id, bys_app, bys_snoc, kT, kF, dT, dF]
      exact fx
    · obtain ⟨r1, r2⟩ := rot_fail he
      have hb : ((rotK p t sd4 a b).e == 0) = false := beq_false_of_ne he
      rw [r1, r2] at k2
      generalize rotK p t sd4 a b = r at *
      unfold sd4 at k1 k2
      simp (maxSteps := 1000000) (disch := first | omega | (simp; done) | (simp; omega)) [W_id, bys_app, bys_snoc, f_custodylaw35_RotateFreshKeys, h280, h281, f1, f2, kT, kF, dT, dF]
      rw [f_custodylaw35_RotateFreshKeys_r0]
      refine awp_cut fun B hB => ?_
      simp (maxSteps := 1000000) (disch := first | omega | (simp; done) | (simp; omega)) [W_id, bys_app, bys_snoc, h229, k1, k2, kT, kF, dT, dF, spl_t2, spl_11, spl_22]
      rw [hB]; clear hB
      simp (maxSteps := 1000000) (disch := first | omega | (simp; done) | (simp; omega)) [W_id, bys_app, bys_snoc, kT, kF, dT, dF, hb]
end Go.Abs
end

section
namespace Go.Abs
theorem has_strB {cs : List AVal} (h : GT.str.has cs) : ∃ l : List UInt8, bLen l.length ∧ cs = [st l] := by
  simp only [GT.has] at h
  obtain ⟨s, rfl, hs⟩ := h
  refine ⟨s.data.toList, ?_, by simp [st]⟩
  have : s.data.toList.length = s.size := Array.length_toList
  show s.data.toList.length ≤ 9223372036854775807
  rw [this]
  exact hs
theorem has_list {α : Type} {e : GT} {enc : α → List AVal} {P : α → Prop} (he : ∀ cs, e.has cs → ∃ a, P a ∧ cs = enc a) {cs : List AVal} (h : (GT.sl e).has cs) : ∃ l : List α, (∀ a ∈ l, P a) ∧ bLen l.length ∧ cs = [.sl .plain none l.length (l.flatMap enc)] := by
  obtain ⟨ess, h1, rfl, h3⟩ := h
  suffices H : ∃ l : List α, (∀ x ∈ l, P x) ∧ l.length = ess.length ∧ ess.flatten = l.flatMap enc by
    obtain ⟨l, k1, k2, k3⟩ := H
    exact ⟨l, k1, by rw [k2]; exact h3, by rw [k2, k3]⟩
  clear h3
  induction ess with
  | nil => exact ⟨[], by simp, rfl, rfl⟩
  | cons c ess ih =>
    obtain ⟨l, k1, k2, k3⟩ := ih fun c hc => h1 c (by simp [hc])
    obtain ⟨x, a0, rfl⟩ := he c (h1 c (by simp))
    refine ⟨x :: l, fun y hy => ?_, by simp [k2], by simp [k3]⟩
    rcases List.mem_cons.1 hy with rfl | hy
    · exact a0
    · exact k1 y hy
def typG : GT := .st [.str, .int .i64, .int .i64]
def rulG : GT := .st [.int .i64, .int .i64, .int .i64]
def quoG : GT := .st [.int .i64, .int .i64, .int .i64, .int .i64, .int .i64]
def keyG : GT := .st [.int .i64, .int .i64, .str, .int .i64, .int .i64, .int .i64, .int .i64, .int .i64, .bool]
theorem has_typ (cs : List AVal) (h : typG.has cs) : ∃ t : TypR, t.name.length ≤ 9223372036854775807 ∧ cs = typL t := by
  simp only [typG, GT.has, GT.hasL] at h
  obtain ⟨a1, r1, rfl, h1, a2, r2, rfl, h2, a3, r3, rfl, h3, rfl⟩ := h
  obtain ⟨s, hs, rfl⟩ := has_strB (by simpa only [GT.has] using h1)
  obtain ⟨x, _, _, rfl⟩ := has_i64 (by simpa only [GT.has] using h2)
  obtain ⟨y, _, _, rfl⟩ := has_i64 (by simpa only [GT.has] using h3)
  exact ⟨⟨s, x, y⟩, hs, rfl⟩
theorem has_rul (cs : List AVal) (h : rulG.has cs) : ∃ t : RulR, True ∧ cs = rulL t := by
  simp only [rulG, GT.has, GT.hasL] at h
  obtain ⟨a1, r1, rfl, h1, a2, r2, rfl, h2, a3, r3, rfl, h3, rfl⟩ := h
  obtain ⟨z, _, _, rfl⟩ := has_i64 (by simpa only [GT.has] using h1)
  obtain ⟨x, _, _, rfl⟩ := has_i64 (by simpa only [GT.has] using h2)
  obtain ⟨y, _, _, rfl⟩ := has_i64 (by simpa only [GT.has] using h3)
  exact ⟨⟨z, x, y⟩, trivial, rfl⟩
theorem has_quo (cs : List AVal) (h : quoG.has cs) : ∃ t : QuoR, True ∧ cs = quoL t := by
  simp only [quoG, GT.has, GT.hasL] at h
  obtain ⟨a1, r1, rfl, h1, a2, r2, rfl, h2, a3, r3, rfl, h3, a4, r4, rfl, h4, a5, r5, rfl, h5, rfl⟩ := h
  obtain ⟨z, _, _, rfl⟩ := has_i64 (by simpa only [GT.has] using h1)
  obtain ⟨x, _, _, rfl⟩ := has_i64 (by simpa only [GT.has] using h2)
  obtain ⟨y, _, _, rfl⟩ := has_i64 (by simpa only [GT.has] using h3)
  obtain ⟨u, _, _, rfl⟩ := has_i64 (by simpa only [GT.has] using h4)
  obtain ⟨v, _, _, rfl⟩ := has_i64 (by simpa only [GT.has] using h5)
  exact ⟨⟨z, x, y, u, v⟩, trivial, rfl⟩
theorem has_key (cs : List AVal) (h : keyG.has cs) : ∃ k : KeyR, kOk k ∧ cs = keyL k := by
  simp only [keyG, GT.has, GT.hasL] at h
  obtain ⟨a1, r1, rfl, h1, a2, r2, rfl, h2, a3, r3, rfl, h3, a4, r4, rfl, h4, a5, r5, rfl, h5, a6, r6, rfl, h6, a7, r7, rfl, h7, a8, r8, rfl, h8, a9, r9, rfl, h9, rfl⟩ := h
  obtain ⟨k1, x1, y1, rfl⟩ := has_i64 (by simpa only [GT.has] using h1)
  obtain ⟨k2, x2, y2, rfl⟩ := has_i64 (by simpa only [GT.has] using h2)
  obtain ⟨s, hs, rfl⟩ := has_strB (by simpa only [GT.has] using h3)
  obtain ⟨k4, x4, y4, rfl⟩ := has_i64 (by simpa only [GT.has] using h4)
  obtain ⟨k5, x5, y5, rfl⟩ := has_i64 (by simpa only [GT.has] using h5)
  obtain ⟨k6, x6, y6, rfl⟩ := has_i64 (by simpa only [GT.has] using h6)
  obtain ⟨k7, x7, y7, rfl⟩ := has_i64 (by simpa only [GT.has] using h7)
  obtain ⟨k8, x8, y8, rfl⟩ := has_i64 (by simpa only [GT.has] using h8)
  obtain ⟨b, rfl⟩ := has_bool (by simpa only [GT.has] using h9)
  exact ⟨⟨k1, k2, s, k4, k5, k6, k7, k8, b⟩, ⟨⟨x1, y1⟩, ⟨x2, y2⟩, hs, ⟨x4, y4⟩, ⟨x5, y5⟩, ⟨x6, y6⟩, ⟨x7, y7⟩, ⟨x8, y8⟩⟩, rfl⟩
def polG : GT := .st [.str, .sl typG, .sl rulG, .sl quoG]
def tabG : GT := .st [.int .i64, .sl keyG]
theorem has_pol {cs : List AVal} (h : polG.has cs) : ∃ p : PolR, polBig p ∧ namOk p ∧ cs = polL none none none p := by
  rw [polG, GT.has] at h
  simp only [GT.hasL] at h
  obtain ⟨a1, r1, rfl, h1, a2, r2, rfl, h2, a3, r3, rfl, h3, a4, r4, rfl, h4, rfl⟩ := h
  obtain ⟨s, _, rfl⟩ := has_strB h1
  obtain ⟨lt, ht, bt, rfl⟩ := has_list (enc := typL) has_typ h2
  obtain ⟨lr, hr, br, rfl⟩ := has_list (enc := rulL) has_rul h3
  obtain ⟨lq, hq, bq, rfl⟩ := has_list (enc := quoL) has_quo h4
  exact ⟨⟨s, lt, lr, lq⟩, ⟨bt, br, bq⟩, ht, rfl⟩
theorem has_tab {cs : List AVal} (h : tabG.has cs) : ∃ t : TabR, tAll t ∧ cs = tabL none t := by
  rw [tabG, GT.has] at h
  simp only [GT.hasL] at h
  obtain ⟨a1, r1, rfl, h1, a2, r2, rfl, h2, rfl⟩ := h
  obtain ⟨n, n0, n1, rfl⟩ := has_i64 h1
  obtain ⟨l, hl, bl, rfl⟩ := has_list (enc := keyL) has_key h2
  exact ⟨⟨n, l⟩, ⟨bl, ⟨n0, n1⟩, hl⟩, rfl⟩
theorem has_two {cs : List AVal} (h : (GT.arr 2 (.int .i64)).has cs) : ∃ a b : Int, isI64 a ∧ isI64 b ∧ cs = [i64 a, i64 b] := by
  obtain ⟨ess, h1, h2, rfl⟩ := h
  match ess, h1 with
  | [x, y], _ =>
    obtain ⟨a, a0, a1, rfl⟩ := has_i64 (h2 x (by simp))
    obtain ⟨b, b0, b1, rfl⟩ := has_i64 (h2 y (by simp))
    exact ⟨a, b, ⟨a0, a1⟩, ⟨b0, b1⟩, rfl⟩
end Go.Abs
end

section
namespace Go.Abs
theorem lawRL_pre (as : List AVal) (h : hasA [tabG, .int .i64] as) : lawRL.pre as := by
  simp only [hasA] at h
  obtain ⟨c1, _, rfl, h1, c2, _, rfl, h2, rfl⟩ := h
  obtain ⟨t, ht, rfl⟩ := has_tab h1
  obtain ⟨i, _, _, rfl⟩ := has_i64 h2
  exact ⟨t, i, ht, rfl⟩
theorem lawRR_pre (as : List AVal) (h : hasA [polG, tabG, .arr 2 (.int .i64)] as) : lawRR.pre as := by
  simp only [hasA] at h
  obtain ⟨c0, _, rfl, h0, c1, _, rfl, h1, c3, _, rfl, h3, rfl⟩ := h
  obtain ⟨p, p1, p2, rfl⟩ := has_pol h0
  obtain ⟨t, ht, rfl⟩ := has_tab h1
  obtain ⟨a, b, _, _, rfl⟩ := has_two h3
  exact ⟨p, t, a, b, ⟨p1, p2, ht⟩, rfl⟩
theorem lawRF_pre (as : List AVal) (h : hasA [polG, tabG, .arr 2 (.int .i64), .int .i64] as) : lawRF.pre as := by
  simp only [hasA] at h
  obtain ⟨c0, _, rfl, h0, c1, _, rfl, h1, c3, _, rfl, h3, c4, _, rfl, h4, rfl⟩ := h
  obtain ⟨p, p1, p2, rfl⟩ := has_pol h0
  obtain ⟨t, ht, rfl⟩ := has_tab h1
  obtain ⟨a, b, _, _, rfl⟩ := has_two h3
  obtain ⟨z, _, _, rfl⟩ := has_i64 h4
  exact ⟨p, t, a, b, z, ⟨p1, p2, ht⟩, rfl⟩
end Go.Abs
end
