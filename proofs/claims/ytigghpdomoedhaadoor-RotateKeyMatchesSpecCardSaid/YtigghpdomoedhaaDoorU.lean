/- Lemmas: an abstract interpreter, and what the functions compute. -/
import Derived.Test.YtigghpdomoedhaaDoorC
import Derived.Test.YtigghpdomoedhaaDoorS
import Derived.Test.YtigghpdomoedhaaDoorR
import Derived.Test.YtigghpdomoedhaaDoorE
set_option linter.unusedSimpArgs false
set_option linter.unusedVariables false
set_option linter.unusedSectionVars false
section
namespace Go.Abs
theorem vb_of {P : Nat × Bool → Prop} {l m : List (Nat × Bool)} (h : l.all (fun p => m.contains p) = true) (hm : ∀ p ∈ m, P p) : ∀ p ∈ l, P p := fun p hp => by
  have := List.all_eq_true.1 h p hp
  exact hm p (by simpa using this)
end Go.Abs
end

section
namespace Go.Abs
def lawArg (p : PolR) (t : TabR) : Prop := polBig p ∧ namOk p ∧ tAll t
theorem few_all {p : PolR} {t : TabR} (h : fewL p t = true) (ht : tAll t) : polOk p ∧ tGood t := by
  simp only [fewL, Bool.and_eq_true] at h
  exact ⟨few_ok' h.1.1, h.2, ht⟩
end Go.Abs
end

section
namespace Go.Abs
set_option maxRecDepth 100000
theorem six_t (nl : Option Bool) (t : TabR) (a b c d : AVal) : (tabL nl t ++ [a, b, c, d]).take 2 = tabL nl t := rfl
theorem six_2 (nl : Option Bool) (t : TabR) (a b c d : AVal) : hdA ((tabL nl t ++ [a, b, c, d]).drop 2) = a := rfl
theorem six_3 (nl : Option Bool) (t : TabR) (a b c d : AVal) : hdA ((tabL nl t ++ [a, b, c, d]).drop 3) = b := rfl
theorem six_5 (nl : Option Bool) (t : TabR) (a b c d : AVal) : hdA ((tabL nl t ++ [a, b, c, d]).drop 5) = d := rfl
theorem spl_6t (a b c d e f : AVal) (nl : Option Bool) (t : TabR) (g h i j : AVal) : splice [a, b, c, d, e, f] 0 (tabL nl t ++ [g, h, i, j]) = tabL nl t ++ [g, h, i, j] := rfl
theorem six_cells (nl : Option Bool) (t : TabR) (x : List UInt8) (y z : Int) (n' : Option Bool) (n : Nat) (l : List AVal) : (∀ c : AVal, c ∈ tabL nl t ∨ c = st x ∨ c = i64 y ∨ c = .sl .plain n' n l ∨ c = i64 z → isCell c) ∧ (∀ c : AVal, c ∈ tabL nl t ∨ c = st x ∨ c = i64 y ∨ c = .sl .plain n' n l ∨ c = i64 z → ownTop c = false) := by
  refine ⟨?_, ?_⟩
  · rintro c (h | rfl | rfl | rfl | rfl)
    · exact (tabL_cell nl t).2 trivial c h
    all_goals simp
  · rintro c (h | rfl | rfl | rfl | rfl)
    · exact (tabL_own nl t).2 trivial c h
    all_goals simp
def lawRK : Contract := ⟨fun ds => ∃ (p : PolR) (t : TabR) (s : List UInt8) (a b : Int), lawArg p t ∧ bLen s.length ∧ ds = [.agg (polL none none none p), .agg (tabL none t), st s, .agg [i64 a, i64 b]], fun _ => bo true⟩
set_option maxHeartbeats 16000000 in
theorem law_RK_ok (E : Env) (h280 : E.G 280 = sanRC) (h281 : E.G 281 = lfewC) (h262 : E.G 262 = samTC) (h261 : E.G 261 = rrotKC) (h229 : E.G 229 = rotKC) : ∀ ds, lawRK.pre ds → ds.length = f_custodylaw35_RotateKeyMatchesSpec.n ∧ awp E f_custodylaw35_RotateKeyMatchesSpec.body (retQ f_custodylaw35_RotateKeyMatchesSpec.res (lawRK.post ds)) (initSt f_custodylaw35_RotateKeyMatchesSpec.wr ds) := by
  rintro _ ⟨p, t, s, a, b, ⟨hp, hn, ht⟩, hs, rfl⟩
  show _ ∧ awp E _ (retQ _ (bo true)) _
  have f1 := lfew_pre (na := none) (nb := none) (nc := none) (nl := none) hp hn ht
  have f2 := lfew_post none none none none p t
  unfold bLen at hs
  cases hf : fewL p t with
  | false =>
    rw [hf] at f2
    simp (maxSteps := 1000000) (disch := first | omega | (simp; done) | (simp; omega)) [W_id, bys_app, bys_snoc, f_custodylaw35_RotateKeyMatchesSpec, h280, h281, f1, f2, kT, kF, dT, dF]
    skip
  | true =>
    rw [hf] at f2
    obtain ⟨hpo, hg⟩ := few_all hf ht
    have hlen : t.keys.length ≤ 100000000 := (tVal_ok hg.1).1.2
    by_cases hs2 : s.length ≤ 100
    · have hs3 : ¬ (100 : Int) < s.length := by omega
      have k1 := rot_pre (na := none) (nb := none) (nc := none) (nl := none) (s := s) a b hpo hg (by omega)
      have k2 := rot_post none none none none p t s a b
      have q1 := rrot_pre (na := none) (nb := none) (nc := none) (nl := some false) (s := s) a b hpo hg (by omega)
      have q2 := rrot_post none none none (some false) p t s a b
      have m1 := samT_pre (na := none) (nb := some false) (t := t) hlen
      have m2 : samTC.pre [.agg (tabL none (rotK p t s a b).t), .agg (tabL none (rotK p t s a b).t)] = True := samT_pre (by
        by_cases he : (rotK p t s a b).e = 0
        · exact (tVal_ok (rot_good hg he).1.1).1.2
        · have : (rotK p t s a b).t = ⟨0, []⟩ := by
            unfold rotK at he ⊢
            split
            · rename_i h1
              rw [if_pos h1] at he
              split
              · rename_i h2; rw [if_pos h2] at he; exact absurd rfl he
              · rfl
            · rfl
          rw [this]; show (0 : Nat) ≤ _; omega)
      generalize rotK p t s a b = r at *
      simp (maxSteps := 1000000) (disch := first | omega | (simp; done) | (simp; omega)) [W_id, bys_app, bys_snoc, f_custodylaw35_RotateKeyMatchesSpec, h280, h281, f1, f2, hs2, hs3, kT, kF, dT, dF]
      rw [f_custodylaw35_RotateKeyMatchesSpec_r0]
      refine awp_cut fun B hB => ?_
      simp (maxSteps := 1000000) (disch := first | omega | (simp; done) | (simp; omega)) [W_id, bys_app, bys_snoc, kT, kF, dT, dF, spl_t2, spl_22, tabL_set1, spl_21a, spl_21b]
      refine ⟨⟨by omega, by omega, keysL_pc _⟩, ?_⟩
      rw [hB]; clear hB
      rw [show ([i64 t.next, .sl .plain (some false) t.keys.length (keysL t.keys)] : List AVal) = tabL (some false) t from rfl]
      refine awp_cut fun B hB => ?_
      simp (maxSteps := 1000000) (disch := first | omega | (simp; done) | (simp; omega)) [W_id, bys_app, bys_snoc, h229, k1, k2, kT, kF, dT, dF, spl_t2, spl_22, spl_11]
      rw [hB]; clear hB
      refine awp_cut fun B hB => ?_
      simp (maxSteps := 1000000) (disch := first | omega | (simp; done) | (simp; omega)) [W_id, bys_app, bys_snoc, h261, q1, q2, kT, kF, dT, dF, spl_t2, spl_22, spl_11, spl_6t]
      refine ⟨six_cells _ _ _ _ _ _ _ _, ?_⟩
      rw [hB]; clear hB
      refine awp_cut fun B hB => ?_
      simp (maxSteps := 1000000) (disch := first | omega | (simp; done) | (simp; omega)) [W_id, bys_app, bys_snoc, h262, m2, kT, kF, dT, dF, six_t]
      rw [hB]; clear hB
      refine awp_cut fun B hB => ?_
      simp (maxSteps := 1000000) (disch := first | omega | (simp; done) | (simp; omega)) [W_id, bys_app, bys_snoc, h262, m1, kT, kF, dT, dF, six_t]
      rw [hB]; clear hB
      simp (maxSteps := 1000000) (disch := first | omega | (simp; done) | (simp; omega)) [W_id, bys_app, bys_snoc, kT, kF, dT, dF, six_2, six_3, six_5]
    · have hs3 : (100 : Int) < s.length := by omega
      simp (maxSteps := 1000000) (disch := first | omega | (simp; done) | (simp; omega)) [W_id, bys_app, bys_snoc, f_custodylaw35_RotateKeyMatchesSpec, h280, h281, f1, f2, hs2, hs3, kT, kF, dT, dF]
      skip
end Go.Abs
end

section
namespace Go.Abs
theorem has_strB {cs : List AVal} (h : GT.str.has cs) : ∃ l : List UInt8, bLen l.length ∧ cs = [st l] := by
  simp only [GT.has] at h
  obtain ⟨s, rfl, hs⟩ := h
  refine ⟨s.data.toList, ?_, by simp [st]⟩
  have : s.data.toList.length = s.size := Array.length_toList
  show s.data.toList.length ≤ 9223372036854775807
  rw [this]
  exact hs
theorem has_list {α : Type} {e : GT} {enc : α → List AVal} {P : α → Prop} (he : ∀ cs, e.has cs → ∃ a, P a ∧ cs = enc a) {cs : List AVal} (h : (GT.sl e).has cs) : ∃ l : List α, (∀ a ∈ l, P a) ∧ bLen l.length ∧ cs = [.sl .plain none l.length (l.flatMap enc)] := by
  obtain ⟨ess, h1, rfl, h3⟩ := h
  suffices H : ∃ l : List α, (∀ x ∈ l, P x) ∧ l.length = ess.length ∧ ess.flatten = l.flatMap enc by
    obtain ⟨l, k1, k2, k3⟩ := H
    exact ⟨l, k1, by rw [k2]; exact h3, by rw [k2, k3]⟩
  clear h3
  induction ess with
  | nil => exact ⟨[], by simp, rfl, rfl⟩
  | cons c ess ih =>
    obtain ⟨l, k1, k2, k3⟩ := ih fun c hc => h1 c (by simp [hc])
    obtain ⟨x, a0, rfl⟩ := he c (h1 c (by simp))
    refine ⟨x :: l, fun y hy => ?_, by simp [k2], by simp [k3]⟩
    rcases List.mem_cons.1 hy with rfl | hy
    · exact a0
    · exact k1 y hy
def typG : GT := .st [.str, .int .i64, .int .i64]
def rulG : GT := .st [.int .i64, .int .i64, .int .i64]
def quoG : GT := .st [.int .i64, .int .i64, .int .i64, .int .i64, .int .i64]
def keyG : GT := .st [.int .i64, .int .i64, .str, .int .i64, .int .i64, .int .i64, .int .i64, .int .i64, .bool]
theorem has_typ (cs : List AVal) (h : typG.has cs) : ∃ t : TypR, t.name.length ≤ 9223372036854775807 ∧ cs = typL t := by
  simp only [typG, GT.has, GT.hasL] at h
  obtain ⟨a1, r1, rfl, h1, a2, r2, rfl, h2, a3, r3, rfl, h3, rfl⟩ := h
  obtain ⟨s, hs, rfl⟩ := has_strB (by simpa only [GT.has] using h1)
  obtain ⟨x, _, _, rfl⟩ := has_i64 (by simpa only [GT.has] using h2)
  obtain ⟨y, _, _, rfl⟩ := has_i64 (by simpa only [GT.has] using h3)
  exact ⟨⟨s, x, y⟩, hs, rfl⟩
theorem has_rul (cs : List AVal) (h : rulG.has cs) : ∃ t : RulR, True ∧ cs = rulL t := by
  simp only [rulG, GT.has, GT.hasL] at h
  obtain ⟨a1, r1, rfl, h1, a2, r2, rfl, h2, a3, r3, rfl, h3, rfl⟩ := h
  obtain ⟨z, _, _, rfl⟩ := has_i64 (by simpa only [GT.has] using h1)
  obtain ⟨x, _, _, rfl⟩ := has_i64 (by simpa only [GT.has] using h2)
  obtain ⟨y, _, _, rfl⟩ := has_i64 (by simpa only [GT.has] using h3)
  exact ⟨⟨z, x, y⟩, trivial, rfl⟩
theorem has_quo (cs : List AVal) (h : quoG.has cs) : ∃ t : QuoR, True ∧ cs = quoL t := by
  simp only [quoG, GT.has, GT.hasL] at h
  obtain ⟨a1, r1, rfl, h1, a2, r2, rfl, h2, a3, r3, rfl, h3, a4, r4, rfl, h4, a5, r5, rfl, h5, rfl⟩ := h
  obtain ⟨z, _, _, rfl⟩ := has_i64 (by simpa only [GT.has] using h1)
  obtain ⟨x, _, _, rfl⟩ := has_i64 (by simpa only [GT.has] using h2)
  obtain ⟨y, _, _, rfl⟩ := has_i64 (by simpa only [GT.has] using h3)
  obtain ⟨u, _, _, rfl⟩ := has_i64 (by simpa only [GT.has] using h4)
  obtain ⟨v, _, _, rfl⟩ := has_i64 (by simpa only [GT.has] using h5)
  exact ⟨⟨z, x, y, u, v⟩, trivial, rfl⟩
theorem has_key (cs : List AVal) (h : keyG.has cs) : ∃ k : KeyR, kOk k ∧ cs = keyL k := by
  simp only [keyG, GT.has, GT.hasL] at h
  obtain ⟨a1, r1, rfl, h1, a2, r2, rfl, h2, a3, r3, rfl, h3, a4, r4, rfl, h4, a5, r5, rfl, h5, a6, r6, rfl, h6, a7, r7, rfl, h7, a8, r8, rfl, h8, a9, r9, rfl, h9, rfl⟩ := h
  obtain ⟨k1, x1, y1, rfl⟩ := has_i64 (by simpa only [GT.has] using h1)
  obtain ⟨k2, x2, y2, rfl⟩ := has_i64 (by simpa only [GT.has] using h2)
  obtain ⟨s, hs, rfl⟩ := has_strB (by simpa only [GT.has] using h3)
  obtain ⟨k4, x4, y4, rfl⟩ := has_i64 (by simpa only [GT.has] using h4)
  obtain ⟨k5, x5, y5, rfl⟩ := has_i64 (by simpa only [GT.has] using h5)
  obtain ⟨k6, x6, y6, rfl⟩ := has_i64 (by simpa only [GT.has] using h6)
  obtain ⟨k7, x7, y7, rfl⟩ := has_i64 (by simpa only [GT.has] using h7)
  obtain ⟨k8, x8, y8, rfl⟩ := has_i64 (by simpa only [GT.has] using h8)
  obtain ⟨b, rfl⟩ := has_bool (by simpa only [GT.has] using h9)
  exact ⟨⟨k1, k2, s, k4, k5, k6, k7, k8, b⟩, ⟨⟨x1, y1⟩, ⟨x2, y2⟩, hs, ⟨x4, y4⟩, ⟨x5, y5⟩, ⟨x6, y6⟩, ⟨x7, y7⟩, ⟨x8, y8⟩⟩, rfl⟩
def polG : GT := .st [.str, .sl typG, .sl rulG, .sl quoG]
def tabG : GT := .st [.int .i64, .sl keyG]
theorem has_pol {cs : List AVal} (h : polG.has cs) : ∃ p : PolR, polBig p ∧ namOk p ∧ cs = polL none none none p := by
  rw [polG, GT.has] at h
  simp only [GT.hasL] at h
  obtain ⟨a1, r1, rfl, h1, a2, r2, rfl, h2, a3, r3, rfl, h3, a4, r4, rfl, h4, rfl⟩ := h
  obtain ⟨s, _, rfl⟩ := has_strB h1
  obtain ⟨lt, ht, bt, rfl⟩ := has_list (enc := typL) has_typ h2
  obtain ⟨lr, hr, br, rfl⟩ := has_list (enc := rulL) has_rul h3
  obtain ⟨lq, hq, bq, rfl⟩ := has_list (enc := quoL) has_quo h4
  exact ⟨⟨s, lt, lr, lq⟩, ⟨bt, br, bq⟩, ht, rfl⟩
theorem has_tab {cs : List AVal} (h : tabG.has cs) : ∃ t : TabR, tAll t ∧ cs = tabL none t := by
  rw [tabG, GT.has] at h
  simp only [GT.hasL] at h
  obtain ⟨a1, r1, rfl, h1, a2, r2, rfl, h2, rfl⟩ := h
  obtain ⟨n, n0, n1, rfl⟩ := has_i64 h1
  obtain ⟨l, hl, bl, rfl⟩ := has_list (enc := keyL) has_key h2
  exact ⟨⟨n, l⟩, ⟨bl, ⟨n0, n1⟩, hl⟩, rfl⟩
theorem has_two {cs : List AVal} (h : (GT.arr 2 (.int .i64)).has cs) : ∃ a b : Int, isI64 a ∧ isI64 b ∧ cs = [i64 a, i64 b] := by
  obtain ⟨ess, h1, h2, rfl⟩ := h
  match ess, h1 with
  | [x, y], _ =>
    obtain ⟨a, a0, a1, rfl⟩ := has_i64 (h2 x (by simp))
    obtain ⟨b, b0, b1, rfl⟩ := has_i64 (h2 y (by simp))
    exact ⟨a, b, ⟨a0, a1⟩, ⟨b0, b1⟩, rfl⟩
end Go.Abs
end

section
namespace Go.Abs
theorem lawRK_pre (as : List AVal) (h : hasA [polG, tabG, .str, .arr 2 (.int .i64)] as) : lawRK.pre as := by
  simp only [hasA] at h
  obtain ⟨c0, _, rfl, h0, c1, _, rfl, h1, c2, _, rfl, h2, c3, _, rfl, h3, rfl⟩ := h
  obtain ⟨p, p1, p2, rfl⟩ := has_pol h0
  obtain ⟨t, ht, rfl⟩ := has_tab h1
  obtain ⟨s, hs, rfl⟩ := has_strB h2
  obtain ⟨a, b, _, _, rfl⟩ := has_two h3
  exact ⟨p, t, s, a, b, ⟨p1, p2, ht⟩, hs, rfl⟩
end Go.Abs
end
