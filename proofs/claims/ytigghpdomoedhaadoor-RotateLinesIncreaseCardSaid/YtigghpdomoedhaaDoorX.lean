/- Lemmas: an abstract interpreter, and what the functions compute. -/
import Derived.Test.YtigghpdomoedhaaDoorC
import Derived.Test.YtigghpdomoedhaaDoorU
set_option linter.unusedSimpArgs false
set_option linter.unusedVariables false
set_option linter.unusedSectionVars false
section
namespace Go.Abs
theorem vb_of {P : Nat × Bool → Prop} {l m : List (Nat × Bool)} (h : l.all (fun p => m.contains p) = true) (hm : ∀ p ∈ m, P p) : ∀ p ∈ l, P p := fun p hp => by
  have := List.all_eq_true.1 h p hp
  exact hm p (by simpa using this)
end Go.Abs
end

section
namespace Go.Abs
theorem getK_of_mem {l : List KeyR} (hs : srt l) {x : KeyR} (h : x ∈ l) : getK l x.id = some x := by
  obtain ⟨m, hm, rfl⟩ := List.getElem_of_mem h
  exact getK_at hs hm
structure LineP (l : List KeyR) (i : Int) (k : KeyR) : Prop where
  pos : 1 ≤ (lineK l i).length
  fst : (lineK l i).getD 0 0 = i
  all : ∀ j < (lineK l i).length, ∃ x, getK l ((lineK l i).getD j 0) = some x ∧ x.ver = k.ver + j ∧ (0 < j → (lineK l i).getD (j - 1) 0 < (lineK l i).getD j 0)
theorem lineP {l : List KeyR} (hs : srt l) : ∀ (n : Nat) (i : Int) (k : KeyR), cntG l i ≤ n → getK l i = some k → LineP l i k := by
  intro n
  induction n with
  | zero =>
    intro i k hn hk
    cases hx : nxtK l i with
    | none =>
      have e := lineK_none hx
      refine ⟨by rw [e]; simp, by rw [e]; rfl, fun j hj => ?_⟩
      rw [e] at hj ⊢
      have : j = 0 := by simpa using hj
      subst this
      exact ⟨k, hk, by simp, fun h => by omega⟩
    | some i' => have := cntG_lt hx; omega
  | succ n ih =>
    intro i k hn hk
    cases hx : nxtK l i with
    | none =>
      have e := lineK_none hx
      refine ⟨by rw [e]; simp, by rw [e]; rfl, fun j hj => ?_⟩
      rw [e] at hj ⊢
      have : j = 0 := by simpa using hj
      subst this
      exact ⟨k, hk, by simp, fun h => by omega⟩
    | some i' =>
      have e := lineK_some hx
      have hlt := cntG_lt hx
      obtain ⟨k0, x, h1, h2, h3, h4, h5⟩ := nxtK_mem hx
      rw [hk] at h1
      obtain rfl := Option.some.inj h1
      have hgx := getK_of_mem hs h2
      rw [h4] at hgx
      obtain ⟨p1, p2, p3⟩ := ih i' x (by omega) hgx
      have hv : x.ver = k.ver + 1 := by
        simp only [sucK, Bool.and_eq_true, beq_iff_eq] at h3
        exact h3.2
      refine ⟨by rw [e]; simp, by rw [e]; rfl, fun j hj => ?_⟩
      rw [e] at hj ⊢
      cases j with
      | zero => exact ⟨k, hk, by simp, fun h => by omega⟩
      | succ j =>
        obtain ⟨y, q1, q2, q3⟩ := p3 j (by simpa using hj)
        refine ⟨y, by simpa using q1, by rw [q2, hv]; omega, fun _ => ?_⟩
        cases j with
        | zero =>
          show i < (lineK l i').getD 0 0
          rw [p2]; exact h5
        | succ j => exact q3 (by omega)
theorem get_ver {p : PolR} {t : TabR} {s : List UInt8} {now z : Int} (hg : tGood t) (h : (rotK p t s now z).e = 0) {i v : Int} (hx : ∃ x, getK t.keys i = some x ∧ x.ver = v) : ∃ x, getK (rotK p t s now z).t.keys i = some x ∧ x.ver = v := by
  obtain ⟨h1, h2, h3⟩ := rot_ok h
  obtain ⟨x, x1, x2⟩ := hx
  rw [h3]
  refine ⟨_, get_old (s := s) hg h1 h2 x1, ?_⟩
  split
  · exact x2
  · exact x2
end Go.Abs
end

section
namespace Go.Abs
set_option maxRecDepth 100000
def lawRI : Contract := ⟨fun ds => ∃ (p : PolR) (t : TabR) (i : Int) (l : List UInt8), lawArg p t ∧ ds = [.agg (polL none none none p), .agg (tabL none t), i64 i, .sl .plain none l.length (bys l)], fun _ => bo true⟩
structure IncS where
  n : Nat
  nl : Option Bool
  t : TabR
  s : List UInt8
  now : Int
set_option maxHeartbeats 16000000 in
theorem inc_end (E : Env) (h234 : E.G 234 = linCn) (h230 : E.G 230 = getC) {p : PolR} {t t0 : TabR} {i : Int} {l : List UInt8} {nl : Option Bool} {s : List UInt8} {k x : KeyR} (hg : tGood t) (hx : getK t.keys i = some x) (hv : x.ver = k.ver) :
    awp E f_custodylaw35_RotateLinesIncrease_r4 (retQ [.t 8] (bo true)) ⟨[(0, .agg (polL none none none p)), (1, .agg (tabL none t0)), (2, i64 i), (3, .sl .plain none l.length (bys l))], [(5, .bp 5 0), (9, bo true), (10, .bp 10 0)], [(4, some (polL none none none p)), (5, some (tabL nl t)), (10, some (keyL k)), (12, some [st s])]⟩ := by
  obtain ⟨tk, hlen, _, hk⟩ := tVal_ok hg.1
  have l1 := lin_pre none (nl := nl) (t := t) i hg.1
  have l2 := lin_post none nl t i
  obtain ⟨p1, p2, p3⟩ := lineP tk.1 _ i x (Nat.le_refl _) hx
  have hL := lineK_len t.keys _ i (cntG_le t.keys i)
  rw [show linK t.keys i = some (lineK t.keys i) by rw [linK, hx]; rfl, linA] at l2
  generalize lineK t.keys i = L at *
  have i0 := intsL_at (L := L) (j := 0) p1
  rw [p2, List.drop_zero] at i0
  have b0 : ((L.length : Int) == 0) = false := beq_false_of_ne (by omega)
  have b1 : ¬ L = [] := by intro h; rw [h] at p1; simp at p1
  rw [f_custodylaw35_RotateLinesIncrease_r4]
  refine awp_cut fun B hB => ?_
  simp (maxSteps := 1000000) (disch := first | omega | (simp; done) | (simp; omega)) [W_id, bys_app, bys_snoc, h234, l1, l2, kT, kF, dT, dF]
  rw [hB]; clear hB
  refine awp_cut fun B hB => ?_
  simp (maxSteps := 1000000) (disch := first | omega | (simp; done) | (simp; omega)) [W_id, bys_app, bys_snoc, b0, b1, i0, kT, kF, dT, dF]
  refine ⟨by omega, by omega, ?_⟩
  rw [hB, f_custodylaw35_RotateLinesIncrease_r5]; clear hB
  simp (maxSteps := 1000000) (disch := first | omega | (simp; done) | (simp; omega)) [W_id, bys_app, bys_snoc, kT, kF]
  refine awp_name fun Q0 hQ0 => ?_
  refine awp_for (fun n : Nat => ⟨[(0, .agg (polL none none none p)), (1, .agg (tabL none t0)), (2, i64 i), (3, .sl .plain none l.length (bys l))], [(5, .bp 5 0), (9, bo true), (10, .bp 10 0), (21, .sl .plain none L.length (intsL L)), (23, i64 n)],
    [(4, some (polL none none none p)), (5, some (tabL nl t)), (10, some (keyL k)), (12, some [st s]), (17, none), (18, none)]⟩) (fun n => L.length - n) (fun n => n ≤ L.length) 0 (by simp) (by omega) fun n hn => ?_
  by_cases h : n < L.length
  · have lt : (n : Int) < L.length := by omega
    obtain ⟨y, y1, y2, y3⟩ := p3 n h
    have a1 := get_pre (nl := nl) (t := t) (L.getD n 0) tk
    have a2 := get_post nl t (L.getD n 0)
    rw [y1, getA] at a2
    have ka := intsL_at h
    have hkv := (okK_rng (hk y (getK_mem y1)).1).2.2.2.2.2.1
    have htn : topN = 2147483647 := rfl
    have e1 : (y.ver == k.ver + n) = true := by rw [y2, hv]; simp
    have e2 : (y.ver != k.ver + n) = false := by rw [y2, hv]; simp
    by_cases h0 : n = 0
    · subst h0
      generalize L.getD 0 0 = z at *
      have e3 : (y.ver != k.ver) = false := by simpa using e2
      have ka0 : hdA (intsL L) = i64 z := by simpa using ka
      simp (maxSteps := 1000000) (disch := first | omega | (simp; done) | (simp; omega)) [W_id, bys_app, bys_snoc, f_custodylaw35_RotateLinesIncrease_l1, lt, kT, kF, dT, dF]
      rw [f_custodylaw35_RotateLinesIncrease_r6]
      simp (maxSteps := 1000000) (disch := first | omega | (simp; done) | (simp; omega)) [W_id, bys_app, bys_snoc, ka0, h230, a1, a2, e3, kT, kF, dT, dF, spl_9, key0_R, spl_k]
      exact ⟨by omega, p1, 1, by omega, by omega, rfl⟩
    · have y4 := y3 (by omega)
      have kb := intsL_at (L := L) (j := n - 1) (by omega)
      have hn1 : ((n : Int) - 1).toNat = n - 1 := by omega
      have hpos : (0 : Int) < n := by omega
      have y5 : ¬ L.getD n 0 ≤ L.getD (n - 1) 0 := by omega
      generalize L.getD n 0 = z at *
      generalize L.getD (n - 1) 0 = z' at *
      simp (maxSteps := 1000000) (disch := first | omega | (simp; done) | (simp; omega)) [W_id, bys_app, bys_snoc, f_custodylaw35_RotateLinesIncrease_l1, lt, kT, kF, dT, dF]
      rw [f_custodylaw35_RotateLinesIncrease_r6]
      simp (maxSteps := 1000000) (disch := first | omega | (simp; done) | (simp; omega)) [W_id, bys_app, bys_snoc, ka, kb, hn1, hpos, y5, h230, a1, a2, e2, kT, kF, dT, dF, spl_9, key0_R, spl_k]
      exact ⟨by omega, by omega, by omega, by omega, ⟨by omega, by omega⟩, by omega, n + 1, by omega, by omega, by omega⟩
  · have lt : ¬ (n : Int) < L.length := by omega
    simp (maxSteps := 1000000) (disch := first | omega | (simp; done) | (simp; omega)) [W_id, bys_app, bys_snoc, f_custodylaw35_RotateLinesIncrease_l1, f_custodylaw35_RotateLinesIncrease_r7, lt, kT, kF, dT, dF, hQ0]
    skip
set_option maxHeartbeats 16000000 in
theorem law_RI_ok (E : Env) (h280 : E.G 280 = sanRC) (h281 : E.G 281 = lfewC) (h229 : E.G 229 = rotKC) (h234 : E.G 234 = linCn) (h235 : E.G 235 = newC) (h230 : E.G 230 = getC) : ∀ ds, lawRI.pre ds → ds.length = f_custodylaw35_RotateLinesIncrease.n ∧ awp E f_custodylaw35_RotateLinesIncrease.body (retQ f_custodylaw35_RotateLinesIncrease.res (lawRI.post ds)) (initSt f_custodylaw35_RotateLinesIncrease.wr ds) := by
  rintro _ ⟨p, t, i, l, ⟨hp, hn, ht⟩, rfl⟩
  show _ ∧ awp E _ (retQ _ (bo true)) _
  have f1 := lfew_pre (na := none) (nb := none) (nc := none) (nl := none) hp hn ht
  have f2 := lfew_post none none none none p t
  cases hf : fewL p t with
  | false =>
    rw [hf] at f2
    simp (maxSteps := 1000000) (disch := first | omega | (simp; done) | (simp; omega)) [W_id, bys_app, bys_snoc, f_custodylaw35_RotateLinesIncrease, h280, h281, f1, f2, kT, kF, dT, dF]
    skip
  | true =>
    rw [hf] at f2
    obtain ⟨hpo, hg⟩ := few_all hf ht
    by_cases hl : l.length ≤ 10
    · have hl' : ¬ (10 : Int) < l.length := by omega
      have a1 := get_pre (nl := none) (t := t) i (tVal_ok hg.1).1
      have a2 := get_post none t i
      simp (maxSteps := 1000000) (disch := first | omega | (simp; done) | (simp; omega)) [W_id, bys_app, bys_snoc, f_custodylaw35_RotateLinesIncrease, h280, h281, f1, f2, hl', kT, kF, dT, dF]
      rw [f_custodylaw35_RotateLinesIncrease_r0]
      cases hk : getK t.keys i with
      | none =>
        rw [hk, getA] at a2
        simp (maxSteps := 1000000) (disch := first | omega | (simp; done) | (simp; omega)) [W_id, bys_app, bys_snoc, h230, a1, a2, kT, kF, dT, dF, key0_R, spl_k, spl_9]
        skip
      | some k =>
        rw [hk, getA] at a2
        obtain ⟨_, _, _, q4, q5, _, _⟩ := okK_rng ((tVal_ok hg.1).2.2.2 k (getK_mem hk)).1
        have hm : maxT = 1099511627776 := rfl
        refine awp_cut fun B hB => ?_
        simp (maxSteps := 1000000) (disch := first | omega | (simp; done) | (simp; omega)) [W_id, bys_app, bys_snoc, h230, a1, a2, kT, kF, dT, dF, key0_R, spl_k, spl_9]
        rw [hB]; clear hB
        simp (maxSteps := 1000000) (disch := first | omega | (simp; done) | (simp; omega)) [W_id, bys_app, bys_snoc, kT, kF, dT, dF]
        rw [f_custodylaw35_RotateLinesIncrease_r1]
        simp (maxSteps := 1000000) (disch := first | omega | (simp; done) | (simp; omega)) [W_id, bys_app, bys_snoc, kT, kF, dT, dF, spl_11]
        refine awp_name fun Q0 hQ0 => ?_
        refine awp_for (fun a : IncS => ⟨[(0, .agg (polL none none none p)), (1, .agg (tabL none t)), (2, i64 i), (3, .sl .plain none l.length (bys l))],
          [(4, .bp 4 0), (5, .bp 5 0), (9, bo true), (10, .bp 10 0), (12, .bp 12 0), (13, i64 a.now), (14, i64 a.n)],
          [(4, some (polL none none none p)), (5, some (tabL a.nl a.t)), (10, some (keyL k)), (12, some [st a.s])]⟩)
          (fun a => l.length - a.n) (fun a => a.n ≤ l.length ∧ tGood a.t ∧ a.s.length < 1000000000 ∧ (∃ x, getK a.t.keys i = some x ∧ x.ver = k.ver) ∧ 0 ≤ a.now ∧ a.now ≤ maxT + 8 * a.n) ⟨0, none, t, sd4, k.beg⟩ (by simp [sd4]) ⟨Nat.zero_le _, hg, by show sd4.length < 1000000000; decide, ⟨k, hk, rfl⟩, q4.1, by show k.beg ≤ maxT + 8 * ((0 : Nat) : Int); omega⟩ fun a ha => ?_
        obtain ⟨n, nl, u, s, now⟩ := a
        obtain ⟨h1, h2, h3, ⟨x, x1, x2⟩, h4, h5⟩ := ha
        simp only at h1 h2 h3 x1 h4 h5 ⊢
        by_cases h : n < l.length
        · have lt : (n : Int) < l.length := by omega
          have hz : ∃ z, newK u.keys i = some z := ⟨_, by rw [newK, linK, x1]; rfl⟩
          obtain ⟨z, hz⟩ := hz
          have c1 := new_pre (nl := nl) (t := u) i h2.1
          have c2 := new_post nl u i
          rw [hz, newA] at c2
          have hb := hd_bys h
          generalize at8 l n = c at *
          have htm : Int.tmod (c.toNat : Int) 8 = (c.toNat : Int) % 8 := Int.tmod_eq_emod_of_nonneg (by omega)
          have hc := c.toNat_lt
          have hmod : (0 : Int) ≤ (c.toNat : Int) % 8 ∧ (c.toNat : Int) % 8 < 8 := ⟨by omega, by omega⟩
          have k1 := rot_pre (na := none) (nb := none) (nc := none) (nl := nl) (s := s) (now + (c.toNat : Int) % 8) z hpo h2 h3
          have k2 := rot_post none none none nl p u s (now + (c.toNat : Int) % 8) z
          have hgood := rot_good (p := p) (s := s) (now := now + (c.toNat : Int) % 8) (i := z) h2
          have hver := fun he => get_ver (p := p) (s := s) (now := now + (c.toNat : Int) % 8) (z := z) h2 he ⟨x, x1, x2⟩
          generalize rotK p u s (now + (c.toNat : Int) % 8) z = r at *
          by_cases he : r.e = 0
          · obtain ⟨g1, g2⟩ := hgood he
            have hv := hver he
            rw [he] at k2
            simp (maxSteps := 1000000) (disch := first | omega | (simp; done) | (simp; omega)) [W_id, bys_app, bys_snoc, f_custodylaw35_RotateLinesIncrease_l0, lt, kT, kF, dT, dF]
            rw [f_custodylaw35_RotateLinesIncrease_r2]
            simp (maxSteps := 1000000) (disch := first | omega | (simp; done) | (simp; omega)) [W_id, bys_app, bys_snoc, hb, htm, h235, c1, c2, h229, k1, k2, kT, kF, dT, dF, spl_t2, spl_11, spl_22]
            refine ⟨by omega, by omega, ?_⟩
            rw [f_custodylaw35_RotateLinesIncrease_r3]
            simp (maxSteps := 1000000) (disch := first | omega | (simp; done) | (simp; omega)) [W_id, bys_app, bys_snoc, kT, kF, dT, dF, spl_tt, spl_11]
            exact ⟨⟨n + 1, none, r.t, r.s, now + (c.toNat : Int) % 8⟩, by show l.length - (n + 1) < _; omega, ⟨by show n + 1 ≤ _; omega, g1, by show r.s.length < _; omega, hv, by show 0 ≤ now + (c.toNat : Int) % 8; omega, by show now + (c.toNat : Int) % 8 ≤ maxT + 8 * ((n + 1 : Nat) : Int); omega⟩, ⟨rfl, by show (n : Int) + 1 = ((n + 1 : Nat) : Int); omega⟩, rfl, rfl⟩
          · have hbe : (r.e == 0) = false := beq_false_of_ne he
            simp (maxSteps := 1000000) (disch := first | omega | (simp; done) | (simp; omega)) [W_id, bys_app, bys_snoc, f_custodylaw35_RotateLinesIncrease_l0, lt, kT, kF, dT, dF]
            rw [f_custodylaw35_RotateLinesIncrease_r2]
            simp (maxSteps := 1000000) (disch := first | omega | (simp; done) | (simp; omega)) [W_id, bys_app, bys_snoc, hb, htm, h235, c1, c2, h229, k1, k2, kT, kF, dT, dF, spl_t2, spl_11, spl_22]
            refine ⟨by omega, by omega, ?_⟩
            rw [f_custodylaw35_RotateLinesIncrease_r3]
            simp (maxSteps := 1000000) (disch := first | omega | (simp; done) | (simp; omega)) [W_id, bys_app, bys_snoc, hbe, kT, kF, dT, dF, spl_tt, spl_11]
            exact ⟨⟨n + 1, nl, u, s, now + (c.toNat : Int) % 8⟩, by show l.length - (n + 1) < _; omega, ⟨by show n + 1 ≤ _; omega, h2, h3, ⟨x, x1, x2⟩, by show 0 ≤ now + (c.toNat : Int) % 8; omega, by show now + (c.toNat : Int) % 8 ≤ maxT + 8 * ((n + 1 : Nat) : Int); omega⟩, ⟨rfl, by show (n : Int) + 1 = ((n + 1 : Nat) : Int); omega⟩, rfl, rfl⟩
        · have lt : ¬ (n : Int) < l.length := by omega
          have fin := inc_end E h234 h230 (p := p) (t := u) (t0 := t) (i := i) (l := l) (nl := nl) (s := s) (k := k) h2 x1 x2
          rw [hQ0]
          simp (maxSteps := 1000000) (disch := first | omega | (simp; done) | (simp; omega)) [W_id, bys_app, bys_snoc, f_custodylaw35_RotateLinesIncrease_l0, lt, kT, kF, dT, dF]
          exact fin
    · have hl' : (10 : Int) < l.length := by omega
      simp (maxSteps := 1000000) (disch := first | omega | (simp; done) | (simp; omega)) [W_id, bys_app, bys_snoc, f_custodylaw35_RotateLinesIncrease, h280, h281, f1, f2, hl', kT, kF, dT, dF]
      skip
end Go.Abs
end

section
namespace Go.Abs
theorem has_u8B (cs : List AVal) (h : (GT.int .u8).has cs) : ∃ x : UInt8, True ∧ cs = [u8 x] := by
  simp only [GT.has] at h
  obtain ⟨n, rfl, h0, h1⟩ := h
  have e0 : IntKind.u8.min = 0 := rfl
  have e1 : IntKind.u8.max = 255 := rfl
  rw [e0] at h0
  rw [e1] at h1
  refine ⟨UInt8.ofInt n, trivial, ?_⟩
  have : ((UInt8.ofInt n).toNat : Int) = n := by rw [ofInt8]; omega
  rw [u8, this]
theorem flat_bys : ∀ l : List UInt8, (l.flatMap fun x => [u8 x]) = bys l
  | [] => rfl
  | x :: l => by rw [List.flatMap_cons, flat_bys l]; rfl
theorem lawRI_pre (as : List AVal) (h : hasA [polG, tabG, .int .i64, .sl (.int .u8)] as) : lawRI.pre as := by
  simp only [hasA] at h
  obtain ⟨c0, _, rfl, h0, c1, _, rfl, h1, c2, _, rfl, h2, c3, _, rfl, h3, rfl⟩ := h
  obtain ⟨p, p1, p2, rfl⟩ := has_pol h0
  obtain ⟨t, ht, rfl⟩ := has_tab h1
  obtain ⟨i, _, _, rfl⟩ := has_i64 h2
  obtain ⟨l, _, _, rfl⟩ := has_list (enc := fun x => [u8 x]) has_u8B h3
  rw [flat_bys]
  exact ⟨p, t, i, l, ⟨p1, p2, ht⟩, rfl⟩
end Go.Abs
end
