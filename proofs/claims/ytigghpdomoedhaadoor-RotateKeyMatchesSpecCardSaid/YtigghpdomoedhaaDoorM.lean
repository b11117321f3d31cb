/- Lemmas: an abstract interpreter, and what the functions compute. -/
import Derived.Test.YtigghpdomoedhaaDoorL
import Derived.Test.YtigghpdomoedhaaDoorT
set_option linter.unusedSimpArgs false
set_option linter.unusedVariables false
set_option linter.unusedSectionVars false
section
namespace Go.Abs
set_option maxRecDepth 100000
theorem suc_ok (E : Env) : ∀ ds, sucC.pre ds → ds.length = f_custodyref35_successor.n ∧ awp E f_custodyref35_successor.body (retQ f_custodyref35_successor.res (sucC.post ds)) (initSt f_custodyref35_successor.wr ds) := by
  rintro _ ⟨x, k, h0, hv, rfl⟩
  rw [suc_post, sucK]
  have hv : k.ver ≤ 2147483647 := hv
  by_cases h1 : k.id < x.id
  · by_cases h2 : x.ty = k.ty
    · by_cases h3 : x.par = k.id
      · simp (maxSteps := 1000000) (disch := first | omega | (simp; done) | (simp; omega)) [W_id, bys_app, bys_snoc, f_custodyref35_successor, keyL, h1, h2, h3, kT, kF, dT, dF]
      · have b3 : (x.par == k.id) = false := beq_false_of_ne h3
        simp (maxSteps := 1000000) (disch := first | omega | (simp; done) | (simp; omega)) [W_id, bys_app, bys_snoc, f_custodyref35_successor, keyL, h1, h2, b3, kT, kF, dT, dF]
    · have b2 : (x.ty == k.ty) = false := beq_false_of_ne h2
      simp (maxSteps := 1000000) (disch := first | omega | (simp; done) | (simp; omega)) [W_id, bys_app, bys_snoc, f_custodyref35_successor, keyL, h1, b2, kT, kF, dT, dF]
  · simp (maxSteps := 1000000) (disch := first | omega | (simp; done) | (simp; omega)) [W_id, bys_app, bys_snoc, f_custodyref35_successor, keyL, h1, kT, kF, dT, dF]
set_option maxHeartbeats 4000000 in
theorem rnext_ok (E : Env) (h258 : E.G 258 = getC) (h263 : E.G 263 = sucC) : ∀ ds, succC.pre ds → ds.length = f_custodyref35_Next.n ∧ awp E f_custodyref35_Next.body (retQ f_custodyref35_Next.res (succC.post ds)) (initSt f_custodyref35_Next.wr ds) := by
  rintro _ ⟨nl, t, i, ht, rfl⟩
  rw [succ_post]
  obtain ⟨tk, hl, _, hk⟩ := tVal_ok ht
  have e1 := get_pre (nl := nl) (t := t) i tk
  have e2 := get_post nl t i
  cases hg : getK t.keys i with
  | none =>
    rw [hg, getA] at e2
    have hn : nxtK t.keys i = none := by rw [nxtK, hg]; rfl
    rw [hn, nxtA]
    simp (maxSteps := 1000000) (disch := first | omega | (simp; done) | (simp; omega)) [W_id, bys_app, bys_snoc, f_custodyref35_Next, f_custodyref35_Next_r0, h258, e1, e2, kT, kF, dT, dF, key0_R, spl_k, spl_9]
    skip
  | some k =>
    rw [hg, getA] at e2
    have hkm := hk k (getK_mem hg)
    have hv := okK_ver hkm.1
    have hn : nxtK t.keys i = (t.keys.reverse.find? (sucK k)).map (·.id) := by rw [nxtK, hg]; rfl
    rw [hn]
    simp (maxSteps := 1000000) (disch := first | omega | (simp; done) | (simp; omega)) [W_id, bys_app, bys_snoc, f_custodyref35_Next, f_custodyref35_Next_r0, h258, e1, e2, kT, kF, dT, dF, key0_R, spl_k, spl_9]
    refine awp_name fun Q0 hQ0 => ?_
    refine awp_for (fun n : Nat => ⟨[(0, .agg (tabL nl t)), (1, i64 i)], [(2, .bp 2 0), (6, .bp 6 0), (8, i64 ((n : Int) - 1))], [(2, some (tabL nl t)), (6, some (keyL k))]⟩) (fun n => n) (fun n => n ≤ t.keys.length ∧ ∀ m, n ≤ m → m < t.keys.length → sucK k (keyAt t.keys m) = false) t.keys.length (by simp) ⟨by omega, fun m h h' => by omega⟩ fun n hn => ?_
    obtain ⟨hn, hno⟩ := hn
    cases n with
    | zero =>
      have hm := rfind_miss (P := sucK k) (l := t.keys) (fun m hm => hno m (by omega) hm)
      simp (maxSteps := 1000000) (disch := first | omega | (simp; done) | (simp; omega)) [W_id, bys_app, bys_snoc, f_custodyref35_Next_l0, f_custodyref35_Next_r2, kT, kF, dT, dF, hQ0, hm, nxtA]
      skip
    | succ n =>
      have c0 : ((n + 1 : Nat) : Int) - 1 = n := by omega
      have ka := keysL_at (l := t.keys) (i := n) (by omega)
      have k0 := keysL_f0 (l := t.keys) (i := n) (by omega)
      have sp := suc_pre (keyAt t.keys n) (k := k) (by omega) hv.2
      cases hs : sucK k (keyAt t.keys n) with
      | true =>
        have hm := rfind_hit (P := sucK k) (l := t.keys) (n := n) (by omega) (fun m h1 h2 => hno m (by omega) h2) hs
        rw [hm] at hQ0
        generalize keyAt t.keys n = x at *
        simp (maxSteps := 1000000) (disch := first | omega | (simp; done) | (simp; omega)) [W_id, bys_app, bys_snoc, f_custodyref35_Next_l0, f_custodyref35_Next_r1, c0, kT, kF, dT, dF, ka, k0, h263, sp, hs, hQ0, nxtA]
        omega
      | false =>
        have hno' : ∀ m, n ≤ m → m < t.keys.length → sucK k (keyAt t.keys m) = false := fun m h1 h2 => by
          rcases Nat.lt_or_eq_of_le h1 with e | e
          · exact hno m (by omega) h2
          · rw [← e]; exact hs
        generalize keyAt t.keys n = x at *
        simp (maxSteps := 1000000) (disch := first | omega | (simp; done) | (simp; omega)) [W_id, bys_app, bys_snoc, f_custodyref35_Next_l0, f_custodyref35_Next_r1, c0, kT, kF, dT, dF, ka, k0, h263, sp, hs]
        exact ⟨by omega, by omega, n, by omega, ⟨by omega, hno'⟩, rfl⟩
end Go.Abs
end

section
namespace Go.Abs
set_option maxRecDepth 100000
def bkM : CM := ⟨[], [1], fun ds => ∃ (nl : Option Bool) (l : List KeyR), kLen l ∧ ds = [keysA nl l], fun _ => .fn 232 [] [.bp 1 0], fun ds _ => [nth ds 0]⟩
@[simp] theorem bkM_bx : bkM.bx = [] := rfl
@[simp] theorem bkM_nb : bkM.nb = [1] := rfl
@[simp] theorem bkM_post (ds : List AVal) : bkM.post ds = .fn 232 [] [.bp 1 0] := rfl
@[simp] theorem bkM_out (d : AVal) (j : Nat) : bkM.out [d] j = [d] := rfl
theorem bkM_pre {nl : Option Bool} {l : List KeyR} (hl : kLen l) : bkM.pre [.sl .plain nl l.length (keysL l)] = True := eq_true ⟨nl, l, hl, rfl⟩
set_option maxHeartbeats 4000000 in
theorem bkM_ok (E : Env) : ∀ ds p, bkM.pre ds → ds.length = f_slices_Backward.n ∧ awp E f_slices_Backward.body (retM f_slices_Backward.res bkM p ds) (initM bkM.bx p ds) := by
  rintro _ p ⟨nl, l, hn, rfl⟩
  simp (maxSteps := 1000000) (disch := first | omega | (simp; done) | (simp; omega)) [f_slices_Backward, initM, retM, keysA]
theorem iwp_seqb2 (E : Env) (l : Nat) (el : Nat → Option (List AVal)) (i : Nat) (a b : ICode) (Q : IQ) (p : Nat × Bool) (s : ASt) : iwpL E l el (.seq (.block i a) b) Q p s = iwpL E l el (.block i a) (thenI (fun p st => iwpL E l el b Q p st) Q) p s := rfl
theorem iwp_loopR2 {E : Env} {l : Nat} {el : Nat → Option (List AVal)} {b : ICode} {Q : IQ} {p : Nat × Bool} {s : ASt} (I : Nat × Bool → ASt → Prop) (h0 : I p s)
    (h : ∀ p s, I p s → ∀ Q', (∀ p' s', I p' s' → p.2 = false → (p' = (p.1 + 1, false) ∨ p' = (p.1, true)) → Q' .normal p' s') → (∀ i p' s', Q' (.exit i) p' s' = Q (.exit i) p' s') → (∀ p' s', Q' .ret p' s' = Q .ret p' s') → iwpL E l el b Q' p s) : iwpL E l el (.loop b) Q p s :=
  ⟨I, h0, fun p s hi => h p s hi _ (fun p' s' h1 h2 h3 => ⟨h1, h2, h3⟩) (fun _ _ _ => rfl) (fun _ _ => rfl)⟩
def gEk (d : AVal) : List KeyR := match d with | .ep [.sl _ _ n cs] => gKeys n cs | _ => []
def bkI : ItC := ⟨fun x y => x = [] ∧ ∃ (nl : Option Bool) (l : List KeyR), kLen l ∧ y = [.ep [keysA nl l]], fun _ y i => if i < (gEk (nth y 0)).length then some [i64 (((gEk (nth y 0)).length : Int) - 1 - i), .agg (keyL (keyAt (gEk (nth y 0)) ((gEk (nth y 0)).length - 1 - i)))] else none, []⟩
@[simp] theorem bkI_lv : bkI.lv = [] := rfl
theorem bkI_el {nl : Option Bool} {l : List KeyR} (i : Nat) : bkI.el [] [.ep [.sl .plain nl l.length (keysL l)]] i = if i < l.length then some [i64 ((l.length : Int) - 1 - i), .agg (keyL (keyAt l (l.length - 1 - i)))] else none := by
  simp only [bkI]
  rw [show gEk (nth [AVal.ep [.sl .plain nl l.length (keysL l)]] 0) = gKeys l.length (keysL l) from rfl, gKeys_keysL]
theorem bkI_pre {nl : Option Bool} {l : List KeyR} (hl : kLen l) : bkI.pre [] [.ep [.sl .plain nl l.length (keysL l)]] := ⟨rfl, nl, l, hl, rfl⟩
set_option maxHeartbeats 4000000 in
theorem bkI_ok (E : Env) : ∀ x y l, bkI.pre x y → x.length = f_slices_Backward_1.nx ∧ y.length = f_slices_Backward_1.ny ∧ iwpL E l (bkI.el x y) f_slices_Backward_1.body (itQ (bkI.el x y)) (0, false) (itSt l [] x y) := by
  rintro _ _ ln ⟨rfl, nl, l, hn, rfl⟩
  have hn : l.length ≤ 100000000 := hn
  have hel : ∀ i, bkI.el [] [.ep [keysA nl l]] i = if i < l.length then some [i64 ((l.length : Int) - 1 - i), .agg (keyL (keyAt l (l.length - 1 - i)))] else none := bkI_el
  refine ⟨rfl, rfl, ?_⟩
  generalize hQ : itQ (bkI.el [] [.ep [keysA nl l]]) = Q
  have hdone : ∀ p st', p.2 = true → Q .normal p st' := fun p st' h => by rw [← hQ]; exact .inl h
  have hend : ∀ p st', l.length ≤ p.1 → Q .normal p st' := fun p st' h => by rw [← hQ]; exact .inr (by rw [hel, if_neg (by omega)])
  have hQx : ∀ p st', p.2 = true → Q .ret p st' := fun p st' h => by rw [← hQ]; exact .inl h
  generalize bkI.el [] [.ep [keysA nl l]] = el at hel
  unfold keysA
  simp (maxSteps := 1000000) (disch := first | omega | (simp; done) | (simp; omega)) [W_id, bys_app, bys_snoc, f_slices_Backward_1, f_slices_Backward_1_i3, f_slices_Backward_1_p0, itSt_nil]
  refine iwp_name fun Q1 hQ1 => ?_
  refine iwp_loopR2 (fun p st' => p.2 = false ∧ p.1 ≤ l.length ∧ st' = ⟨[(0, AVal.lit (Value.func (Fn.yield ln) #[] #[])), (1, .ep [.sl .plain nl l.length (keysL l)])], [(3, i64 ((l.length : Int) - 1 - p.1))], []⟩) ⟨rfl, Nat.zero_le _, by simp⟩ fun p st' ⟨hp, hk, hst⟩ Q2 h2 hx hr => ?_
  obtain ⟨i, b⟩ := p
  subst hst
  simp only at hp hk
  subst hp
  by_cases h : i < l.length
  · have hlt : (0 : Int) ≤ (l.length : Int) - 1 - i := by omega
    have hat := keysL_at (show l.length - 1 - i < l.length by omega)
    have e1 : ((l.length : Int) - 1 - i).toNat = l.length - 1 - i := by omega
    simp (maxSteps := 1000000) (disch := first | omega | (simp; done) | (simp; omega)) [W_id, bys_app, bys_snoc, f_slices_Backward_1_i2, f_slices_Backward_1_p1, kT, kF, dT, dF, hlt, iwp_seqb2]
    simp (maxSteps := 1000000) (disch := first | omega | (simp; done) | (simp; omega)) [W_id, bys_app, bys_snoc, f_slices_Backward_1_i1, e1, hat, f_slices_Backward_1_i0, f_slices_Backward_1_p2, hel, or_imp, forall_and, and_imp, forall_eq, iwp_seqb2]
    refine ⟨⟨by omega, by omega⟩, by omega, h, ?_, ?_⟩
    · simp (maxSteps := 1000000) (disch := first | omega | (simp; done) | (simp; omega)) [W_id, bys_app, bys_snoc, kT, kF]
      show Q2 .ret (i, true) _
      rw [hr, hQ1]
      exact hQx (i, true) _ rfl
    · simp (maxSteps := 1000000) (disch := first | omega | (simp; done) | (simp; omega)) [W_id, bys_app, bys_snoc, kT, kF]
      exact h2 (i + 1, false) _ ⟨rfl, by show i + 1 ≤ l.length; omega, by simp; omega⟩ rfl (.inl rfl)
  · have hlt : ¬ (0 : Int) ≤ (l.length : Int) - 1 - i := by omega
    simp (maxSteps := 1000000) (disch := first | omega | (simp; done) | (simp; omega)) [W_id, bys_app, bys_snoc, f_slices_Backward_1_i2, f_slices_Backward_1_p1, kT, kF, dT, dF, hlt, hx, hQ1]
    exact hend _ _ (by show l.length ≤ i; omega)
end Go.Abs
end

section
namespace Go.Abs
set_option maxRecDepth 100000
set_option maxHeartbeats 8000000 in
theorem next_w (E : Env) (hI232 : E.I 232 = bkI) (h231 : E.M 231 = bkM) {nl : Option Bool} {t : TabR} {i : Int} {k : KeyR} (ht : tVal t) (hg : getK t.keys i = some k) {Q0 : AExit → ASt → Prop}
    (hQ0 : Q0 = retQ [.cell 4 none 4, .cell 5 none 5] (nxtA (nxtK t.keys i))) :
    awp E f_rotate_Next_r0 Q0 ⟨[(0, .agg (tabL nl t)), (1, i64 i)], [(2, .bp 2 0), (3, .bp 3 0), (4, .bp 4 0), (5, .bp 5 0), (6, .bp 6 0)], [(2, some (tabL nl t)), (3, some [i64 i]), (4, some [i64 0]), (5, some [bo false]), (6, some (keyL k))]⟩ := by
  obtain ⟨tk, hl, _, hk⟩ := tVal_ok ht
  have hkm := hk k (getK_mem hg)
  have hv := okK_ver hkm.1
  have hv2 : k.ver ≤ 2147483647 := hv.2
  have hid := getK_id hg
  have hn : nxtK t.keys i = (t.keys.reverse.find? (sucK k)).map (·.id) := by rw [nxtK, hg]; rfl
  rw [hn] at hQ0
  have b1 := bkM_pre (nl := nl) tk.2
  unfold f_rotate_Next_r0
  simp (maxSteps := 1000000) (disch := first | omega | (simp; done) | (simp; omega)) [W_id, bys_app, bys_snoc, h231, b1]
  refine awp_name fun Q1 hQ1 => ?_
  have hel := fun j => bkI_el (nl := nl) (l := t.keys) j
  refine awp_range0 [] [.ep [.sl .plain nl t.keys.length (keysL t.keys)]] (by simp) (by simp) (by rw [hI232]; rfl) (by rw [hI232]; exact bkI_pre tk.2) (by simp) t.keys.length (fun j bx => (j ≤ t.keys.length ∧ ∀ m, t.keys.length - j ≤ m → m < t.keys.length → sucK k (keyAt t.keys m) = false) ∧ bx = [(2, some (tabL nl t)), (3, some [i64 i]), (4, some [i64 0]), (5, some [bo false]), (6, some (keyL k))]) ⟨⟨Nat.zero_le _, fun m h h' => by omega⟩, rfl⟩ (fun j bx h => h.1.1) (fun j bx h he => ?_) (fun j bx xs hi he => ?_)
  · rw [hI232, hel] at he
    obtain ⟨⟨h1, h2⟩, rfl⟩ := h
    split at he
    · cases he
    · have hm := rfind_miss (P := sucK k) (l := t.keys) (fun m hm => h2 m (by omega) hm)
      rw [hm] at hQ0
      simp (maxSteps := 1000000) (disch := first | omega | (simp; done) | (simp; omega)) [W_id, bys_app, bys_snoc, rngEnv, hQ1, f_rotate_Next_r1, hQ0, nxtA]
      skip
  · rw [hI232, hel] at he
    obtain ⟨⟨h1, h2⟩, rfl⟩ := hi
    split at he
    · rename_i hlt
      have he' := (Option.some.inj he).symm
      subst he'
      refine ⟨rfl, by simp, fun V => ?_⟩
      cases hs : sucK k (keyAt t.keys (t.keys.length - 1 - j)) with
      | true =>
        have hm := rfind_hit (P := sucK k) (l := t.keys) (n := t.keys.length - 1 - j) (by omega) (fun m h3 h4 => h2 m (by omega) h4) hs
        rw [hm] at hQ0
        generalize keyAt t.keys (t.keys.length - 1 - j) = x at *
        simp only [sucK, Bool.and_eq_true, decide_eq_true_eq, beq_iff_eq] at hs
        obtain ⟨⟨⟨s1, s2⟩, s3⟩, s4⟩ := hs
        rw [hid] at s1 s3
        simp (maxSteps := 1000000) (disch := first | omega | (simp; done) | (simp; omega)) [W_id, bys_app, bys_snoc, rngSt, rngEnv, f_rotate_Next_a0, f_rotate_Next_b0, rngQ, rngEnd, key0_R, spl_k, spl_9, kT, kF, dT, dF, s1, s2, s3, s4, hQ1, hQ0, nxtA]
        skip
      | false =>
        have h2' : ∀ m, t.keys.length - (j + 1) ≤ m → m < t.keys.length → sucK k (keyAt t.keys m) = false := fun m h3 h4 => by
          rcases Nat.lt_or_ge m (t.keys.length - j) with e | e
          · rw [show m = t.keys.length - 1 - j by omega]; exact hs
          · exact h2 m e h4
        have fin : (j + 1 ≤ t.keys.length ∧ ∀ m, t.keys.length ≤ m + (j + 1) → m < t.keys.length → sucK k (keyAt t.keys m) = false) := ⟨by omega, fun m h3 h4 => h2' m (by omega) h4⟩
        generalize keyAt t.keys (t.keys.length - 1 - j) = x at *
        simp only [sucK, hid] at hs
        by_cases s1 : i < x.id
        · by_cases s2 : x.ty = k.ty
          · by_cases s3 : x.par = i
            · have s4 : (x.ver == k.ver + 1) = false := by simpa [s1, s2, s3] using hs
              simp (maxSteps := 1000000) (disch := first | omega | (simp; done) | (simp; omega)) [W_id, bys_app, bys_snoc, rngSt, rngEnv, f_rotate_Next_a0, f_rotate_Next_b0, rngQ, rngEnd, key0_R, spl_k, spl_9, kT, kF, dT, dF, s1, s2, s3, s4]
              exact fin
            · have b3 : (x.par == i) = false := beq_false_of_ne s3
              simp (maxSteps := 1000000) (disch := first | omega | (simp; done) | (simp; omega)) [W_id, bys_app, bys_snoc, rngSt, rngEnv, f_rotate_Next_a0, f_rotate_Next_b0, rngQ, rngEnd, key0_R, spl_k, spl_9, kT, kF, dT, dF, s1, s2, b3]
              exact fin
          · have b2 : (x.ty == k.ty) = false := beq_false_of_ne s2
            simp (maxSteps := 1000000) (disch := first | omega | (simp; done) | (simp; omega)) [W_id, bys_app, bys_snoc, rngSt, rngEnv, f_rotate_Next_a0, f_rotate_Next_b0, rngQ, rngEnd, key0_R, spl_k, spl_9, kT, kF, dT, dF, s1, b2]
            exact fin
        · simp (maxSteps := 1000000) (disch := first | omega | (simp; done) | (simp; omega)) [W_id, bys_app, bys_snoc, rngSt, rngEnv, f_rotate_Next_a0, f_rotate_Next_b0, rngQ, rngEnd, key0_R, spl_k, spl_9, kT, kF, dT, dF, s1]
          exact fin
    · cases he
set_option maxHeartbeats 4000000 in
theorem next_ok (E : Env) (h230 : E.G 230 = getC) (hI232 : E.I 232 = bkI) (h231 : E.M 231 = bkM) : ∀ ds, succC.pre ds → ds.length = f_rotate_Next.n ∧ awp E f_rotate_Next.body (retQ f_rotate_Next.res (succC.post ds)) (initSt f_rotate_Next.wr ds) := by
  rintro _ ⟨nl, t, i, ht, rfl⟩
  rw [succ_post]
  obtain ⟨tk, hl, _, hk⟩ := tVal_ok ht
  have e1 := get_pre (nl := nl) (t := t) i tk
  have e2 := get_post nl t i
  cases hg : getK t.keys i with
  | none =>
    rw [hg, getA] at e2
    have hn : nxtK t.keys i = none := by rw [nxtK, hg]; rfl
    rw [hn, nxtA]
    simp (maxSteps := 1000000) (disch := first | omega | (simp; done) | (simp; omega)) [W_id, bys_app, bys_snoc, f_rotate_Next, h230, e1, e2, kT, kF, dT, dF, key0_R, spl_k, spl_9]
    skip
  | some k =>
    rw [hg, getA] at e2
    have nw := next_w E hI232 h231 (nl := nl) ht hg rfl
    simp (maxSteps := 1000000) (disch := first | omega | (simp; done) | (simp; omega)) [W_id, bys_app, bys_snoc, f_rotate_Next, h230, e1, e2, kT, kF, dT, dF, key0_R, spl_k, spl_9]
    exact nw
end Go.Abs
end

section
namespace Go.Abs
set_option maxRecDepth 100000
theorem lineK_step (l : List KeyR) : ∀ (j : Nat) (i c : Int), (lineK l i)[j]? = some c → (lineK l i)[j + 1]? = nxtK l c
  | j, i, c, h => by
    cases hn : nxtK l i with
    | none =>
      rw [lineK_none hn] at h ⊢
      cases j with
      | zero => simp at h; subst h; simp [hn]
      | succ j => simp at h
    | some k =>
      rw [lineK_some hn] at h ⊢
      cases j with
      | zero =>
        simp at h
        subst h
        rw [hn]
        cases hk : nxtK l k with
        | none => rw [lineK_none hk]; rfl
        | some m => rw [lineK_some hk]; rfl
      | succ j =>
        rw [List.getElem?_cons_succ] at h ⊢
        exact lineK_step l j k c h
termination_by j => j
theorem lineK_0 (l : List KeyR) (i : Int) : (lineK l i)[0]? = some i := by
  cases hn : nxtK l i with
  | none => rw [lineK_none hn]; rfl
  | some k => rw [lineK_some hn]; rfl
def lnM : CM := ⟨[], [3], fun ds => ∃ (nl : Option Bool) (t : TabR) (i : Int), tVal t ∧ ds = [.agg (tabL nl t), i64 i], fun ds => .fn 250 [] [.bp 3 0, .ep (gCs (nth ds 0))], fun ds _ => [nth ds 1]⟩
@[simp] theorem lnM_bx : lnM.bx = [] := rfl
@[simp] theorem lnM_nb : lnM.nb = [3] := rfl
@[simp] theorem lnM_post (nl : Option Bool) (t : TabR) (x : AVal) : lnM.post [.agg (tabL nl t), x] = .fn 250 [] [.bp 3 0, .ep (tabL nl t)] := rfl
@[simp] theorem lnM_out (x y : AVal) (j : Nat) : lnM.out [x, y] j = [y] := rfl
theorem lnM_pre {nl : Option Bool} {t : TabR} (i : Int) (h : tVal t) : lnM.pre [.agg (tabL nl t), i64 i] = True := eq_true ⟨nl, t, i, h, rfl⟩
set_option maxHeartbeats 4000000 in
theorem lnM_ok (E : Env) : ∀ ds p, lnM.pre ds → ds.length = f_rotate_line.n ∧ awp E f_rotate_line.body (retM f_rotate_line.res lnM p ds) (initM lnM.bx p ds) := by
  rintro _ p ⟨nl, t, i, ht, rfl⟩
  simp (maxSteps := 1000000) (disch := first | omega | (simp; done) | (simp; omega)) [f_rotate_line, initM, retM]
  rfl
theorem iwp_yieldG (E : Env) (l : Nat) (el : Nat → Option (List AVal)) (keep : List Nat) (gs : List Ghost) (xs : List AOper) (d : Option Nat) (y : Nat) (as : List Arg) (zs : List AOper) (sw : Nat × Bool) (Q : IQ) (p : Nat × Bool) (s : ASt) :
    iwpL E l el (.yield keep gs xs d y as zs (some sw)) Q p s = ((∀ s' ∈ d.toList, lk s.org s' = none) ∧ runK E (fun st0 => isB ((hush st0).get sw.1) ∧ (asB ((hush st0).get sw.1) = sw.2 → p.2 = false ∧ el p.1 = some (as.map (arg E (hush st0).get)) ∧ memFreeL (as.map (arg E (hush st0).get)) = true ∧ (hush st0).get y = .lit (.func (.yield l) #[] #[]) ∧ (∀ q ∈ (hush st0).box, ∀ cs, q.2 = some cs → cs.all yOk = true ∧ q.1 < 1000000) ∧
      ∀ b : Bool, runR E keep gs (fun e s => Q e (if b then (p.1 + 1, false) else (p.1, true)) s) zs (putB d b (hush st0))) ∧ (asB ((hush st0).get sw.1) = (!sw.2) → runR E keep gs (fun e s => Q e p s) zs (putS d (hush st0)))) xs s) := by
  obtain ⟨s1, w1⟩ := sw
  simp only [runK_eq, runR_eq, iwpL, ifG]
  apply propext
  constructor
  · rintro ⟨h1, h2, h3⟩
    exact ⟨h2, h1, h3⟩
  · rintro ⟨h2, h1, h3⟩
    exact ⟨h1, h2, h3⟩
theorem iwp_seqyG (E : Env) (l : Nat) (el : Nat → Option (List AVal)) (keep : List Nat) (gs : List Ghost) (xs : List AOper) (d : Option Nat) (y : Nat) (as : List Arg) (zs : List AOper) (gd : Option (Nat × Bool)) (b : ICode) (Q : IQ) (p : Nat × Bool) (s : ASt) :
    iwpL E l el (.seq (.yield keep gs xs d y as zs gd) b) Q p s = iwpL E l el (.yield keep gs xs d y as zs gd) (thenI (fun p st => iwpL E l el b Q p st) Q) p s := rfl
theorem iwp_seqs (E : Env) (l : Nat) (el : Nat → Option (List AVal)) (a b c : ICode) (Q : IQ) (p : Nat × Bool) (s : ASt) :
    iwpL E l el (.seq (.seq a b) c) Q p s = iwpL E l el (.seq a b) (thenI (fun p st => iwpL E l el c Q p st) Q) p s := rfl
theorem putS_some (d : Nat) (o e : List (Nat × AVal)) (bx : List (Nat × Option (List AVal))) : putS (some d) ⟨o, e, bx⟩ = ⟨o, (d, skipV) :: e, bx⟩ := rfl
def gLn (y : List AVal) : List Int := lineK (gTab (match nth y 1 with | .ep cs => cs | _ => [])).keys (asI (match nth y 0 with | .ep cs => hdA cs | _ => .undef))
def lnI : ItC := ⟨fun x y => x = [] ∧ ∃ (nl : Option Bool) (t : TabR) (i : Int), tVal t ∧ y = [.ep [i64 i], .ep (tabL nl t)], fun _ y j => ((gLn y)[j]?).map fun c => [i64 c], [0]⟩
theorem lnI_lv : lnI.lv = [0] := rfl
theorem lnI_el {nl : Option Bool} {t : TabR} (i : Int) (j : Nat) : lnI.el [] [.ep [i64 i], .ep (tabL nl t)] j = ((lineK t.keys i)[j]?).map fun c => [i64 c] := by
  have : gLn [.ep [i64 i], .ep (tabL nl t)] = lineK t.keys i := by
    show lineK (gTab (tabL nl t)).keys (asI (i64 i)) = _
    rw [gTab_tabL]; rfl
  simp only [lnI, this]
theorem lnI_pre {nl : Option Bool} {t : TabR} (i : Int) (h : tVal t) : lnI.pre [] [.ep [i64 i], .ep (tabL nl t)] := ⟨rfl, nl, t, i, h, rfl⟩
set_option maxHeartbeats 4000000 in
theorem lnI_ok (E : Env) (h233 : E.G 233 = succC) : ∀ x y l, lnI.pre x y → x.length = f_rotate_line_1.nx ∧ y.length = f_rotate_line_1.ny ∧ iwpL E l (lnI.el x y) f_rotate_line_1.body (itQ (lnI.el x y)) (0, false) (itSt l [0] x y) := by
  rintro _ _ ln ⟨rfl, nl, t, i, ht, rfl⟩
  have hel : ∀ j, lnI.el [] [.ep [i64 i], .ep (tabL nl t)] j = ((lineK t.keys i)[j]?).map fun c => [i64 c] := fun j => lnI_el i j
  refine ⟨rfl, rfl, ?_⟩
  generalize hQ : itQ (lnI.el [] [.ep [i64 i], .ep (tabL nl t)]) = Q
  have hdone : ∀ p st', p.2 = true → Q .normal p st' := fun p st' h => by rw [← hQ]; exact .inl h
  have hend : ∀ p st', (lineK t.keys i)[p.1]? = none → Q .normal p st' := fun p st' h => by rw [← hQ]; exact .inr (by rw [hel, h]; rfl)
  generalize lnI.el [] [.ep [i64 i], .ep (tabL nl t)] = el at hel
  have stp := fun j c h => lineK_step t.keys j i c h
  have l0 := lineK_0 t.keys i
  have hst0 : itSt ln [0] [] [.ep [i64 i], .ep (tabL nl t)] = ⟨[(0, AVal.lit (Value.func (Fn.yield ln) #[] #[])), (2, .ep (tabL nl t))], [(1, .bp 1 0)], [(1, some [i64 i])]⟩ := rfl
  rw [hst0]
  generalize lineK t.keys i = L at *
  simp (maxSteps := 1000000) (disch := first | omega | (simp; done) | (simp; omega)) [W_id, bys_app, bys_snoc, f_rotate_line_1, f_rotate_line_1_i3]
  refine iwp_name fun Q1 hQ1 => ?_
  refine iwp_loop (fun p st' => p.2 = false ∧ ∃ (cur : Int) (is : Bool), (is = true → L[p.1]? = some cur) ∧ (is = false → L[p.1]? = none) ∧ st' = ⟨[(0, AVal.lit (Value.func (Fn.yield ln) #[] #[])), (2, .ep (tabL nl t))], [(1, .bp 1 0), (4, bo is)], [(1, some [i64 cur])]⟩) ⟨rfl, i, true, fun _ => l0, fun h => (by cases h), rfl⟩ fun p st' hI Q2 h2 hx => ?_
  obtain ⟨hp, cur, is, hi1, hi2, rfl⟩ := hI
  obtain ⟨j, b⟩ := p
  simp only at hp hi1 hi2
  subst hp
  cases is with
  | true =>
    have hc := hi1 rfl
    have hs := stp j cur hc
    have hej : el j = some [i64 cur] := by rw [hel, hc]; rfl
    rw [f_rotate_line_1_i2, iwp_seqs, iwp_seqyG, iwp_yieldG]
    have pre := succ_pre (nl := nl) cur ht
    have post := succ_post nl t cur
    cases hn : nxtK t.keys cur with
    | none =>
      rw [hn] at hs post
      simp (maxSteps := 1000000) (disch := first | omega | (simp; done) | (simp; omega)) [W_id, bys_app, bys_snoc, f_rotate_line_1_i1, f_rotate_line_1_i0, f_rotate_line_1_p0, f_rotate_line_1_p1, kT, kF, hej, hx, hQ1, h233, pre, post, nxtA, hdone, putS_some]
      exact ⟨fun a b h => (by rcases h with ⟨h, _⟩ | ⟨h, _⟩ <;> exact h), h2 _ _ ⟨rfl, 0, false, fun h => (by cases h), fun _ => hs, rfl⟩ rfl (.inl rfl)⟩
    | some m =>
      rw [hn] at hs post
      simp (maxSteps := 1000000) (disch := first | omega | (simp; done) | (simp; omega)) [W_id, bys_app, bys_snoc, f_rotate_line_1_i1, f_rotate_line_1_i0, f_rotate_line_1_p0, f_rotate_line_1_p1, kT, kF, hej, hx, hQ1, h233, pre, post, nxtA, hdone, putS_some]
      exact ⟨fun a b h => (by rcases h with ⟨h, _⟩ | ⟨h, _⟩ <;> exact h), h2 _ _ ⟨rfl, m, true, fun _ => hs, fun h => (by cases h), rfl⟩ rfl (.inl rfl)⟩
  | false =>
    have hc := hi2 rfl
    rw [f_rotate_line_1_i2, iwp_seqs, iwp_seqyG, iwp_yieldG]
    simp (maxSteps := 1000000) (disch := first | omega | (simp; done) | (simp; omega)) [W_id, bys_app, bys_snoc, f_rotate_line_1_i1, f_rotate_line_1_i0, f_rotate_line_1_p0, f_rotate_line_1_p1, kT, kF, hx, hQ1, putS_some]
    exact hend _ _ hc
end Go.Abs
end

section
namespace Go.Abs
set_option maxRecDepth 100000
def intsL (l : List Int) : List AVal := l.map fun z => i64 z
@[simp] theorem intsL_len (l : List Int) : (intsL l).length = l.length := by simp [intsL]
@[simp] theorem intsL_nil : intsL [] = [] := rfl
theorem intsL_snoc (l : List Int) (z : Int) : intsL l ++ [i64 z] = intsL (l ++ [z]) := by simp [intsL]
def seqV (l : List Int) : AVal := .sl .plain none l.length (intsL l)
theorem seqV_refs (l : List Int) : refs (seqV l) = [] := rfl
theorem seqV_ren (m : List (Nat × Nat)) (l : List Int) : ren m (seqV l) = seqV l := rfl
theorem seqV_dem (l : List Int) : dem (seqV l) = seqV l := rfl
def gSeq (d : AVal) (cs : List AVal) : List Int := match d with | .fn _ _ [_, .ep t] => lineK (gTab t).keys (asI (hdA cs)) | _ => []
def apsW : CW := ⟨[1], [10], [], fun ds bs => ∃ (nl : Option Bool) (t : TabR) (i : Int), tVal t ∧ ds = [.sl .plain (some true) 0 [], .fn 250 [] [.bp 10 0, .ep (tabL nl t)]] ∧ bs 10 = [i64 i], fun ds bs => seqV (gSeq (nth ds 1) (bs 10)), fun _ _ _ => []⟩
@[simp] theorem apsW_hold : apsW.hold = [1] := rfl
@[simp] theorem apsW_bx : apsW.bx = [10] := rfl
@[simp] theorem apsW_nb : apsW.nb = [] := rfl
theorem apsW_post {nl : Option Bool} {t : TabR} {i : Int} {x : AVal} {bs : Nat → List AVal} (h : bs 10 = [i64 i]) : apsW.post [x, .fn 250 [] [.bp 10 0, .ep (tabL nl t)]] bs = seqV (lineK t.keys i) := by
  show seqV (lineK (gTab (tabL nl t)).keys (asI (hdA (bs 10)))) = _
  rw [gTab_tabL, h]; rfl
@[simp] theorem apsW_out (ds : List AVal) (bs : Nat → List AVal) (j : Nat) : apsW.out ds bs j = [] := rfl
theorem lineK_len (l : List KeyR) : ∀ (n : Nat) (i : Int), cntG l i ≤ n → (lineK l i).length ≤ n + 1
  | n, i, h => by
    cases hn : nxtK l i with
    | none => rw [lineK_none hn]; simp
    | some j =>
      rw [lineK_some hn, List.length_cons]
      have := cntG_lt hn
      cases n with
      | zero => omega
      | succ n => have := lineK_len l n j (by omega); omega
theorem lineK_le (l : List KeyR) (i : Int) : (lineK l i).length ≤ l.length + 1 := lineK_len l _ i (List.length_filter_le _ _)
theorem lvI0 (id : Nat) (y : List AVal) : lvIds [0] (.bp id 0 :: y) = [id] := rfl
set_option maxHeartbeats 8000000 in
theorem aps_ok (E : Env) (hI250 : E.I 250 = lnI) : ∀ ds bs p, apsW.pre ds bs → ds.length = f_slices_AppendSeq.n ∧ awp E f_slices_AppendSeq.body (retW f_slices_AppendSeq.res apsW p ds bs) (initW apsW p ds bs) := by
  rintro _ bs p ⟨nl, t, i, ht, rfl, hb0⟩
  have post := apsW_post (nl := nl) (t := t) (i := i) (x := .sl .plain (some true) 0 []) hb0
  generalize hp : p 1 = p1
  have hle := lineK_le t.keys i
  have htk := (tVal_ok ht).2.1
  have hL := lineK_0 t.keys i
  have hel : ∀ j, lnI.el [] [.ep [i64 i], .ep (tabL nl t)] j = ((lineK t.keys i)[j]?).map fun c => [i64 c] := fun j => lnI_el i j
  simp (maxSteps := 1000000) (disch := first | omega | (simp; done) | (simp; omega)) [W_id, bys_app, bys_snoc, f_slices_AppendSeq, initW, envW, hb0, hp]
  generalize hQ : retW [ARes.t 4] apsW p [AVal.sl Mode.plain (some true) 0 [], AVal.fn 250 [] [AVal.bp 10 0, AVal.ep (tabL nl t)]] bs = Q0
  have hst : ∀ (s : ASt) (l : List Int), s = ⟨[(1, .lit p1)], [(1, .fn 250 [] [.bp 10 0, .ep (tabL nl t)]), (4, seqV l)], [(2, some [.sl (.own 1) none l.length (intsL l)]), (10, some [])]⟩ → l = lineK t.keys i → Q0 .ret s := by
    rintro s l rfl rfl
    rw [← hQ]
    simp (maxSteps := 1000000) (disch := first | omega | (simp; done) | (simp; omega)) [W_id, bys_app, bys_snoc, retW, post, hp, seqV]
    skip
  have hpre := lnI_pre (nl := nl) i ht
  generalize hLL : lineK t.keys i = L at *
  show awp E (.range _ _ _ _ _ _) _ _
  refine ⟨[], [.bp 10 0, .ep (tabL nl t)], rfl, ?_, ?_, ?_, L.length, fun j bx => j ≤ L.length ∧ bx = [(2, some [.sl (.own 1) none j (intsL (L.take j))])], ?_, fun j bx h => h.1, fun j bx h he => ?_, fun j bx xs h he => ?_⟩
  · rw [hI250, lnI_lv]
    refine ⟨by show pureL [.ep [i64 i], .ep (tabL nl t)] = true; simp [pureL], ?_⟩
    simp [lvI0, hideS, memFreeL, memFree, refs, tabL]
  · rw [hI250, lnI_lv]
    exact hpre
  · simp
  · rw [hI250, lnI_lv]
    exact ⟨by omega, rfl⟩
  · rw [hI250, lnI_lv] at *
    obtain ⟨h1, rfl⟩ := h
    have he' : Option.map (fun c => [i64 c]) L[j]? = none := (hel j).symm.trans he
    have hj : L.length ≤ j := by
      rw [Option.map_eq_none_iff, List.getElem?_eq_none_iff] at he'; exact he'
    have hj' : j = L.length := by omega
    subst hj'
    simp (maxSteps := 1000000) (disch := first | omega | (simp; done) | (simp; omega)) [W_id, bys_app, bys_snoc, backQ, lvI0, rngEnv, bkB, f_slices_AppendSeq_r0]
    refine hst _ _ ?_ hLL
    rw [hLL]; rfl
  · rw [hI250, lnI_lv] at *
    obtain ⟨h1, rfl⟩ := h
    have he' : Option.map (fun c => [i64 c]) L[j]? = some xs := (hel j).symm.trans he
    cases hc : L[j]? with
    | none => rw [hc] at he'; cases he'
    | some c =>
      rw [hc] at he'
      cases he'
      refine ⟨rfl, rfl, fun V => ?_⟩
      simp (maxSteps := 1000000) (disch := first | omega | (simp; done) | (simp; omega)) [W_id, bys_app, bys_snoc, hideS, lvI0, rngSt, rngEnv, f_slices_AppendSeq_a0, f_slices_AppendSeq_b0, rngQ, rngEnd]
      have hjl := (List.getElem?_eq_some_iff.1 hc).1
      refine ⟨by omega, by omega, ?_⟩
      rw [intsL_snoc, List.take_add_one, hc]; rfl
def colW : CW := ⟨[0], [10], [], fun ds bs => ∃ (nl : Option Bool) (t : TabR) (i : Int), tVal t ∧ ds = [.fn 250 [] [.bp 10 0, .ep (tabL nl t)]] ∧ bs 10 = [i64 i], fun ds bs => seqV (gSeq (nth ds 0) (bs 10)), fun _ _ _ => []⟩
@[simp] theorem colW_hold : colW.hold = [0] := rfl
@[simp] theorem colW_bx : colW.bx = [10] := rfl
@[simp] theorem colW_nb : colW.nb = [] := rfl
theorem colW_post {nl : Option Bool} {t : TabR} {i : Int} {bs : Nat → List AVal} (h : bs 10 = [i64 i]) : colW.post [.fn 250 [] [.bp 10 0, .ep (tabL nl t)]] bs = seqV (lineK t.keys i) := by
  show seqV (lineK (gTab (tabL nl t)).keys (asI (hdA (bs 10)))) = _
  rw [gTab_tabL, h]; rfl
@[simp] theorem colW_out (ds : List AVal) (bs : Nat → List AVal) (j : Nat) : colW.out ds bs j = [] := rfl
theorem aps_pre {nl : Option Bool} {t : TabR} {i : Int} {bs : Nat → List AVal} (ht : tVal t) (h : bs 10 = [i64 i]) : apsW.pre [.sl .plain (some true) 0 [], .fn 250 [] [.bp 10 0, .ep (tabL nl t)]] bs = True := eq_true ⟨nl, t, i, ht, rfl, h⟩
theorem col_pre {nl : Option Bool} {t : TabR} {i : Int} {bs : Nat → List AVal} (ht : tVal t) (h : bs 10 = [i64 i]) : colW.pre [.fn 250 [] [.bp 10 0, .ep (tabL nl t)]] bs = True := eq_true ⟨nl, t, i, ht, rfl, h⟩
attribute [local simp] wBox fnd
set_option maxHeartbeats 8000000 in
theorem col_ok (E : Env) (hC249 : E.C 249 = apsW) : ∀ ds bs p, colW.pre ds bs → ds.length = f_slices_Collect.n ∧ awp E f_slices_Collect.body (retW f_slices_Collect.res colW p ds bs) (initW colW p ds bs) := by
  rintro _ bs p ⟨nl, t, i, ht, rfl, hb0⟩
  have post := colW_post (nl := nl) (t := t) hb0
  generalize hp : p 0 = p0
  have hp1 := fun (bs : Nat → List AVal) (h : bs 10 = [i64 i]) => aps_pre (nl := nl) ht h
  have hp2 := fun (bs : Nat → List AVal) (h : bs 10 = [i64 i]) x => apsW_post (nl := nl) (t := t) (x := x) h
  simp (maxSteps := 1000000) (disch := first | omega | (simp; done) | (simp; omega)) [W_id, bys_app, bys_snoc, f_slices_Collect, initW, envW, hb0, hp]
  simp (maxSteps := 1000000) (disch := first | omega | (simp; done) | (simp; omega)) [W_id, bys_app, bys_snoc, okW, effW, hC249, wArg, okWA, hp1, hp2, tabL_refs, seqV_refs, seqV_ren]
  refine ⟨fun a b h => (by rcases h with ⟨h, _⟩ | ⟨h, _⟩ <;> exact h), ?_⟩
  simp (maxSteps := 1000000) (disch := first | omega | (simp; done) | (simp; omega)) [W_id, bys_app, bys_snoc, retW, hp, post, seqV_refs, seqV_ren, seqV_dem]
  skip
end Go.Abs
end

section
namespace Go.Abs
set_option maxRecDepth 100000
def linK (l : List KeyR) (i : Int) : Option (List Int) := (getK l i).map fun _ => lineK l i
def linA (nl : Option Bool) (o : Option (List Int)) : AVal := match o with | some l => .tup [.sl .plain nl l.length (intsL l), i64 0] | none => .tup [.sl .plain none 0 [], i64 11]
def linC (n' : Option Bool) : Contract := ⟨succC.pre, fun ds => linA n' (linK (gTab (gCs (nth ds 0))).keys (asI (nth ds 1)))⟩
theorem lin_pre (n' : Option Bool) {nl : Option Bool} {t : TabR} (i : Int) (h : tVal t) : (linC n').pre [.agg (tabL nl t), i64 i] = True := eq_true ⟨nl, t, i, h, rfl⟩
theorem lin_post (n' nl : Option Bool) (t : TabR) (i : Int) : (linC n').post [.agg (tabL nl t), i64 i] = linA n' (linK t.keys i) := by
  show linA n' (linK (gTab (tabL nl t)).keys i) = _
  rw [gTab_tabL]
def newK (l : List KeyR) (i : Int) : Option Int := (linK l i).map fun L => L.getLastD 0
def newA (o : Option Int) : AVal := match o with | some z => .tup [i64 z, i64 0] | none => .tup [i64 0, i64 11]
def newC : Contract := ⟨succC.pre, fun ds => newA (newK (gTab (gCs (nth ds 0))).keys (asI (nth ds 1)))⟩
theorem new_pre {nl : Option Bool} {t : TabR} (i : Int) (h : tVal t) : newC.pre [.agg (tabL nl t), i64 i] = True := eq_true ⟨nl, t, i, h, rfl⟩
theorem new_post (nl : Option Bool) (t : TabR) (i : Int) : newC.post [.agg (tabL nl t), i64 i] = newA (newK t.keys i) := by
  show newA (newK (gTab (tabL nl t)).keys i) = _
  rw [gTab_tabL]
abbrev linCn : Contract := linC none
attribute [local simp] wBox fnd
set_option maxHeartbeats 8000000 in
theorem line_ok (E : Env) (h230 : E.G 230 = getC) (h236 : E.M 236 = lnM) (hC237 : E.C 237 = colW) : ∀ ds, linCn.pre ds → ds.length = f_rotate_Line.n ∧ awp E f_rotate_Line.body (retQ f_rotate_Line.res (linCn.post ds)) (initSt f_rotate_Line.wr ds) := by
  rintro _ ⟨nl, t, i, ht, rfl⟩
  rw [lin_post]
  obtain ⟨tk, hl, _, hk⟩ := tVal_ok ht
  have e1 := get_pre (nl := nl) (t := t) i tk
  have e2 := get_post nl t i
  have p1 := lnM_pre (nl := nl) i ht
  have hp1 := fun (bs : Nat → List AVal) (h : bs 10 = [i64 i]) => col_pre (nl := nl) ht h
  have hp2 := fun (bs : Nat → List AVal) (h : bs 10 = [i64 i]) => colW_post (nl := nl) (t := t) h
  cases hg : getK t.keys i with
  | none =>
    rw [hg, getA] at e2
    have hn : linK t.keys i = none := by rw [linK, hg]; rfl
    rw [hn, linA]
    simp (maxSteps := 1000000) (disch := first | omega | (simp; done) | (simp; omega)) [W_id, bys_app, bys_snoc, f_rotate_Line, h230, e1, e2, kT, kF, dT, dF, key0_R, spl_k, spl_9]
    skip
  | some k =>
    rw [hg, getA] at e2
    have hn : linK t.keys i = some (lineK t.keys i) := by rw [linK, hg]; rfl
    rw [hn, linA]
    simp (maxSteps := 1000000) (disch := first | omega | (simp; done) | (simp; omega)) [W_id, bys_app, bys_snoc, f_rotate_Line, h230, e1, e2, kT, kF, dT, dF, key0_R, spl_k, spl_9]
    rw [f_rotate_Line_r0]
    simp (maxSteps := 1000000) (disch := first | omega | (simp; done) | (simp; omega)) [W_id, bys_app, bys_snoc, h236, p1]
    simp (maxSteps := 1000000) (disch := first | omega | (simp; done) | (simp; omega)) [W_id, bys_app, bys_snoc, okW, effW, hC237, wArg, okWA, hp1, hp2, tabL_refs, seqV_refs, seqV_ren, seqV_dem, seqV]
    intro a b h
    rcases h with h | h | h | h <;> (have := h.1; omega)
theorem new_cases (l : List KeyR) (i : Int) : (linK l i = none ∧ newK l i = none) ∨ ∃ L : List Int, linK l i = some L ∧ (0 < L.length ∧ L.length ≤ l.length + 1) ∧ newK l i = some (L.getD (L.length - 1) 0) := by
  have h0 := lineK_0 l i
  unfold newK linK
  cases getK l i with
  | none => exact .inl ⟨rfl, rfl⟩
  | some k =>
    refine .inr ⟨_, rfl, ⟨?_, lineK_le l i⟩, ?_⟩
    · rcases Nat.lt_or_ge 0 (lineK l i).length with h | h
      · exact h
      · rw [List.getElem?_eq_none h] at h0; cases h0
    · simp [List.getLastD_eq_getLast?, List.getLast?_eq_getElem?]
theorem intsL_at {L : List Int} {j : Nat} (h : j < L.length) : hdA ((intsL L).drop j) = i64 (L.getD j 0) := by
  have h' : j < (intsL L).length := by simpa using h
  rw [List.drop_eq_getElem_cons h', List.getD, List.getElem?_eq_getElem h]
  simp [intsL, hdA]
set_option maxHeartbeats 8000000 in
theorem newest_ok (E : Env) (h234 : E.G 234 = linCn) : ∀ ds, newC.pre ds → ds.length = f_rotate_Newest.n ∧ awp E f_rotate_Newest.body (retQ f_rotate_Newest.res (newC.post ds)) (initSt f_rotate_Newest.wr ds) := by
  rintro _ ⟨nl, t, i, ht, rfl⟩
  rw [new_post]
  have e1 := lin_pre none (nl := nl) i ht
  have e2 := lin_post none nl t i
  rcases new_cases t.keys i with ⟨h1, h2⟩ | ⟨L, h1, ⟨h3, h4⟩, h2⟩
  · rw [h1, linA] at e2
    rw [h2, newA]
    simp (maxSteps := 1000000) (disch := first | omega | (simp; done) | (simp; omega)) [W_id, bys_app, bys_snoc, f_rotate_Newest, h234, linCn, e1, e2, kT, kF, dT, dF]
    skip
  · rw [h1, linA] at e2
    rw [h2, newA]
    have hat := intsL_at (L := L) (j := L.length - 1) (by omega)
    have hl := (tVal_ok ht).2.1
    have hW : W ((L.length : Int) - 1) = ((L.length - 1 : Nat) : Int) := by
      rw [W_id (by omega) (by omega)]; omega
    generalize L.getD (L.length - 1) 0 = z at *
    simp (maxSteps := 1000000) (disch := first | omega | (simp; done) | (simp; omega)) [W_id, bys_app, bys_snoc, f_rotate_Newest, f_rotate_Newest_r0, h234, linCn, e1, e2, kT, kF, dT, dF, hat, hW]
    omega
end Go.Abs
end
