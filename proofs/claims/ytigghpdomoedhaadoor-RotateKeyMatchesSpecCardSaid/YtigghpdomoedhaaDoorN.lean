/- Lemmas: an abstract interpreter, and what the functions compute. -/
import Derived.Test.YtigghpdomoedhaaDoorL
import Derived.Test.YtigghpdomoedhaaDoorT
set_option linter.unusedSimpArgs false
set_option linter.unusedVariables false
set_option linter.unusedSectionVars false
section
namespace Go.Abs
def orI (x y : Int) : Int := W (BitVec.ofInt 64 x ||| BitVec.ofInt 64 y).toNat
@[simp] theorem bin_i64_or (x y : Int) : binV .or (i64 x) (i64 y) = i64 (orI x y) := rfl
theorem isI64_W (n : Int) : isI64 (W n) := by
  unfold isI64 W IntKind.wrap
  simp only [IntKind.bits, IntKind.signed]
  simp
  omega
theorem isI64_and (x y : Int) : isI64 (andI x y) := isI64_W _
theorem isI64_or (x y : Int) : isI64 (orI x y) := isI64_W _
theorem or_0 {x : Int} (h : isI64 x) : orI x 0 = x := by
  unfold orI
  rw [show BitVec.ofInt 64 x ||| BitVec.ofInt 64 0 = BitVec.ofInt 64 x by simp, W_ofInt h]
def rulA (t u : Int) (r : RulR) : Int := if r.a = t ∧ 1 ≤ r.kind ∧ r.kind ≤ 4 then orI u 128 else u
def rulB (t u : Int) (r : RulR) : Int := if r.a = t ∧ r.kind = 5 then orI u 256 else u
def rulC (t u : Int) (r : RulR) : Int := if r.b = t ∧ (r.kind = 1 ∨ r.kind = 3) then orI u 512 else u
def rulU (t u : Int) (r : RulR) : Int := rulC t (rulB t (rulA t u r) r) r
def usesK (p : PolR) (t : Int) : Int := if hasTy p t = true then p.rules.foldl (rulU t) (andI (tyAt p t).flags 60) else 0
def useC : Contract := ⟨exiC.pre, fun ds => i64 (usesK (gPol (gCs (nth ds 0))) (asI (nth ds 1)))⟩
theorem use_pre {na nb nc : Option Bool} {p : PolR} {t : Int} (h : polOk p) (ht : isI64 t) : useC.pre [.agg (polL na nb nc p), i64 t] = True := eq_true ⟨na, nb, nc, p, t, h, ht, rfl⟩
@[simp] theorem use_post (na nb nc : Option Bool) (p : PolR) (t : Int) : useC.post [.agg (polL na nb nc p), i64 t] = i64 (usesK p t) := by
  show i64 (usesK (gPol (polL na nb nc p)) t) = _
  rw [gPol_polL]
theorem isI64_rulU {t u : Int} (h : isI64 u) (r : RulR) : isI64 (rulU t u r) := by
  unfold rulU rulC rulB rulA
  repeat' split
  all_goals first | exact h | exact isI64_or _ _
theorem isI64_fold (t : Int) : ∀ (l : List RulR) {u : Int}, isI64 u → isI64 (l.foldl (rulU t) u)
  | [], u, h => h
  | r :: l, u, h => isI64_fold t l (isI64_rulU h r)
theorem fold_step {l : List RulR} (t u : Int) {n : Nat} (h : n < l.length) : (l.take (n + 1)).foldl (rulU t) u = rulU t ((l.take n).foldl (rulU t) u) (l.getD n ⟨0, 0, 0⟩) := by
  rw [List.take_add_one, List.foldl_append, List.getD, List.getElem?_eq_getElem h]; rfl
end Go.Abs
end

section
namespace Go.Abs
set_option maxRecDepth 100000
@[simp] theorem rulL_len (r : RulR) : (rulL r).length = 3 := rfl
@[simp] theorem rulL_pure (r : RulR) : pureL (rulL r) = true := rfl
@[simp] theorem rulL_refs (r : RulR) : refsL (rulL r) = [] := rfl
@[simp] theorem rulL_take (r : RulR) : (rulL r).take 3 = rulL r := rfl
@[simp] theorem rulL_mf (r : RulR) : memFreeL (rulL r) = true := rfl
@[simp] theorem rulL_cell (r : RulR) : (∀ c ∈ rulL r, isCell c) ↔ True := by simp [rulL]
@[simp] theorem rulL_own (r : RulR) : (∀ c ∈ rulL r, ownTop c = false) ↔ True := by simp [rulL]
@[simp] theorem rulL_f0 (r : RulR) : hdA (rulL r) = i64 r.kind := rfl
@[simp] theorem rulL_f1 (r : RulR) : hdA (rulL r).tail = i64 r.a := rfl
@[simp] theorem rulL_f2 (r : RulR) : hdA ((rulL r).drop 2) = i64 r.b := rfl
theorem spl_3 (a b c : AVal) (r : RulR) : splice [a, b, c] 0 (rulL r) = rulL r := rfl
theorem spl_r (a b : RulR) : splice (rulL a) 0 (rulL b) = rulL b := rfl
def rulD (l : List RulR) (i : Nat) : RulR := l.getD i ⟨0, 0, 0⟩
theorem rulsL_D {l : List RulR} {i : Nat} (h : i < l.length) : ((rulsL l).drop (i * 3)).take 3 = rulL (rulD l i) := rulsL_at h
def usSt (na nb nc : Option Bool) (p : PolR) (t u : Int) (i : Nat) (r : RulR) : ASt := ⟨[(0, .agg (polL na nb nc p)), (1, i64 t)], [(2, .bp 2 0), (5, i64 u), (6, i64 i), (7, .bp 7 0)], [(2, some (polL na nb nc p)), (7, some (rulL r))]⟩
def usSe (na nb nc : Option Bool) (p : PolR) (t u : Int) (i : Nat) (r : RulR) : ASt := ⟨[(0, .agg (polL na nb nc p)), (1, i64 t)], [(2, .bp 2 0), (5, i64 u), (6, i64 i)], [(2, some (polL na nb nc p)), (7, some (rulL r))]⟩
set_option maxHeartbeats 4000000 in
theorem ruses3 (E : Env) {na nb nc : Option Bool} {p : PolR} {t u : Int} {i : Nat} (r : RulR) {Q : AExit → ASt → Prop} (hq : Q .normal (usSe na nb nc p t (rulC t u r) i r)) : awp E f_custodyref14_Uses_r3 Q (usSt na nb nc p t u i r) := by
  unfold usSt
  rw [rulC, usSe] at hq
  by_cases h1 : r.b = t
  · by_cases h2 : r.kind = 1
    · rw [if_pos ⟨h1, .inl h2⟩] at hq
      simp (maxSteps := 1000000) (disch := first | omega | (simp; done) | (simp; omega)) [W_id, bys_app, bys_snoc, f_custodyref14_Uses_r3, h1, h2, kT, kF, dT, dF]
      exact hq
    · have b2 : (r.kind == 1) = false := beq_false_of_ne h2
      by_cases h3 : r.kind = 3
      · rw [if_pos ⟨h1, .inr h3⟩] at hq
        simp (maxSteps := 1000000) (disch := first | omega | (simp; done) | (simp; omega)) [W_id, bys_app, bys_snoc, f_custodyref14_Uses_r3, h1, h3, kT, kF, dT, dF]
        exact hq
      · have b3 : (r.kind == 3) = false := beq_false_of_ne h3
        rw [if_neg (fun h => h.2.elim h2 h3)] at hq
        simp (maxSteps := 1000000) (disch := first | omega | (simp; done) | (simp; omega)) [W_id, bys_app, bys_snoc, f_custodyref14_Uses_r3, h1, b2, b3, kT, kF, dT, dF]
        exact hq
  · have b1 : (r.b == t) = false := beq_false_of_ne h1
    rw [if_neg (fun h => h1 h.1)] at hq
    simp (maxSteps := 1000000) (disch := first | omega | (simp; done) | (simp; omega)) [W_id, bys_app, bys_snoc, f_custodyref14_Uses_r3, b1, kT, kF, dT, dF]
    exact hq
set_option maxHeartbeats 4000000 in
theorem ruses2 (E : Env) {na nb nc : Option Bool} {p : PolR} {t u : Int} {i : Nat} (r : RulR) {Q : AExit → ASt → Prop} (hq : Q .normal (usSe na nb nc p t (rulC t (rulB t u r) r) i r)) : awp E f_custodyref14_Uses_r2 Q (usSt na nb nc p t u i r) := by
  have h3 := ruses3 E (u := rulB t u r) r hq
  clear hq
  unfold usSt at h3 ⊢
  rw [rulB] at h3
  by_cases h1 : r.a = t
  · by_cases h2 : r.kind = 5
    · rw [if_pos ⟨h1, h2⟩] at h3
      simp (maxSteps := 1000000) (disch := first | omega | (simp; done) | (simp; omega)) [W_id, bys_app, bys_snoc, f_custodyref14_Uses_r2, h1, h2, kT, kF, dT, dF]
      exact h3
    · have b2 : (r.kind == 5) = false := beq_false_of_ne h2
      rw [if_neg (fun h => h2 h.2)] at h3
      simp (maxSteps := 1000000) (disch := first | omega | (simp; done) | (simp; omega)) [W_id, bys_app, bys_snoc, f_custodyref14_Uses_r2, h1, b2, kT, kF, dT, dF]
      exact h3
  · have b1 : (r.a == t) = false := beq_false_of_ne h1
    rw [if_neg (fun h => h1 h.1)] at h3
    simp (maxSteps := 1000000) (disch := first | omega | (simp; done) | (simp; omega)) [W_id, bys_app, bys_snoc, f_custodyref14_Uses_r2, b1, kT, kF, dT, dF]
    exact h3
theorem polOk_i {p : PolR} (h : polOk p) : p.types.length ≤ 1000000000 ∧ p.rules.length ≤ 1000000000 := ⟨h.1, h.2.1⟩
set_option maxHeartbeats 8000000 in
theorem ruses_ok (E : Env) (h276 : E.G 276 = exiC) : ∀ ds, useC.pre ds → ds.length = f_custodyref14_Uses.n ∧ awp E f_custodyref14_Uses.body (retQ f_custodyref14_Uses.res (useC.post ds)) (initSt f_custodyref14_Uses.wr ds) := by
  rintro _ ⟨na, nb, nc, p, t, hp, ht, rfl⟩
  rw [use_post, usesK]
  obtain ⟨pl1, pl2⟩ := polOk_i hp
  have e1 := exi_pre (na := na) (nb := nb) (nc := nc) hp ht
  cases hh : hasTy p t with
  | false =>
    simp (maxSteps := 1000000) (disch := first | omega | (simp; done) | (simp; omega)) [W_id, bys_app, bys_snoc, f_custodyref14_Uses, h276, e1, hh, kT, kF, dT, dF]
  | true =>
    have ht2 : 0 ≤ t ∧ t < p.types.length := by simpa [hasTy] using hh
    obtain ⟨n, rfl⟩ : ∃ n : Nat, t = n := ⟨t.toNat, by omega⟩
    have f1 := typsL_f1 (l := p.types) (i := n) (by omega)
    have e2 : (tyAt p n).flags = (p.types.getD n ⟨[], 0, 0⟩).flags := rfl
    rw [← e2] at f1
    generalize (tyAt p n).flags = fl at *
    simp (maxSteps := 1000000) (disch := first | omega | (simp; done) | (simp; omega)) [W_id, bys_app, bys_snoc, f_custodyref14_Uses, f_custodyref14_Uses_r0, h276, e1, hh, kT, kF, dT, dF, f1]
    refine ⟨by omega, by omega, by omega, ?_⟩
    refine awp_name fun Q0 hQ0 => ?_
    refine awp_for (fun i : Nat => ⟨[(0, .agg (polL na nb nc p)), (1, i64 n)], [(2, .bp 2 0), (5, i64 ((p.rules.take i).foldl (rulU n) (andI fl 60))), (6, i64 i)], [(2, some (polL na nb nc p))]⟩) (fun i => p.rules.length - i) (fun i => i ≤ p.rules.length) 0 (by simp) (by omega) fun i hi => ?_
    by_cases h : i < p.rules.length
    · have lt : (i : Int) < p.rules.length := by omega
      have fs := fold_step (l := p.rules) n (andI fl 60) h
      have r0 := rulsL_D h
      have rD : p.rules.getD i ⟨0, 0, 0⟩ = rulD p.rules i := rfl
      rw [rD] at fs
      generalize (p.rules.take i).foldl (rulU n) (andI fl 60) = u at *
      generalize rulD p.rules i = r at *
      rw [rulU] at fs
      have h2 := fun Q => ruses2 E (na := na) (nb := nb) (nc := nc) (p := p) (t := n) (u := rulA n u r) (i := i) r (Q := Q)
      unfold usSt usSe at h2
      by_cases c1 : r.a = n
      · by_cases c2 : 1 ≤ r.kind
        · by_cases c3 : r.kind ≤ 4
          · rw [rulA, if_pos ⟨c1, c2, c3⟩] at h2 fs
            simp (maxSteps := 1000000) (disch := first | omega | (simp; done) | (simp; omega)) [W_id, bys_app, bys_snoc, f_custodyref14_Uses_l0, f_custodyref14_Uses_r1, lt, kT, kF, dT, dF, r0, spl_3, spl_r, c1, c2, c3]
            refine ⟨by omega, h2 _ ?_⟩
            simp (maxSteps := 1000000) (disch := first | omega | (simp; done) | (simp; omega)) [W_id, bys_app, bys_snoc, kT, kF]
            exact ⟨i + 1, by omega, by omega, by rw [fs], by omega⟩
          · rw [rulA, if_neg (fun h => c3 h.2.2)] at h2 fs
            simp (maxSteps := 1000000) (disch := first | omega | (simp; done) | (simp; omega)) [W_id, bys_app, bys_snoc, f_custodyref14_Uses_l0, f_custodyref14_Uses_r1, lt, kT, kF, dT, dF, r0, spl_3, spl_r, c1, c2, c3]
            refine ⟨by omega, h2 _ ?_⟩
            simp (maxSteps := 1000000) (disch := first | omega | (simp; done) | (simp; omega)) [W_id, bys_app, bys_snoc, kT, kF]
            exact ⟨i + 1, by omega, by omega, by rw [fs], by omega⟩
        · rw [rulA, if_neg (fun h => c2 h.2.1)] at h2 fs
          simp (maxSteps := 1000000) (disch := first | omega | (simp; done) | (simp; omega)) [W_id, bys_app, bys_snoc, f_custodyref14_Uses_l0, f_custodyref14_Uses_r1, lt, kT, kF, dT, dF, r0, spl_3, spl_r, c1, c2]
          refine ⟨by omega, h2 _ ?_⟩
          simp (maxSteps := 1000000) (disch := first | omega | (simp; done) | (simp; omega)) [W_id, bys_app, bys_snoc, kT, kF]
          exact ⟨i + 1, by omega, by omega, by rw [fs], by omega⟩
      · have b1 : (r.a == (n : Int)) = false := beq_false_of_ne c1
        rw [rulA, if_neg (fun h => c1 h.1)] at h2 fs
        simp (maxSteps := 1000000) (disch := first | omega | (simp; done) | (simp; omega)) [W_id, bys_app, bys_snoc, f_custodyref14_Uses_l0, f_custodyref14_Uses_r1, lt, kT, kF, dT, dF, r0, spl_3, spl_r, b1]
        refine ⟨by omega, h2 _ ?_⟩
        simp (maxSteps := 1000000) (disch := first | omega | (simp; done) | (simp; omega)) [W_id, bys_app, bys_snoc, kT, kF]
        exact ⟨i + 1, by omega, by omega, by rw [fs], by omega⟩
    · have lt : ¬ (i : Int) < p.rules.length := by omega
      rw [List.take_of_length_le (by omega)]
      simp (maxSteps := 1000000) (disch := first | omega | (simp; done) | (simp; omega)) [W_id, bys_app, bys_snoc, f_custodyref14_Uses_l0, f_custodyref14_Uses_r4, lt, kT, kF, dT, dF, hQ0]
      skip
end Go.Abs
end

section
namespace Go.Abs
set_option maxRecDepth 100000
def byR : List RulR := [⟨1, 128, 512⟩, ⟨2, 128, 0⟩, ⟨3, 128, 512⟩, ⟨4, 128, 0⟩, ⟨5, 256, 0⟩]
def innA (t u : Int) (r x : RulR) : Int := if r.a = t then orI u x.a else u
def innB (t u : Int) (r x : RulR) : Int := if r.b = t then orI u x.b else u
def inn (t : Int) (r : RulR) (u : Int) (x : RulR) : Int := if x.kind = r.kind then innB t (innA t u r x) r x else u
theorem byR_fold {t u : Int} (hu : isI64 u) (r : RulR) : byR.foldl (inn t r) u = rulU t u r := by
  have h0 := or_0 hu
  have h1 := or_0 (isI64_or u 128)
  have h2 := or_0 (isI64_or u 256)
  simp only [byR, List.foldl_cons, List.foldl_nil, inn, innA, innB, rulU, rulA, rulB, rulC]
  by_cases k1 : r.kind = 1
  · by_cases ha : r.a = t <;> by_cases hb : r.b = t <;> simp [k1, ha, hb]
  by_cases k2 : r.kind = 2
  · by_cases ha : r.a = t <;> by_cases hb : r.b = t <;> simp [k2, ha, hb, h0, h1]
  by_cases k3 : r.kind = 3
  · by_cases ha : r.a = t <;> by_cases hb : r.b = t <;> simp [k3, ha, hb]
  by_cases k4 : r.kind = 4
  · by_cases ha : r.a = t <;> by_cases hb : r.b = t <;> simp [k4, ha, hb, h0, h1]
  by_cases k5 : r.kind = 5
  · by_cases ha : r.a = t <;> by_cases hb : r.b = t <;> simp [k5, ha, hb, h0, h2]
  have n1 : ¬ (1 : Int) = r.kind := fun h => k1 h.symm
  have n2 : ¬ (2 : Int) = r.kind := fun h => k2 h.symm
  have n3 : ¬ (3 : Int) = r.kind := fun h => k3 h.symm
  have n4 : ¬ (4 : Int) = r.kind := fun h => k4 h.symm
  have n5 : ¬ (5 : Int) = r.kind := fun h => k5 h.symm
  have n6 : ¬ (1 ≤ r.kind ∧ r.kind ≤ 4) := by omega
  simp only [n1, n2, n3, n4, n5, n6, k1, k3, k5, if_false, and_false, or_false]
theorem inn_step (t : Int) (r : RulR) (u : Int) {n : Nat} (h : n < 5) : (byR.take (n + 1)).foldl (inn t r) u = inn t r ((byR.take n).foldl (inn t r) u) (rulD byR n) := by
  have h' : n < byR.length := h
  rw [List.take_add_one, List.foldl_append, rulD, List.getD, List.getElem?_eq_getElem h']; rfl
theorem byR_15 : (rulsL byR).take 15 = rulsL byR := rfl
theorem byR_refs : refsL (rulsL byR) = [] := rfl
@[simp] theorem byR_len : byR.length = 5 := rfl
def puSt (na nb nc : Option Bool) (p : PolR) (t u : Int) (i j : Nat) (r x : RulR) : ASt := ⟨[(0, .agg (polL na nb nc p)), (1, i64 t)], [(5, i64 u), (7, .bp 7 0), (9, .bp 9 0), (22, .sl .plain nb p.rules.length (rulsL p.rules)), (23, i64 p.rules.length), (24, i64 i), (28, .agg (rulsL byR)), (29, i64 j)], [(2, some (polL na nb nc p)), (7, some (rulL r)), (9, some (rulL x))]⟩
def puSe (na nb nc : Option Bool) (p : PolR) (t u : Int) (i j : Nat) (r x : RulR) : ASt := ⟨[(0, .agg (polL na nb nc p)), (1, i64 t)], [(5, i64 u), (7, .bp 7 0), (22, .sl .plain nb p.rules.length (rulsL p.rules)), (23, i64 p.rules.length), (24, i64 i), (28, .agg (rulsL byR)), (29, i64 j)], [(2, some (polL na nb nc p)), (7, some (rulL r)), (9, some (rulL x))]⟩
set_option maxHeartbeats 4000000 in
theorem puses4 (E : Env) {na nb nc : Option Bool} {p : PolR} {t u : Int} {i j : Nat} (r x : RulR) {Q : AExit → ASt → Prop} (hq : Q .normal (puSe na nb nc p t (innB t u r x) i j r x)) : awp E f_perm_Uses_r4 Q (puSt na nb nc p t u i j r x) := by
  unfold puSt
  rw [innB, puSe] at hq
  by_cases h1 : r.b = t
  · rw [if_pos h1] at hq
    simp (maxSteps := 1000000) (disch := first | omega | (simp; done) | (simp; omega)) [W_id, bys_app, bys_snoc, f_perm_Uses_r4, h1, kT, kF, dT, dF]
    exact hq
  · have b1 : (r.b == t) = false := beq_false_of_ne h1
    rw [if_neg h1] at hq
    simp (maxSteps := 1000000) (disch := first | omega | (simp; done) | (simp; omega)) [W_id, bys_app, bys_snoc, f_perm_Uses_r4, b1, kT, kF, dT, dF]
    exact hq
set_option maxHeartbeats 4000000 in
theorem puses3 (E : Env) {na nb nc : Option Bool} {p : PolR} {t u : Int} {i j : Nat} (r x : RulR) {Q : AExit → ASt → Prop} (hq : Q .normal (puSe na nb nc p t (innB t (innA t u r x) r x) i j r x)) : awp E f_perm_Uses_r3 Q (puSt na nb nc p t u i j r x) := by
  have h3 := puses4 E (u := innA t u r x) r x hq
  clear hq
  unfold puSt at h3 ⊢
  rw [innA] at h3
  by_cases h1 : r.a = t
  · rw [if_pos h1] at h3
    simp (maxSteps := 1000000) (disch := first | omega | (simp; done) | (simp; omega)) [W_id, bys_app, bys_snoc, f_perm_Uses_r3, h1, kT, kF, dT, dF]
    exact h3
  · have b1 : (r.a == t) = false := beq_false_of_ne h1
    rw [if_neg h1] at h3
    simp (maxSteps := 1000000) (disch := first | omega | (simp; done) | (simp; omega)) [W_id, bys_app, bys_snoc, f_perm_Uses_r3, b1, kT, kF, dT, dF]
    exact h3
set_option maxHeartbeats 8000000 in
theorem uses_ok (E : Env) (h251 : E.G 251 = exiC) (hT5 : E.T 5 = rulsL byR) : ∀ ds, useC.pre ds → ds.length = f_perm_Uses.n ∧ awp E f_perm_Uses.body (retQ f_perm_Uses.res (useC.post ds)) (initSt f_perm_Uses.wr ds) := by
  rintro _ ⟨na, nb, nc, p, t, hp, ht, rfl⟩
  rw [use_post, usesK]
  obtain ⟨pl1, pl2⟩ := polOk_i hp
  have e1 := exi_pre (na := na) (nb := nb) (nc := nc) hp ht
  cases hh : hasTy p t with
  | false =>
    simp (maxSteps := 1000000) (disch := first | omega | (simp; done) | (simp; omega)) [W_id, bys_app, bys_snoc, f_perm_Uses, h251, e1, hh, kT, kF, dT, dF]
  | true =>
    have ht2 : 0 ≤ t ∧ t < p.types.length := by simpa [hasTy] using hh
    obtain ⟨n, rfl⟩ : ∃ n : Nat, t = n := ⟨t.toNat, by omega⟩
    have f1 := typsL_f1 (l := p.types) (i := n) (by omega)
    have e2 : (tyAt p n).flags = (p.types.getD n ⟨[], 0, 0⟩).flags := rfl
    rw [← e2] at f1
    have hi0 : isI64 (andI (tyAt p n).flags 60) := isI64_and _ _
    generalize (tyAt p n).flags = fl at *
    simp (maxSteps := 1000000) (disch := first | omega | (simp; done) | (simp; omega)) [W_id, bys_app, bys_snoc, f_perm_Uses, f_perm_Uses_r0, h251, e1, hh, kT, kF, dT, dF, f1]
    refine ⟨by omega, by omega, by omega, ?_⟩
    refine awp_name fun Q0 hQ0 => ?_
    refine awp_for (fun i : Nat => ⟨[(0, .agg (polL na nb nc p)), (1, i64 n)], [(5, i64 ((p.rules.take i).foldl (rulU n) (andI fl 60))), (22, .sl .plain nb p.rules.length (rulsL p.rules)), (23, i64 p.rules.length), (24, i64 i)], [(2, some (polL na nb nc p))]⟩) (fun i => p.rules.length - i) (fun i => i ≤ p.rules.length) 0 (by simp) (by omega) fun i hi => ?_
    by_cases h : i < p.rules.length
    · have lt : (i : Int) < p.rules.length := by omega
      have fs := fold_step (l := p.rules) n (andI fl 60) h
      have r0 := rulsL_D h
      have rD : p.rules.getD i ⟨0, 0, 0⟩ = rulD p.rules i := rfl
      rw [rD] at fs
      have hiu := isI64_fold n (p.rules.take i) hi0
      generalize (p.rules.take i).foldl (rulU n) (andI fl 60) = u at *
      generalize rulD p.rules i = r at *
      rw [← byR_fold hiu] at fs
      simp (maxSteps := 1000000) (disch := first | omega | (simp; done) | (simp; omega)) [W_id, bys_app, bys_snoc, f_perm_Uses_l0, f_perm_Uses_r1, lt, kT, kF, dT, dF, r0, spl_3, spl_r, hT5, byR_15]
      refine ⟨by omega, ?_⟩
      refine awp_name fun Q1 hQ1 => ?_
      refine awp_for (fun j : Nat => ⟨[(0, .agg (polL na nb nc p)), (1, i64 n)], [(5, i64 ((byR.take j).foldl (inn n r) u)), (7, .bp 7 0), (22, .sl .plain nb p.rules.length (rulsL p.rules)), (23, i64 p.rules.length), (24, i64 i), (28, .agg (rulsL byR)), (29, i64 j)], [(2, some (polL na nb nc p)), (7, some (rulL r))]⟩) (fun j => 5 - j) (fun j => j ≤ 5) 0 (by simp) (by omega) fun j hj => ?_
      by_cases h' : j < 5
      · have lt' : (j : Int) < 5 := by omega
        have gs := inn_step n r u h'
        have x0 := rulsL_D (l := byR) (i := j) h'
        generalize (byR.take j).foldl (inn n r) u = v at *
        generalize rulD byR j = x at *
        by_cases c : x.kind = r.kind
        · rw [inn, if_pos c] at gs
          have h3 := fun Q => puses3 E (na := na) (nb := nb) (nc := nc) (p := p) (t := n) (u := v) (i := i) (j := j) r x (Q := Q)
          unfold puSt puSe at h3
          have cb : (x.kind == r.kind) = true := by simp [c]
          simp (maxSteps := 1000000) (disch := first | omega | (simp; done) | (simp; omega)) [W_id, bys_app, bys_snoc, f_perm_Uses_l1, f_perm_Uses_r2, lt', kT, kF, dT, dF, x0, spl_3, spl_r, c, cb, byR_refs]
          refine ⟨by omega, h3 _ ?_⟩
          simp (maxSteps := 1000000) (disch := first | omega | (simp; done) | (simp; omega)) [W_id, bys_app, bys_snoc, kT, kF, byR_refs]
          exact ⟨j + 1, by omega, by omega, gs.symm, by omega⟩
        · rw [inn, if_neg c] at gs
          have cb : (x.kind == r.kind) = false := beq_false_of_ne c
          simp (maxSteps := 1000000) (disch := first | omega | (simp; done) | (simp; omega)) [W_id, bys_app, bys_snoc, f_perm_Uses_l1, f_perm_Uses_r2, lt', kT, kF, dT, dF, x0, spl_3, spl_r, c, cb, byR_refs]
          exact ⟨by omega, j + 1, by omega, by omega, gs.symm, by omega⟩
      · have lt' : ¬ (j : Int) < 5 := by omega
        rw [List.take_of_length_le (by simp; omega)]
        simp (maxSteps := 1000000) (disch := first | omega | (simp; done) | (simp; omega)) [W_id, bys_app, bys_snoc, f_perm_Uses_l1, lt', kT, kF, dT, dF, hQ1]
        exact ⟨i + 1, by omega, by omega, fs.symm, by omega⟩
    · have lt : ¬ (i : Int) < p.rules.length := by omega
      rw [List.take_of_length_le (by omega)]
      simp (maxSteps := 1000000) (disch := first | omega | (simp; done) | (simp; omega)) [W_id, bys_app, bys_snoc, f_perm_Uses_l0, f_perm_Uses_r5, lt, kT, kF, dT, dF, hQ0]
      skip
end Go.Abs
end
