/- Lemmas: an abstract interpreter, and what the functions compute. -/
import Derived.Test.YtcegicmamdabfaaDoorK
import Derived.Test.YtcegicmamdabfaaDoorT
import Derived.Test.YtcegicmamdabfaaDoorD
set_option linter.unusedSimpArgs false
set_option linter.unusedVariables false
set_option linter.unusedSectionVars false
section
namespace Go.Abs
def rrowA (r : Row) : List AVal := [st r.name, bo (hasF r.uses 1), bo (hasF r.uses 2), bo (hasF r.uses 4), bo (hasF r.uses 8), bo (hasF r.uses 16), i64 r.least, i64 r.most]
def rrowsT : List AVal := rowL.flatMap rrowA
def rrowsC : Contract := ⟨fun ds => ds = [], fun _ => .sl (.own 8) (some false) 27 rrowsT⟩
@[simp] theorem rrows_pre : rrowsC.pre [] = True := eq_true rfl
@[simp] theorem rrows_post (ds : List AVal) : rrowsC.post ds = .sl (.own 8) (some false) 27 rrowsT := rfl
def inR (n : Int) (u : Bool) (m : Int) : Bool := decide (0 ≤ n) && decide (n ≤ if u then m else 0)
def wthC : Contract := ⟨fun ds => ∃ (n : Int) (u : Bool) (m : Int), ds = [i64 n, bo u, i64 m], fun ds => bo (inR (asI (nth ds 0)) (asB (nth ds 1)) (asI (nth ds 2)))⟩
@[simp] theorem wth_pre (n m : Int) (u : Bool) : wthC.pre [i64 n, bo u, i64 m] = True := eq_true ⟨n, u, m, rfl⟩
@[simp] theorem wth_post (n m : Int) (u : Bool) : wthC.post [i64 n, bo u, i64 m] = bo (inR n u m) := by simp [wthC, nth]
def lsOk (l : List Int) (u : Bool) : Bool := if u then incr 0 l && decide (0 < l.length) else decide (l.length = 0)
def isLC : Contract := ⟨fun ds => ∃ (nl : Option Bool) (l : List Int) (u : Bool), l.length ≤ 1000000000 ∧ ds = [.sl .plain nl l.length (ints l), bo u], fun ds => bo (lsOk (gIs (gCs (nth ds 0))) (asB (nth ds 1)))⟩
theorem isL_pre {nl : Option Bool} {n : Nat} {l : List Int} (u : Bool) (h : l.length ≤ 1000000000) (hn : n = l.length) : isLC.pre [.sl .plain nl n (ints l), bo u] = True := eq_true ⟨nl, l, u, h, by rw [hn]⟩
@[simp] theorem isL_post (nl : Option Bool) (n : Nat) (l : List Int) (u : Bool) : isLC.post [.sl .plain nl n (ints l), bo u] = bo (lsOk l u) := by simp [isLC, nth]
set_option maxRecDepth 100000 in
theorem rrows_len : rrowsT.length = 216 := by kernel_rfl
theorem rflat_drop (l : List Row) : ∀ i, i < l.length → (l.flatMap rrowA).drop (i * 8) = rrowA (l.getD i noRow) ++ (l.drop (i + 1)).flatMap rrowA := by
  induction l with
  | nil => intro i h; simp at h
  | cons r l ih =>
    intro i h
    cases i with
    | zero => simp [rrowA]
    | succ i =>
      have := ih i (by simpa using h)
      rw [List.flatMap_cons, show (i + 1) * 8 = 8 + i * 8 by omega, ← List.drop_drop]
      have e : (rrowA r ++ l.flatMap rrowA).drop 8 = l.flatMap rrowA := rfl
      rw [e, this]
      simp
@[simp] theorem pure_rrowA (r : Row) : pureL (rrowA r) = true := by simp [rrowA, pureL]
theorem rrows_at {i : Nat} (h : i < 27) : rrowsT.drop (i * 8) = rrowA (rowL.getD i noRow) ++ (rowL.drop (i + 1)).flatMap rrowA := rflat_drop rowL i h
theorem rrows_take {i : Nat} (h : i < 27) : (rrowsT.drop (i * 8)).take 8 = rrowA (rowL.getD i noRow) := by rw [rrows_at h]; rfl
theorem rrows_hd {i : Nat} (h : i < 27) : hdA (rrowsT.drop (i * 8)) = st (rowL.getD i noRow).name := by rw [rrows_at h]; rfl
set_option maxHeartbeats 4000000 in
set_option maxRecDepth 100000 in
theorem rrows_ok (E : Env) : ∀ ds, rrowsC.pre ds → ds.length = f_custodyref28_rows.n ∧ awp E f_custodyref28_rows.body (retQ f_custodyref28_rows.res (rrowsC.post ds)) (initSt f_custodyref28_rows.wr ds) := by
  rintro _ rfl
  simp (maxSteps := 1000000) (disch := first | omega | (simp; done) | (simp; omega)) [W_id, bys_app, bys_snoc, f_custodyref28_rows, f_custodyref28_rows_r0]
  repeat' (first | apply And.intro | kernel_rfl)
theorem within_ok (E : Env) : ∀ ds, wthC.pre ds → ds.length = f_custodyref28_within.n ∧ awp E f_custodyref28_within.body (retQ f_custodyref28_within.res (wthC.post ds)) (initSt f_custodyref28_within.wr ds) := by
  rintro _ ⟨n, u, m, rfl⟩
  rw [wth_post]
  cases u
  · have e : inR n false m = (n == 0) := by
      rw [Bool.eq_iff_iff]; simp only [inR, Bool.false_eq_true, if_false, Bool.and_eq_true, decide_eq_true_eq, beq_iff_eq]; omega
    simp (maxSteps := 1000000) (disch := first | omega | (simp; done) | (simp; omega)) [W_id, bys_app, bys_snoc, f_custodyref28_within, f_custodyref28_within_r0, f_custodyref28_within_r1, kT, kF, e]
  · by_cases h : 0 ≤ n
    · simp (maxSteps := 1000000) (disch := first | omega | (simp; done) | (simp; omega)) [W_id, bys_app, bys_snoc, f_custodyref28_within, f_custodyref28_within_r0, f_custodyref28_within_r1, f_custodyref28_within_r2, kT, kF, dT, dF, inR, h]
    · simp (maxSteps := 1000000) (disch := first | omega | (simp; done) | (simp; omega)) [W_id, bys_app, bys_snoc, f_custodyref28_within, f_custodyref28_within_r0, f_custodyref28_within_r1, f_custodyref28_within_r2, kT, kF, dT, dF, inR, h]
set_option maxHeartbeats 4000000 in
theorem rkind_ok (E : Env) (h141 : E.G 141 = rrowsC) : ∀ ds, kindC.pre ds → ds.length = f_custodyref28_Kind.n ∧ awp E f_custodyref28_Kind.body (retQ f_custodyref28_Kind.res (kindC.post ds)) (initSt f_custodyref28_Kind.wr ds) := by
  rintro _ ⟨s, rfl⟩
  rw [kind_post]
  have hl := rrows_len
  simp (maxSteps := 1000000) (disch := first | omega | (simp; done) | (simp; omega)) [W_id, bys_app, bys_snoc, f_custodyref28_Kind, f_custodyref28_Kind_r0, h141]
  refine awp_name fun Q0 hQ0 => ?_
  simp (maxSteps := 1000000) (disch := first | omega | (simp; done) | (simp; omega)) [W_id, bys_app, bys_snoc, f_custodyref28_Kind_r1]
  refine awp_for (fun i : Nat => ⟨[(0, st s)], [(4, .sl (.own 8) (some false) 27 rrowsT), (5, i64 i)], []⟩) (fun i => 27 - i) (fun i => i ≤ 27 ∧ kindOf s = findN s (rowL.drop i) i) 0 rfl ⟨by decide, rfl⟩ fun i hi => ?_
  obtain ⟨hi, hf⟩ := hi
  refine awp_name fun Q1 hQ1 => ?_
  by_cases h : i < 27
  · have ht := rrows_hd h
    have hd : rowL.drop i = rowL.getD i noRow :: rowL.drop (i + 1) := by
      rw [List.drop_eq_getElem_cons (show i < rowL.length from h), List.getD, List.getElem?_eq_getElem (show i < rowL.length from h)]; rfl
    rw [hd, findN] at hf
    generalize rowL.getD i noRow = r at *
    by_cases g : r.name = s
    · rw [if_pos g] at hf
      simp (maxSteps := 1000000) (disch := first | omega | (simp; done) | (simp; omega)) [W_id, bys_app, bys_snoc, f_custodyref28_Kind_l0, f_custodyref28_Kind_r3, f_custodyref28_Kind_r4, f_custodyref28_Kind_r5, h, g, ht, hl, kT, kF, dT, dF, hQ1, hQ0, hf]
      omega
    · rw [if_neg g] at hf
      simp (maxSteps := 1000000) (disch := first | omega | (simp; done) | (simp; omega)) [W_id, bys_app, bys_snoc, f_custodyref28_Kind_l0, f_custodyref28_Kind_r3, f_custodyref28_Kind_r4, f_custodyref28_Kind_r5, h, g, ht, hl, kT, kF, dT, dF, hQ1]
      exact ⟨by omega, by omega, i + 1, by omega, ⟨by omega, hf⟩, by omega⟩
  · have hi' : i = 27 := by omega
    subst hi'
    have hf' : kindOf s = 0 := hf
    simp (maxSteps := 1000000) (disch := first | omega | (simp; done) | (simp; omega)) [W_id, bys_app, bys_snoc, f_custodyref28_Kind_l0, f_custodyref28_Kind_r3, f_custodyref28_Kind_r6, h, hl, kT, kF, dT, dF, hQ1, hQ0, hf']
theorem rname_ok (E : Env) (h141 : E.G 141 = rrowsC) : ∀ ds, nameC.pre ds → ds.length = f_custodyref28_Name.n ∧ awp E f_custodyref28_Name.body (retQ f_custodyref28_Name.res (nameC.post ds)) (initSt f_custodyref28_Name.wr ds) := by
  rintro _ ⟨k, ⟨hk0, hk1⟩, rfl⟩
  rw [name_post]
  by_cases h : 1 ≤ k ∧ k ≤ 27
  · obtain ⟨m, rfl⟩ : ∃ m : Nat, k = (m : Int) + 1 := ⟨(k - 1).toNat, by omega⟩
    have hh := rrows_hd (i := m) (by omega)
    have hl := rrows_len
    have hn : nameOf ((m : Int) + 1) = (rowL.getD m noRow).name := by rw [nameOf, if_pos h, rowOf]; congr 2; omega
    have h1 : ¬ ((m : Int) + 1 < 1) := by omega
    have h2 : ¬ (27 < (m : Int) + 1) := by omega
    generalize rowL.getD m noRow = r at *
    simp (maxSteps := 1000000) (disch := first | omega | (simp; done) | (simp; omega)) [W_id, bys_app, bys_snoc, f_custodyref28_Name, f_custodyref28_Name_r0, f_custodyref28_Name_r1, f_custodyref28_Name_r2, h141, kT, kF, dT, dF, hn, hh, hl, h1, h2]
    omega
  · by_cases h1 : k < 1
    · simp (maxSteps := 1000000) (disch := first | omega | (simp; done) | (simp; omega)) [W_id, bys_app, bys_snoc, f_custodyref28_Name, f_custodyref28_Name_r0, f_custodyref28_Name_r1, kT, kF, dT, dF, nameOf, h, h1]
    · have h2 : 27 < k := by omega
      simp (maxSteps := 1000000) (disch := first | omega | (simp; done) | (simp; omega)) [W_id, bys_app, bys_snoc, f_custodyref28_Name, f_custodyref28_Name_r0, f_custodyref28_Name_r1, kT, kF, dT, dF, nameOf, h, h1, h2]
end Go.Abs
end
