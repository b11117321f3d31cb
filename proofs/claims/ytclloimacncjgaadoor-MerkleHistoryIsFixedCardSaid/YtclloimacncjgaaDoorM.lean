/- Lemmas: an abstract interpreter, and what the functions compute. -/
import Derived.Test.YtclloimacncjgaaDoorL
set_option linter.unusedSimpArgs false
set_option linter.unusedVariables false
set_option linter.unusedSectionVars false
section
namespace Go.Abs
def blsC (l : List (List UInt8)) : List AVal := l.map fun b => .sl (.own 1) (some false) b.length (bys b)
@[simp] theorem blsC_len (l : List (List UInt8)) : (blsC l).length = l.length := by simp [blsC]
theorem blsC_app (a b : List (List UInt8)) : blsC a ++ blsC b = blsC (a ++ b) := by simp [blsC]
theorem blsC_at {l : List (List UInt8)} {i : Nat} (h : i < l.length) : hdA ((blsC l).drop i) = .sl (.own 1) (some false) (l.getD i []).length (bys (l.getD i [])) := by
  rw [blsC, ← List.map_drop, List.drop_eq_getElem_cons h, List.map_cons, List.getD, List.getElem?_eq_getElem h]; rfl
@[simp] theorem pureL_blsC : ∀ l : List (List UInt8), pureL (blsC l) = true
  | [] => rfl
  | x :: l => by show (true && pureL (blsC l)) = true; rw [pureL_blsC l]; rfl
def inpsI (n i : Int) (d : List UInt8) (p : List (List UInt8)) : Option (List (List UInt8)) := if 0 ≤ i ∧ i < n then inps n.toNat i.toNat d p else none
def blsA (o : Option (List (List UInt8))) : AVal := match o with | some l => .sl (.own 1) (some false) l.length (blsC l) | none => .sl (.own 1) (some true) 0 []
def inpsC : Contract := ⟨fun ds => ∃ (n i : Int) (d : List UInt8) (nl : Option Bool) (p : List (List UInt8)), n ≤ 9223372036854775807 ∧ d.length = 16 ∧ is16 p ∧ p.length ≤ 1000 ∧ ds = [i64 n, i64 i, .agg (bys d), dgsA nl p],
  fun ds => blsA (inpsI (asI (nth ds 0)) (asI (nth ds 1)) (gBs (gCs (nth ds 2))) (gDs (nth ds 3)))⟩
theorem inpsC_pre {n i : Int} {d : List UInt8} {nl : Option Bool} {p : List (List UInt8)} (hn : n ≤ 9223372036854775807) (hd : d.length = 16) (hp : is16 p) (hl : p.length ≤ 1000) : inpsC.pre [i64 n, i64 i, .agg (bys d), .sl .plain nl p.length (bys (dgs p))] = True := eq_true ⟨n, i, d, nl, p, hn, hd, hp, hl, rfl⟩
theorem inpsC_post {n i : Int} {d : List UInt8} {nl : Option Bool} {p : List (List UInt8)} (hp : is16 p) : inpsC.post [i64 n, i64 i, .agg (bys d), .sl .plain nl p.length (bys (dgs p))] = blsA (inpsI n i d p) := by
  show blsA (inpsI n i (gBs (gCs (.agg (bys d)))) (gDs (.sl .plain nl p.length (bys (dgs p))))) = _
  rw [gDs_dgs hp]
  simp
attribute [local simp] wBox fnd
theorem dsc2_pre {n i : Nat} {bs : Nat → List AVal} (h : i < n) (hn : n ≤ 9223372036854775807) (hb : bs 10 = [.sl (.own 1) none 0 []]) : dsc2.pre [i64 n, i64 i, .fn 186 [] [.bp 10 0]] bs = True := eq_true ⟨n, i, h, hn, rfl, hb⟩
theorem dsc2_o (n i : Nat) (y : AVal) (bs : Nat → List AVal) (j : Nat) : dsc2.out [i64 n, i64 i, y] bs j = [.sl (.own 1) none (dirs n i).length (bos (dirs n i))] := dsc2_out n i y bs j
theorem revWb_pre {n : Nat} {bs : Nat → List AVal} {l : List Bool} (h0 : 0 < l.length) (hl : l.length ≤ 1000000) (hn : n = l.length) (hb : bs 0 = bos l) : revWb.pre [.bv 0 1 0 n n] bs = True := eq_true ⟨l, h0, hl, by rw [hn], hb⟩
theorem revWb_out {bs : Nat → List AVal} {l : List Bool} (hb : bs 0 = bos l) (ds : List AVal) (j : Nat) : revWb.out ds bs j = bos l.reverse := by
  simp only [revWb, hb, gBos_bos]
theorem upIn_len (d : List UInt8) : ∀ P, (upIn d P).length = P.length + 1
  | [] => rfl
  | (r, x) :: P => by rw [upIn, List.length_cons, upIn_len d P, List.length_cons]
theorem upIn_small {d : List UInt8} (hd : d.length = 16) : ∀ P : List (Bool × List UInt8), (∀ q ∈ P, q.2.length = 16) → ((upIn d P).headD []).length ≤ 51
  | [], _ => by
    have := inq_len (t := 1) (is16_one hd)
    simp only [List.length_cons, List.length_nil] at this
    show (inpOf 1 [d]).length ≤ 51
    omega
  | (r, x) :: P, h => by
    have hx : x.length = 16 := h (r, x) (List.mem_cons_self)
    cases r with
    | true =>
      have := inq_len (t := 2) (is16_two hx (shortB_len ((upIn d P).headD [])))
      simpa [upIn] using this
    | false =>
      have := inq_len (t := 2) (is16_two (shortB_len ((upIn d P).headD [])) hx)
      simpa [upIn] using this
def outQ (d : List UInt8) (P : List (Bool × List UInt8)) (i : Nat) : List (List UInt8) := (upIn d (P.drop (P.length - i))).reverse
theorem outN_len (d : List UInt8) (P : List (Bool × List UInt8)) {i : Nat} (h : i ≤ P.length) : (outQ d P i).length = i + 1 := by
  rw [outQ, List.length_reverse, upIn_len, List.length_drop]; omega
theorem outN_last (d : List UInt8) (P : List (Bool × List UInt8)) {i : Nat} (h : i ≤ P.length) : (outQ d P i).getD i [] = (upIn d (P.drop (P.length - i))).headD [] := by
  have hl : (upIn d (P.drop (P.length - i))).length = i + 1 := by rw [upIn_len, List.length_drop]; omega
  rw [outQ, List.getD, List.getElem?_reverse (by omega), hl]
  revert hl
  generalize upIn d (P.drop (P.length - i)) = U
  intro hl
  cases U with
  | nil => cases hl
  | cons a l => rw [show i + 1 - 1 - i = 0 by omega]; rfl
theorem outN_step (d : List UInt8) (P : List (Bool × List UInt8)) {i : Nat} (h : i < P.length) : outQ d P (i + 1) = outQ d P i ++ [inpOf 2 (if (P.reverse.getD i (false, [])).1 then [(P.reverse.getD i (false, [])).2, shortB ((outQ d P i).getD i [])] else [shortB ((outQ d P i).getD i []), (P.reverse.getD i (false, [])).2])] := by
  have hi : P.length - (i + 1) < P.length := by omega
  have e1 : P.reverse.getD i (false, []) = P[P.length - (i + 1)] := by
    rw [List.getD, List.getElem?_reverse h, show P.length - 1 - i = P.length - (i + 1) by omega, List.getElem?_eq_getElem hi]; rfl
  rw [outN_last d P (by omega), e1]
  rw [outQ, List.drop_eq_getElem_cons hi, show P.length - (i + 1) + 1 = P.length - i by omega]
  rw [show P[P.length - (i + 1)] = (P[P.length - (i + 1)].1, P[P.length - (i + 1)].2) from rfl, upIn, List.reverse_cons]
  rfl
theorem outN_all (d : List UInt8) (P : List (Bool × List UInt8)) : outQ d P P.length = (upIn d P).reverse := by simp [outQ]
theorem outN_0 (d : List UInt8) (P : List (Bool × List UInt8)) : outQ d P 0 = [inpOf 1 [d]] := by rw [outQ, Nat.sub_zero, List.drop_of_length_le (Nat.le_refl _)]; rfl
theorem zip_rev {α β : Type} (a : α) (b : β) (x : List α) (y : List β) (h : x.length = y.length) (i : Nat) (hi : i < x.length) : (x.zip y).reverse.getD i (a, b) = (x.reverse.getD i a, y.reverse.getD i b) := by
  have hz : (x.zip y).length = x.length := by rw [List.length_zip, h, Nat.min_self]
  rw [List.getD, List.getElem?_reverse (by omega), List.getD, List.getElem?_reverse hi, List.getD, List.getElem?_reverse (by omega), hz, ← h]
  have h1 : x.length - 1 - i < x.length := by omega
  have h2 : x.length - 1 - i < y.length := by omega
  rw [List.getElem?_eq_getElem (by omega), List.getElem?_eq_getElem h1, List.getElem?_eq_getElem h2]
  simp
def inp_tail : ACode := match f_merkle_inputs_r1 with | .seq _ c => c | c => c
def inp_alt : ACode := match f_merkle_inputs_r1 with | .seq c _ => c | c => c
theorem inp_r1 : f_merkle_inputs_r1 = .seq inp_alt inp_tail := rfl
set_option maxHeartbeats 8000000 in
theorem inp_rest (E : Env) (h165 : E.G 165 = shM) (h166 : E.G 166 = leafM) (h169 : E.G 169 = nodeM) (m k : Nat) (d : List UInt8) (nl : Option Bool) (p : List (List UInt8)) (x : AVal) (nx : Option Bool) (hd : d.length = 16) (hp : is16 p) (hpl : p.length ≤ 1000) (hk : k < m) (hl : (dirs m k).length = p.length)
    (hx : dem x = .sl .plain nx (dirs m k).length (bos (dirs m k).reverse)) (hr : refs x = []) :
    awp E inp_tail (retQ [.t 8] (blsA (inps m k d p))) ⟨[(0, i64 m), (1, i64 k), (2, .agg (bys d)), (3, .sl .plain nl p.length (bys (dgs p)))], [(6, .bp 6 0), (9, .bp 9 0)], [(6, some (bys d)), (9, some [x])]⟩ := by
  have hdp := dgs_len hp
  have hb' := bos_length (dirs m k).reverse
  have h1l := inq_len (t := 1) (is16_one hd)
  simp only [List.length_cons, List.length_nil] at h1l
  simp only [inp_tail, f_merkle_inputs_r1]
  have e : inps m k d p = some (upIn d ((dirs m k).zip p.reverse)).reverse := by rw [inps, if_pos ⟨hk, hl⟩]
  rw [e]
  generalize hP : (dirs m k).zip p.reverse = P
  have hPl : P.length = p.length := by rw [← hP, List.length_zip, List.length_reverse, hl, Nat.min_self]
  have hP16 : ∀ q ∈ P, q.2.length = 16 := fun q hq => by
    rw [← hP] at hq
    exact hp _ (List.mem_reverse.1 (List.of_mem_zip hq).2)
  simp (maxSteps := 1000000) (disch := first | omega | (simp; done) | (simp; omega)) [W_id, bys_app, bys_snoc, h166, leafM_pre hd, take_l16, hd]
  refine awp_name fun Q1 hQ1 => ?_
  refine awp_for (fun i : Nat => ⟨[(0, i64 m), (1, i64 k), (2, .agg (bys d)), (3, .sl .plain nl p.length (bys (dgs p)))], [(9, .bp 9 0), (10, .sl (.own 1) (some false) (i + 1) (blsC (outQ d P i))), (35, .sl .plain nl p.length (bys (dgs p))), (36, i64 p.length), (37, i64 i)], [(6, some (bys d)), (9, some [x])]⟩) (fun i => p.length - i) (fun i => i ≤ p.length) 0 (by rw [outN_0]; rfl) (by simp) fun i hi => ?_
  by_cases h : i < p.length
  · have lt : (i : Int) < p.length := by omega
    have x1 := dgs_at hp h
    have x2 := dgAt_len hp h
    have y1 := bos_at (l := (dirs m k).reverse) (i := i) (by rw [List.length_reverse, hl]; exact h)
    have y2 := blsC_at (l := outQ d P i) (i := i) (by rw [outN_len d P (by omega)]; omega)
    have y3 := outN_len d P (i := i) (by omega)
    have y4 := blsC_len (outQ d P i)
    have st := outN_step d P (i := i) (by omega)
    have z := zip_rev false [] (dirs m k) p.reverse (by simp [hl]) i (by omega)
    rw [hP, List.reverse_reverse] at z
    rw [z] at st
    have sm : ((outQ d P i).getD i []).length ≤ 51 := by
      rw [outN_last d P (by omega)]
      exact upIn_small hd _ fun q hq => hP16 q (List.mem_of_mem_drop hq)
    rw [show p.getD i [] = dgAt p i from rfl] at st
    generalize (outQ d P i).getD i [] = b at *
    generalize dgAt p i = pi at *
    have hil := fun u v (hu : List.length u = 16) (hv : List.length v = 16) => inq_len (t := 2) (is16_two hu hv)
    have sb := shortB_len b
    by_cases hf : (dirs m k).reverse.getD i false = true
    · rw [hf] at y1 st
      simp (maxSteps := 1000000) (disch := first | omega | (simp; done) | (simp; omega)) [W_id, bys_app, bys_snoc, f_merkle_inputs_l0, f_merkle_inputs_r2, lt, kT, kF, dT, dF, x1, x2, y1, y2, hx, hdp, hl, h165, shM_pre, h169, nodeM_pre x2 sb, take_l16, hQ1, splice_bys0]
      exact ⟨by omega, by omega, by rw [y3]; omega, by rw [hb', List.length_reverse]; omega, by omega, by rw [hr]; simp, i + 1, by omega, by omega, ⟨rfl, by rw [st, ← blsC_app]; rfl⟩, by simp⟩
    · have hf' : (dirs m k).reverse.getD i false = false := by simpa using hf
      rw [hf'] at y1 st
      simp (maxSteps := 1000000) (disch := first | omega | (simp; done) | (simp; omega)) [W_id, bys_app, bys_snoc, f_merkle_inputs_l0, f_merkle_inputs_r2, lt, kT, kF, dT, dF, x1, x2, y1, y2, hx, hdp, hl, h165, shM_pre, h169, nodeM_pre sb x2, take_l16, hQ1, splice_bys0]
      exact ⟨by omega, by omega, by rw [y3]; omega, by rw [hb', List.length_reverse]; omega, by omega, by rw [hr]; simp, i + 1, by omega, by omega, ⟨rfl, by rw [st, ← blsC_app]; rfl⟩, by simp⟩
  · have lt : ¬ ((i : Int) < p.length) := by omega
    have hip : i = P.length := by omega
    have oa := outN_all d P
    rw [← hip] at oa
    simp (maxSteps := 1000000) (disch := first | omega | (simp; done) | (simp; omega)) [W_id, bys_app, bys_snoc, f_merkle_inputs_l0, f_merkle_inputs_r3, lt, kT, kF, dT, dF, hQ1, blsA, oa]
    rw [upIn_len]; omega
set_option maxHeartbeats 8000000 in
theorem inps_ok (E : Env) (h165 : E.G 165 = shM) (h166 : E.G 166 = leafM) (h169 : E.G 169 = nodeM) (hC187 : E.C 187 = dsc2) (hC174 : E.C 174 = revWb) (h175 : E.G 175 = revE) : ∀ ds, inpsC.pre ds → ds.length = f_merkle_inputs.n ∧ awp E f_merkle_inputs.body (retQ f_merkle_inputs.res (inpsC.post ds)) (initSt f_merkle_inputs.wr ds) := by
  rintro _ ⟨n, i, d, nl, p, hn, hd, hp, hpl, rfl⟩
  rw [dgsA, inpsC_post hp]
  by_cases hi : 0 ≤ i ∧ i < n
  · obtain ⟨k, rfl⟩ := Int.eq_ofNat_of_zero_le hi.1
    obtain ⟨m, rfl⟩ := Int.eq_ofNat_of_zero_le (show 0 ≤ n by omega)
    have hk : k < m := by omega
    have hm : m ≤ 9223372036854775807 := by omega
    rw [inpsI, if_pos hi, Int.toNat_natCast, Int.toNat_natCast]
    have c1 : ¬ ((k : Int) < 0) := by omega
    have c2 : ¬ ((m : Int) ≤ k) := by omega
    simp (maxSteps := 1000000) (disch := first | omega | (simp; done) | (simp; omega)) [W_id, bys_app, bys_snoc, f_merkle_inputs, c1, c2, kT, kF, dT, dF, hd]
    rw [f_merkle_inputs_r0]
    simp (maxSteps := 1000000) (disch := first | omega | (simp; done) | (simp; omega)) [W_id, bys_app, bys_snoc, okW, effW, hC187, wArg, okWA, dsc2_pre hk hm, dsc2_o, ownB]
    have hlen := dirs_len 63 m k (by omega)
    by_cases hl : (dirs m k).length = p.length
    · have c3 : (((dirs m k).length : Int) == p.length) = true := by simp [hl]
      simp (maxSteps := 1000000) (disch := first | omega | (simp; done) | (simp; omega)) [W_id, bys_app, bys_snoc, c3, kT, kF, dT, dF]
      rw [inp_r1, awp_seq, inp_alt, f_merkle_inputs_r1]
      simp only []
      show _ ∨ _
      by_cases h0 : dirs m k = []
      · have ht := fun x hx hr => inp_rest E h165 h166 h169 m k d nl p x none hd hp hpl hk hl hx hr
        rw [h0] at ht ⊢
        refine .inr ?_
        simp (maxSteps := 1000000) (disch := first | omega | (simp; done) | (simp; omega)) [W_id, bys_app, bys_snoc, h175, revE]
        exact ⟨rfl, ht _ rfl rfl⟩
      · have ht := fun x hx hr => inp_rest E h165 h166 h169 m k d nl p x (some false) hd hp hpl hk hl hx hr
        have h1 : 0 < (dirs m k).length := List.length_pos_iff.2 h0
        refine .inl ?_
        have hb := bos_length (dirs m k)
        have hb' := bos_length (dirs m k).reverse
        simp (maxSteps := 1000000) (disch := first | omega | (simp; done) | (simp; omega)) [W_id, bys_app, bys_snoc, hC174, okW, effW, wArg, okWA, h1, revWb_pre h1, revWb_out (l := dirs m k), frmT_bys, hb, hb', hd, refsL_bos]
        have hs : (bos (dirs m k).reverse).take (dirs m k).length = bos (dirs m k).reverse := List.take_of_length_le (by rw [hb', List.length_reverse]; exact Nat.le_refl _)
        rw [hs]
        exact ht _ rfl rfl
    · have c3 : (((dirs m k).length : Int) == p.length) = false := beq_false_of_ne (by omega)
      have e : inps m k d p = none := by rw [inps, if_neg (fun h => hl h.2)]
      simp (maxSteps := 1000000) (disch := first | omega | (simp; done) | (simp; omega)) [W_id, bys_app, bys_snoc, c3, kT, kF, dT, dF, e, blsA]
  · rw [inpsI, if_neg hi]
    by_cases hi0 : i < 0
    · simp (maxSteps := 1000000) (disch := first | omega | (simp; done) | (simp; omega)) [W_id, bys_app, bys_snoc, f_merkle_inputs, hi0, kT, kF, dT, dF, blsA, hd]
    · have c2 : n ≤ i := by omega
      simp (maxSteps := 1000000) (disch := first | omega | (simp; done) | (simp; omega)) [W_id, bys_app, bys_snoc, f_merkle_inputs, hi0, c2, kT, kF, dT, dF, blsA, hd]
end Go.Abs
end

section
namespace Go.Abs
def eqBsC : Contract := ⟨fun ds => ∃ (nl nl' : Option Bool) (a b : List UInt8), a.length ≤ 1000000000 ∧ ds = [.sl .plain nl a.length (bys a), .sl .plain nl' b.length (bys b)], fun ds => bo (decide (gBs (gCs (nth ds 0)) = gBs (gCs (nth ds 1))))⟩
theorem eqBsC_pre {nl nl' : Option Bool} {a b : List UInt8} (h : a.length ≤ 1000000000) : eqBsC.pre [.sl .plain nl a.length (bys a), .sl .plain nl' b.length (bys b)] = True := eq_true ⟨nl, nl', a, b, h, rfl⟩
@[simp] theorem eqBsC_post (m m' : Mode) (nl nl' : Option Bool) (n n' : Nat) (a b : List UInt8) : eqBsC.post [.sl m nl n (bys a), .sl m' nl' n' (bys b)] = bo (decide (a = b)) := by simp [eqBsC, nth]
theorem eqBs_ok (E : Env) : ∀ ds, eqBsC.pre ds → ds.length = f_slices_Equal_byte.n ∧ awp E f_slices_Equal_byte.body (retQ f_slices_Equal_byte.res (eqBsC.post ds)) (initSt f_slices_Equal_byte.wr ds) := by
  rintro _ ⟨nl, nl', a, b, ha, rfl⟩
  by_cases h : a.length = b.length
  rotate_left
  · have : ¬ a = b := fun e : a = b => h (by rw [e])
    have h' : ¬ ((a.length : Int) = b.length) := by omega
    simp (maxSteps := 1000000) (disch := first | omega | (simp; done) | (simp; omega)) [W_id, bys_app, bys_snoc, f_slices_Equal_byte, h', kT, kF, this]
  have h' : ((a.length : Int) = b.length) := by omega
  simp (maxSteps := 1000000) (disch := first | omega | (simp; done) | (simp; omega)) [W_id, bys_app, bys_snoc, f_slices_Equal_byte, f_slices_Equal_byte_r0, h', kT, kF]
  refine awp_name fun Q0 hQ0 => ?_
  refine awp_for (fun i : Nat => ⟨[(0, .sl .plain nl a.length (bys a)), (1, .sl .plain nl' b.length (bys b))], [(12, i64 b.length), (13, i64 i)], []⟩)
    (fun i => a.length - i) (fun i => i ≤ a.length ∧ a.take i = b.take i) 0 (by simp) (by simp) fun i hi => ?_
  obtain ⟨hi, he⟩ := hi
  refine awp_name fun Q1 hQ1 => ?_
  by_cases h1' : i < a.length
  · have h3 : i < b.length := by omega
    by_cases h2 : at8 a i = at8 b i
    · simp (maxSteps := 1000000) (disch := first | omega | (simp; done) | (simp; omega)) [W_id, bys_app, bys_snoc, f_slices_Equal_byte_l0, f_slices_Equal_byte_r1, kT, kF, dT, dF, hd_bys, h1', h3, h2, hQ1]
      have h4 : a[i] = b[i] := by simpa [at8, List.getD, List.getElem?_eq_getElem h1', List.getElem?_eq_getElem h3] using h2
      exact ⟨by omega, by omega, i + 1, by omega, ⟨by omega, by rw [List.take_succ_eq_append_getElem h1', List.take_succ_eq_append_getElem h3, he, h4]⟩, by simp⟩
    · have : ¬ a = b := fun e : a = b => h2 (by rw [e])
      simp (maxSteps := 1000000) (disch := first | omega | (simp; done) | (simp; omega)) [W_id, bys_app, bys_snoc, f_slices_Equal_byte_l0, f_slices_Equal_byte_r1, kT, kF, dT, dF, hd_bys, h1', h3, h2, hQ1, hQ0, this]
      omega
  · have e : i = a.length := by omega
    subst e
    have : a = b := by
      rw [List.take_length, h, List.take_length] at he
      exact he
    have h3 : ¬ ((a.length : Int) < b.length) := by omega
    simp (maxSteps := 1000000) (disch := first | omega | (simp; done) | (simp; omega)) [W_id, bys_app, bys_snoc, f_slices_Equal_byte_l0, h3, kT, kF, dT, dF, hQ1, hQ0, f_slices_Equal_byte_r2, this]
theorem inpsI_some {n i : Int} {d : List UInt8} {p l : List (List UInt8)} (hd : d.length = 16) (hp : is16 p) (h : inpsI n i d p = some l) : l.length = (dirs n.toNat i.toNat).length + 1 ∧ l.length = p.length + 1 ∧ ∀ b ∈ l, b.length ≤ 51 := by
  unfold inpsI at h
  split at h
  · unfold inps at h
    split at h
    · rename_i h1 h2
      cases h
      have hz : ((dirs n.toNat i.toNat).zip p.reverse).length = p.length := by rw [List.length_zip, List.length_reverse, h2.2, Nat.min_self]
      refine ⟨by rw [List.length_reverse, upIn_len, hz, h2.2], by rw [List.length_reverse, upIn_len, hz], fun b hb => ?_⟩
      have h16 : ∀ q ∈ (dirs n.toNat i.toNat).zip p.reverse, q.2.length = 16 := fun q hq => hp _ (List.mem_reverse.1 (List.of_mem_zip hq).2)
      have key : ∀ P : List (Bool × List UInt8), (∀ q ∈ P, q.2.length = 16) → ∀ b ∈ upIn d P, b.length ≤ 51 := fun P => by
        induction P with
        | nil =>
          intro h b hb
          have := upIn_small hd [] h
          simp only [upIn, List.mem_singleton] at hb
          subst hb
          exact this
        | cons q P ih =>
          intro h b hb
          have h0 := upIn_small hd (q :: P) h
          obtain ⟨r, x⟩ := q
          rw [upIn] at hb h0
          rcases List.mem_cons.1 hb with e | e
          · rw [e]; exact h0
          · exact ih (fun q hq => h q (List.mem_cons_of_mem _ hq)) b e
      exact key _ h16 b (List.mem_reverse.1 hb)
    · cases h
  · cases h
def lastB (l : List (List UInt8)) : List UInt8 := l.getD (l.length - 1) []
theorem getD_mem {l : List (List UInt8)} {i : Nat} (h : i < l.length) : l.getD i [] ∈ l := by
  rw [List.getD, List.getElem?_eq_getElem h]; exact List.getElem_mem h
def vfyN (r : List UInt8) (n i : Int) (d : List UInt8) (p : List (List UInt8)) : Bool := match inpsI n i d p with | some l => decide (shortB (lastB l) = r) | none => false
def vfyC : Contract := ⟨fun ds => ∃ (r : List UInt8) (n i : Int) (d : List UInt8) (nl : Option Bool) (p : List (List UInt8)), r.length = 16 ∧ n ≤ 9223372036854775807 ∧ d.length = 16 ∧ is16 p ∧ p.length ≤ 1000 ∧ ds = [.agg (bys r), i64 n, i64 i, .agg (bys d), dgsA nl p],
  fun ds => bo (vfyN (gBs (gCs (nth ds 0))) (asI (nth ds 1)) (asI (nth ds 2)) (gBs (gCs (nth ds 3))) (gDs (nth ds 4)))⟩
theorem vfyC_pre {r : List UInt8} {n i : Int} {d : List UInt8} {nl : Option Bool} {p : List (List UInt8)} (hr : r.length = 16) (hn : n ≤ 9223372036854775807) (hd : d.length = 16) (hp : is16 p) (hl : p.length ≤ 1000) : vfyC.pre [.agg (bys r), i64 n, i64 i, .agg (bys d), .sl .plain nl p.length (bys (dgs p))] = True := eq_true ⟨r, n, i, d, nl, p, hr, hn, hd, hp, hl, rfl⟩
theorem vfyC_post {r : List UInt8} {n i : Int} {d : List UInt8} {nl : Option Bool} {p : List (List UInt8)} (hp : is16 p) : vfyC.post [.agg (bys r), i64 n, i64 i, .agg (bys d), .sl .plain nl p.length (bys (dgs p))] = bo (vfyN r n i d p) := by
  show bo (vfyN (gBs (gCs (.agg (bys r)))) n i (gBs (gCs (.agg (bys d)))) (gDs (.sl .plain nl p.length (bys (dgs p))))) = _
  rw [gDs_dgs hp]
  simp
set_option maxHeartbeats 4000000 in
theorem vfy_ok (E : Env) (h172 : E.G 172 = inpsC) (h165 : E.G 165 = shM) : ∀ ds, vfyC.pre ds → ds.length = f_merkle_Verify.n ∧ awp E f_merkle_Verify.body (retQ f_merkle_Verify.res (vfyC.post ds)) (initSt f_merkle_Verify.wr ds) := by
  rintro _ ⟨r, n, i, d, nl, p, hr, hn, hd, hp, hpl, rfl⟩
  rw [dgsA, vfyC_post hp, vfyN]
  have pre := inpsC_pre (nl := nl) (i := i) hn hd hp hpl
  have post := inpsC_post (n := n) (i := i) (d := d) (nl := nl) hp
  cases hI : inpsI n i d p with
  | none =>
    rw [hI, blsA] at post
    simp (maxSteps := 1000000) (disch := first | omega | (simp; done) | (simp; omega)) [W_id, bys_app, bys_snoc, f_merkle_Verify, h172, pre, post, hr, hd, take_l16, kT, kF, dT, dF]
  | some l =>
    rw [hI, blsA] at post
    simp only at post ⊢
    obtain ⟨_, hl, hs⟩ := inpsI_some hd hp hI
    have y2 := blsC_at (l := l) (i := l.length - 1) (by omega)
    have sm := hs _ (getD_mem (l := l) (i := l.length - 1) (by omega))
    change hdA ((blsC l).drop (l.length - 1)) = .sl (.own 1) (some false) (lastB l).length (bys (lastB l)) at y2
    change (lastB l).length ≤ 51 at sm
    have x1 : ((l.length : Int) - 1).toNat = l.length - 1 := by omega
    have hsl := shortB_len (lastB l)
    generalize lastB l = b at *
    have eqb := eqCells_ks8 hsl hr
    simp (maxSteps := 1000000) (disch := first | omega | (simp; done) | (simp; omega)) [W_id, bys_app, bys_snoc, f_merkle_Verify, h172, pre, post, hr, hd, take_l16, kT, kF, dT, dF, y2, x1, h165, shM_pre, eqb]
    omega
def topDiff (x y : List (List UInt8)) : Option (List UInt8 × List UInt8) := (x.zip y).reverse.find? fun q => decide (¬ q.1 = q.2)
def clN (n i : Int) (a b : List UInt8) (p q : List (List UInt8)) : Option (List UInt8 × List UInt8) :=
  match inpsI n i a p, inpsI n i b q with
  | some x, some y => if shortB (lastB x) = shortB (lastB y) then topDiff x y else none
  | _, _ => none
def clA (o : Option (List UInt8 × List UInt8)) : AVal := match o with
  | some (u, v) => .tup [.sl .plain (some false) u.length (bys u), .sl .plain (some false) v.length (bys v), bo true]
  | none => .tup [.sl .plain none 0 [], .sl .plain none 0 [], bo false]
def clC : Contract := ⟨fun ds => ∃ (n i : Int) (a b : List UInt8) (nl nl' : Option Bool) (p q : List (List UInt8)), n ≤ 9223372036854775807 ∧ a.length = 16 ∧ b.length = 16 ∧ is16 p ∧ p.length ≤ 1000 ∧ is16 q ∧ q.length ≤ 1000 ∧ ds = [i64 n, i64 i, .agg (bys a), .agg (bys b), dgsA nl p, dgsA nl' q],
  fun ds => clA (clN (asI (nth ds 0)) (asI (nth ds 1)) (gBs (gCs (nth ds 2))) (gBs (gCs (nth ds 3))) (gDs (nth ds 4)) (gDs (nth ds 5)))⟩
theorem clC_pre {n i : Int} {a b : List UInt8} {nl nl' : Option Bool} {p q : List (List UInt8)} (hn : n ≤ 9223372036854775807) (ha : a.length = 16) (hb : b.length = 16) (hp : is16 p) (hl : p.length ≤ 1000) (hq : is16 q) (hl' : q.length ≤ 1000) : clC.pre [i64 n, i64 i, .agg (bys a), .agg (bys b), .sl .plain nl p.length (bys (dgs p)), .sl .plain nl' q.length (bys (dgs q))] = True := eq_true ⟨n, i, a, b, nl, nl', p, q, hn, ha, hb, hp, hl, hq, hl', rfl⟩
theorem clC_post {n i : Int} {a b : List UInt8} {nl nl' : Option Bool} {p q : List (List UInt8)} (hp : is16 p) (hq : is16 q) : clC.post [i64 n, i64 i, .agg (bys a), .agg (bys b), .sl .plain nl p.length (bys (dgs p)), .sl .plain nl' q.length (bys (dgs q))] = clA (clN n i a b p q) := by
  show clA (clN n i (gBs (gCs (.agg (bys a)))) (gBs (gCs (.agg (bys b)))) (gDs (.sl .plain nl p.length (bys (dgs p)))) (gDs (.sl .plain nl' q.length (bys (dgs q))))) = _
  rw [gDs_dgs hp, gDs_dgs hq]
  simp
end Go.Abs
end

section
namespace Go.Abs
theorem topDiff_eq {x y : List (List UInt8)} (hxy : x.length = y.length) {k : Nat} (hk : k < x.length) (h : ((x.zip y).drop (k + 1)).all (fun q => decide (q.1 = q.2)) = true) (hd : ¬ x.getD k [] = y.getD k []) : topDiff x y = some (x.getD k [], y.getD k []) := by
  have hz : (x.zip y).length = x.length := by rw [List.length_zip, ← hxy, Nat.min_self]
  have e : x.zip y = (x.zip y).take k ++ (x.getD k [], y.getD k []) :: (x.zip y).drop (k + 1) := by
    have h1 : k < (x.zip y).length := by omega
    have h2 : (x.zip y)[k] = (x.getD k [], y.getD k []) := by
      rw [List.getElem_zip, List.getD, List.getD, List.getElem?_eq_getElem hk, List.getElem?_eq_getElem (by omega)]; rfl
    rw [← h2, ← List.drop_eq_getElem_cons h1, List.take_append_drop]
  rw [topDiff, e, List.reverse_append, List.reverse_cons, List.find?_append, List.find?_append]
  have hn : ((x.zip y).drop (k + 1)).reverse.find? (fun q => decide (¬ q.1 = q.2)) = none := by
    rw [List.find?_eq_none]
    intro q hq
    have := List.all_eq_true.1 h q (List.mem_reverse.1 hq)
    simp only [decide_eq_true_eq] at this
    simp [this]
  rw [hn]
  simp
  simp at hd
  exact .inl hd
theorem topDiff_none {x y : List (List UInt8)} (h : (x.zip y).all (fun q => decide (q.1 = q.2)) = true) : topDiff x y = none := by
  rw [topDiff, List.find?_eq_none]
  intro q hq
  have := List.all_eq_true.1 h q (List.mem_reverse.1 hq)
  simp only [decide_eq_true_eq] at this
  simp [this]
set_option maxHeartbeats 4000000 in
theorem cl_loop (E : Env) (h177 : E.G 177 = eqBsC) (n i : Int) (a b : List UInt8) (nl nl' : Option Bool) (p q x y : List (List UInt8)) (hxy : x.length = y.length) (hxl : x.length ≤ 1001) (hs : ∀ b ∈ x, b.length ≤ 51) (hs' : ∀ b ∈ y, b.length ≤ 51) :
    awp E f_merkle_Clash_r0 (retQ [.t 12, .t 13, .t 14] (clA (topDiff x y))) ⟨[(0, i64 n), (1, i64 i), (2, .agg (bys a)), (3, .agg (bys b)), (4, .sl .plain nl p.length (bys (dgs p))), (5, .sl .plain nl' q.length (bys (dgs q)))], [(15, .sl (.own 1) (some false) x.length (blsC x)), (16, .sl (.own 1) (some false) x.length (blsC y))], [(8, some (bys a)), (9, some (bys b))]⟩ := by
  have gx : ∀ k, k < x.length → hdA ((blsC x).drop k) = .sl (.own 1) (some false) (x.getD k []).length (bys (x.getD k [])) := fun k hk => blsC_at hk
  have gy : ∀ k, k < y.length → hdA ((blsC y).drop k) = .sl (.own 1) (some false) (y.getD k []).length (bys (y.getD k [])) := fun k hk => blsC_at hk
  have sx : ∀ k, k < x.length → (x.getD k []).length ≤ 51 := fun k hk => hs _ (getD_mem hk)
  have hz : (x.zip y).length = x.length := by rw [List.length_zip, ← hxy, Nat.min_self]
  simp (maxSteps := 1000000) [f_merkle_Clash_r0]
  refine awp_name fun Q1 hQ1 => ?_
  refine awp_for (fun k : Nat => ⟨[(0, i64 n), (1, i64 i), (2, .agg (bys a)), (3, .agg (bys b)), (4, .sl .plain nl p.length (bys (dgs p))), (5, .sl .plain nl' q.length (bys (dgs q)))], [(15, .sl (.own 1) (some false) x.length (blsC x)), (16, .sl (.own 1) (some false) x.length (blsC y)), (17, i64 ((k : Int) - 1))], [(8, some (bys a)), (9, some (bys b))]⟩) (fun k => k) (fun k => k ≤ x.length ∧ ((x.zip y).drop k).all (fun q => decide (q.1 = q.2)) = true) x.length (by rw [W_id (by omega) (by omega)]) ⟨Nat.le_refl _, by rw [List.drop_of_length_le (by omega)]; rfl⟩ fun k hk => ?_
  obtain ⟨hk, hall⟩ := hk
  cases k with
  | zero =>
    have e := topDiff_none hall
    simp (maxSteps := 1000000) (disch := first | omega | (simp; done) | (simp; omega)) [W_id, bys_app, bys_snoc, f_merkle_Clash_l0, kT, kF, dT, dF, hQ1, f_merkle_Clash_r2, e, clA]
  | succ k =>
    have hk' : k < x.length := hk
    have g1 := gx k hk'
    have g2 := gy k (by omega)
    have s1 := sx k hk'
    have c0 : ((k + 1 : Nat) : Int) - 1 = k := by omega
    have hcons : (x.zip y).drop k = (x.getD k [], y.getD k []) :: (x.zip y).drop (k + 1) := by
      have h1 : k < (x.zip y).length := by omega
      have h2 : (x.zip y)[k] = (x.getD k [], y.getD k []) := by
        rw [List.getElem_zip, List.getD, List.getD, List.getElem?_eq_getElem hk', List.getElem?_eq_getElem (by omega)]; rfl
      rw [← h2, ← List.drop_eq_getElem_cons h1]
    by_cases hd : x.getD k [] = y.getD k []
    · rw [← hd] at g2 hcons
      generalize x.getD k [] = u at *
      simp (maxSteps := 1000000) (disch := first | omega | (simp; done) | (simp; omega)) [W_id, bys_app, bys_snoc, f_merkle_Clash_l0, f_merkle_Clash_r1, kT, kF, dT, dF, hQ1, g1, g2, h177, eqBsC_pre, c0]
      refine ⟨by omega, by omega, by omega, by omega, k, by omega, ⟨by omega, fun u' v' hm => ?_⟩, rfl⟩
      rw [hcons] at hm
      rcases List.mem_cons.1 hm with hm | hm
      · cases hm; rfl
      · simpa using List.all_eq_true.1 hall _ hm
    · have e := topDiff_eq hxy hk' hall hd
      generalize x.getD k [] = u at *
      generalize y.getD k [] = v at *
      simp (maxSteps := 1000000) (disch := first | omega | (simp; done) | (simp; omega)) [W_id, bys_app, bys_snoc, f_merkle_Clash_l0, f_merkle_Clash_r1, kT, kF, dT, dF, hQ1, g1, g2, h177, eqBsC_pre, c0, hd, e, clA]
      omega
set_option maxHeartbeats 8000000 in
theorem cl_ok (E : Env) (h172 : E.G 172 = inpsC) (h165 : E.G 165 = shM) (h177 : E.G 177 = eqBsC) : ∀ ds, clC.pre ds → ds.length = f_merkle_Clash.n ∧ awp E f_merkle_Clash.body (retQ f_merkle_Clash.res (clC.post ds)) (initSt f_merkle_Clash.wr ds) := by
  rintro _ ⟨n, i, a, b, nl, nl', p, q, hn, ha, hb, hp, hpl, hq, hql, rfl⟩
  rw [dgsA, dgsA, clC_post hp hq, clN]
  have pre := inpsC_pre (nl := nl) (i := i) hn ha hp hpl
  have post := inpsC_post (n := n) (i := i) (d := a) (nl := nl) hp
  have pre' := inpsC_pre (nl := nl') (i := i) hn hb hq hql
  have post' := inpsC_post (n := n) (i := i) (d := b) (nl := nl') hq
  cases hX : inpsI n i a p with
  | none =>
    rw [hX, blsA] at post
    cases hY : inpsI n i b q with
    | none =>
      rw [hY, blsA] at post'
      simp (maxSteps := 1000000) (disch := first | omega | (simp; done) | (simp; omega)) [W_id, bys_app, bys_snoc, f_merkle_Clash, h172, pre, post, pre', post', ha, hb, take_l16, kT, kF, dT, dF, clA]
    | some y =>
      rw [hY, blsA] at post'
      simp (maxSteps := 1000000) (disch := first | omega | (simp; done) | (simp; omega)) [W_id, bys_app, bys_snoc, f_merkle_Clash, h172, pre, post, pre', post', ha, hb, take_l16, kT, kF, dT, dF, clA]
  | some x =>
    rw [hX, blsA] at post
    cases hY : inpsI n i b q with
    | none =>
      rw [hY, blsA] at post'
      simp (maxSteps := 1000000) (disch := first | omega | (simp; done) | (simp; omega)) [W_id, bys_app, bys_snoc, f_merkle_Clash, h172, pre, post, pre', post', ha, hb, take_l16, kT, kF, dT, dF, clA]
    | some y =>
      rw [hY, blsA] at post'
      simp only at post post' ⊢
      obtain ⟨e1, hl, hs⟩ := inpsI_some ha hp hX
      obtain ⟨e2, hl', hs'⟩ := inpsI_some hb hq hY
      have hxy : x.length = y.length := by omega
      have gx : ∀ k, k < x.length → hdA ((blsC x).drop k) = .sl (.own 1) (some false) (x.getD k []).length (bys (x.getD k [])) := fun k hk => blsC_at hk
      have gy : ∀ k, k < y.length → hdA ((blsC y).drop k) = .sl (.own 1) (some false) (y.getD k []).length (bys (y.getD k [])) := fun k hk => blsC_at hk
      have sx : ∀ k, k < x.length → (x.getD k []).length ≤ 51 := fun k hk => hs _ (getD_mem hk)
      have sy : ∀ k, k < y.length → (y.getD k []).length ≤ 51 := fun k hk => hs' _ (getD_mem hk)
      have y2 := gx (x.length - 1) (by omega)
      have y3 := gy (x.length - 1) (by omega)
      have sm := sx (x.length - 1) (by omega)
      have sm' := sy (x.length - 1) (by omega)
      have ex : x.getD (x.length - 1) [] = lastB x := rfl
      have ey : y.getD (x.length - 1) [] = lastB y := by rw [hxy]; rfl
      rw [ex] at y2 sm
      rw [ey] at y3 sm'
      have x1 : ((x.length : Int) - 1).toNat = x.length - 1 := by omega
      have hsx := shortB_len (lastB x)
      have hsy := shortB_len (lastB y)
      generalize lastB x = bx at *
      generalize lastB y = by' at *
      have eqb := eqCells_ks8 hsx hsy
      by_cases hsh : shortB bx = shortB by'
      · rw [if_pos hsh]
        have eqt : decide (shortB bx = shortB by') = true := by simp [hsh]
        rw [eqt] at eqb
        simp (maxSteps := 1000000) (disch := first | omega | (simp; done) | (simp; omega)) [W_id, bys_app, bys_snoc, f_merkle_Clash, h172, pre, post, pre', post', ha, hb, take_l16, kT, kF, dT, dF, ← hxy, y2, y3, x1, h165, shM_pre, eqb]
        refine ⟨by omega, by omega, by omega, by omega, ?_⟩
        exact cl_loop E h177 n i a b nl nl' p q x y hxy (by omega) hs hs'
      · rw [if_neg hsh]
        have eqt : decide (shortB bx = shortB by') = false := by simp [hsh]
        rw [eqt] at eqb
        simp (maxSteps := 1000000) (disch := first | omega | (simp; done) | (simp; omega)) [W_id, bys_app, bys_snoc, f_merkle_Clash, h172, pre, post, pre', post', ha, hb, take_l16, kT, kF, dT, dF, ← hxy, y2, y3, x1, h165, shM_pre, eqb, clA]
        omega
end Go.Abs
end
