/- Lemmas: an abstract interpreter, and what the functions compute. -/
import Derived.Test.YtclloimacncjgaaDoorE
import Derived.Test.YtclloimacncjgaaDoorT
set_option linter.unusedSimpArgs false
set_option linter.unusedVariables false
set_option linter.unusedSectionVars false
section
namespace Go.Abs
theorem flat16m {l : List (List UInt8)} (h : is16 l) : (l.flatMap encS).length ≤ 25 * l.length := by
  induction l with
  | nil => simp
  | cons d l ih =>
    obtain ⟨h1, h2⟩ := is16_cons.1 h
    have := ih h2
    have e := encI_len (n := (d.length : Int)) (by rw [h1]; exact ⟨by decide, by decide⟩)
    simp only [List.flatMap_cons, List.length_append, encS, List.length_cons]
    omega
set_option maxHeartbeats 4000000 in
theorem minput_ok (E : Env) (h7 : E.G 7 = bytesC) : ∀ ds, inM.pre ds → ds.length = f_merkle_input.n ∧ awp E f_merkle_input.body (retQ f_merkle_input.res (inM.post ds)) (initSt f_merkle_input.wr ds) := by
  rintro _ ⟨t, nl, l, h, hl, rfl⟩
  have hf := flat16m h
  rw [dgsA, inM_post h]
  simp (maxSteps := 1000000) (disch := first | omega | (simp; done) | (simp; omega)) [W_id, bys_app, bys_snoc, f_merkle_input]
  refine awp_name fun Q0 hQ0 => ?_
  refine awp_for (fun i : Nat => ⟨[(0, u8 t), (1, .sl .plain nl l.length (bys (dgs l)))], [(5, .sl (.own 1) (some false) (t :: (l.take i).flatMap encS).length (bys (t :: (l.take i).flatMap encS))), (10, .sl .plain nl l.length (bys (dgs l))), (11, i64 l.length), (12, i64 i)], []⟩) (fun i => l.length - i) (· ≤ l.length) 0 (by simp; rfl) (by simp) fun i hi => ?_
  refine awp_name fun Q1 hQ1 => ?_
  by_cases h1 : i < l.length
  · have hs := flatMap_take_succ l encS [] h1
    have ha := dgs_at h h1
    have hx := dgAt_len h h1
    have hd := dgs_len h
    have hf' := flat16m (is16_take h i)
    rw [List.length_take] at hf'
    rw [show l.getD i [] = dgAt l i from rfl] at hs
    generalize dgAt l i = x at *
    generalize hF : (l.take i).flatMap encS = F at *
    have e := encI_len (n := (x.length : Int)) (by rw [hx]; exact ⟨by decide, by decide⟩)
    have el : (encS x).length = (encI x.length).length + x.length := by rw [encS, List.length_append]
    simp (maxSteps := 1000000) (disch := first | omega | (simp; done) | (simp; omega)) [W_id, bys_app, bys_snoc, f_merkle_input_l0, f_merkle_input_r0, h1, kT, kF, dT, dF, ha, hd, hx, splice_bys0, take_l16, h7, bytes_pre, hQ1, -List.length_flatMap]
    exact ⟨by omega, by omega, i + 1, by omega, by omega, ⟨by rw [hs, List.length_append]; omega, hs.symm⟩, by omega⟩
  · obtain rfl : i = l.length := by omega
    simp (maxSteps := 1000000) (disch := first | omega | (simp; done) | (simp; omega)) [W_id, bys_app, bys_snoc, f_merkle_input_l0, f_merkle_input_r1, h1, kT, kF, dT, dF, hQ1, hQ0, -List.length_flatMap]
    rw [List.length_flatMap]
theorem mshort_ok (E : Env) (h3 : E.G 3 = hsumC) : ∀ ds, shM.pre ds → ds.length = f_merkle_short.n ∧ awp E f_merkle_short.body (retQ f_merkle_short.res (shM.post ds)) (initSt f_merkle_short.wr ds) := by
  rintro _ ⟨nl, b, hb, rfl⟩
  rw [shM_post]
  simp (maxSteps := 1000000) (disch := first | omega | (simp; done) | (simp; omega)) [W_id, bys_app, bys_snoc, f_merkle_short, h3, hsum_pre, splice_bys0, shortB, List.take_take]
theorem leaf_ok (E : Env) (h164 : E.G 164 = inM) : ∀ ds, leafM.pre ds → ds.length = f_merkle_leaf.n ∧ awp E f_merkle_leaf.body (retQ f_merkle_leaf.res (leafM.post ds)) (initSt f_merkle_leaf.wr ds) := by
  rintro _ ⟨d, hd, rfl⟩
  have h1 : is16 [d] := is16_cons.2 ⟨hd, is16_nil⟩
  have hp : inM.pre [u8 1, .sl .plain (some false) 1 (bys d)] = True := inM_pre (l := [d]) h1 (by simp) rfl (by simp)
  have hq : inM.post [u8 1, .sl .plain (some false) 1 (bys d)] = .sl (.own 1) (some false) (inpOf 1 [d]).length (bys (inpOf 1 [d])) := by
    have := inM_post (t := 1) (nl := some false) h1
    rw [show dgs [d] = d by simp] at this
    exact this
  rw [leafM_post]
  simp (maxSteps := 1000000) (disch := first | omega | (simp; done) | (simp; omega)) [W_id, bys_app, bys_snoc, f_merkle_leaf, h164, hp, hq, splice_bys0, hd, take_l16]
theorem node_ok (E : Env) (h164 : E.G 164 = inM) : ∀ ds, nodeM.pre ds → ds.length = f_merkle_node.n ∧ awp E f_merkle_node.body (retQ f_merkle_node.res (nodeM.post ds)) (initSt f_merkle_node.wr ds) := by
  rintro _ ⟨a, b, ha, hb, rfl⟩
  have h1 : is16 [a, b] := is16_cons.2 ⟨ha, is16_cons.2 ⟨hb, is16_nil⟩⟩
  have hp : inM.pre [u8 2, .sl .plain (some false) 2 (bys (a ++ b))] = True := inM_pre (l := [a, b]) h1 (by simp) rfl (by simp)
  have hq : inM.post [u8 2, .sl .plain (some false) 2 (bys (a ++ b))] = .sl (.own 1) (some false) (inpOf 2 [a, b]).length (bys (inpOf 2 [a, b])) := by
    have := inM_post (t := 2) (nl := some false) h1
    rw [show dgs [a, b] = a ++ b by simp] at this
    exact this
  have hsp : splice (splice (bys (zeros 32)) 0 (bys a)) 16 (bys b) = bys (a ++ b) := by
    simp [splice, ha, hb, bys_append, List.take_append, List.drop_append, zeros, bys]
  rw [nodeM_post]
  simp (maxSteps := 1000000) (disch := first | omega | (simp; done) | (simp; omega)) [W_id, bys_app, bys_snoc, f_merkle_node, h164, hp, hq, hsp, splice_bys0, ha, hb, take_l16]
end Go.Abs
end

section
namespace Go.Abs
def noC : Contract := ⟨fun _ => False, fun _ => .undef⟩
theorem len32_ok (E : Env) : ∀ ds, noC.pre ds → ds.length = f_bits_Len32.n ∧ awp E f_bits_Len32.body (retQ f_bits_Len32.res (noC.post ds)) (initSt f_bits_Len32.wr ds) := by
  intro _ h; exact h.elim
theorem ones32_ok (E : Env) : ∀ ds, noC.pre ds → ds.length = f_bits_OnesCount32.n ∧ awp E f_bits_OnesCount32.body (retQ f_bits_OnesCount32.res (noC.post ds)) (initSt f_bits_OnesCount32.wr ds) := by
  intro _ h; exact h.elim
theorem tz32_ok (E : Env) : ∀ ds, noC.pre ds → ds.length = f_bits_TrailingZeros32.n ∧ awp E f_bits_TrailingZeros32.body (retQ f_bits_TrailingZeros32.res (noC.post ds)) (initSt f_bits_TrailingZeros32.wr ds) := by
  intro _ h; exact h.elim
theorem tab256 : ∀ x : Fin 256, (([0, 1, 2, 2, 3, 3, 3, 3] ++ List.replicate 8 4 ++ List.replicate 16 5 ++ List.replicate 32 6 ++ List.replicate 64 7 ++ List.replicate 128 8 : List UInt8).getD x.val 0).toNat = lenN x.val := by decide +kernel
theorem lenN_shr {n k : Nat} (h : 2 ^ k ≤ n) : lenN (n / 2 ^ k) + k = lenN n := by
  have hp : 0 < 2 ^ k := Nat.two_pow_pos k
  have h1 : n / 2 ^ k ≠ 0 := by have := Nat.div_pos h hp; omega
  have h0 : n ≠ 0 := by omega
  have a1 := Nat.log2_self_le h1
  have a2 : n / 2 ^ k < 2 ^ (Nat.log2 (n / 2 ^ k) + 1) := Nat.lt_log2_self
  have b1 : 2 ^ (Nat.log2 (n / 2 ^ k) + k) ≤ n := by
    rw [Nat.pow_add]
    exact (Nat.le_div_iff_mul_le hp).1 a1
  have b2 : n < 2 ^ (Nat.log2 (n / 2 ^ k) + k + 1) := by
    rw [show Nat.log2 (n / 2 ^ k) + k + 1 = (Nat.log2 (n / 2 ^ k) + 1) + k by omega, Nat.pow_add]
    exact (Nat.div_lt_iff_lt_mul hp).1 a2
  rw [lenN_iff b1 b2, lenN, if_neg h1]; omega
theorem shr_toNat (x : UInt64) (k : Nat) (hk : k < 64) : (shr64 x k).toNat = x.toNat / 2 ^ k := by
  simp [shr64, Nat.shiftRight_eq_div_pow]
@[simp] theorem bin_u64_geq (x y : UInt64) : binV .geq (u64 x) (u64 y) = bo (decide (y ≤ x)) := by
  show AVal.lit (.bool (decide ((x.toNat : Int) ≥ y.toNat))) = .lit (.bool _)
  congr 2
  simp [UInt64.le_iff_toNat_le]
theorem cndF (E : Env) (a b : ACode) (Q : AExit → ASt → Prop) (st : ASt) : awp E (.cond (.c (bo false)) a b) Q st = awp E b Q st := by
  rw [awp_cond]
  apply propext
  simp [arg, isB, asB, bo, -lit_bo]
set_option maxRecDepth 100000 in
set_option maxHeartbeats 4000000 in
theorem len_r2 (E : Env) {y : UInt64} {n m : Nat} {Q0 : AExit → ASt → Prop} (hy : y.toNat < 256) (hn : n ≤ 1000) (hm : n + lenN y.toNat = m) (hQ0 : Q0 = retQ [ARes.t 2] (i64 m)) : awp E f_bits_Len64_r2 Q0 ⟨[], [(0, u64 y), (2, i64 n)], []⟩ := by
  have ht := tab256 ⟨y.toNat, hy⟩
  have hmod : ((y.toNat : Int) % 256).toNat = y.toNat := by omega
  have key : ∀ (L : List UInt8) (k : Nat) (h : k < L.length), k = y.toNat → (L[k]).toNat = (L.getD y.toNat 0).toNat := by
    intro L k h e; subst e; simp [List.getD, List.getElem?_eq_getElem h]
  simp (maxSteps := 1000000) (disch := first | omega | (simp; done) | (simp; omega)) [W_id, bys_app, bys_snoc, f_bits_Len64_r2, hQ0]
  refine ⟨⟨by omega, by omega⟩, ?_⟩
  rw [key _ _ _ hmod]
  refine Eq.trans (congrArg (fun z : Nat => W ((n : Int) + (z : Int))) (a₂ := lenN y.toNat) ht) ?_
  have hb : lenN y.toNat ≤ 8 := by
    unfold lenN
    split
    · omega
    · rename_i h0
      have := (Nat.log2_lt h0).2 (show y.toNat < 2 ^ 8 from hy)
      omega
  show W ((n : Int) + (lenN y.toNat : Int)) = m
  rw [W_id (by omega) (by omega)]
  omega
set_option maxHeartbeats 4000000 in
theorem len_r1 (E : Env) {y : UInt64} {n m : Nat} {Q0 : AExit → ASt → Prop} (hy : y.toNat < 65536) (hn : n ≤ 100) (hm : n + lenN y.toNat = m) (hQ0 : Q0 = retQ [ARes.t 2] (i64 m)) : awp E f_bits_Len64_r1 Q0 ⟨[], [(0, u64 y), (2, i64 n)], []⟩ := by
  by_cases h : 256 ≤ y.toNat
  · have h' : (256 : UInt64) ≤ y := by rw [UInt64.le_iff_toNat_le]; exact h
    have e1 := lenN_shr (k := 8) h
    have e2 := shr_toNat y 8 (by decide)
    simp (maxSteps := 1000000) (disch := first | omega | (simp; done) | (simp; omega)) [W_id, bys_app, bys_snoc, f_bits_Len64_r1, h', kT, kF, dT, dF]
    rw [show ((n : Int) + 8) = ((n + 8 : Nat) : Int) by omega]
    exact len_r2 E (by rw [e2]; omega) (by omega) (by rw [e2]; omega) hQ0
  · have h' : ¬ (256 : UInt64) ≤ y := by rw [UInt64.le_iff_toNat_le]; exact h
    simp (maxSteps := 1000000) (disch := first | omega | (simp; done) | (simp; omega)) [W_id, bys_app, bys_snoc, f_bits_Len64_r1, h', kT, kF, dT, dF]
    exact len_r2 E (by omega) (by omega) hm hQ0
set_option maxHeartbeats 4000000 in
theorem len_r0 (E : Env) {y : UInt64} {n m : Nat} {Q0 : AExit → ASt → Prop} (hy : y.toNat < 4294967296) (hn : n ≤ 50) (hm : n + lenN y.toNat = m) (hQ0 : Q0 = retQ [ARes.t 2] (i64 m)) : awp E f_bits_Len64_r0 Q0 ⟨[], [(0, u64 y), (2, i64 n)], []⟩ := by
  by_cases h : 65536 ≤ y.toNat
  · have h' : (65536 : UInt64) ≤ y := by rw [UInt64.le_iff_toNat_le]; exact h
    have e1 := lenN_shr (k := 16) h
    have e2 := shr_toNat y 16 (by decide)
    simp (maxSteps := 1000000) (disch := first | omega | (simp; done) | (simp; omega)) [W_id, bys_app, bys_snoc, f_bits_Len64_r0, h', kT, kF, dT, dF]
    rw [show ((n : Int) + 16) = ((n + 16 : Nat) : Int) by omega]
    exact len_r1 E (by rw [e2]; omega) (by omega) (by rw [e2]; omega) hQ0
  · have h' : ¬ (65536 : UInt64) ≤ y := by rw [UInt64.le_iff_toNat_le]; exact h
    simp (maxSteps := 1000000) (disch := first | omega | (simp; done) | (simp; omega)) [W_id, bys_app, bys_snoc, f_bits_Len64_r0, h', kT, kF, dT, dF]
    exact len_r1 E (by omega) (by omega) hm hQ0
set_option maxHeartbeats 4000000 in
theorem len64_ok (E : Env) : ∀ ds, lenC.pre ds → ds.length = f_bits_Len64.n ∧ awp E f_bits_Len64.body (retQ f_bits_Len64.res (lenC.post ds)) (initSt f_bits_Len64.wr ds) := by
  rintro _ ⟨x, rfl⟩
  rw [lenC_post]
  by_cases h : 4294967296 ≤ x.toNat
  · have h' : (4294967296 : UInt64) ≤ x := by rw [UInt64.le_iff_toNat_le]; exact h
    have e1 := lenN_shr (k := 32) h
    have e2 := shr_toNat x 32 (by decide)
    have e3 := x.toNat_lt
    simp (maxSteps := 1000000) (disch := first | omega | (simp; done) | (simp; omega)) [W_id, bys_app, bys_snoc, f_bits_Len64, h', kT, kF, dT, dF]
    exact len_r0 E (n := 32) (by rw [e2]; omega) (by omega) (by rw [e2]; omega) rfl
  · have h' : ¬ (4294967296 : UInt64) ≤ x := by rw [UInt64.le_iff_toNat_le]; exact h
    simp (maxSteps := 1000000) (disch := first | omega | (simp; done) | (simp; omega)) [W_id, bys_app, bys_snoc, f_bits_Len64, h', kT, kF, dT, dF]
    exact len_r0 E (n := 0) (by omega) (by omega) (by omega) rfl
theorem len_ok (E : Env) (h192 : E.G 192 = lenC) : ∀ ds, lenC.pre ds → ds.length = f_bits_Len.n ∧ awp E f_bits_Len.body (retQ f_bits_Len.res (lenC.post ds)) (initSt f_bits_Len.wr ds) := by
  rintro _ ⟨x, rfl⟩
  rw [lenC_post]
  simp (maxSteps := 1000000) (disch := first | omega | (simp; done) | (simp; omega)) [W_id, bys_app, bys_snoc, f_bits_Len, f_bits_Len_r0, h192, cndF]
end Go.Abs
end

section
namespace Go.Abs
@[simp] theorem bin_i64_shl (x n : Int) : binV .shl (i64 x) (i64 n) = i64 (W (x * 2 ^ (min n.toNat 64))) := rfl
@[simp] theorem binOk_shl_i64 (x n : Int) : binOk .shl (i64 x) (i64 n) = (0 ≤ n) := rfl
theorem ofInt64_nat {m : Nat} (h : m < 18446744073709551616) : (UInt64.ofInt (m : Int)).toNat = m := by
  simp only [UInt64.ofInt, UInt64.toNat_ofNat']
  omega
theorem split_ok (E : Env) (h170 : E.G 170 = lenC) : ∀ ds, splC.pre ds → ds.length = f_merkle_split.n ∧ awp E f_merkle_split.body (retQ f_merkle_split.res (splC.post ds)) (initSt f_merkle_split.wr ds) := by
  rintro _ ⟨n, h2, h, rfl⟩
  rw [splC_post]
  have e0 : ((n : Int) - 1) = ((n - 1 : Nat) : Int) := by omega
  have e1 := ofInt64_nat (m := n - 1) (by omega)
  have h0 : n - 1 ≠ 0 := by omega
  have e2 : lenN (n - 1) = Nat.log2 (n - 1) + 1 := by rw [lenN, if_neg h0]
  have e3 : Nat.log2 (n - 1) < 63 := (Nat.log2_lt h0).2 (by omega)
  have e4 := spl_lt h2
  simp (maxSteps := 1000000) (disch := first | omega | (simp; done) | (simp; omega)) [W_id, bys_app, bys_snoc, f_merkle_split, h170, e0, e1, e2]
  have e5 : W ((Nat.log2 (n - 1) : Int)) = Nat.log2 (n - 1) := W_id (by omega) (by omega)
  have e6 : (2 : Int) ^ Nat.log2 (n - 1) = (spl n : Int) := by simp [spl]
  rw [e6, W_id (by omega) (by omega)]
theorem inq_len {t : Int} {l : List (List UInt8)} (h : is16 l) : (inpOf t l).length ≤ 25 * l.length + 1 := by
  have := flat16m h
  simp only [inpOf, List.length_cons]; omega
theorem is16_two {a b : List UInt8} (ha : a.length = 16) (hb : b.length = 16) : is16 [a, b] := is16_cons.2 ⟨ha, is16_cons.2 ⟨hb, is16_nil⟩⟩
theorem is16_one {a : List UInt8} (ha : a.length = 16) : is16 [a] := is16_cons.2 ⟨ha, is16_nil⟩
@[simp] theorem shortB_len (b : List UInt8) : (shortB b).length = 16 := by simp [shortB, sha_len]
def rootMu (ds : List AVal) : Nat := slen (nth ds 0)
set_option maxHeartbeats 4000000 in
theorem root_ok (E : Env) (k : Nat) (h164 : E.G 164 = inM) (h165 : E.G 165 = shM) (h166 : E.G 166 = leafM) (h167 : E.G 167 = splC) (h169 : E.G 169 = nodeM) (h168 : E.G 168 = limC rootC rootMu k) : ∀ ds, (limC rootC rootMu (k + 1)).pre ds → ds.length = f_merkle_Root.n ∧ awp E f_merkle_Root.body (retQ f_merkle_Root.res (rootC.post ds)) (initSt f_merkle_Root.wr ds) := by
  rintro _ ⟨⟨nl, l, h, hl, rfl⟩, hk⟩
  rw [dgsA, rootC_post h rfl rfl]
  have hk : l.length < k + 1 := hk
  by_cases h0 : l.length = 0
  · have e : l = [] := List.length_eq_zero_iff.1 h0
    subst e
    have hr : root [] = shortB (inpOf 1 []) := root_few (by decide)
    have hp : inM.pre [u8 1, .sl .plain (some true) 0 []] = True := inM_pre (l := []) (b := []) is16_nil (by simp) rfl rfl
    have hq : inM.post [u8 1, .sl .plain (some true) 0 []] = .sl (.own 1) (some false) (inpOf 1 []).length (bys (inpOf 1 [])) := inM_post (t := 1) (nl := some true) is16_nil
    simp (maxSteps := 1000000) (disch := first | omega | (simp; done) | (simp; omega)) [W_id, bys_app, bys_snoc, f_merkle_Root, h164, hp, hq, h165, shM_pre, kT, kF, dT, dF, hr, splice_bys0]
    exact ⟨of_eq_true (shM_pre (by have := inq_len (t := 1) is16_nil; simp only [List.length_nil] at this; omega) rfl), take_l16 (shortB_len _)⟩
  by_cases h1 : l.length = 1
  · obtain ⟨d, rfl⟩ := List.length_eq_one_iff.1 h1
    have hd : d.length = 16 := (is16_cons.1 h).1
    have hr : root [d] = shortB (inpOf 1 [d]) := root_few (by simp)
    simp (maxSteps := 1000000) (disch := first | omega | (simp; done) | (simp; omega)) [W_id, bys_app, bys_snoc, f_merkle_Root, h166, leafM_pre, h165, shM_pre, kT, kF, dT, dF, hr, splice_bys0, hd, take_l16]
    exact of_eq_true (shM_pre (by have := inq_len (t := 1) (is16_one hd); simp only [List.length_cons, List.length_nil] at this; omega) rfl)
  have h2 : 2 ≤ l.length := by omega
  have b0 : ((l.length : Int) == 0) = false := beq_false_of_ne (by omega)
  have b1 : ((l.length : Int) == 1) = false := beq_false_of_ne (by omega)
  have hd := dgs_len h
  have hs := spl_lt h2
  have hs1 := spl_pos l.length
  have hr := root_two h2
  generalize hK : spl l.length = K at *
  have g1 : is16 (l.take K) := is16_take h K
  have g2 : is16 (l.drop K) := is16_drop h K
  have htk : (dgs (l.drop K)).take ((l.length - K) * 16) = dgs (l.drop K) := List.take_of_length_le (by rw [dgs_len g2, List.length_drop]; exact Nat.le_refl _)
  have lk1 : (l.take K).length = K := by rw [List.length_take]; omega
  have lk2 : (l.drop K).length = l.length - K := List.length_drop
  have hp1 : (limC rootC rootMu k).pre [.sl .plain nl K (bys (dgs (l.take K)))] = True := eq_true ⟨of_eq_true (rootC_pre g1 (by omega) lk1.symm rfl), by show K < k; omega⟩
  have hq1 : (limC rootC rootMu k).post [.sl .plain nl K (bys (dgs (l.take K)))] = .agg (bys (root (l.take K))) := rootC_post g1 lk1.symm rfl
  have hp2 : (limC rootC rootMu k).pre [.sl .plain nl (l.length - K) (bys (dgs (l.drop K)))] = True := eq_true ⟨of_eq_true (rootC_pre g2 (by omega) lk2.symm rfl), by show l.length - K < k; omega⟩
  have hq2 : (limC rootC rootMu k).post [.sl .plain nl (l.length - K) (bys (dgs (l.drop K)))] = .agg (bys (root (l.drop K))) := rootC_post g2 lk2.symm rfl
  have r1 := root_len (l.take K)
  have r2 := root_len (l.drop K)
  have hil := inq_len (t := 2) (is16_two r1 r2)
  have hr' : root l = shortB (inpOf 2 [root (l.take K), root (l.drop K)]) := hr
  have hsl : (shortB (inpOf 2 [root (l.take K), root (l.drop K)])).length = 16 := shortB_len _
  rw [hr']
  simp only [List.length_cons, List.length_nil] at hil
  simp (maxSteps := 1000000) (disch := first | omega | (simp; done) | (simp; omega)) [W_id, bys_app, bys_snoc, f_merkle_Root, f_merkle_Root_r0, b0, b1, h167, splC_pre, hK, hd, dgs_take h, dgs_drop h, htk, h168, hp1, hq1, hp2, hq2, h169, nodeM_pre r1 r2, h165, shM_pre, kT, kF, dT, dF, splice_bys0, take_l16 hsl]
  exact Nat.le_of_lt hs
end Go.Abs
end

section
namespace Go.Abs
def revK {α : Type} (d : α) (l : List α) (i : Nat) : List α := (List.range l.length).map fun t => l.getD (if t < i ∨ l.length - i ≤ t then l.length - 1 - t else t) d
@[simp] theorem revK_len {α : Type} (d : α) (l : List α) (i : Nat) : (revK d l i).length = l.length := by simp [revK]
theorem revK_get {α : Type} (d : α) (l : List α) (i t : Nat) (h : t < l.length) : (revK d l i)[t]? = some (l.getD (if t < i ∨ l.length - i ≤ t then l.length - 1 - t else t) d) := by
  rw [revK, List.getElem?_map, List.getElem?_range h]; rfl
theorem revK_0 {α : Type} (d : α) (l : List α) : revK d l 0 = l := by
  apply List.ext_getElem?
  intro t
  by_cases h : t < l.length
  · rw [revK_get d l 0 t h, if_neg (by omega), List.getD, List.getElem?_eq_getElem h]; rfl
  · rw [List.getElem?_eq_none (by simp; omega), List.getElem?_eq_none (by omega)]
theorem revK_end {α : Type} (d : α) (l : List α) {i : Nat} (hi : l.length ≤ 2 * i + 1) : revK d l i = l.reverse := by
  apply List.ext_getElem?
  intro t
  by_cases h : t < l.length
  · rw [revK_get d l i t h, List.getElem?_reverse h]
    have h' : l.length - 1 - t < l.length := by omega
    rw [List.getElem?_eq_getElem h']
    by_cases c : t < i ∨ l.length - i ≤ t
    · rw [if_pos c, List.getD, List.getElem?_eq_getElem h']; rfl
    · rw [if_neg c, List.getD, List.getElem?_eq_getElem h]
      have : l.length - 1 - t = t := by omega
      simp only [this]; rfl
  · rw [List.getElem?_eq_none (by simp; omega), List.getElem?_eq_none (by simp; omega)]
theorem revK_mid {α : Type} (d : α) (l : List α) {i t : Nat} (h1 : i ≤ t) (h2 : t < l.length - i) : (revK d l i).getD t d = l.getD t d := by
  rw [List.getD, revK_get d l i t (by omega), if_neg (by omega)]; rfl
theorem revK_step {α : Type} (d : α) (l : List α) {i : Nat} (h : 2 * i + 1 < l.length) : ((revK d l i).set i (l.getD (l.length - 1 - i) d)).set (l.length - 1 - i) (l.getD i d) = revK d l (i + 1) := by
  apply List.ext_getElem?
  intro t
  rw [List.getElem?_set, List.getElem?_set]
  by_cases ht : t < l.length
  · rw [revK_get d l (i + 1) t ht]
    by_cases c1 : l.length - 1 - i = t
    · rw [if_pos c1, if_pos (by simp; omega), if_pos (by omega)]
      congr 2; omega
    · rw [if_neg c1]
      by_cases c2 : i = t
      · rw [if_pos c2, if_pos (by simp; omega), if_pos (by omega)]
        congr 2; omega
      · rw [if_neg c2, revK_get d l i t ht]
        by_cases c : t < i ∨ l.length - i ≤ t
        · rw [if_pos c, if_pos (by omega)]
        · rw [if_neg c, if_neg (by omega)]
  · rw [if_neg (by omega), if_neg (by omega), List.getElem?_eq_none (by simp; omega), List.getElem?_eq_none (by simp; omega)]
theorem dgs_splice {l : List (List UInt8)} {i : Nat} {d : List UInt8} (h : is16 l) (hi : i < l.length) (hd : d.length = 16) : splice (bys (dgs l)) (i * 16) (bys d) = bys (dgs (l.set i d)) := by
  have hl := dgs_len h
  rw [List.set_eq_take_append_cons_drop, if_pos hi]
  simp only [splice, bys_take, bys_drop, bys_length, hd, bys_app]
  rw [dgs_take h, show i * 16 + 16 = (i + 1) * 16 by omega, dgs_drop h, dgs_append, dgs_cons, List.append_assoc]
theorem is16_set {l : List (List UInt8)} {i : Nat} {d : List UInt8} (h : is16 l) (hd : d.length = 16) : is16 (l.set i d) := fun x hx => by
  rcases List.mem_or_eq_of_mem_set hx with hx | rfl
  · exact h x hx
  · exact hd
theorem is16_revK {l : List (List UInt8)} (h : is16 l) (i : Nat) : is16 (revK [] l i) := fun x hx => by
  obtain ⟨t, ht, rfl⟩ := List.mem_map.1 hx
  rw [List.mem_range] at ht
  exact dgAt_len h (by split <;> omega)
@[simp] theorem revW_hold : revW.hold = [0] := rfl
@[simp] theorem revW_bx : revW.bx = [0] := rfl
@[simp] theorem revW_nb : revW.nb = [] := rfl
@[simp] theorem revW_post (ds : List AVal) (bs : Nat → List AVal) : revW.post ds bs = .tup [] := rfl
set_option maxHeartbeats 4000000 in
theorem rev_ok (E : Env) : ∀ ds bs p, revW.pre ds bs → ds.length = f_slices_Reverse.n ∧ awp E f_slices_Reverse.body (retW f_slices_Reverse.res revW p ds bs) (initW revW p ds bs) := by
  rintro _ bs p ⟨l, h, h0, hl, rfl, hb⟩
  have hd := dgs_len h
  have hout : ∀ j, revW.out [.bv 0 16 0 l.length l.length] bs j = bys (dgs l.reverse) := fun j => by
    simp only [revW, hb, nth]
    rw [show slen ([AVal.bv 0 16 0 l.length l.length].getD 0 .undef) = l.length from rfl, show gBs (bys (dgs l)) = dgs l by simp, chunk_dgs h]
  simp (maxSteps := 1000000) (disch := first | omega | (simp; done) | (simp; omega)) [W_id, bys_app, bys_snoc, f_slices_Reverse, initW, envW, hb]
  refine awp_name fun Q0 hQ0 => ?_
  refine awp_for (fun i : Nat => ⟨[(0, .lit (p 0))], [(0, .bv 0 16 0 l.length l.length), (2, i64 i), (3, i64 ((l.length : Int) - 1 - i))], [(0, some (bys (dgs (revK [] l i))))]⟩) (fun i => l.length - i) (fun i => 2 * i ≤ l.length) 0 (by simp [revK_0]) (by omega) fun i hi => ?_
  refine awp_name fun Q1 hQ1 => ?_
  by_cases h1 : 2 * i + 1 < l.length
  · have hk := is16_revK h i
    have hlk := dgs_len hk
    rw [revK_len] at hlk
    have hj : ((l.length : Int) - 1 - i).toNat = l.length - 1 - i := by omega
    have x1 := dgs_at hk (i := i) (by rw [revK_len]; omega)
    have x2 := dgs_at hk (i := l.length - 1 - i) (by rw [revK_len]; omega)
    have y1 : dgAt (revK [] l i) i = dgAt l i := revK_mid [] l (Nat.le_refl _) (by omega)
    have y2 : dgAt (revK [] l i) (l.length - 1 - i) = dgAt l (l.length - 1 - i) := revK_mid [] l (by omega) (by omega)
    rw [y1] at x1
    rw [y2] at x2
    have d1 := dgAt_len h (i := i) (by omega)
    have d2 := dgAt_len h (i := l.length - 1 - i) (by omega)
    have s1 := dgs_splice hk (i := i) (by rw [revK_len]; omega) d2
    have s2 := dgs_splice (is16_set (i := i) hk d2) (i := l.length - 1 - i) (by rw [List.length_set, revK_len]; omega) d1
    have hl2 := dgs_len (is16_set (i := i) hk d2)
    rw [List.length_set, revK_len] at hl2
    have st := revK_step [] l h1
    rw [show ((revK [] l i).set i (dgAt l (l.length - 1 - i))).set (l.length - 1 - i) (dgAt l i) = revK [] l (i + 1) from st] at s2
    have h2 : (i : Int) < (l.length : Int) - 1 - i := by omega
    generalize dgAt l i = di at *
    generalize dgAt l (l.length - 1 - i) = dj at *
    simp (maxSteps := 1000000) (disch := first | omega | (simp; done) | (simp; omega)) [W_id, bys_app, bys_snoc, f_slices_Reverse_l0, f_slices_Reverse_r0, h2, kT, kF, dT, dF, hj, hlk, x1, x2, d1, d2, s1, s2, hQ1, hl2]
    refine ⟨by omega, by omega, by omega, by omega, by omega, by omega, by omega, by omega, i + 1, by omega, by omega, ⟨by omega, by omega⟩, rfl⟩
  · have e := revK_end [] l (i := i) (by omega)
    have h2 : ¬ ((i : Int) < (l.length : Int) - 1 - i) := by omega
    simp (maxSteps := 1000000) (disch := first | omega | (simp; done) | (simp; omega)) [W_id, bys_app, bys_snoc, f_slices_Reverse_l0, h2, kT, kF, dT, dF, hQ1, hQ0, retW, hout, e]
end Go.Abs
end

section
namespace Go.Abs
def sibs (l : List (List UInt8)) (i : Nat) : List (List UInt8) :=
  if h : 2 ≤ l.length then (if i < spl l.length then root (l.drop (spl l.length)) :: sibs (l.take (spl l.length)) i else root (l.take (spl l.length)) :: sibs (l.drop (spl l.length)) (i - spl l.length)) else []
termination_by l.length
decreasing_by
  · rw [List.length_take]; have := spl_lt h; omega
  · rw [List.length_drop]; have := spl_pos l.length; omega
theorem sibs_two {l : List (List UInt8)} (h : 2 ≤ l.length) (i : Nat) : sibs l i = if i < spl l.length then root (l.drop (spl l.length)) :: sibs (l.take (spl l.length)) i else root (l.take (spl l.length)) :: sibs (l.drop (spl l.length)) (i - spl l.length) := by rw [sibs, dif_pos h]
theorem sibs_few {l : List (List UInt8)} (h : ¬ 2 ≤ l.length) (i : Nat) : sibs l i = [] := by rw [sibs, dif_neg h]
theorem prv_sibs (l : List (List UInt8)) (i : Nat) : prv l i = (sibs l i).reverse := by
  by_cases h : 2 ≤ l.length
  · have h1 := spl_lt h
    have h2 := spl_pos l.length
    rw [prv_two h, sibs_two h]
    split
    · rw [List.reverse_cons, prv_sibs (l.take (spl l.length)) i]
    · rw [List.reverse_cons, prv_sibs (l.drop (spl l.length)) _]
  · rw [prv_few h, sibs_few h]; rfl
termination_by l.length
decreasing_by all_goals (simp only [List.length_take, List.length_drop]; omega)
theorem is16_sibs (l : List (List UInt8)) (i : Nat) : is16 (sibs l i) := by
  by_cases h : 2 ≤ l.length
  · have h1 := spl_lt h
    have h2 := spl_pos l.length
    rw [sibs_two h]
    split
    · exact is16_cons.2 ⟨root_len _, is16_sibs _ i⟩
    · exact is16_cons.2 ⟨root_len _, is16_sibs _ _⟩
  · rw [sibs_few h]; exact is16_nil
termination_by l.length
decreasing_by all_goals (simp only [List.length_take, List.length_drop]; omega)
theorem sibs_len (l : List (List UInt8)) (i : Nat) : (sibs l i).length ≤ l.length := by
  by_cases h : 2 ≤ l.length
  · have h1 := spl_lt h
    have h2 := spl_pos l.length
    rw [sibs_two h]
    split
    · have := sibs_len (l.take (spl l.length)) i
      rw [List.length_take] at this
      rw [List.length_cons]; omega
    · have := sibs_len (l.drop (spl l.length)) (i - spl l.length)
      rw [List.length_drop] at this
      rw [List.length_cons]; omega
  · rw [sibs_few h]; simp
termination_by l.length
decreasing_by all_goals (simp only [List.length_take, List.length_drop]; omega)
def ownA (nl : Option Bool) (l : List (List UInt8)) : AVal := .sl (.own 16) nl l.length (bys (dgs l))
def gEp (d : AVal) : AVal := match d with | .ep cs => hdA cs | _ => .undef
def win (l : List (List UInt8)) (a n : Nat) : List (List UInt8) := (l.drop a).take n
def pr1M : CM := ⟨[4, 5], [], fun ds => ∃ (nl no : Option Bool) (l out : List (List UInt8)) (k m : Int) (a n : Nat), is16 l ∧ is16 out ∧ l.length ≤ 1000000 ∧ out.length ≤ 2000000 ∧ a + n ≤ l.length ∧ ds = [i64 k, i64 m, i64 a, i64 n, .ep [ownA no out], .ep [dgsA nl l]], fun _ => .tup [],
  fun ds j => if j = 4 then [ownA none (gDs (gEp (nth ds 4)) ++ [root (win (gDs (gEp (nth ds 5))) (asI (nth ds 2)).toNat (asI (nth ds 3)).toNat)])] else [dem (gEp (nth ds 5))]⟩
@[simp] theorem pr1M_bx : pr1M.bx = [4, 5] := rfl
@[simp] theorem pr1M_nb : pr1M.nb = [] := rfl
@[simp] theorem pr1M_post (ds : List AVal) : pr1M.post ds = .tup [] := rfl
theorem pr1M_out4 {nl no : Option Bool} {l out : List (List UInt8)} (h : is16 l) (ho : is16 out) (k m : Int) (a n : Nat) : pr1M.out [i64 k, i64 m, i64 a, i64 n, .ep [.sl (.own 16) no out.length (bys (dgs out))], .ep [.sl .plain nl l.length (bys (dgs l))]] 4 = [.sl (.own 16) none (out ++ [root (win l a n)]).length (bys (dgs (out ++ [root (win l a n)])))] := by
  show [ownA none (gDs (.sl (.own 16) no out.length (bys (dgs out))) ++ [root (win (gDs (.sl .plain nl l.length (bys (dgs l)))) (Int.toNat (a : Int)) (Int.toNat (n : Int)))])] = _
  rw [gDs_dgs ho, gDs_dgs h, Int.toNat_natCast, Int.toNat_natCast]
  rfl
theorem pr1M_out5 {nl no : Option Bool} {l out : List (List UInt8)} (k m : Int) (a n : Nat) : pr1M.out [i64 k, i64 m, i64 a, i64 n, .ep [.sl (.own 16) no out.length (bys (dgs out))], .ep [.sl .plain nl l.length (bys (dgs l))]] 5 = [.sl .plain nl l.length (bys (dgs l))] := rfl
theorem win_len {l : List (List UInt8)} {a n : Nat} (h : a + n ≤ l.length) : (win l a n).length = n := by
  rw [win, List.length_take, List.length_drop]; omega
theorem is16_win {l : List (List UInt8)} (h : is16 l) (a n : Nat) : is16 (win l a n) := is16_take (is16_drop h a) n
theorem dgs_win {l : List (List UInt8)} (h : is16 l) (a n : Nat) : ((dgs l).drop (a * 16)).take (n * 16) = dgs (win l a n) := by
  rw [dgs_drop h, dgs_take (is16_drop h a)]; rfl
def fn2 (f b c : Nat) : AVal := .fn f [] [.bp b 0, .bp c 0]
def dsc1 : CW := ⟨[2], [10, 11], [], fun ds bs => ∃ (nl : Option Bool) (l : List (List UInt8)) (i : Nat), is16 l ∧ l.length ≤ 1000000 ∧ i < l.length ∧ ds = [i64 l.length, i64 i, fn2 159 10 11] ∧ bs 10 = [ownA none []] ∧ bs 11 = [dgsA nl l], fun _ _ => .tup [],
  fun ds bs j => if j = 10 then [ownA none (sibs (gDs (hdA (bs 11))) (asI (nth ds 1)).toNat)] else bs 11⟩
@[simp] theorem dsc1_hold : dsc1.hold = [2] := rfl
@[simp] theorem dsc1_bx : dsc1.bx = [10, 11] := rfl
@[simp] theorem dsc1_nb : dsc1.nb = [] := rfl
@[simp] theorem dsc1_post (ds : List AVal) (bs : Nat → List AVal) : dsc1.post ds bs = .tup [] := rfl
theorem dsc1_out10 {nl : Option Bool} {l : List (List UInt8)} {bs : Nat → List AVal} (h : is16 l) (hb : bs 11 = [dgsA nl l]) (x : AVal) (i : Nat) (y : AVal) : dsc1.out [x, i64 i, y] bs 10 = [ownA none (sibs l i)] := by
  show [ownA none (sibs (gDs (hdA (bs 11))) (Int.toNat (i : Int)))] = _
  rw [hb, Int.toNat_natCast]
  show [ownA none (sibs (gDs (dgsA nl l)) i)] = _
  rw [dgsA, gDs_dgs h]
theorem dsc1_out11 (ds : List AVal) (bs : Nat → List AVal) : dsc1.out ds bs 11 = bs 11 := rfl
structure Way where
  a : Nat
  n : Nat
  d : List (List UInt8)
end Go.Abs
end

section
namespace Go.Abs
theorem revE_ok (E : Env) : ∀ ds, revE.pre ds → ds.length = f_slices_Reverse_empty.n ∧ awp E f_slices_Reverse_empty.body (retQ f_slices_Reverse_empty.res (revE.post ds)) (initSt f_slices_Reverse_empty.wr ds) := by
  rintro _ ⟨m, nl, rfl⟩
  simp (maxSteps := 1000000) (disch := first | omega | (simp; done) | (simp; omega)) [W_id, bys_app, bys_snoc, f_slices_Reverse_empty]
  refine awp_name fun Q0 hQ0 => ?_
  refine awp_for (fun i : Nat => ⟨[(0, .sl .plain nl 0 [])], [(2, i64 0), (3, i64 (-1))], []⟩) (fun i => i) (fun _ => True) 0 rfl trivial fun i _ => ?_
  simp (maxSteps := 1000000) (disch := first | omega | (simp; done) | (simp; omega)) [W_id, bys_app, bys_snoc, f_slices_Reverse_empty_l0, kF, dF, hQ0, revE]
set_option maxHeartbeats 4000000 in
theorem pr1_ok (E : Env) (h168 : E.G 168 = rootC) : ∀ ds p, pr1M.pre ds → ds.length = f_merkle_Prove_1.n ∧ awp E f_merkle_Prove_1.body (retM f_merkle_Prove_1.res pr1M p ds) (initM pr1M.bx p ds) := by
  rintro _ p ⟨nl, no, l, out, k, m, a, n, h, ho, hl, hlo, han, rfl⟩
  have hd := dgs_len h
  have hdo := dgs_len ho
  have hw := win_len han
  have hdw := dgs_len (is16_win h a n)
  have e4 := pr1M_out4 (nl := nl) (no := no) h ho k m a n
  have e5 := pr1M_out5 (nl := nl) (no := no) (l := l) (out := out) k m a n
  rw [show retM f_merkle_Prove_1.res pr1M p [i64 k, i64 m, i64 a, i64 n, .ep [ownA no out], .ep [dgsA nl l]] = retM f_merkle_Prove_1.res ⟨[4, 5], [], fun _ => True, fun _ => .tup [], fun _ j => pr1M.out [i64 k, i64 m, i64 a, i64 n, .ep [.sl (.own 16) no out.length (bys (dgs out))], .ep [.sl .plain nl l.length (bys (dgs l))]] j⟩ p [i64 k, i64 m, i64 a, i64 n, .ep [ownA no out], .ep [dgsA nl l]] from rfl]
  have rp : rootC.pre [.sl .plain nl n (bys (dgs (win l a n)))] = True := rootC_pre (is16_win h a n) (by omega) hw.symm rfl
  have rq : rootC.post [.sl .plain nl n (bys (dgs (win l a n)))] = .agg (bys (root (win l a n))) := rootC_post (is16_win h a n) hw.symm rfl
  have rl := root_len (win l a n)
  have hn : ((a : Int) + n).toNat - a = n := by omega
  simp (maxSteps := 1000000) (disch := first | omega | (simp; done) | (simp; omega)) [W_id, bys_app, bys_snoc, f_merkle_Prove_1, initM, envM, ownA, dgsA, h168, hd, hdo, dgs_win h, hn, rp, rq, rl, e4, e5, take_l16, splice_bys0]
  omega
theorem bos_length (l : List Bool) : (bos l).length = l.length := by simp [bos]
theorem bos_at {l : List Bool} {i : Nat} (h : i < l.length) : hdA ((bos l).drop i) = bo (l.getD i false) := by
  rw [bos, ← List.map_drop, List.drop_eq_getElem_cons h, List.map_cons, List.getD, List.getElem?_eq_getElem h]; rfl
theorem bos_splice {l : List Bool} {i : Nat} {x : Bool} (h : i < l.length) : splice (bos l) i [bo x] = bos (l.set i x) := by
  simp only [splice, bos, ← List.map_take, ← List.map_drop, List.length_singleton]
  rw [List.set_eq_take_append_cons_drop, if_pos h]
  simp
@[simp] theorem revWb_hold : revWb.hold = [0] := rfl
@[simp] theorem revWb_bx : revWb.bx = [0] := rfl
@[simp] theorem revWb_nb : revWb.nb = [] := rfl
@[simp] theorem revWb_post (ds : List AVal) (bs : Nat → List AVal) : revWb.post ds bs = .tup [] := rfl
theorem gBos_bos (l : List Bool) : gBos (bos l) = l := by
  simp only [gBos, bos, List.map_map]
  conv => rhs; rw [← List.map_id l]
  exact List.map_congr_left fun x _ => rfl
theorem refsL_bos : ∀ l : List Bool, refsL (bos l) = []
  | [] => rfl
  | x :: l => by show refs (bo x) ++ refsL (bos l) = []; rw [refsL_bos l]; rfl
set_option maxHeartbeats 4000000 in
theorem revb_ok (E : Env) : ∀ ds bs p, revWb.pre ds bs → ds.length = f_slices_Reverse_bool.n ∧ awp E f_slices_Reverse_bool.body (retW f_slices_Reverse_bool.res revWb p ds bs) (initW revWb p ds bs) := by
  rintro _ bs p ⟨l, h0, hl, rfl, hb⟩
  have hd := bos_length l
  have hout : ∀ j, revWb.out [.bv 0 1 0 l.length l.length] bs j = bos l.reverse := fun j => by
    simp only [revWb, hb, gBos_bos]
  simp (maxSteps := 1000000) (disch := first | omega | (simp; done) | (simp; omega)) [W_id, bys_app, bys_snoc, f_slices_Reverse_bool, initW, envW, hb]
  refine awp_name fun Q0 hQ0 => ?_
  refine awp_for (fun i : Nat => ⟨[(0, .lit (p 0))], [(0, .bv 0 1 0 l.length l.length), (2, i64 i), (3, i64 ((l.length : Int) - 1 - i))], [(0, some (bos (revK false l i)))]⟩) (fun i => l.length - i) (fun i => 2 * i ≤ l.length) 0 (by simp [revK_0]) (by omega) fun i hi => ?_
  refine awp_name fun Q1 hQ1 => ?_
  by_cases h1 : 2 * i + 1 < l.length
  · have hlk := bos_length (revK false l i)
    rw [revK_len] at hlk
    have hj : ((l.length : Int) - 1 - i).toNat = l.length - 1 - i := by omega
    have x1 := bos_at (l := revK false l i) (i := i) (by rw [revK_len]; omega)
    have x2 := bos_at (l := revK false l i) (i := l.length - 1 - i) (by rw [revK_len]; omega)
    rw [revK_mid false l (Nat.le_refl _) (by omega)] at x1
    rw [revK_mid false l (by omega) (by omega)] at x2
    have s1 := bos_splice (l := revK false l i) (i := i) (x := l.getD (l.length - 1 - i) false) (by rw [revK_len]; omega)
    have s2 := bos_splice (l := (revK false l i).set i (l.getD (l.length - 1 - i) false)) (i := l.length - 1 - i) (x := l.getD i false) (by rw [List.length_set, revK_len]; omega)
    have hl2 := bos_length ((revK false l i).set i (l.getD (l.length - 1 - i) false))
    rw [List.length_set, revK_len] at hl2
    rw [revK_step false l h1] at s2
    have h2 : (i : Int) < (l.length : Int) - 1 - i := by omega
    generalize l.getD i false = di at *
    generalize l.getD (l.length - 1 - i) false = dj at *
    simp (maxSteps := 1000000) (disch := first | omega | (simp; done) | (simp; omega)) [W_id, bys_app, bys_snoc, f_slices_Reverse_bool_l0, f_slices_Reverse_bool_r0, h2, kT, kF, dT, dF, hj, hlk, x1, x2, s1, s2, hQ1, hl2]
    exact ⟨by omega, by omega, by omega, by omega, by omega, by omega, by omega, by omega, i + 1, by omega, by omega, ⟨by omega, by omega⟩, rfl⟩
  · have e := revK_end false l (i := i) (by omega)
    have h2 : ¬ ((i : Int) < (l.length : Int) - 1 - i) := by omega
    simp (maxSteps := 1000000) (disch := first | omega | (simp; done) | (simp; omega)) [W_id, bys_app, bys_snoc, f_slices_Reverse_bool_l0, h2, kT, kF, dT, dF, hQ1, hQ0, retW, hout, e, refsL_bos]
theorem revEb_ok (E : Env) : ∀ ds, revE.pre ds → ds.length = f_slices_Reverse_empty_bool.n ∧ awp E f_slices_Reverse_empty_bool.body (retQ f_slices_Reverse_empty_bool.res (revE.post ds)) (initSt f_slices_Reverse_empty_bool.wr ds) := by
  rintro _ ⟨m, nl, rfl⟩
  simp (maxSteps := 1000000) (disch := first | omega | (simp; done) | (simp; omega)) [W_id, bys_app, bys_snoc, f_slices_Reverse_empty_bool]
  refine awp_name fun Q0 hQ0 => ?_
  refine awp_for (fun i : Nat => ⟨[(0, .sl .plain nl 0 [])], [(2, i64 0), (3, i64 (-1))], []⟩) (fun i => i) (fun _ => True) 0 rfl trivial fun i _ => ?_
  simp (maxSteps := 1000000) (disch := first | omega | (simp; done) | (simp; omega)) [W_id, bys_app, bys_snoc, f_slices_Reverse_empty_bool_l0, kF, dF, hQ0, revE]
end Go.Abs
end

section
namespace Go.Abs
theorem win_all (l : List (List UInt8)) : win l 0 l.length = l := by simp [win]
theorem win_take (l : List (List UInt8)) (a n k : Nat) (h : k ≤ n) : (win l a n).take k = win l a k := by
  rw [win, List.take_take, Nat.min_eq_left h, win]
theorem win_drop (l : List (List UInt8)) (a n k : Nat) : (win l a n).drop k = win l (a + k) (n - k) := by
  rw [win, List.drop_take, List.drop_drop, win]
theorem pr1_pre {nl : Option Bool} {l d : List (List UInt8)} {x y : Int} (h : is16 l) (hd : is16 d) (hl : l.length ≤ 1000000) (hdl : d.length ≤ 2000000) (kk mm : Int) (hx : 0 ≤ x) (hy : 0 ≤ y) (hxy : x + y ≤ l.length) : pr1M.pre [i64 kk, i64 mm, i64 x, i64 y, .ep [ownA none d], .ep [dgsA nl l]] = True := by
  obtain ⟨a, rfl⟩ := Int.eq_ofNat_of_zero_le hx
  obtain ⟨n, rfl⟩ := Int.eq_ofNat_of_zero_le hy
  exact eq_true ⟨nl, none, l, d, kk, mm, a, n, h, hd, hl, hdl, by omega, rfl⟩
theorem pr1_out4 {nl : Option Bool} {l d : List (List UInt8)} (h : is16 l) (hd : is16 d) (kk mm x y : Int) : pr1M.out [i64 kk, i64 mm, i64 x, i64 y, .ep [ownA none d], .ep [dgsA nl l]] 4 = [ownA none (d ++ [root (win l x.toNat y.toNat)])] := by
  have e1 : gDs (ownA none d) = d := gDs_dgs hd
  have e2 : gDs (dgsA nl l) = l := gDs_dgs h
  show [ownA none (gDs (ownA none d) ++ [root (win (gDs (dgsA nl l)) x.toNat y.toNat)])] = _
  rw [e1, e2]
@[simp] theorem pr1_out5 {nl : Option Bool} {l d : List (List UInt8)} (kk mm x y : Int) : pr1M.out [i64 kk, i64 mm, i64 x, i64 y, .ep [ownA none d], .ep [dgsA nl l]] 5 = [dgsA nl l] := rfl
@[simp] theorem refs_ownA (nl : Option Bool) (l : List (List UInt8)) : refs (ownA nl l) = [] := rfl
@[simp] theorem refs_dgsA (nl : Option Bool) (l : List (List UInt8)) : refs (dgsA nl l) = [] := rfl
@[simp] theorem ren_ownA (m : List (Nat × Nat)) (nl : Option Bool) (l : List (List UInt8)) : ren m (ownA nl l) = ownA nl l := rfl
@[simp] theorem ren_dgsA (m : List (Nat × Nat)) (nl : Option Bool) (l : List (List UInt8)) : ren m (dgsA nl l) = dgsA nl l := rfl
@[simp] theorem pureB_ownA (nl : Option Bool) (l : List (List UInt8)) : pureB (ownA nl l) = true := rfl
@[simp] theorem pureB_dgsA (nl : Option Bool) (l : List (List UInt8)) : pureB (dgsA nl l) = true := rfl
set_option maxHeartbeats 8000000 in
theorem dsc1_ok (E : Env) (h167 : E.G 167 = splC) (h159 : E.M 159 = pr1M) : ∀ ds bs p, dsc1.pre ds bs → ds.length = f_merkle_descend_merkle_Prove_1.n ∧ awp E f_merkle_descend_merkle_Prove_1.body (retW f_merkle_descend_merkle_Prove_1.res dsc1 p ds bs) (initW dsc1 p ds bs) := by
  rintro _ bs p ⟨nl, l, i, h, hl, hi, rfl, hb0, hb1⟩
  have hd := dgs_len h
  have hout := dsc1_out10 h hb1 (i64 l.length) i (.fn 159 [] [.bp 10 0, .bp 11 0])
  simp (maxSteps := 1000000) (disch := first | omega | (simp; done) | (simp; omega)) [W_id, bys_app, bys_snoc, f_merkle_descend_merkle_Prove_1, initW, envW, hb0, hb1, fn2]
  refine awp_name fun Q0 hQ0 => ?_
  refine awp_for (fun s : Way => ⟨[(2, .lit (p 2))], [(0, i64 s.n), (1, i64 i), (2, .fn 159 [] [.bp 10 0, .bp 11 0]), (6, i64 s.a)], [(10, some [ownA none s.d]), (11, some [dgsA nl l])]⟩) (fun s => s.n) (fun s => s.a + s.n ≤ l.length ∧ s.a ≤ i ∧ i < s.a + s.n ∧ is16 s.d ∧ s.d.length + s.n ≤ l.length + 1 ∧ s.d ++ sibs (win l s.a s.n) (i - s.a) = sibs l i) ⟨0, l.length, []⟩ rfl ⟨by simp, by simp, by simpa using hi, is16_nil, by simp, by simp [win_all]⟩ fun s hs => ?_
  obtain ⟨a, n, d⟩ := s
  obtain ⟨han, hai, hin, h16, hdl, hsb⟩ := hs
  simp only at han hai hin h16 hdl hsb ⊢
  have hwl := win_len han
  refine awp_name fun Q1 hQ1 => ?_
  by_cases h2 : 2 ≤ n
  · have n2 : (1 : Int) < n := by omega
    have hk1 := spl_lt h2
    have hk0 := spl_pos n
    rw [sibs_two (by omega), hwl] at hsb
    rw [win_take _ _ _ _ (by omega), win_drop] at hsb
    generalize hK : spl n = k at *
    by_cases hik : i - a < k
    · have c1 : (i : Int) - a < k := by omega
      rw [if_pos hik] at hsb
      have x1 : ((a : Int) + k).toNat = a + k := by omega
      have x2 : ((n : Int) - k).toNat = n - k := by omega
      simp (maxSteps := 1000000) (disch := first | omega | (simp; done) | (simp; omega)) [W_id, bys_app, bys_snoc, f_merkle_descend_merkle_Prove_1_l0, f_merkle_descend_merkle_Prove_1_r0, n2, c1, kT, kF, dT, dF, h167, hK, splC_pre, hQ1, h159, pr1_pre h h16 hl, pr1_out4 h h16, x1, x2]
      exact ⟨⟨a, k, d ++ [root (win l (a + k) (n - k))]⟩, by simp; omega, ⟨by simp; omega, hai, by simp; omega, is16_app.2 ⟨h16, is16_one (root_len _)⟩, by simp; omega, by simpa using hsb⟩, ⟨rfl, rfl⟩, rfl⟩
    · have c1 : ¬ ((i : Int) - a < k) := by omega
      rw [if_neg hik] at hsb
      simp (maxSteps := 1000000) (disch := first | omega | (simp; done) | (simp; omega)) [W_id, bys_app, bys_snoc, f_merkle_descend_merkle_Prove_1_l0, f_merkle_descend_merkle_Prove_1_r0, f_merkle_descend_merkle_Prove_1_r1, n2, c1, kT, kF, dT, dF, h167, hK, splC_pre, hQ1, h159, pr1_pre h h16 hl, pr1_out4 h h16]
      rw [Nat.sub_sub] at hsb
      exact ⟨⟨a + k, n - k, d ++ [root (win l a k)]⟩, by simp; omega, ⟨by simp; omega, by simp; omega, by simp; omega, is16_app.2 ⟨h16, is16_one (root_len _)⟩, by simp; omega, by simpa using hsb⟩, ⟨by simp; omega, by simp⟩, rfl⟩
  · have n2 : ¬ ((1 : Int) < n) := by omega
    rw [sibs_few (by omega), List.append_nil] at hsb
    simp (maxSteps := 1000000) (disch := first | omega | (simp; done) | (simp; omega)) [W_id, bys_app, bys_snoc, f_merkle_descend_merkle_Prove_1_l0, n2, kT, kF, dT, dF, hQ1, hQ0, retW, hout, hb0, hb1, dsc1_out11, hsb]
end Go.Abs
end

section
namespace Go.Abs
def ownB (nl : Option Bool) (l : List Bool) : AVal := .sl (.own 1) nl l.length (bos l)
def gSBs (d : AVal) : List Bool := match d with | .sl _ _ _ cs => gBos cs | _ => []
@[simp] theorem gSBs_own (nl : Option Bool) (l : List Bool) : gSBs (ownB nl l) = l := gBos_bos l
@[simp] theorem refs_ownB (nl : Option Bool) (l : List Bool) : refs (ownB nl l) = [] := rfl
@[simp] theorem ren_ownB (m : List (Nat × Nat)) (nl : Option Bool) (l : List Bool) : ren m (ownB nl l) = ownB nl l := rfl
@[simp] theorem pureB_ownB (nl : Option Bool) (l : List Bool) : pureB (ownB nl l) = true := rfl
def in1M : CM := ⟨[4], [], fun ds => ∃ (l : List Bool) (k m a n : Int), l.length ≤ 1000 ∧ ds = [i64 k, i64 m, i64 a, i64 n, .ep [ownB none l]], fun _ => .tup [],
  fun ds _ => [ownB none (gSBs (gEp (nth ds 4)) ++ [decide (asI (nth ds 2) < asI (nth ds 0))])]⟩
@[simp] theorem in1M_bx : in1M.bx = [4] := rfl
@[simp] theorem in1M_nb : in1M.nb = [] := rfl
@[simp] theorem in1M_post (ds : List AVal) : in1M.post ds = .tup [] := rfl
theorem in1_pre {l : List Bool} (h : l.length ≤ 1000) (k m a n : Int) : in1M.pre [i64 k, i64 m, i64 a, i64 n, .ep [ownB none l]] = True := eq_true ⟨l, k, m, a, n, h, rfl⟩
@[simp] theorem in1_out (l : List Bool) (k m a n : Int) (j : Nat) : in1M.out [i64 k, i64 m, i64 a, i64 n, .ep [ownB none l]] j = [ownB none (l ++ [decide (a < k)])] := by
  show [ownB none (gSBs (ownB none l) ++ [decide (a < k)])] = _
  rw [gSBs_own]
theorem bos_app (a b : List Bool) : bos a ++ bos b = bos (a ++ b) := by simp [bos]
@[simp] theorem pureL_bos : ∀ l : List Bool, pureL (bos l) = true
  | [] => rfl
  | x :: l => by show (pureB (bo x) && pureL (bos l)) = true; rw [pureL_bos l]; rfl
set_option maxHeartbeats 4000000 in
theorem in1_ok (E : Env) : ∀ ds p, in1M.pre ds → ds.length = f_merkle_inputs_1.n ∧ awp E f_merkle_inputs_1.body (retM f_merkle_inputs_1.res in1M p ds) (initM in1M.bx p ds) := by
  rintro _ p ⟨l, k, m, a, n, h, rfl⟩
  simp (maxSteps := 1000000) (disch := first | omega | (simp; done) | (simp; omega)) [W_id, bys_app, bys_snoc, f_merkle_inputs_1, initM, envM, retM]
  simp only [ownB]
  have hb : ∀ x : Bool, bos l ++ [bo x] = bos (l ++ [x]) := fun x => bos_app l [x]
  simp (maxSteps := 1000000) (disch := first | omega | (simp; done) | (simp; omega)) [W_id, bys_app, bys_snoc, hb]
  omega
theorem dirs_len : ∀ (k n i : Nat), n ≤ 2 ^ k → (dirs n i).length ≤ k
  | 0, n, i, h => by rw [dirs_few (by simp at h; omega)]; simp
  | k + 1, n, i, h => by
    by_cases h2 : 2 ≤ n
    · have h0 : n - 1 ≠ 0 := by omega
      have hl : Nat.log2 (n - 1) < k + 1 := (Nat.log2_lt h0).2 (by omega)
      have hs : spl n ≤ 2 ^ k := Nat.pow_le_pow_right (by decide) (by omega)
      have ht := spl_twice h2
      rw [dirs_two h2]
      split
      · have := dirs_len k (spl n) i hs
        rw [List.length_cons]; omega
      · have := dirs_len k (n - spl n) (i - spl n) (by omega)
        rw [List.length_cons]; omega
    · rw [dirs_few h2]; simp
def dsc2 : CW := ⟨[2], [10], [], fun ds bs => ∃ n i : Nat, i < n ∧ n ≤ 9223372036854775807 ∧ ds = [i64 n, i64 i, .fn 186 [] [.bp 10 0]] ∧ bs 10 = [ownB none []], fun _ _ => .tup [],
  fun ds _ _ => [ownB none (dirs (asI (nth ds 0)).toNat (asI (nth ds 1)).toNat)]⟩
@[simp] theorem dsc2_hold : dsc2.hold = [2] := rfl
@[simp] theorem dsc2_bx : dsc2.bx = [10] := rfl
@[simp] theorem dsc2_nb : dsc2.nb = [] := rfl
@[simp] theorem dsc2_post (ds : List AVal) (bs : Nat → List AVal) : dsc2.post ds bs = .tup [] := rfl
@[simp] theorem dsc2_out (n i : Nat) (y : AVal) (bs : Nat → List AVal) (j : Nat) : dsc2.out [i64 n, i64 i, y] bs j = [ownB none (dirs n i)] := by
  show [ownB none (dirs (Int.toNat (n : Int)) (Int.toNat (i : Int)))] = _
  rw [Int.toNat_natCast, Int.toNat_natCast]
structure Way2 where
  a : Nat
  n : Nat
  d : List Bool
set_option maxHeartbeats 8000000 in
theorem dsc2_ok (E : Env) (h167 : E.G 167 = splC) (h186 : E.M 186 = in1M) : ∀ ds bs p, dsc2.pre ds bs → ds.length = f_merkle_descend_merkle_inputs_1.n ∧ awp E f_merkle_descend_merkle_inputs_1.body (retW f_merkle_descend_merkle_inputs_1.res dsc2 p ds bs) (initW dsc2 p ds bs) := by
  rintro _ bs p ⟨n0, i, hi, hn0, rfl, hb0⟩
  have hlen := dirs_len 63 n0 i (by omega)
  simp (maxSteps := 1000000) (disch := first | omega | (simp; done) | (simp; omega)) [W_id, bys_app, bys_snoc, f_merkle_descend_merkle_inputs_1, initW, envW, hb0]
  refine awp_name fun Q0 hQ0 => ?_
  refine awp_for (fun s : Way2 => ⟨[(2, .lit (p 2))], [(0, i64 s.n), (1, i64 i), (2, .fn 186 [] [.bp 10 0]), (6, i64 s.a)], [(10, some [ownB none s.d])]⟩) (fun s => s.n) (fun s => s.a + s.n ≤ n0 ∧ s.a ≤ i ∧ i < s.a + s.n ∧ s.d ++ dirs s.n (i - s.a) = dirs n0 i) ⟨0, n0, []⟩ rfl ⟨by simp, by simp, by simpa using hi, by simp⟩ fun s hs => ?_
  obtain ⟨a, n, d⟩ := s
  obtain ⟨han, hai, hin, hsb⟩ := hs
  simp only at han hai hin hsb ⊢
  have hdl : d.length ≤ 63 := by rw [← hsb, List.length_append] at hlen; omega
  refine awp_name fun Q1 hQ1 => ?_
  by_cases h2 : 2 ≤ n
  · have n2 : (1 : Int) < n := by omega
    have hk1 := spl_lt h2
    have hk0 := spl_pos n
    rw [dirs_two h2] at hsb
    generalize hK : spl n = k at *
    by_cases hik : i - a < k
    · have c1 : (i : Int) - a < k := by omega
      rw [if_pos hik] at hsb
      have x1 : ¬ ((a : Int) + k < a) := by omega
      simp (maxSteps := 1000000) (disch := first | omega | (simp; done) | (simp; omega)) [W_id, bys_app, bys_snoc, f_merkle_descend_merkle_inputs_1_l0, f_merkle_descend_merkle_inputs_1_r0, n2, c1, kT, kF, dT, dF, h167, hK, splC_pre, hQ1, h186, in1_pre, x1]
      exact ⟨⟨a, k, d ++ [false]⟩, by simp; omega, ⟨by simp; omega, hai, by simp; omega, by simpa using hsb⟩, ⟨rfl, rfl⟩, rfl⟩
    · have c1 : ¬ ((i : Int) - a < k) := by omega
      rw [if_neg hik, Nat.sub_sub] at hsb
      have x1 : (a : Int) < a + k := by omega
      simp (maxSteps := 1000000) (disch := first | omega | (simp; done) | (simp; omega)) [W_id, bys_app, bys_snoc, f_merkle_descend_merkle_inputs_1_l0, f_merkle_descend_merkle_inputs_1_r0, f_merkle_descend_merkle_inputs_1_r1, n2, c1, kT, kF, dT, dF, h167, hK, splC_pre, hQ1, h186, in1_pre, x1]
      exact ⟨⟨a + k, n - k, d ++ [true]⟩, by simp; omega, ⟨by simp; omega, by simp; omega, by simp; omega, by simpa using hsb⟩, ⟨by simp; omega, by simp⟩, rfl⟩
  · have n2 : ¬ ((1 : Int) < n) := by omega
    rw [dirs_few (by omega), List.append_nil] at hsb
    simp (maxSteps := 1000000) (disch := first | omega | (simp; done) | (simp; omega)) [W_id, bys_app, bys_snoc, f_merkle_descend_merkle_inputs_1_l0, n2, kT, kF, dT, dF, hQ1, hQ0, retW, hsb]
end Go.Abs
end

section
namespace Go.Abs
def prfA (p : List (List UInt8)) : AVal := .sl .plain (if p = [] then none else some false) p.length (bys (dgs p))
def prvI (l : List (List UInt8)) (i : Int) : Option (List (List UInt8)) := if 0 ≤ i ∧ i < l.length then some (prv l i.toNat) else none
def optA (o : Option (List (List UInt8))) : AVal := match o with | some p => .tup [prfA p, i64 0] | none => .tup [.sl .plain none 0 [], i64 11]
def prvC : Contract := ⟨fun ds => ∃ (nl : Option Bool) (l : List (List UInt8)) (i : Int), is16 l ∧ l.length ≤ 1000000 ∧ ds = [dgsA nl l, i64 i], fun ds => optA (prvI (gDs (nth ds 0)) (asI (nth ds 1)))⟩
theorem prvC_post {nl : Option Bool} {l : List (List UInt8)} (h : is16 l) (i : Int) : prvC.post [dgsA nl l, i64 i] = optA (prvI l i) := by
  show optA (prvI (gDs (dgsA nl l)) i) = _
  rw [dgsA, gDs_dgs h]
attribute [local simp] wBox fnd
def thB (b i id : Nat) (x : Option (List AVal)) (box : List (Nat × Option (List AVal))) : List (Nat × Option (List AVal)) :=
  match x with | some bs => (match bs.getD i .undef with | .sl (.own e) _ n cs => (b, some (bs.set i (.bv id e 0 n n))) :: (id, some cs) :: box | _ => box) | none => box
@[simp] theorem thawB_mk (b i id : Nat) (o e : List (Nat × AVal)) (box : List (Nat × Option (List AVal))) : runGhost (.thawB b i id) ⟨o, e, box⟩ = ⟨o, e, thB b i id (ASt.getB ⟨o, e, box⟩ b) box⟩ := by
  simp only [runGhost, thB]
  split
  · split <;> simp_all
  · simp_all
@[simp] theorem thB_one (b id e n : Nat) (nl : Option Bool) (cs : List AVal) (box : List (Nat × Option (List AVal))) : thB b 0 id (some [.sl (.own e) nl n cs]) box = (b, some [.bv id e 0 n n]) :: (id, some cs) :: box := rfl
def thS (s id : Nat) (d : AVal) (st : ASt) : ASt := match d with | .sl (.own e) _ n cs => { st with env := (s, .bv id e 0 n n) :: st.env, box := (id, some cs) :: st.box } | _ => st
@[simp] theorem thaw_mk (s id : Nat) (o e : List (Nat × AVal)) (box : List (Nat × Option (List AVal))) : runGhost (.thaw s id) ⟨o, e, box⟩ = thS s id (ASt.get ⟨o, e, box⟩ s) ⟨o, e, box⟩ := rfl
@[simp] theorem thS_own (s id k n : Nat) (nl : Option Bool) (cs : List AVal) (o e : List (Nat × AVal)) (box : List (Nat × Option (List AVal))) : thS s id (.sl (.own k) nl n cs) ⟨o, e, box⟩ = ⟨o, (s, .bv id k 0 n n) :: e, (id, some cs) :: box⟩ := rfl
@[simp] theorem renL_bys (m : List (Nat × Nat)) : ∀ l : List UInt8, renL m (bys l) = bys l
  | [] => rfl
  | x :: l => by show ren m (u8 x) :: renL m (bys l) = _; rw [renL_bys m l]; rfl
@[simp] theorem renL_bos (m : List (Nat × Nat)) : ∀ l : List Bool, renL m (bos l) = bos l
  | [] => rfl
  | x :: l => by show ren m (bo x) :: renL m (bos l) = _; rw [renL_bos m l]; rfl
@[simp] theorem deepL_bys (ids : List Nat) (bx : Nat → List AVal) : ∀ l : List UInt8, deepL ids bx (bys l) = bys l
  | [] => rfl
  | x :: l => by show deep ids bx (u8 x) :: deepL ids bx (bys l) = _; rw [deepL_bys ids bx l]; rfl
@[simp] theorem frmT_bp (id o : Nat) : frmT (.bp id o) = true := rfl
@[simp] theorem frmT_undef : frmT .undef = true := rfl
@[simp] theorem frmT_lit (v : Value) : frmT (.lit v) = true := rfl
@[simp] theorem frmT_bv (id e o n c : Nat) : frmT (.bv id e o n c) = true := rfl
theorem frmT_bys (l : List UInt8) : (∀ c ∈ bys l, frmT c = true) = True := eq_true fun c hc => by
  obtain ⟨x, _, rfl⟩ := List.mem_map.1 hc
  rfl
@[simp] theorem memFreeL_bos : ∀ l : List Bool, memFreeL (bos l) = true
  | [] => rfl
  | x :: l => by show (memFree (bo x) && memFreeL (bos l)) = true; rw [memFreeL_bos l]; rfl
theorem revW_pre {n : Nat} {bs : Nat → List AVal} {l : List (List UInt8)} (h : is16 l) (h0 : 0 < l.length) (hl : l.length ≤ 1000000) (hn : n = l.length) (hb : bs 0 = bys (dgs l)) : revW.pre [.bv 0 16 0 n n] bs = True := eq_true ⟨l, h, h0, hl, by rw [hn], hb⟩
theorem revW_out {bs : Nat → List AVal} {l : List (List UInt8)} (h : is16 l) (hb : bs 0 = bys (dgs l)) (j : Nat) : revW.out [.bv 0 16 0 l.length l.length] bs j = bys (dgs l.reverse) := by
  simp only [revW, hb, nth]
  rw [show slen ([AVal.bv 0 16 0 l.length l.length].getD 0 .undef) = l.length from rfl, show gBs (bys (dgs l)) = dgs l by simp, chunk_dgs h]
theorem dsc1_pre {nl : Option Bool} {l : List (List UInt8)} {i : Nat} {bs : Nat → List AVal} (h : is16 l) (hl : l.length ≤ 1000000) (hi : i < l.length) (hb : bs 10 = [.sl (.own 16) none 0 []]) (hb' : bs 11 = [.sl .plain nl l.length (bys (dgs l))]) : dsc1.pre [i64 l.length, i64 i, .fn 159 [] [.bp 10 0, .bp 11 0]] bs = True := eq_true ⟨nl, l, i, h, hl, hi, rfl, hb, hb'⟩
theorem dsc1_o10 {nl : Option Bool} {l : List (List UInt8)} {bs : Nat → List AVal} (h : is16 l) (hb : bs 11 = [.sl .plain nl l.length (bys (dgs l))]) (x : AVal) (i : Nat) (y : AVal) : dsc1.out [x, i64 i, y] bs 10 = [.sl (.own 16) none (sibs l i).length (bys (dgs (sibs l i)))] := dsc1_out10 (nl := nl) h hb x i y
set_option maxHeartbeats 8000000 in
theorem prv_ok (E : Env) (hC160 : E.C 160 = dsc1) (hC161 : E.C 161 = revW) (h162 : E.G 162 = revE) : ∀ ds, prvC.pre ds → ds.length = f_merkle_Prove.n ∧ awp E f_merkle_Prove.body (retQ f_merkle_Prove.res (prvC.post ds)) (initSt f_merkle_Prove.wr ds) := by
  rintro _ ⟨nl, l, i, h, hl, rfl⟩
  rw [prvC_post h]
  have hd := dgs_len h
  by_cases hi : 0 ≤ i ∧ i < l.length
  · obtain ⟨k, rfl⟩ := Int.eq_ofNat_of_zero_le hi.1
    have hk : k < l.length := by omega
    rw [prvI, if_pos hi, Int.toNat_natCast]
    have c1 : ¬ ((k : Int) < 0) := by omega
    have c2 : ¬ ((l.length : Int) ≤ k) := by omega
    simp (maxSteps := 1000000) (disch := first | omega | (simp; done) | (simp; omega)) [W_id, bys_app, bys_snoc, f_merkle_Prove, c1, c2, kT, kF, dT, dF, dgsA]
    rw [f_merkle_Prove_r0]
    simp (maxSteps := 1000000) (disch := first | omega | (simp; done) | (simp; omega)) [W_id, bys_app, bys_snoc, okW, effW, hC160, wArg, okWA, dsc1_pre (nl := nl) h hl hk, dsc1_o10 (nl := nl) h, dsc1_out11]
    have hS := is16_sibs l k
    have hSl := sibs_len l k
    rw [prv_sibs]
    generalize sibs l k = S at *
    have hdS := dgs_len hS
    by_cases hn : S = []
    · subst hn
      refine .inr ?_
      simp (maxSteps := 1000000) (disch := first | omega | (simp; done) | (simp; omega)) [W_id, bys_app, bys_snoc, h162, revE, optA, prfA]
    · have h0 : 0 < S.length := List.length_pos_iff.2 hn
      refine .inl ?_
      simp (maxSteps := 1000000) (disch := first | omega | (simp; done) | (simp; omega)) [W_id, bys_app, bys_snoc, hC161, okW, effW, wArg, okWA, h0, hdS, revW_pre hS h0, revW_out hS, hn, optA, prfA]
      exact List.take_of_length_le (by rw [dgs_len (is16_rev hS), List.length_reverse]; omega)
  · rw [prvI, if_neg hi]
    by_cases hi0 : i < 0
    · simp (maxSteps := 1000000) (disch := first | omega | (simp; done) | (simp; omega)) [W_id, bys_app, bys_snoc, f_merkle_Prove, hi0, kT, kF, dT, dF, dgsA, optA]
    · have c2 : (l.length : Int) ≤ i := by omega
      simp (maxSteps := 1000000) (disch := first | omega | (simp; done) | (simp; omega)) [W_id, bys_app, bys_snoc, f_merkle_Prove, hi0, c2, kT, kF, dT, dF, dgsA, optA]
end Go.Abs
end
