/- Lemmas: an abstract interpreter, and what the functions compute. -/
import Derived.Test.YtclloimacncjgaaDoorL
import Derived.Test.YtclloimacncjgaaDoorK
import Derived.Test.YtclloimacncjgaaDoorT
import Derived.Test.YtclloimacncjgaaDoorE
set_option linter.unusedSimpArgs false
set_option linter.unusedVariables false
set_option linter.unusedSectionVars false
section
namespace Go.Abs
set_option maxRecDepth 100000
def onesC : Contract := ⟨fun ds => ∃ x : UInt64, ds = [u64 x], fun ds => i64 (oN (asI (nth ds 0)).toNat)⟩
@[simp] theorem onesC_pre (x : UInt64) : onesC.pre [u64 x] = True := eq_true ⟨x, rfl⟩
@[simp] theorem onesC_post (x : UInt64) : onesC.post [u64 x] = i64 (oN x.toNat) := by
  show i64 (oN ((x.toNat : Int)).toNat) = _
  rw [Int.toNat_natCast]
theorem u1_nat (x : UInt64) {k c : Nat} (hk : k < 64) (hc : c < 2 ^ 64) (h : (x.toNat / 2 ^ k &&& c) + (x.toNat &&& c) < 2 ^ 64) {c' : UInt64} (hc' : c'.toNat = c) : ((shr64 x k &&& c') + (x &&& c')).toNat = (x.toNat / 2 ^ k &&& c) + (x.toNat &&& c) := by
  rw [UInt64.toNat_add, UInt64.toNat_and, UInt64.toNat_and, shr_toNat x k hk, hc', Nat.mod_eq_of_lt h]
theorem u3_nat (x : UInt64) {k c : Nat} (hk : k < 64) (h : x.toNat / 2 ^ k + x.toNat < 2 ^ 64) {c' : UInt64} (hc' : c'.toNat = c) : ((shr64 x k + x) &&& c').toNat = (x.toNat / 2 ^ k + x.toNat) &&& c := by
  rw [UInt64.toNat_and, UInt64.toNat_add, shr_toNat x k hk, hc', Nat.mod_eq_of_lt h]
theorem u4_nat (x : UInt64) {k : Nat} (hk : k < 64) (h : x.toNat + x.toNat / 2 ^ k < 2 ^ 64) : (x + shr64 x k).toNat = x.toNat + x.toNat / 2 ^ k := by
  rw [UInt64.toNat_add, shr_toNat x k hk, Nat.mod_eq_of_lt h]
theorem andI_127 (z : Int) : andI z 127 = z % 128 := by
  have h : (BitVec.ofInt 64 z &&& BitVec.ofInt 64 127).toNat = (z % 128).toNat := by
    rw [BitVec.toNat_and, show (BitVec.ofInt 64 127).toNat = 2 ^ 7 - 1 from rfl, Nat.and_two_pow_sub_one_eq_mod, BitVec.toNat_ofInt]
    omega
  rw [andI, h, W_id] <;> omega
theorem W_mod (z : Nat) : W (z : Int) % 128 = ((z % 128 : Nat) : Int) := by
  unfold W IntKind.wrap IntKind.bits IntKind.signed
  simp only
  split <;> omega
def u1 (x : UInt64) : UInt64 := (shr64 x 1 &&& 6148914691236517205) + (x &&& 6148914691236517205)
def u2 (x : UInt64) : UInt64 := (shr64 x 2 &&& 3689348814741910323) + (x &&& 3689348814741910323)
def u3 (x : UInt64) : UInt64 := (shr64 x 4 + x) &&& 1085102592571150095
def u4 (k : Nat) (x : UInt64) : UInt64 := x + shr64 x k
theorem ones_u (x : UInt64) : (u4 32 (u4 16 (u4 8 (u3 (u2 (u1 x)))))).toNat % 128 = oN x.toNat := by
  obtain ⟨a1, a2, a3, p0, p1, p2, p3, p4, p5, p6, p7, ⟨q0, q1, q2, q3⟩, ⟨q4, q5, q6, q7⟩, e, o⟩ := swar (x := x.toNat) x.toNat_lt
  have e1 : (u1 x).toNat = sB1 x.toNat := u1_nat x (k := 1) (c := 6148914691236517205) (by decide) (by decide) a1 rfl
  have e2 : (u2 (u1 x)).toNat = sB2 (sB1 x.toNat) := by rw [u2, u1_nat (u1 x) (k := 2) (c := 3689348814741910323) (by decide) (by decide) (by rw [e1]; exact a2) rfl, e1]; rfl
  have e3 : (u3 (u2 (u1 x))).toNat = sB3 (sB2 (sB1 x.toNat)) := by rw [u3, u3_nat (u2 (u1 x)) (k := 4) (c := 1085102592571150095) (by decide) (by rw [e2]; exact a3) rfl, e2]; rfl
  rw [e] at e3
  generalize u3 (u2 (u1 x)) = y at e3
  obtain ⟨b1, b2, b3, b4⟩ := sum8 q0 q1 q2 q3 q4 q5 q6 q7 rfl rfl rfl
  have f1 : (u4 8 y).toNat = y.toNat + y.toNat / 256 := u4_nat y (k := 8) (by decide) (by rw [e3]; exact b1)
  have f2 : (u4 16 (u4 8 y)).toNat = (u4 8 y).toNat + (u4 8 y).toNat / 65536 := u4_nat _ (k := 16) (by decide) (by rw [f1, e3]; exact b2)
  have f3 : (u4 32 (u4 16 (u4 8 y))).toNat = (u4 16 (u4 8 y)).toNat + (u4 16 (u4 8 y)).toNat / 4294967296 := u4_nat _ (k := 32) (by decide) (by rw [f2, f1, e3]; exact b3)
  rw [f3, f2, f1, e3, b4, o]
theorem ones64_ok (E : Env) : ∀ ds, onesC.pre ds → ds.length = f_bits_OnesCount64.n ∧ awp E f_bits_OnesCount64.body (retQ f_bits_OnesCount64.res (onesC.post ds)) (initSt f_bits_OnesCount64.wr ds) := by
  rintro _ ⟨x, rfl⟩
  rw [onesC_post]
  have f1 : ∀ x : UInt64, (shr64 x 1 &&& 6148914691236517205) + (x &&& 6148914691236517205) = u1 x := fun _ => rfl
  have f2 : ∀ x : UInt64, (shr64 x 2 &&& 3689348814741910323) + (x &&& 3689348814741910323) = u2 x := fun _ => rfl
  have f3 : ∀ x : UInt64, (shr64 x 4 + x) &&& 1085102592571150095 = u3 x := fun _ => rfl
  have f4 : ∀ x : UInt64, x + shr64 x 8 = u4 8 x := fun _ => rfl
  have f5 : ∀ x : UInt64, x + shr64 x 16 = u4 16 x := fun _ => rfl
  have f6 : ∀ x : UInt64, x + shr64 x 32 = u4 32 x := fun _ => rfl
  have hu := ones_u x
  simp (maxSteps := 1000000) (disch := first | omega | (simp; done) | (simp; omega)) [W_id, bys_app, bys_snoc, f_bits_OnesCount64, f1, f2, f3, f4, f5, f6]
  generalize u4 32 (u4 16 (u4 8 (u3 (u2 (u1 x))))) = y at *
  rw [andI_127, W_mod, hu]
theorem ones_ok (E : Env) (h194 : E.G 194 = onesC) : ∀ ds, onesC.pre ds → ds.length = f_bits_OnesCount.n ∧ awp E f_bits_OnesCount.body (retQ f_bits_OnesCount.res (onesC.post ds)) (initSt f_bits_OnesCount.wr ds) := by
  rintro _ ⟨x, rfl⟩
  rw [onesC_post]
  simp (maxSteps := 1000000) (disch := first | omega | (simp; done) | (simp; omega)) [W_id, bys_app, bys_snoc, f_bits_OnesCount, f_bits_OnesCount_r0, h194, cndF]
/-! ### Zeros at the end -/
def dbT : List UInt8 := [0, 1, 56, 2, 57, 49, 28, 3, 61, 58, 42, 50, 38, 29, 17, 4, 62, 47, 59, 36, 45, 43, 51, 22, 53, 39, 33, 30, 24, 18, 12, 5, 63, 55, 48, 27, 60, 41, 37, 16, 46, 35, 44, 21, 52, 32, 23, 11, 54, 26, 40, 15, 34, 20, 31, 10, 25, 14, 19, 9, 13, 8, 7, 6]
theorem dbT_all : ∀ k : Fin 64, 2 ^ k.1 * 285870213051353865 % 2 ^ 64 / 2 ^ 58 < 64 ∧ (dbT.getD (2 ^ k.1 * 285870213051353865 % 2 ^ 64 / 2 ^ 58) 0).toNat = k.1 := by decide +kernel
@[simp] theorem un_u64_neg (x : UInt64) : unV .neg (u64 x) = u64 (-x) := lit_u64 (by
  rw [UInt64.toNat_neg]
  have := x.toNat_lt
  have hz : UInt64.size = 18446744073709551616 := rfl
  rw [hz]
  simp only [IntKind.wrap, IntKind.bits, IntKind.signed]
  simp
  omega)
@[simp] theorem unOk_neg64 (x : UInt64) : unOk .neg (u64 x) = True := rfl
def tzC : Contract := ⟨fun ds => ∃ x : UInt64, x ≠ 0 ∧ ds = [u64 x], fun ds => i64 (tzN (asI (nth ds 0)).toNat)⟩
theorem tzC_pre {x : UInt64} (h : x ≠ 0) : tzC.pre [u64 x] = True := eq_true ⟨x, h, rfl⟩
@[simp] theorem tzC_post (x : UInt64) : tzC.post [u64 x] = i64 (tzN x.toNat) := by
  show i64 (tzN ((x.toNat : Int)).toNat) = _
  rw [Int.toNat_natCast]
theorem low_one {x : UInt64} (h : x ≠ 0) : (x &&& -x).toNat = 2 ^ tzN x.toNat := by
  have h0 : 0 < x.toNat := by
    rcases Nat.eq_zero_or_pos x.toNat with e | e
    · exact absurd (UInt64.toNat_inj.1 (by rw [e]; rfl)) h
    · exact e
  rw [UInt64.toNat_and, UInt64.toNat_neg, show UInt64.size = 2 ^ 64 from rfl, Nat.mod_eq_of_lt (by omega)]
  exact land_neg 64 _ h0 x.toNat_lt
theorem db_at {x c : UInt64} (h : x ≠ 0) (hc : c.toNat = 285870213051353865) : (shr64 ((x &&& -x) * c) 58).toNat < 64 ∧ (dbT.getD (shr64 ((x &&& -x) * c) 58).toNat 0).toNat = tzN x.toNat := by
  have h0 : 0 < x.toNat := by
    rcases Nat.eq_zero_or_pos x.toNat with e | e
    · exact absurd (UInt64.toNat_inj.1 (by rw [e]; rfl)) h
    · exact e
  rw [shr_toNat _ _ (by decide), UInt64.toNat_mul, low_one h, hc]
  exact dbT_all ⟨tzN x.toNat, tzN_lt 64 _ h0 x.toNat_lt⟩
theorem tz64_w (E : Env) (hT3 : E.T 3 = bys dbT) {x c : UInt64} (h : x ≠ 0) (hc : c.toNat = 285870213051353865) (he : c = 285870213051353865) {Q0 : AExit → ASt → Prop} (hQ0 : Q0 = retQ [ARes.t 2] (i64 (tzN x.toNat))) : awp E f_bits_TrailingZeros64_r0 Q0 ⟨[(0, u64 x)], [(2, i64 0)], []⟩ := by
  obtain ⟨h1, h2⟩ := db_at h hc
  unfold f_bits_TrailingZeros64_r0
  rw [← he]
  clear he
  generalize hs : shr64 ((x &&& -x) * c) 58 = s at *
  have hl : dbT.length = 64 := rfl
  have h3 : hdA (bys (List.drop s.toNat dbT)) = u8 (at8 dbT s.toNat) := hd_bys (by rw [hl]; exact h1)
  have h4 : (at8 dbT s.toNat).toNat = tzN x.toNat := h2
  have h5 : (s.toNat : Int) < 64 := by omega
  simp (maxSteps := 1000000) (disch := first | omega | (simp; done) | (simp; omega)) [W_id, bys_app, bys_snoc, hs, hT3, h3, h4, h5, hl, hQ0]
  omega
theorem tz64_ok (E : Env) (hT3 : E.T 3 = bys dbT) : ∀ ds, tzC.pre ds → ds.length = f_bits_TrailingZeros64.n ∧ awp E f_bits_TrailingZeros64.body (retQ f_bits_TrailingZeros64.res (tzC.post ds)) (initSt f_bits_TrailingZeros64.wr ds) := by
  rintro _ ⟨x, hx, rfl⟩
  rw [tzC_post]
  have e0 : (x = 0) = False := eq_false hx
  simp (maxSteps := 1000000) (disch := first | omega | (simp; done) | (simp; omega)) [W_id, bys_app, bys_snoc, f_bits_TrailingZeros64, e0, kT, kF, dT, dF]
  exact tz64_w E hT3 hx rfl rfl rfl
theorem tz_ok (E : Env) (h190 : E.G 190 = tzC) : ∀ ds, tzC.pre ds → ds.length = f_bits_TrailingZeros.n ∧ awp E f_bits_TrailingZeros.body (retQ f_bits_TrailingZeros.res (tzC.post ds)) (initSt f_bits_TrailingZeros.wr ds) := by
  rintro _ ⟨x, hx, rfl⟩
  rw [tzC_post]
  simp (maxSteps := 1000000) (disch := first | omega | (simp; done) | (simp; omega)) [W_id, bys_app, bys_snoc, f_bits_TrailingZeros, f_bits_TrailingZeros_r0, h190, cndF, tzC_pre hx]
end Go.Abs
end

section
namespace Go.Abs
set_option maxRecDepth 100000
@[simp] theorem zeros_take (n : Nat) : (zeros n).take n = zeros n := List.take_of_length_le (by simp)
def cloC : Contract := ⟨fun ds => ∃ (nl : Option Bool) (l : List (List UInt8)), is16 l ∧ l.length ≤ 1000000 ∧ ds = [dgsA nl l], fun ds => ownA none (gDs (nth ds 0))⟩
theorem cloC_pre {nl : Option Bool} {l : List (List UInt8)} {b : List UInt8} {n : Nat} (h : is16 l) (hl : l.length ≤ 1000000) (hn : n = l.length) (hb : b = dgs l) : cloC.pre [.sl .plain nl n (bys b)] = True := eq_true ⟨nl, l, h, hl, by rw [hn, hb]; rfl⟩
theorem cloC_post {m : Mode} {nl : Option Bool} {l : List (List UInt8)} {b : List UInt8} {n : Nat} (h : is16 l) (hn : n = l.length) (hb : b = dgs l) : cloC.post [.sl m nl n (bys b)] = .sl (.own 16) none l.length (bys (dgs l)) := by
  simp only [cloC, ownA]
  rw [hn, hb, show nth [AVal.sl m nl l.length (bys (dgs l))] 0 = AVal.sl m nl l.length (bys (dgs l)) from rfl, gDs_dgs h]
def cloN : Contract := ⟨fun ds => cloC.pre ds ∧ ∀ d, ds[0]? = some d → okNil d, cloC.post⟩
set_option maxHeartbeats 4000000 in
theorem cloN_ok (E : Env) : ∀ ds, cloN.pre ds → ds.length = f_slices_CloneN.n ∧ awp E f_slices_CloneN.body (retQ f_slices_CloneN.res (cloN.post ds)) (initSt f_slices_CloneN.wr ds) := by
  rintro _ ⟨⟨nl, l, hl, hn, rfl⟩, hk⟩
  have hk := hk _ rfl
  rw [show cloN.post [dgsA nl l] = ownA none l from cloC_post hl rfl rfl]
  unfold dgsA at *
  match nl, hk with
  | some true, hk =>
    have h0 : l = [] := List.length_eq_zero_iff.1 hk.1
    subst h0
    simp (maxSteps := 1000000) (disch := first | omega | (simp; done) | (simp; omega)) [W_id, bys_app, bys_snoc, f_slices_CloneN, ownA, kT]
  | some false, _ =>
    have e := dgs_len hl
    simp (maxSteps := 1000000) (disch := first | omega | (simp; done) | (simp; omega)) [W_id, bys_app, bys_snoc, f_slices_CloneN, f_slices_CloneN_r0, ownA, e, kF]
    try omega
theorem cloN_nil : ∀ ds d b, cloC.pre ds → ds[0]? = some d → cloC.pre (ds.set 0 (nilV b d)) ∧ cloC.post (ds.set 0 (nilV b d)) = cloC.post ds := by
  rintro _ d b ⟨nl, l, hl, hn, rfl⟩ hd
  simp only [List.getElem?_cons_zero, Option.some.injEq] at hd
  subst hd
  cases nl with
  | none => exact ⟨⟨some b, l, hl, hn, rfl⟩, by rw [show [dgsA none l].set 0 (nilV b (dgsA none l)) = [dgsA (some b) l] from rfl]; exact (cloC_post hl rfl rfl).trans (cloC_post hl rfl rfl).symm⟩
  | some c => exact ⟨⟨some c, l, hl, hn, rfl⟩, rfl⟩
/-! ### valid -/
def okP (n : Int) (k : Nat) : Bool := decide (0 ≤ n) && decide (n ≤ 4294967296) && decide (k = oN n.toNat)
def pkA (n : Int) (nl : Option Bool) (l : List (List UInt8)) : AVal := .agg [i64 n, dgsA nl l]
def gPn (d : AVal) : Int := match d with | .agg (i :: _) => asI i | _ => 0
def gPl (d : AVal) : List (List UInt8) := match d with | .agg [_, s] => gDs s | _ => []
@[simp] theorem gPn_pkA (n : Int) (s : AVal) : gPn (.agg [i64 n, s]) = n := rfl
@[simp] theorem gPl_pkA (n : Int) (s : AVal) : gPl (.agg [i64 n, s]) = gDs s := rfl
def inI (n : Int) : Prop := -9223372036854775808 ≤ n ∧ n ≤ 9223372036854775807
def valC : Contract := ⟨fun ds => ∃ (n : Int) (nl : Option Bool) (l : List (List UInt8)), inI n ∧ is16 l ∧ l.length ≤ 1000000 ∧ ds = [pkA n nl l], fun ds => bo (okP (gPn (nth ds 0)) (gPl (nth ds 0)).length)⟩
theorem valC_pre {n : Int} {nl : Option Bool} {l : List (List UInt8)} {b : List UInt8} {k : Nat} (hn : inI n) (h : is16 l) (hl : l.length ≤ 1000000) (hk : k = l.length) (hb : b = dgs l) : valC.pre [.agg [i64 n, .sl .plain nl k (bys b)]] = True := eq_true ⟨n, nl, l, hn, h, hl, by rw [hk, hb]; rfl⟩
theorem valC_post {n : Int} {m : Mode} {nl : Option Bool} {l : List (List UInt8)} {b : List UInt8} {k : Nat} (h : is16 l) (hk : k = l.length) (hb : b = dgs l) : valC.post [.agg [i64 n, .sl m nl k (bys b)]] = bo (okP n l.length) := by
  simp only [valC]
  rw [hk, hb, show nth [AVal.agg [i64 n, .sl m nl l.length (bys (dgs l))]] 0 = AVal.agg [i64 n, .sl m nl l.length (bys (dgs l))] from rfl, gPn_pkA, gPl_pkA, gDs_dgs h]
theorem ofInt_nat {n : Int} (h0 : 0 ≤ n) (h1 : n < 18446744073709551616) : (UInt64.ofInt n).toNat = n.toNat := by
  obtain ⟨k, rfl⟩ := Int.eq_ofNat_of_zero_le h0
  show (((k : Int) % 18446744073709551616).toNat % 18446744073709551616) = k
  omega
set_option maxHeartbeats 4000000 in
theorem val_ok (E : Env) (h188 : E.G 188 = onesC) : ∀ ds, valC.pre ds → ds.length = f_merkle_valid.n ∧ awp E f_merkle_valid.body (retQ f_merkle_valid.res (valC.post ds)) (initSt f_merkle_valid.wr ds) := by
  rintro _ ⟨n, nl, l, ⟨hn1, hn2⟩, hl, hk, rfl⟩
  rw [show valC.post [pkA n nl l] = bo (okP n l.length) from valC_post hl rfl rfl]
  unfold pkA dgsA
  by_cases h0 : 0 ≤ n
  · by_cases h1 : n ≤ 4294967296
    · simp (maxSteps := 1000000) (disch := first | omega | (simp; done) | (simp; omega)) [W_id, bys_app, bys_snoc, f_merkle_valid, h188, dT, dF, h0, h1]
      rw [show (UInt64.ofInt n).toNat = n.toNat from ofInt_nat h0 (by omega)]
      simp only [okP, dT h0, dT h1, Bool.true_and]
      by_cases e : l.length = oN n.toNat
      · rw [e]; simp
      · rw [dF e]; simp; omega
    · simp (maxSteps := 1000000) (disch := first | omega | (simp; done) | (simp; omega)) [W_id, bys_app, bys_snoc, f_merkle_valid, h188, dT, dF, h0, h1]
      simp only [okP, dF h1]; simp
  · simp (maxSteps := 1000000) (disch := first | omega | (simp; done) | (simp; omega)) [W_id, bys_app, bys_snoc, f_merkle_valid, h188, dT, dF, h0]
    simp only [okP, dF h0]; simp
end Go.Abs
end

section
namespace Go.Abs
set_option maxRecDepth 100000
def bwdM : CM := ⟨[], [1], fun ds => ∃ (nl : Option Bool) (l : List (List UInt8)), is16 l ∧ l.length ≤ 1000000 ∧ ds = [dgsA nl l], fun _ => .fn 184 [] [.bp 1 0], fun ds _ => [nth ds 0]⟩
@[simp] theorem bwdM_bx : bwdM.bx = [] := rfl
@[simp] theorem bwdM_nb : bwdM.nb = [1] := rfl
@[simp] theorem bwdM_post (ds : List AVal) : bwdM.post ds = .fn 184 [] [.bp 1 0] := rfl
@[simp] theorem bwdM_out (d : AVal) (j : Nat) : bwdM.out [d] j = [d] := rfl
theorem bwdM_pre {nl : Option Bool} {l : List (List UInt8)} {b : List UInt8} {n : Nat} (h : is16 l) (hl : l.length ≤ 1000000) (hn : n = l.length) (hb : b = dgs l) : bwdM.pre [.sl .plain nl n (bys b)] = True := eq_true ⟨nl, l, h, hl, by rw [hn, hb]; rfl⟩
set_option maxHeartbeats 4000000 in
theorem bwd_ok (E : Env) : ∀ ds p, bwdM.pre ds → ds.length = f_slices_Backward.n ∧ awp E f_slices_Backward.body (retM f_slices_Backward.res bwdM p ds) (initM bwdM.bx p ds) := by
  rintro _ p ⟨nl, l, hl, hn, rfl⟩
  have e : (pureB (dgsA nl l) = true) := rfl
  simp (maxSteps := 1000000) (disch := first | omega | (simp; done) | (simp; omega)) [f_slices_Backward, initM, retM, dgsA]
@[simp] theorem iwp_seqb (E : Env) (l : Nat) (el : Nat → Option (List AVal)) (i : Nat) (a b : ICode) (Q : IQ) (p : Nat × Bool) (s : ASt) : iwpL E l el (.seq (.block i a) b) Q p s = iwpL E l el (.block i a) (thenI (fun p st => iwpL E l el b Q p st) Q) p s := rfl
theorem iwp_loopR {E : Env} {l : Nat} {el : Nat → Option (List AVal)} {b : ICode} {Q : IQ} {p : Nat × Bool} {s : ASt} (I : Nat × Bool → ASt → Prop) (h0 : I p s)
    (h : ∀ p s, I p s → ∀ Q', (∀ p' s', I p' s' → p.2 = false → (p' = (p.1 + 1, false) ∨ p' = (p.1, true)) → Q' .normal p' s') → (∀ i p' s', Q' (.exit i) p' s' = Q (.exit i) p' s') → (∀ p' s', Q' .ret p' s' = Q .ret p' s') → iwpL E l el b Q' p s) : iwpL E l el (.loop b) Q p s :=
  ⟨I, h0, fun p s hi => h p s hi _ (fun p' s' h1 h2 h3 => ⟨h1, h2, h3⟩) (fun _ _ _ => rfl) (fun _ _ => rfl)⟩
def gSl (d : AVal) : List (List UInt8) := match d with | .ep [s] => gDs s | _ => []
def bwdI : ItC := ⟨fun x y => x = [] ∧ ∃ (nl : Option Bool) (l : List (List UInt8)), is16 l ∧ l.length ≤ 1000000 ∧ y = [.ep [dgsA nl l]], fun _ y i => if i < (gSl (nth y 0)).length then some [i64 (((gSl (nth y 0)).length : Int) - 1 - i), .agg (bys (dgAt (gSl (nth y 0)) ((gSl (nth y 0)).length - 1 - i)))] else none, []⟩
@[simp] theorem bwdI_lv : bwdI.lv = [] := rfl
theorem bwdI_el {nl : Option Bool} {l : List (List UInt8)} (h : is16 l) (i : Nat) : bwdI.el [] [.ep [.sl .plain nl l.length (bys (dgs l))]] i = if i < l.length then some [i64 ((l.length : Int) - 1 - i), .agg (bys (dgAt l (l.length - 1 - i)))] else none := by
  simp only [bwdI]
  rw [show gSl (nth [AVal.ep [.sl .plain nl l.length (bys (dgs l))]] 0) = gDs (.sl .plain nl l.length (bys (dgs l))) from rfl, gDs_dgs h]
theorem bwdI_pre {nl : Option Bool} {l : List (List UInt8)} (h : is16 l) (hl : l.length ≤ 1000000) : bwdI.pre [] [.ep [.sl .plain nl l.length (bys (dgs l))]] := ⟨rfl, nl, l, h, hl, rfl⟩
set_option maxHeartbeats 4000000 in
theorem bwdI_ok (E : Env) : ∀ x y l, bwdI.pre x y → x.length = f_slices_Backward_1.nx ∧ y.length = f_slices_Backward_1.ny ∧ iwpL E l (bwdI.el x y) f_slices_Backward_1.body (itQ (bwdI.el x y)) (0, false) (itSt l [] x y) := by
  rintro _ _ ln ⟨rfl, nl, l, h16, hn, rfl⟩
  have hel : ∀ i, bwdI.el [] [.ep [dgsA nl l]] i = if i < l.length then some [i64 ((l.length : Int) - 1 - i), .agg (bys (dgAt l (l.length - 1 - i)))] else none := bwdI_el h16
  refine ⟨rfl, rfl, ?_⟩
  generalize hQ : itQ (bwdI.el [] [.ep [dgsA nl l]]) = Q
  have hdone : ∀ p st', p.2 = true → Q .normal p st' := fun p st' h => by rw [← hQ]; exact .inl h
  have hend : ∀ p st', l.length ≤ p.1 → Q .normal p st' := fun p st' h => by rw [← hQ]; exact .inr (by rw [hel, if_neg (by omega)])
  have hQx : ∀ p st', p.2 = true → Q .ret p st' := fun p st' h => by rw [← hQ]; exact .inl h
  generalize bwdI.el [] [.ep [dgsA nl l]] = el at hel
  have hd := dgs_len h16
  unfold dgsA
  simp (maxSteps := 1000000) (disch := first | omega | (simp; done) | (simp; omega)) [W_id, bys_app, bys_snoc, f_slices_Backward_1, f_slices_Backward_1_i3, f_slices_Backward_1_p0, itSt_nil]
  refine iwp_name fun Q1 hQ1 => ?_
  refine iwp_loopR (fun p st' => p.2 = false ∧ p.1 ≤ l.length ∧ st' = ⟨[(0, AVal.lit (Value.func (Fn.yield ln) #[] #[])), (1, .ep [.sl .plain nl l.length (bys (dgs l))])], [(3, i64 ((l.length : Int) - 1 - p.1))], []⟩) ⟨rfl, Nat.zero_le _, by simp⟩ fun p st' ⟨hp, hk, hst⟩ Q2 h2 hx hr => ?_
  obtain ⟨i, b⟩ := p
  subst hst
  simp only at hp hk
  subst hp
  by_cases h : i < l.length
  · have hlt : (0 : Int) ≤ (l.length : Int) - 1 - i := by omega
    have hat := dgs_at h16 (show l.length - 1 - i < l.length by omega)
    have e1 : ((l.length : Int) - 1 - i).toNat = l.length - 1 - i := by omega
    simp (maxSteps := 1000000) (disch := first | omega | (simp; done) | (simp; omega)) [W_id, bys_app, bys_snoc, f_slices_Backward_1_i2, f_slices_Backward_1_p1, kT, kF, dT, dF, hlt]
    simp (maxSteps := 1000000) (disch := first | omega | (simp; done) | (simp; omega)) [W_id, bys_app, bys_snoc, f_slices_Backward_1_i1, hd, e1, hat, f_slices_Backward_1_i0, f_slices_Backward_1_p2, hel, or_imp, forall_and, and_imp, forall_eq]
    refine ⟨⟨by omega, by omega⟩, by omega, h, ?_, ?_⟩
    · simp (maxSteps := 1000000) (disch := first | omega | (simp; done) | (simp; omega)) [W_id, bys_app, bys_snoc, kT, kF]
      show Q2 .ret (i, true) _
      rw [hr, hQ1]
      exact hQx (i, true) _ rfl
    · simp (maxSteps := 1000000) (disch := first | omega | (simp; done) | (simp; omega)) [W_id, bys_app, bys_snoc, kT, kF]
      exact h2 (i + 1, false) _ ⟨rfl, by show i + 1 ≤ l.length; omega, by simp; omega⟩ rfl (.inl rfl)
  · have hlt : ¬ (0 : Int) ≤ (l.length : Int) - 1 - i := by omega
    simp (maxSteps := 1000000) (disch := first | omega | (simp; done) | (simp; omega)) [W_id, bys_app, bys_snoc, f_slices_Backward_1_i2, f_slices_Backward_1_p1, kT, kF, dT, dF, hlt, hx, hQ1]
    exact hend _ _ (by show l.length ≤ i; omega)
end Go.Abs
end

section
namespace Go.Abs
set_option maxRecDepth 100000
def topF (l : List (List UInt8)) : Nat → List UInt8
  | 0 => dgAt l (l.length - 1)
  | i + 1 => digOf 2 [dgAt l (l.length - 2 - i), topF l i]
def topP (n : Int) (l : List (List UInt8)) : List UInt8 × Nat := if okP n l.length then (if n = 0 then root [] else topF l (l.length - 1), 0) else (zeros 16, 1)
def topC : Contract := ⟨fun ds => ∃ (n : Int) (nl : Option Bool) (l : List (List UInt8)), inI n ∧ is16 l ∧ l.length ≤ 1000000 ∧ ds = [pkA n nl l], fun ds => .tup [.agg (bys (topP (gPn (nth ds 0)) (gPl (nth ds 0))).1), i64 (topP (gPn (nth ds 0)) (gPl (nth ds 0))).2]⟩
theorem topC_pre {n : Int} {nl : Option Bool} {l : List (List UInt8)} {b : List UInt8} {k : Nat} (hn : inI n) (h : is16 l) (hl : l.length ≤ 1000000) (hk : k = l.length) (hb : b = dgs l) : topC.pre [.agg [i64 n, .sl .plain nl k (bys b)]] = True := eq_true ⟨n, nl, l, hn, h, hl, by rw [hk, hb]; rfl⟩
theorem topC_post {n : Int} {m : Mode} {nl : Option Bool} {l : List (List UInt8)} {b : List UInt8} {k : Nat} (h : is16 l) (hk : k = l.length) (hb : b = dgs l) : topC.post [.agg [i64 n, .sl m nl k (bys b)]] = .tup [.agg (bys (topP n l).1), i64 (topP n l).2] := by
  simp only [topC]
  rw [hk, hb, show nth [AVal.agg [i64 n, .sl m nl l.length (bys (dgs l))]] 0 = AVal.agg [i64 n, .sl m nl l.length (bys (dgs l))] from rfl, gPn_pkA, gPl_pkA, gDs_dgs h]
theorem topF_len {l : List (List UInt8)} (h : is16 l) (h0 : 0 < l.length) : ∀ i, (topF l i).length = 16
  | 0 => dgAt_len h (by omega)
  | i + 1 => digOf_len _ _
theorem oN_pos {n : Nat} (h : 0 < n) : 0 < oN n := by
  induction n using Nat.strongRecOn with
  | ind n ih =>
    rw [oN_eq]
    by_cases h1 : n % 2 = 1
    · omega
    · have := ih (n / 2) (by omega) (by omega); omega
set_option maxHeartbeats 8000000 in
theorem top_w (E : Env) (h165 : E.G 165 = shM) (h169 : E.G 169 = nodeM) (hI184 : E.I 184 = bwdI) (h183 : E.M 183 = bwdM) {n : Int} {nl : Option Bool} {l : List (List UInt8)} (hn : inI n) (hl : is16 l) (hlen : l.length ≤ 1000000) (hpos : 0 < l.length) {Q0 : AExit → ASt → Prop}
    (hQ0 : Q0 = retQ [ARes.cell 2 (some 16) 2, ARes.t 3] (AVal.tup [AVal.agg (bys (topF l (l.length - 1))), i64 0])) : awp E f_merkle_Top_r1 Q0 ⟨[(0, AVal.agg [i64 n, AVal.sl Mode.plain nl l.length (bys (dgs l))])], [(1, AVal.bp 1 0), (2, AVal.bp 2 0)], [(1, some [i64 n, AVal.sl Mode.plain nl l.length (bys (dgs l))]), (2, some (bys (zeros 16)))]⟩ := by
  have hd := dgs_len hl
  have hat := dgs_at hl (show l.length - 1 < l.length by omega)
  have hal := dgAt_len hl (show l.length - 1 < l.length by omega)
  have e1 : ((l.length : Int) - 1).toNat = l.length - 1 := by omega
  have ht := dgs_take hl (l.length - 1)
  unfold f_merkle_Top_r1
  rw [awp_seq]
  refine awp_name fun Q1 hQ1 => ?_
  simp (maxSteps := 1000000) (disch := first | omega | (simp; done) | (simp; omega)) [W_id, bys_app, bys_snoc, e1, hd, hat, hal]
  rw [hQ1]
  show awp E _ _ _
  rw [awp_seq]
  refine awp_name fun Q2 hQ2 => ?_
  simp (maxSteps := 1000000) (disch := first | omega | (simp; done) | (simp; omega)) [W_id, bys_app, bys_snoc, e1, hd, hat, hal, splice_full]
  refine ⟨⟨by omega, by omega⟩, by omega, ?_⟩
  rw [hQ2]
  show awp E _ _ _
  rw [awp_seq]
  refine awp_name fun Q3 hQ3 => ?_
  rw [awp_seq]
  refine awp_name fun Q4 hQ4 => ?_
  have b1 : bwdM.pre [.sl .plain nl (l.length - 1) (bys (dgs (l.take (l.length - 1))))] = True := bwdM_pre (is16_take hl _) (by simp; omega) (by simp) rfl
  have di : ∀ (ids : List Nat) (f : Nat → List AVal) (k : Int), deep ids f (i64 k) = i64 k := fun _ _ _ => rfl
  simp (maxSteps := 1000000) (disch := first | omega | (simp; done) | (simp; omega)) [W_id, bys_app, bys_snoc, e1, hd, ht, h183, b1, di]
  refine ⟨⟨by omega, by omega⟩, ?_⟩
  rw [hQ4]
  show awp E _ _ _
  have hm : is16 (l.take (l.length - 1)) := is16_take hl _
  have hml : (l.take (l.length - 1)).length = l.length - 1 := by simp
  have hmat : ∀ i, i < l.length - 1 → dgAt (l.take (l.length - 1)) (l.length - 1 - 1 - i) = dgAt l (l.length - 2 - i) := fun i hi => by
    simp only [dgAt, List.getD, List.getElem?_take]
    rw [if_pos (by omega), show l.length - 1 - 1 - i = l.length - 2 - i by omega]
  have hel := fun i => bwdI_el (nl := nl) hm i
  rw [hml] at hel
  generalize hm0 : l.take (l.length - 1) = m at *
  refine awp_range0 [] [.ep [.sl .plain nl (l.length - 1) (bys (dgs m))]] (by simp) (by simp) (by rw [hI184]; rfl) (by rw [hI184]; have := bwdI_pre (nl := nl) hm (by omega); rw [hml] at this; exact this) (by simp) l.length (fun i bx => i ≤ l.length - 1 ∧ bx = [(1, some [i64 n, .sl .plain nl l.length (bys (dgs l))]), (2, some (bys (zeros 16))), (5, some (bys (topF l i)))]) ⟨Nat.zero_le _, rfl⟩ (fun i bx h => by omega) (fun i bx h he => ?_) (fun i bx xs hi he => ?_)
  · rw [hI184, hel] at he
    obtain ⟨hi, rfl⟩ := h
    split at he
    · cases he
    · have hii : i = l.length - 1 := by omega
      subst hii
      have tl := topF_len hl hpos (l.length - 1)
      have tk := take_l16 tl
      simp (maxSteps := 1000000) (disch := first | omega | (simp; done) | (simp; omega)) [W_id, bys_app, bys_snoc, rngSt, rngEnv, hQ3, f_merkle_Top_r2, tl, splice_full, hQ0, tk]
  · rw [hI184, hel] at he
    obtain ⟨hi, rfl⟩ := hi
    split at he
    · rename_i hlt
      have he' := (Option.some.inj he).symm
      subst he'
      have tl := topF_len hl hpos i
      refine ⟨rfl, by simp, fun V => ?_⟩
      have al := dgAt_len hl (show l.length - 2 - i < l.length by omega)
      rw [hmat i hlt]
      simp (maxSteps := 1000000) (disch := first | omega | (simp; done) | (simp; omega)) [W_id, bys_app, bys_snoc, rngSt, rngEnv, f_merkle_Top_a0, f_merkle_Top_b0, al, tl, splice_full, h169, h165, nodeM_pre, shM_pre, rngQ, rngEnd, take_l16]
      exact ⟨of_eq_true (shM_pre (by have := inq_len (t := 2) (is16_two al tl); simp only [List.length_cons, List.length_nil] at this; omega) rfl), by omega, rfl⟩
    · cases he
set_option maxHeartbeats 8000000 in
theorem top_ok (E : Env) (h165 : E.G 165 = shM) (h168 : E.G 168 = rootC) (h169 : E.G 169 = nodeM) (h179 : E.G 179 = valC) (hI184 : E.I 184 = bwdI) (h183 : E.M 183 = bwdM) : ∀ ds, topC.pre ds → ds.length = f_merkle_Top.n ∧ awp E f_merkle_Top.body (retQ f_merkle_Top.res (topC.post ds)) (initSt f_merkle_Top.wr ds) := by
  rintro _ ⟨n, nl, l, hn, hl, hlen, rfl⟩
  rw [show topC.post [pkA n nl l] = .tup [.agg (bys (topP n l).1), i64 (topP n l).2] from topC_post hl rfl rfl, topP]
  unfold pkA dgsA
  have v1 := valC_pre (nl := nl) hn hl hlen rfl rfl
  have v2 := valC_post (n := n) (m := .plain) (nl := nl) hl rfl rfl
  by_cases ho : okP n l.length = true
  · rw [if_pos ho]
    rw [ho] at v2
    by_cases h0 : n = 0
    · rw [if_pos h0]
      subst h0
      have r1 : rootC.pre [.sl .plain (some true) 0 []] = True := rootC_pre (l := []) (b := []) is16_nil (by decide) rfl rfl
      have r2 : rootC.post [.sl .plain (some true) 0 []] = .agg (bys (root [])) := rootC_post (l := []) (b := []) is16_nil rfl rfl
      have rl := root_len []
      simp (maxSteps := 1000000) (disch := first | omega | (simp; done) | (simp; omega)) [W_id, bys_app, bys_snoc, f_merkle_Top, h179, v1, v2, kT, kF, dT, dF, f_merkle_Top_r0, h168, r1, r2, rl, splice_full, take_l16 rl]
    · rw [if_neg h0]
      have hpos : 0 < l.length := by
        simp only [okP, Bool.and_eq_true, decide_eq_true_eq] at ho
        have := oN_pos (n := n.toNat) (by omega)
        omega
      have hd := dgs_len hl
      have hat := dgs_at hl (show l.length - 1 < l.length by omega)
      have hal := dgAt_len hl (show l.length - 1 < l.length by omega)
      have e1 : ((l.length : Int) - 1).toNat = l.length - 1 := by omega
      have b1 : bwdM.pre [.sl .plain (if l.length = 1 then nl else nl) (l.length - 1) (bys (dgs (l.take (l.length - 1))))] = True := bwdM_pre (is16_take hl _) (by simp; omega) (by simp) rfl
      have ht := dgs_take hl (l.length - 1)
      simp (maxSteps := 1000000) (disch := first | omega | (simp; done) | (simp; omega)) [W_id, bys_app, bys_snoc, f_merkle_Top, h179, v1, v2, kT, kF, dT, dF, h0, f_merkle_Top_r0]
      refine top_w E h165 h169 hI184 h183 hn hl hlen hpos ?_
      rfl
  · rw [if_neg ho]
    have ho' : okP n l.length = false := by simpa using ho
    rw [ho'] at v2
    simp (maxSteps := 1000000) (disch := first | omega | (simp; done) | (simp; omega)) [W_id, bys_app, bys_snoc, f_merkle_Top, h179, v1, v2, kT, kF, splice_full]
end Go.Abs
end

section
namespace Go.Abs
set_option maxRecDepth 100000
def addF (l : List (List UInt8)) (d : List UInt8) : Nat → List UInt8
  | 0 => digOf 1 [d]
  | i + 1 => digOf 2 [dgAt l (l.length - 1 - i), addF l d i]
def addL (l : List (List UInt8)) (d : List UInt8) (t : Nat) : List (List UInt8) := l.take (l.length - t) ++ [addF l d t]
def addP (n : Int) (l : List (List UInt8)) (d : List UInt8) : (Int × List (List UInt8)) × Nat := if okP n l.length = true ∧ n ≠ 4294967296 then ((n + 1, addL l d (t1N n.toNat)), 0) else ((0, []), 1)
def addNl (n : Int) (l : List (List UInt8)) : Option Bool := if okP n l.length = true ∧ n ≠ 4294967296 ∧ 0 < t1N n.toNat then some false else none
def padC : Contract := ⟨fun ds => ∃ (n : Int) (nl : Option Bool) (l : List (List UInt8)) (d : List UInt8), inI n ∧ is16 l ∧ l.length ≤ 1000000 ∧ d.length = 16 ∧ ds = [pkA n nl l, .agg (bys d)],
  fun ds => .tup [pkA (addP (gPn (nth ds 0)) (gPl (nth ds 0)) (gBs (gCs (nth ds 1)))).1.1 (addNl (gPn (nth ds 0)) (gPl (nth ds 0))) (addP (gPn (nth ds 0)) (gPl (nth ds 0)) (gBs (gCs (nth ds 1)))).1.2, i64 (addP (gPn (nth ds 0)) (gPl (nth ds 0)) (gBs (gCs (nth ds 1)))).2]⟩
theorem padC_pre {n : Int} {nl : Option Bool} {l : List (List UInt8)} {b d : List UInt8} {k : Nat} (hn : inI n) (h : is16 l) (hl : l.length ≤ 1000000) (hd : d.length = 16) (hk : k = l.length) (hb : b = dgs l) : padC.pre [.agg [i64 n, .sl .plain nl k (bys b)], .agg (bys d)] = True := eq_true ⟨n, nl, l, d, hn, h, hl, hd, by rw [hk, hb]; rfl⟩
theorem padC_post {n : Int} {m : Mode} {nl : Option Bool} {l : List (List UInt8)} {b d : List UInt8} {k : Nat} (h : is16 l) (hk : k = l.length) (hb : b = dgs l) : padC.post [.agg [i64 n, .sl m nl k (bys b)], .agg (bys d)] = .tup [pkA (addP n l d).1.1 (addNl n l) (addP n l d).1.2, i64 (addP n l d).2] := by
  simp only [padC]
  rw [hk, hb, show nth [AVal.agg [i64 n, .sl m nl l.length (bys (dgs l))], .agg (bys d)] 0 = AVal.agg [i64 n, .sl m nl l.length (bys (dgs l))] from rfl, show gBs (gCs (nth [AVal.agg [i64 n, .sl m nl l.length (bys (dgs l))], .agg (bys d)] 1)) = d from by simp [nth], gPn_pkA, gPl_pkA, gDs_dgs h]
theorem addF_len (l : List (List UInt8)) (d : List UInt8) : ∀ i, (addF l d i).length = 16
  | 0 => digOf_len _ _
  | i + 1 => digOf_len _ _
theorem is16_addL {l : List (List UInt8)} (h : is16 l) (d : List UInt8) (t : Nat) : is16 (addL l d t) := is16_app.2 ⟨is16_take h _, is16_cons.2 ⟨addF_len l d t, is16_nil⟩⟩
theorem compl_tz {n : Int} (h0 : 0 ≤ n) (h1 : n ≤ 4294967296) : ~~~(UInt64.ofInt n) ≠ 0 ∧ tzN (~~~(UInt64.ofInt n)).toNat = t1N n.toNat := by
  have e := ofInt_nat h0 (show n < 18446744073709551616 by omega)
  have e2 : (~~~(UInt64.ofInt n)).toNat = 2 ^ 64 - 1 - n.toNat := by
    rw [UInt64.toNat_not, e]
  refine ⟨fun h => ?_, ?_⟩
  · have := congrArg UInt64.toNat h
    rw [e2] at this
    change 2 ^ 64 - 1 - n.toNat = 0 at this
    omega
  · rw [e2]; exact tz_to 64 _ (by omega)
abbrev addSt (n : Int) (l : List (List UInt8)) (d : List UInt8) (nl : Option Bool) (x y : AVal) (bx : List (Nat × Option (List AVal))) : ASt :=
  ⟨[(0, .agg [i64 n, .sl .plain nl l.length (bys (dgs l))]), (1, .agg (bys d))], [(2, .bp 2 0), (3, .bp 3 0), (4, .bp 4 0), (6, x)], [(2, some [i64 n, y]), (3, some (bys d)), (4, some [i64 0, .sl (.own 16) none 0 []])] ++ bx⟩
set_option maxHeartbeats 8000000 in
theorem add_o (E : Env) (h165 : E.G 165 = shM) (h166 : E.G 166 = leafM) (h169 : E.G 169 = nodeM) (h181 : E.G 181 = tzC) {n : Int} {nl : Option Bool} {l : List (List UInt8)} {d : List UInt8} (h0 : 0 ≤ n) (h1 : n < 4294967296) (hl : is16 l) (hlen : l.length ≤ 1000000) (hd : d.length = 16) (ht : t1N n.toNat = 0) {Q0 : AExit → ASt → Prop}
    (hQ0 : Q0 = retQ [ARes.cell 4 (some 2) 4, ARes.t 5] (.tup [pkA (n + 1) none (addL l d 0), i64 0])) : awp E f_merkle_Add_q Q0 (addSt n l d nl (.sl (.own 16) none l.length (bys (dgs l))) (.sl .plain nl l.length (bys (dgs l))) []) := by
  obtain ⟨z1, z2⟩ := compl_tz h0 (by omega)
  have fl := addF_len l d 0
  have hdl := dgs_len hl
  unfold f_merkle_Add_q
  rw [awp_seq]
  refine awp_name fun Q1 hQ1 => ?_
  have i1 := inq_len (t := 1) (is16_cons.2 ⟨hd, is16_nil⟩)
  simp only [List.length_cons, List.length_nil] at i1
  have sp : shM.pre [.sl .plain (some false) (inpOf 1 [d]).length (bys (inpOf 1 [d]))] = True := shM_pre (by omega) rfl
  have sl := shortB_len (inpOf 1 [d])
  simp (maxSteps := 1000000) (disch := first | omega | (simp; done) | (simp; omega)) [W_id, bys_app, bys_snoc, h166, h165, leafM_pre, sp, hd, splice_full, sl, take_l16]
  rw [hQ1]
  show awp E _ _ _
  rw [awp_seq]
  refine awp_name fun Q2 hQ2 => ?_
  rw [awp_seq]
  refine awp_name fun Q3 hQ3 => ?_
  obtain ⟨u, hu⟩ : ∃ u, ~~~(UInt64.ofInt n) = u := ⟨_, rfl⟩
  rw [hu] at z1 z2
  have tp : tzC.pre [u64 u] = True := tzC_pre z1
  simp (maxSteps := 1000000) (disch := first | omega | (simp; done) | (simp; omega)) [W_id, bys_app, bys_snoc, h181, hu, tp, z2, ht]
  rw [hQ3]
  show awp E _ _ _
  refine awp_for (fun i : Nat => ⟨[(0, .agg [i64 n, .sl .plain nl l.length (bys (dgs l))]), (1, .agg (bys d))], [(2, .bp 2 0), (4, .bp 4 0), (6, .sl (.own 16) none l.length (bys (dgs l))), (7, .bp 7 0), (28, i64 0), (29, i64 0)], [(2, some [i64 n, .sl .plain nl l.length (bys (dgs l))]), (3, some (bys d)), (4, some [i64 0, .sl (.own 16) none 0 []]), (7, some (bys (addF l d 0)))]⟩) (fun i => 0) (fun i => True) 0 rfl trivial fun i hi => ?_
  have tk := take_l16 fl
  have td : l.take (l.length - 0) = l := by simp
  have ea : dgs (addL l d 0) = dgs l ++ addF l d 0 := by rw [addL, td, dgs_append, dgs_cons, dgs_nil, List.append_nil]
  have el : (addL l d 0).length = l.length + 1 := by simp [addL]
  simp (maxSteps := 1000000) (disch := first | omega | (simp; done) | (simp; omega)) [W_id, bys_app, bys_snoc, f_merkle_Add_l0, kT, kF, dT, dF, hQ2, f_merkle_Add_r2, fl, tk, splice_full, hdl, hQ0, pkA, dgsA, ea, el]
  omega
abbrev addTs (n : Int) (l : List (List UInt8)) (d : List UInt8) (nl : Option Bool) (t i : Nat) : ASt :=
  ⟨[(0, .agg [i64 n, .sl .plain nl l.length (bys (dgs l))]), (1, .agg (bys d))], [(2, .bp 2 0), (4, .bp 4 0), (6, .bv 906 16 0 (l.length - i) l.length), (7, .bp 7 0), (28, i64 t), (29, i64 i)], [(2, some [i64 n, .undef]), (3, some (bys d)), (4, some [i64 0, .sl (.own 16) none 0 []]), (7, some (bys (addF l d i))), (906, some (bys (dgs l)))]⟩
set_option maxHeartbeats 8000000 in
theorem add_t (E : Env) (h165 : E.G 165 = shM) (h166 : E.G 166 = leafM) (h169 : E.G 169 = nodeM) (h181 : E.G 181 = tzC) {n : Int} {nl : Option Bool} {l : List (List UInt8)} {d : List UInt8} (h0 : 0 ≤ n) (h1 : n < 4294967296) (hl : is16 l) (hlen : l.length ≤ 1000000) (hd : d.length = 16) {t : Nat} (ht : t1N n.toNat = t) (ht0 : 0 < t) (htl : t ≤ l.length) {Q0 : AExit → ASt → Prop}
    (hQ0 : Q0 = retQ [ARes.cell 4 (some 2) 4, ARes.t 5] (.tup [pkA (n + 1) (some false) (addL l d t), i64 0])) : awp E f_merkle_Add_tq Q0 ⟨[(0, .agg [i64 n, .sl .plain nl l.length (bys (dgs l))]), (1, .agg (bys d))], [(6, .bv 906 16 0 l.length l.length), (2, .bp 2 0), (3, .bp 3 0), (4, .bp 4 0), (6, .sl (.own 16) none l.length (bys (dgs l)))], [(906, some (bys (dgs l))), (2, some [i64 n, .undef]), (3, some (bys d)), (4, some [i64 0, .sl (.own 16) none 0 []])]⟩ := by
  obtain ⟨z1, z2⟩ := compl_tz h0 (by omega)
  have hdl := dgs_len hl
  unfold f_merkle_Add_tq
  rw [awp_seq]
  refine awp_name fun Q1 hQ1 => ?_
  have i1 := inq_len (t := 1) (is16_cons.2 ⟨hd, is16_nil⟩)
  simp only [List.length_cons, List.length_nil] at i1
  have sp : shM.pre [.sl .plain (some false) (inpOf 1 [d]).length (bys (inpOf 1 [d]))] = True := shM_pre (by omega) rfl
  have sl := shortB_len (inpOf 1 [d])
  simp (maxSteps := 1000000) (disch := first | omega | (simp; done) | (simp; omega)) [W_id, bys_app, bys_snoc, h166, h165, leafM_pre, sp, hd, splice_full, sl, take_l16]
  rw [hQ1]
  show awp E _ _ _
  rw [awp_seq]
  refine awp_name fun Q2 hQ2 => ?_
  rw [awp_seq]
  refine awp_name fun Q3 hQ3 => ?_
  obtain ⟨u, hu⟩ : ∃ u, ~~~(UInt64.ofInt n) = u := ⟨_, rfl⟩
  rw [hu] at z1 z2
  have tp : tzC.pre [u64 u] = True := tzC_pre z1
  simp (maxSteps := 1000000) (disch := first | omega | (simp; done) | (simp; omega)) [W_id, bys_app, bys_snoc, h181, hu, tp, z2, ht]
  rw [hQ3]
  show awp E _ _ _
  refine awp_for (addTs n l d nl t) (fun i => t - i) (fun i => i ≤ t) 0 (by simp [addTs]; rfl) (Nat.zero_le _) fun i hi => ?_
  have fl := addF_len l d i
  have tk := take_l16 fl
  by_cases hlt : i < t
  · have lt' : (i : Int) < t := by omega
    have hat := dgs_at hl (show l.length - i - 1 < l.length by omega)
    have hal := dgAt_len hl (show l.length - i - 1 < l.length by omega)
    have np := nodeM_pre hal fl
    have i2 := inq_len (t := 2) (is16_two hal fl)
    simp only [List.length_cons, List.length_nil] at i2
    have sp2 : shM.pre [.sl .plain (some false) (inpOf 2 [dgAt l (l.length - i - 1), addF l d i]).length (bys (inpOf 2 [dgAt l (l.length - i - 1), addF l d i]))] = True := shM_pre (by omega) rfl
    have sl2 := shortB_len (inpOf 2 [dgAt l (l.length - i - 1), addF l d i])
    have es : shortB (inpOf 2 [dgAt l (l.length - i - 1), addF l d i]) = addF l d (i + 1) := by rw [addF, show l.length - 1 - i = l.length - i - 1 by omega]; rfl
    have ei : (((l.length - i : Nat) : Int) - 1).toNat = l.length - i - 1 := by omega
    refine awp_name fun Q4 hQ4 => ?_
    simp (maxSteps := 1000000) (disch := first | omega | (simp; done) | (simp; omega)) [W_id, bys_app, bys_snoc, f_merkle_Add_tl0, kT, kF, dT, dF, lt', f_merkle_Add_tr1, hat, hdl, fl, tk, h169, np, h165, sp2, es, splice_full, addF_len, take_l16, ei]
    refine ⟨⟨by omega, by omega⟩, ⟨by omega, by omega⟩, by omega, ?_⟩
    rw [hQ4]
    refine ⟨i + 1, by omega, by omega, ?_⟩
    have fl1 := addF_len l d (i + 1)
    simp [addTs, splice_full, fl, fl1]
    omega
  · have lt' : ¬ (i : Int) < t := by omega
    have hit : i = t := by omega
    subst hit
    have et : dgs (addL l d i) = dgs (l.take (l.length - i)) ++ addF l d i := by rw [addL, dgs_append, dgs_cons, dgs_nil, List.append_nil]
    have el : (addL l d i).length = l.length - i + 1 := by simp [addL]
    have edl : (dgs (addL l d i)).length = (l.length - i + 1) * 16 := by rw [dgs_len (is16_addL hl d i), el]
    have ht := dgs_take hl (l.length - i)
    have hs : splice (bys (dgs l)) ((l.length - i) * 16) (bys (addF l d i)) = bys (dgs (addL l d i) ++ (dgs l).drop ((l.length - i) * 16 + 16)) := by
      rw [et, ← ht]
      simp [splice, bys_append, fl]
    have hk : ∀ X, List.take ((l.length - i + 1) * 16) (bys (dgs (addL l d i) ++ X)) = bys (dgs (addL l d i)) := fun X => by
      rw [bys_take, ← edl, List.take_left]
    have sp0 : ∀ a b c e : AVal, splice [a, b] 0 [c, e] = [c, e] := fun _ _ _ _ => splice_full rfl
    have ic : ∀ a b c e f, isCell (.bv a b c e f) = True := fun _ _ _ _ _ => rfl
    have cb : ∀ a b c e f, cellsA (.bv a b c e f) = [.bv a b c e f] := fun _ _ _ _ _ => rfl
    simp (maxSteps := 1000000) (disch := first | omega | (simp; done) | (simp; omega)) [W_id, bys_app, bys_snoc, f_merkle_Add_tl0, kT, kF, dT, dF, lt', hQ2]
    unfold f_merkle_Add_tr2
    rw [awp_seq]
    refine awp_name fun Q5 hQ5 => ?_
    rw [awp_region]
    iterate 10
      first | rw [runR, step_some] | rw [runR, step_none]
      refine ⟨?_, ?_⟩
      · simp (maxSteps := 30000) (disch := first | omega | (simp; done) | (simp; omega)) [W_id, splice_full, fl, tk, cb, sp0, ic, hdl]
        try omega
      simp (maxSteps := 30000) (disch := first | omega | (simp; done) | (simp; omega)) [W_id, splice_full, fl, tk, cb, sp0, ic, hs, -runR]
    rw [runR]
    refine ⟨?_, ?_⟩
    · simp
    · have di : ∀ (ids : List Nat) (f : Nat → List AVal) (k : Int), deep ids f (i64 k) = i64 k := fun _ _ _ => rfl
      have du : ∀ (ids : List Nat) (f : Nat → List AVal), deep ids f .undef = .undef := fun _ _ => rfl
      simp [hk, deep, di, du]
      rw [hQ5]
      simp (maxSteps := 1000000) (disch := first | omega | (simp; done) | (simp; omega)) [W_id, bys_app, bys_snoc, hQ0, pkA, dgsA, el]
theorem pad_ok (E : Env) (h165 : E.G 165 = shM) (h166 : E.G 166 = leafM) (h169 : E.G 169 = nodeM) (h179 : E.G 179 = valC) (h180 : E.G 180 = cloC) (h181 : E.G 181 = tzC) : ∀ ds, padC.pre ds → ds.length = f_merkle_Add.n ∧ awp E f_merkle_Add.body (retQ f_merkle_Add.res (padC.post ds)) (initSt f_merkle_Add.wr ds) := by
  rintro _ ⟨n, nl, l, d, hn, hl, hlen, hd, rfl⟩
  rw [show padC.post [pkA n nl l, .agg (bys d)] = .tup [pkA (addP n l d).1.1 (addNl n l) (addP n l d).1.2, i64 (addP n l d).2] from padC_post hl rfl rfl, addP, addNl]
  unfold pkA dgsA
  have v1 := valC_pre (nl := nl) hn hl hlen rfl rfl
  have v2 := valC_post (n := n) (m := .plain) (nl := nl) hl rfl rfl
  have c1 := cloC_pre (nl := nl) hl hlen rfl rfl
  have c2 := cloC_post (m := .plain) (nl := nl) hl rfl rfl
  have hk : okP n l.length = false ∨ okP n l.length = true := by cases okP n l.length <;> simp
  rcases hk with ho | ho
  · rw [ho] at v2
    have x1 : ¬ (okP n l.length = true ∧ n ≠ 4294967296) := by simp [ho]
    have x2 : ¬ (okP n l.length = true ∧ n ≠ 4294967296 ∧ 0 < t1N n.toNat) := by simp [ho]
    rw [if_neg x1, if_neg x2]
    simp (maxSteps := 1000000) (disch := first | omega | (simp; done) | (simp; omega)) [W_id, bys_app, bys_snoc, f_merkle_Add, h179, v1, v2, kT, kF, hd, splice_full]
    skip
  · rw [ho] at v2
    by_cases h2 : n = 4294967296
    · have x1 : ¬ (okP n l.length = true ∧ n ≠ 4294967296) := by simp [h2]
      have x2 : ¬ (okP n l.length = true ∧ n ≠ 4294967296 ∧ 0 < t1N n.toNat) := by simp [h2]
      rw [if_neg x1, if_neg x2]
      subst h2
      simp (maxSteps := 1000000) (disch := first | omega | (simp; done) | (simp; omega)) [W_id, bys_app, bys_snoc, f_merkle_Add, h179, v1, v2, kT, kF, hd, splice_full]
      skip
    · obtain ⟨g0, g1, g2⟩ : 0 ≤ n ∧ n < 4294967296 ∧ l.length = oN n.toNat := by
        simp only [okP, Bool.and_eq_true, decide_eq_true_eq] at ho
        exact ⟨ho.1.1, by omega, ho.2⟩
      have gt := toN_le_oN n.toNat
      have hbF : (n == 4294967296) = false := by simpa using h2
      by_cases h3 : 0 < t1N n.toNat
      · rw [if_pos ⟨ho, h2⟩, if_pos ⟨ho, h2, h3⟩]
        simp (maxSteps := 1000000) (disch := first | omega | (simp; done) | (simp; omega)) [W_id, bys_app, bys_snoc, f_merkle_Add, h179, v1, v2, kT, kF, hd, splice_full, hbF, dF, h2, f_merkle_Add_r0, h180, c1, c2]
        refine .inl ?_
        have lp : 0 < l.length := by omega
        have ar := add_t E h165 h166 h169 h181 (nl := nl) g0 g1 hl hlen hd rfl h3 (by omega) rfl
        generalize f_merkle_Add_tq = tq at *
        simp (maxSteps := 1000000) (disch := first | omega | (simp; done) | (simp; omega)) [W_id, bys_app, bys_snoc, lp]
        refine ⟨⟨rfl, fun c hc => ?_, rfl, rfl⟩, ar⟩
        simp only [bys, List.mem_map] at hc
        obtain ⟨x, _, rfl⟩ := hc
        rfl
      · rw [if_pos ⟨ho, h2⟩, if_neg (fun h => h3 h.2.2)]
        have h30 : t1N n.toNat = 0 := by omega
        rw [h30]
        simp (maxSteps := 1000000) (disch := first | omega | (simp; done) | (simp; omega)) [W_id, bys_app, bys_snoc, f_merkle_Add, h179, v1, v2, kT, kF, hd, splice_full, hbF, dF, h2, f_merkle_Add_r0, h180, c1, c2]
        refine .inr ?_
        exact add_o E h165 h166 h169 h181 g0 g1 hl hlen hd h30 rfl
end Go.Abs
end

section
namespace Go.Abs
def pksL : Nat → List (List UInt8) → List (List UInt8)
  | 0, _ => []
  | k + 1, l => if 2 ^ k ≤ l.length then root (l.take (2 ^ k)) :: pksL k (l.drop (2 ^ k)) else pksL k l
theorem pksL_16 : ∀ k l, is16 (pksL k l)
  | 0, _ => is16_nil
  | k + 1, l => by
    rw [pksL]; split
    · exact is16_cons.2 ⟨root_len _, pksL_16 k _⟩
    · exact pksL_16 k _
theorem oN_top {k m : Nat} (h : m < 2 ^ k) : oN (2 ^ k + m) = oN m + 1 := by
  have := oN_app k m 1 h
  rw [Nat.mul_one, Nat.add_comm m] at this
  rw [this, oN_eq 1, show 1 / 2 = 0 from rfl, oN_zero]
theorem pksL_len : ∀ k l, l.length < 2 ^ k → (pksL k l).length = oN l.length
  | 0, l, h => by
    have h0 : l.length = 0 := by simpa using h
    rw [h0, oN_zero]; rfl
  | k + 1, l, h => by
    rw [Nat.pow_succ] at h
    rw [pksL]; split
    · rename_i hc
      rw [List.length_cons, pksL_len k _ (by rw [List.length_drop]; omega), List.length_drop, ← oN_top (k := k) (by omega)]
      congr 1; omega
    · exact pksL_len k l (by omega)
theorem toN_ones : ∀ k, t1N (2 ^ k - 1) = k
  | 0 => by rw [toN_even (by decide)]
  | k + 1 => by
    have hp := Nat.two_pow_pos k
    rw [Nat.pow_succ, toN_odd (by omega), show (2 ^ k * 2 - 1) / 2 = 2 ^ k - 1 by omega, toN_ones k]
theorem toN_top : ∀ k m, m + 1 < 2 ^ k → t1N (2 ^ k + m) = t1N m
  | 0, m, h => by simp at h
  | k + 1, m, h => by
    rw [Nat.pow_succ] at h
    by_cases ho : m % 2 = 1
    · rw [toN_odd ho, toN_odd (by rw [Nat.pow_succ]; omega), Nat.pow_succ, show (2 ^ k * 2 + m) / 2 = 2 ^ k + m / 2 by omega, toN_top k (m / 2) (by omega)]
    · rw [toN_even (n := m) (by omega), toN_even (n := 2 ^ (k + 1) + m) (by rw [Nat.pow_succ]; omega)]
theorem dgAt_behind (a : List UInt8) (q : List (List UInt8)) (i : Nat) (h : i < q.length) : dgAt (a :: q) ((a :: q).length - 1 - i) = dgAt q (q.length - 1 - i) := by
  simp only [dgAt, List.length_cons]
  rw [show q.length + 1 - 1 - i = (q.length - 1 - i) + 1 by omega, List.getD_cons_succ]
theorem addF_cons (a : List UInt8) (q : List (List UInt8)) (d : List UInt8) : ∀ i, i ≤ q.length → addF (a :: q) d i = addF q d i
  | 0, _ => rfl
  | i + 1, h => by rw [addF, addF, addF_cons a q d i (by omega), dgAt_behind a q i (by omega)]
theorem addF_all (a : List UInt8) (q : List (List UInt8)) (d : List UInt8) : addF (a :: q) d (q.length + 1) = digOf 2 [a, addF q d q.length] := by
  rw [addF, addF_cons a q d _ (Nat.le_refl _)]
  simp [dgAt]
theorem topF_behind (a : List UInt8) (q : List (List UInt8)) (hq : 0 < q.length) : ∀ i, i < q.length → topF (a :: q) i = topF q i
  | 0, h => by
    rw [topF, topF, List.length_cons]
    have := dgAt_behind a q 0 hq
    simpa using this
  | i + 1, h => by
    rw [topF, topF, topF_behind a q hq i (by omega)]
    have := dgAt_behind a q (i + 1) (by omega)
    rw [List.length_cons] at this ⊢
    rw [show q.length + 1 - 2 - i = q.length + 1 - 1 - (i + 1) by omega, show q.length - 2 - i = q.length - 1 - (i + 1) by omega, this]
theorem topF_cons (a : List UInt8) (q : List (List UInt8)) (hq : 0 < q.length) : topF (a :: q) ((a :: q).length - 1) = digOf 2 [a, topF q (q.length - 1)] := by
  rw [List.length_cons, show q.length + 1 - 1 = (q.length - 1) + 1 by omega, topF, topF_behind a q hq _ (by omega), List.length_cons, show q.length + 1 - 2 - (q.length - 1) = 0 by omega]
  rfl
theorem spl_pow {k n : Nat} (h1 : 2 ^ k < n) (h2 : n ≤ 2 * 2 ^ k) : spl n = 2 ^ k := by
  have hp := Nat.two_pow_pos k
  have a1 := spl_lt (n := n) (by omega)
  have a2 := spl_twice (n := n) (by omega)
  unfold spl at *
  rw [pow_uniq a1 a2 h1 h2]
theorem pksL_pos {k : Nat} {l : List (List UInt8)} (h : l.length < 2 ^ k) (h0 : 0 < l.length) : 0 < (pksL k l).length := by
  rw [pksL_len k l h]; exact oN_pos h0
theorem top_root : ∀ k l, l.length < 2 ^ k → 0 < l.length → topF (pksL k l) ((pksL k l).length - 1) = root l
  | 0, l, h, h0 => absurd (show l.length < 1 from h) (by omega)
  | k + 1, l, h, h0 => by
    rw [Nat.pow_succ] at h
    by_cases hc : 2 ^ k ≤ l.length
    · rw [pksL, if_pos hc]
      by_cases he : l.length = 2 ^ k
      · have hd : l.drop (2 ^ k) = [] := by rw [← he]; simp
        have ht : l.take (2 ^ k) = l := by rw [← he]; simp
        have hz : pksL k [] = [] := List.length_eq_zero_iff.1 (by rw [pksL_len k [] (Nat.two_pow_pos k)]; exact oN_zero)
        rw [hd, ht, hz]; rfl
      · have hr : 0 < (l.drop (2 ^ k)).length := by rw [List.length_drop]; omega
        have hr2 : (l.drop (2 ^ k)).length < 2 ^ k := by rw [List.length_drop]; omega
        have hp := Nat.two_pow_pos k
        rw [topF_cons _ _ (pksL_pos hr2 hr), top_root k _ hr2 hr, root_two (l := l) (by omega), spl_pow (k := k) (by omega) (by omega)]
    · rw [pksL, if_neg hc]
      exact top_root k l (by omega) h0
theorem add_all : ∀ k l (d : List UInt8), l.length + 1 = 2 ^ k → (pksL k l).length = k ∧ addF (pksL k l) d k = root (l ++ [d])
  | 0, l, d, h => by
    have h0 : l = [] := List.length_eq_zero_iff.1 (by simpa using h)
    subst h0
    refine ⟨rfl, ?_⟩
    rw [root_few (by simp)]; rfl
  | k + 1, l, d, h => by
    have hp := Nat.two_pow_pos k
    rw [Nat.pow_succ] at h
    have hc : 2 ^ k ≤ l.length := by omega
    obtain ⟨e1, e2⟩ := add_all k (l.drop (2 ^ k)) d (by rw [List.length_drop]; omega)
    rw [pksL, if_pos hc]
    refine ⟨by rw [List.length_cons, e1], ?_⟩
    generalize hq : pksL k (l.drop (2 ^ k)) = q at *
    rw [← e1, addF_all, e1, e2, root_two (l := l ++ [d]) (by simp; omega)]
    have hs : spl (l ++ [d]).length = 2 ^ k := spl_pow (by simp; omega) (by simp; omega)
    rw [hs, List.take_append_of_le_length hc, List.drop_append_of_le_length hc]
theorem addL_cons (a : List UInt8) (q : List (List UInt8)) (d : List UInt8) (t : Nat) (h : t ≤ q.length) : addL (a :: q) d t = a :: addL q d t := by
  rw [addL, addL, addF_cons a q d t h, List.length_cons, show q.length + 1 - t = (q.length - t) + 1 by omega, List.take_succ_cons]; rfl
theorem add_one : ∀ k l (d : List UInt8), l.length + 1 < 2 ^ k → addL (pksL k l) d (t1N l.length) = pksL k (l ++ [d])
  | 0, l, d, h => by simp at h
  | k + 1, l, d, h => by
    have hp := Nat.two_pow_pos k
    rw [Nat.pow_succ] at h
    by_cases hc : 2 ^ k ≤ l.length
    · have hr : (l.drop (2 ^ k)).length = l.length - 2 ^ k := List.length_drop
      have hc2 : 2 ^ k ≤ (l ++ [d]).length := by simp; omega
      have ht : t1N l.length = t1N (l.drop (2 ^ k)).length := by
        rw [hr, ← toN_top k (l.length - 2 ^ k) (by omega)]; congr 1; omega
      have hle : t1N (l.drop (2 ^ k)).length ≤ (pksL k (l.drop (2 ^ k))).length := by
        rw [pksL_len k _ (by omega)]; exact toN_le_oN _
      rw [pksL, if_pos hc, pksL, if_pos hc2, ht, addL_cons _ _ _ _ hle, add_one k _ d (by omega), List.take_append_of_le_length hc, List.drop_append_of_le_length hc]
    · rw [pksL, if_neg hc]
      by_cases he : l.length + 1 = 2 ^ k
      · obtain ⟨e1, e2⟩ := add_all k l d he
        have hl : (l ++ [d]).length = 2 ^ k := by simp; omega
        have hz : pksL k [] = [] := List.length_eq_zero_iff.1 (by rw [pksL_len k [] hp]; exact oN_zero)
        rw [pksL, if_pos (by omega), show l.length = 2 ^ k - 1 by omega, toN_ones k, addL, e1, e2, ← hl]
        rw [Nat.sub_self, List.take_zero, List.nil_append, List.take_length, List.drop_length, hz]
      · have hc2 : ¬ 2 ^ k ≤ (l ++ [d]).length := by simp; omega
        rw [pksL, if_neg hc2]
        exact add_one k l d (by omega)
end Go.Abs
end
