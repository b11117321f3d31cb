/- Lemmas: an abstract interpreter, and what the functions compute. -/
import Derived.Test.YtcegicmamdabfaaDoorM
import Derived.Test.YtcegicmamdabfaaDoorK
import Derived.Test.YtcegicmamdabfaaDoorI
import Derived.Test.YtcegicmamdabfaaDoorS
import Derived.Test.YtcegicmamdabfaaDoorT
import Derived.Test.YtcegicmamdabfaaDoorE
import Derived.KernelRfl
set_option linter.unusedSimpArgs false
set_option linter.unusedVariables false
set_option linter.unusedSectionVars false
section
namespace Go.Abs
theorem getN_enc : ∀ (l : List Int) (r : List UInt8), (∀ x ∈ l, isI64 x) → getN l.length (l.flatMap encI ++ r) = (l, r, 0)
  | [], r, _ => rfl
  | n :: l, r, h => by
    have e : (n :: l).flatMap encI ++ r = encI n ++ (l.flatMap encI ++ r) := by simp
    have g := getI_enc (h n (by simp)) (l.flatMap encI ++ r)
    rw [e, List.length_cons, getN_o (by rw [g]), g]
    simp only [List.drop_left]
    rw [getN_enc l r (fun x hx => h x (by simp [hx]))]
theorem d1_enc {c : Cmd} (h : c.small) : d1 (encC c) = (six c, encS c.data ++ encIs c.list, 0) := getN_enc (six c) _ (six_ok h.1)
theorem d2_enc {c : Cmd} (h : c.small) : d2 (encC c) = (c.data, (encS c.data).length, 0) := by
  have := h.2.1
  rw [d2, b1, d1_enc h]; exact getS_enc (by omega) _
theorem b2_enc {c : Cmd} (h : c.small) : b2 (encC c) = encIs c.list := by
  rw [b2, d2_enc h, b1, d1_enc h]; simp [aft]
theorem d3_enc {c : Cmd} (h : c.small) : d3 (encC c) = (c.list, (encIs c.list).length, 0) := by
  have := h.2.2
  have e := getIs_enc (l := c.list) (by omega) h.1.2.2.2.2.2.2 []
  rw [List.append_nil] at e
  rw [d3, b2_enc h]; exact e
theorem b3_enc {c : Cmd} (h : c.small) : b3 (encC c) = [] := by
  rw [b3, d3_enc h, b2_enc h]; simp [aft]
theorem c3_enc {c : Cmd} (h : c.small) : c3 (encC c) = c := by
  have e1 : c1 (encC c) = ofSix (six c) [] [] := by
    rw [c1, d1_enc h]; rfl
  rw [c3, d3_enc h, c2, d2_enc h, e1]; rfl
theorem dec_enc {c : Cmd} (h : c.small) : decC (encC c) = if chkC c = 0 then (c, 0) else (zeroCmd, chkC c) := by
  rw [decC_eq, d1_enc h, d2_enc h, d3_enc h, b3_enc h, c3_enc h]
  simp
theorem encC_inj {c d : Cmd} (hc : c.small) (hd : d.small) (h : encC c = encC d) : c = d := by rw [← c3_enc hc, h, c3_enc hd]
theorem sameB_iff (c d : Cmd) : sameB c d = true ↔ c = d := by
  obtain ⟨k1, k2, k3, k4, k5, k6, dt, ls⟩ := c
  obtain ⟨j1, j2, j3, j4, j5, j6, dt', ls'⟩ := d
  simp [sameB, and_assoc]
theorem sameB_self (c : Cmd) : sameB c c = true := (sameB_iff c c).2 rfl
theorem inj_law {c d : Cmd} (hc : c.small) (hd : d.small) : (encC c == encC d) = sameB c d := by
  rw [Bool.eq_iff_iff, sameB_iff, beq_iff_eq]
  exact ⟨encC_inj hc hd, fun h => by rw [h]⟩
theorem chk_fine {c : Cmd} (h : chkC c = 0) : (1 ≤ c.kind ∧ c.kind ≤ 27) ∧ formOk c (rowOf c.kind) = true := by
  unfold chkC at h
  by_cases h1 : 1 ≤ c.kind ∧ c.kind ≤ 27
  · rw [if_neg (by simpa using h1)] at h
    by_cases h2 : formOk c (rowOf c.kind) = true
    · exact ⟨h1, h2⟩
    · rw [if_neg h2] at h; omega
  · rw [if_pos h1] at h; omega
theorem numOk_no {u f : Nat} {n m : Int} (hu : hasF u f = false) (h : numOk u f n m = true) : n = 0 := by
  simp [numOk, hu] at h; omega
theorem data_no {c : Cmd} {r : Row} (hu : hasF r.uses 16 = false) (h : formOk c r = true) : c.data = [] := by
  simp only [formOk, Bool.and_eq_true, hu, Bool.false_or, decide_eq_true_eq] at h
  exact h.1.2
theorem list_no {c : Cmd} {r : Row} (hu : hasF r.uses 8 = false) (h : formOk c r = true) : c.list = [] := by
  simp only [formOk, Bool.and_eq_true, keysOk, hu, Bool.false_eq_true, if_false, decide_eq_true_eq] at h
  exact List.length_eq_zero_iff.1 h.1.1.2
theorem nums_of {c : Cmd} {r : Row} (h : formOk c r = true) : numOk r.uses 1 c.key 4294967296 = true ∧ numOk r.uses 2 c.other 4294967296 = true ∧ numOk r.uses 4 c.type 31 = true ∧ numOk r.uses 4 c.uses 956 = true ∧ numOk r.uses 4 c.life 1099511627776 = true := by
  simp only [formOk, numsOk, Bool.and_eq_true] at h
  obtain ⟨⟨⟨⟨⟨⟨⟨⟨h1, h2⟩, h3⟩, h4⟩, h5⟩, _⟩, _⟩, _⟩, _⟩ := h
  exact ⟨h1, h2, h3, h4, h5⟩
theorem fields0 {c : Cmd} {r : Row} (hu : r.uses = 0) (h : formOk c r = true) : sameB c ⟨c.kind, 0, 0, 0, 0, 0, [], []⟩ = true := by
  obtain ⟨h1, h2, h3, h4, h5⟩ := nums_of h
  rw [hu] at h1 h2 h3 h4 h5
  have e1 := numOk_no (by decide +kernel) h1
  have e2 := numOk_no (by decide +kernel) h2
  have e3 := numOk_no (by decide +kernel) h3
  have e4 := numOk_no (by decide +kernel) h4
  have e5 := numOk_no (by decide +kernel) h5
  have e6 := data_no (by rw [hu]; decide +kernel) h
  have e7 := list_no (by rw [hu]; decide +kernel) h
  obtain ⟨k1, k2, k3, k4, k5, k6, dt, ls⟩ := c
  simp only at e1 e2 e3 e4 e5 e6 e7
  subst e1 e2 e3 e4 e5 e6 e7
  exact sameB_self _
theorem fields1 {c : Cmd} {r : Row} (hu : r.uses = 1) (h : formOk c r = true) : sameB c ⟨c.kind, c.key, 0, 0, 0, 0, [], []⟩ = true := by
  obtain ⟨h1, h2, h3, h4, h5⟩ := nums_of h
  rw [hu] at h1 h2 h3 h4 h5
  have e2 := numOk_no (by decide +kernel) h2
  have e3 := numOk_no (by decide +kernel) h3
  have e4 := numOk_no (by decide +kernel) h4
  have e5 := numOk_no (by decide +kernel) h5
  have e6 := data_no (by rw [hu]; decide +kernel) h
  have e7 := list_no (by rw [hu]; decide +kernel) h
  obtain ⟨k1, k2, k3, k4, k5, k6, dt, ls⟩ := c
  simp only at e2 e3 e4 e5 e6 e7
  subst e2 e3 e4 e5 e6 e7
  exact sameB_self _
theorem fields4 {c : Cmd} {r : Row} (hu : r.uses = 4) (h : formOk c r = true) : sameB c ⟨c.kind, 0, 0, c.type, c.uses, c.life, [], []⟩ = true := by
  obtain ⟨h1, h2, h3, h4, h5⟩ := nums_of h
  rw [hu] at h1 h2 h3 h4 h5
  have e1 := numOk_no (by decide +kernel) h1
  have e2 := numOk_no (by decide +kernel) h2
  have e6 := data_no (by rw [hu]; decide +kernel) h
  have e7 := list_no (by rw [hu]; decide +kernel) h
  obtain ⟨k1, k2, k3, k4, k5, k6, dt, ls⟩ := c
  simp only at e1 e2 e6 e7
  subst e1 e2 e6 e7
  exact sameB_self _
theorem rows_lists : ∀ k : Fin 27, hasF (rowL.getD k.val noRow).uses 8 = (k.val == 17) := by decide +kernel
theorem rows_names : ∀ k : Fin 27, (rowL.getD k.val noRow).name ≠ [] ∧ kindOf (rowL.getD k.val noRow).name = k.val + 1 := by decide +kernel
theorem kindOf_nil : kindOf [] = 0 := by decide +kernel
theorem rowOf_at {k : Int} (h : 1 ≤ k ∧ k ≤ 27) : ∃ m : Fin 27, k = (m.val : Int) + 1 ∧ rowOf k = rowL.getD m.val noRow := by
  refine ⟨⟨(k - 1).toNat, by omega⟩, by simp only; omega, rfl⟩
theorem list_iff {c : Cmd} (h : chkC c = 0) : (c.list.length = 0) ↔ c.kind ≠ 18 := by
  obtain ⟨hk, hf⟩ := chk_fine h
  obtain ⟨m, hm, hr⟩ := rowOf_at hk
  have hl := rows_lists m
  rw [hr] at hf
  have hf' : keysOk (rowL.getD m.val noRow).uses c.list = true := by
    simp only [formOk, Bool.and_eq_true] at hf
    exact hf.1.1.2
  by_cases e : m.val = 17
  · have hl : hasF (rowL.getD m.val noRow).uses 8 = true := by rw [hl, e]; rfl
    simp only [keysOk, hl, if_true, Bool.and_eq_true, decide_eq_true_eq] at hf'
    omega
  · have hl : hasF (rowL.getD m.val noRow).uses 8 = false := by rw [hl]; simpa using e
    simp only [keysOk, hl, Bool.false_eq_true, if_false, decide_eq_true_eq] at hf'
    omega
theorem name_ne {k : Int} (h : 1 ≤ k ∧ k ≤ 27) : nameOf k ≠ [] ∧ (kindOf (nameOf k) : Int) = k := by
  obtain ⟨m, hm, hr⟩ := rowOf_at h
  obtain ⟨h1, h2⟩ := rows_names m
  rw [nameOf, if_pos h, hr]
  exact ⟨h1, by rw [h2]; omega⟩
theorem name_no {k : Int} (h : ¬ (1 ≤ k ∧ k ≤ 27)) : nameOf k = [] := by rw [nameOf, if_neg h]
end Go.Abs
end

section
namespace Go.Abs
def lawCM : Contract := trueC fun ds => ∃ (c d : Cmd) (nl nl' : Option Bool) (n : Int) (s : List UInt8), c.ok ∧ d.ok ∧ isI64 n ∧ ds = [.agg (cmdL c nl), .agg (cmdL d nl'), i64 n, st s]
def lawCD : Contract := trueC fun ds => ∃ (nl : Option Bool) (b : List UInt8), ds = [.sl .plain nl b.length (bys b)]
def lawCR : Contract := trueC fun ds => ∃ (c : Cmd) (nl : Option Bool), c.ok ∧ ds = [.agg (cmdL c nl)]
def lawCI : Contract := trueC fun ds => ∃ (c d : Cmd) (nl nl' : Option Bool), c.ok ∧ d.ok ∧ ds = [.agg (cmdL c nl), .agg (cmdL d nl')]
def lawCN : Contract := trueC fun ds => ∃ n : Int, isI64 n ∧ ds = [i64 n]
def fewB (c : Cmd) : Bool := decide (c.data.length ≤ 3000) && decide (c.list.length ≤ 200)
def fwC : Contract := ⟨fun ds => ∃ (c : Cmd) (nl : Option Bool), ds = [.agg (cmdL c nl)], fun ds => bo (fewB (gCmd (gCs (nth ds 0))))⟩
@[simp] theorem fw_pre (c : Cmd) (nl : Option Bool) : fwC.pre [.agg (cmdL c nl)] = True := eq_true ⟨c, nl, rfl⟩
@[simp] theorem fw_post (c : Cmd) (nl : Option Bool) : fwC.post [.agg (cmdL c nl)] = bo (fewB c) := by simp [fwC]
theorem few_small {c : Cmd} (h : c.ok) (hf : fewB c = true) : c.small := by
  simp only [fewB, Bool.and_eq_true, decide_eq_true_eq] at hf
  exact ⟨h, by omega, by omega⟩
theorem lawC_post (p : List AVal → Prop) (ds : List AVal) : (trueC p).post ds = bo true := rfl
@[simp] theorem cmdL_ownTop (c : Cmd) (nl : Option Bool) : (∀ x ∈ cmdL c nl, ownTop x = false) ↔ True := by simp [cmdL]
@[simp] theorem cmdL_refs (c : Cmd) (nl : Option Bool) : refsL (cmdL c nl) = [] := by simp [cmdL, refsL]
def cEx : Cmd := ⟨12, 5, 0, 0, 0, 0, [], []⟩
def cOdd : Cmd := ⟨12, 5, 0, 0, 0, 1, [], []⟩
theorem cEx_small : cEx.small := ⟨⟨⟨by decide, by decide⟩, ⟨by decide, by decide⟩, isI64_0, isI64_0, isI64_0, isI64_0, by simp [cEx]⟩, by decide, by decide⟩
theorem cOdd_small : cOdd.small := ⟨⟨⟨by decide, by decide⟩, ⟨by decide, by decide⟩, isI64_0, isI64_0, isI64_0, ⟨by decide, by decide⟩, by simp [cOdd]⟩, by decide, by decide⟩
end Go.Abs
end

section
namespace Go.Abs
def M32 : Nat := 4294967296
def rx (y n : Nat) : Nat := Nat.shiftRight y n
def dbl (x : Nat) : Nat := Nat.mul 4294967297 x
theorem rotr_nat (x : UInt32) {n : Nat} (hn : n ≤ 32) : (rotr x n).toNat = rx (dbl x.toNat) n % 2 ^ 32 := by
  have hx := x.toNat_lt
  have e1 : (rotr x n).toNat = (x.toNat >>> n) ||| ((x.toNat <<< (32 - n)) % 2 ^ 32) := by
    rw [rotr, UInt32.toNat_or]
    show (x.toBitVec >>> n).toNat ||| (x.toBitVec <<< (32 - n)).toNat = _
    rw [BitVec.toNat_ushiftRight, BitVec.toNat_shiftLeft]
    rfl
  have e2 : rx (dbl x.toNat) n = (2 ^ 32 * x.toNat + x.toNat) >>> n := by
    show (4294967297 * x.toNat) >>> n = _
    congr 1
    omega
  rw [e1, e2]
  apply Nat.eq_of_testBit_eq
  intro i
  rw [Nat.testBit_or, Nat.testBit_shiftRight, Nat.testBit_mod_two_pow, Nat.testBit_shiftLeft, Nat.testBit_mod_two_pow, Nat.testBit_shiftRight, Nat.testBit_two_pow_mul_add _ hx]
  by_cases hi : i < 32
  · by_cases h : n + i < 32
    · have h0 : ¬ 32 - n ≤ i := by omega
      simp [hi, h, h0]
    · have h0 : 32 - n ≤ i := by omega
      have hf : x.toNat.testBit (n + i) = false := Nat.testBit_lt_two_pow (Nat.lt_of_lt_of_le hx (Nat.pow_le_pow_right (by decide) (by omega)))
      simp [hi, h, h0, hf]
      congr 1
      omega
  · have hf : x.toNat.testBit (n + i) = false := Nat.testBit_lt_two_pow (Nat.lt_of_lt_of_le hx (Nat.pow_le_pow_right (by decide) (by omega)))
    simp [hi, hf]
def xo3 (y i j k : Nat) : Nat := Nat.mod (Nat.xor (Nat.xor (rx y i) (rx y j)) (rx y k)) M32
theorem xo3_eq (x : UInt32) {i j k : Nat} (hi : i ≤ 32) (hj : j ≤ 32) (hk : k ≤ 32) : (rotr x i ^^^ rotr x j ^^^ rotr x k).toNat = xo3 (dbl x.toNat) i j k := by
  rw [UInt32.toNat_xor, UInt32.toNat_xor, rotr_nat x hi, rotr_nat x hj, rotr_nat x hk]
  show _ = ((rx (dbl x.toNat) i ^^^ rx (dbl x.toNat) j) ^^^ rx (dbl x.toNat) k) % 2 ^ 32
  rw [Nat.xor_mod_two_pow, Nat.xor_mod_two_pow]
def xo2 (x y i j k : Nat) : Nat := Nat.xor (Nat.mod (Nat.xor (rx y i) (rx y j)) M32) (Nat.shiftRight x k)
theorem xo2_eq (x : UInt32) {i j : Nat} (k : Nat) (hi : i ≤ 32) (hj : j ≤ 32) : (rotr x i ^^^ rotr x j ^^^ shr32 x k).toNat = xo2 x.toNat (dbl x.toNat) i j k := by
  rw [UInt32.toNat_xor, UInt32.toNat_xor, rotr_nat x hi, rotr_nat x hj]
  show _ = ((rx (dbl x.toNat) i ^^^ rx (dbl x.toNat) j) % 2 ^ 32) ^^^ (x.toNat >>> k)
  rw [Nat.xor_mod_two_pow]
  rfl
structure N8 where
  a : Nat
  b : Nat
  c : Nat
  d : Nat
  e : Nat
  f : Nat
  g : Nat
  h : Nat
def toN (s : H8) : N8 := ⟨s.a.toNat, s.b.toNat, s.c.toNat, s.d.toNat, s.e.toNat, s.f.toNat, s.g.toNat, s.h.toNat⟩
def rndN (k w : Nat) (s : N8) : N8 :=
  (fun x y => N8.mk (Nat.mod (Nat.add x y) M32) s.a s.b s.c (Nat.mod (Nat.add s.d x) M32) s.e s.f s.g)
    (Nat.add (Nat.add (Nat.add (Nat.add s.h (xo3 (dbl s.e) 6 11 25)) (Nat.xor (Nat.land s.e s.f) (Nat.land (Nat.sub 4294967295 s.e) s.g))) k) w)
    (Nat.add (xo3 (dbl s.a) 2 13 22) (Nat.xor (Nat.xor (Nat.land s.a s.b) (Nat.land s.a s.c)) (Nat.land s.b s.c)))
theorem rnd_N (k w : UInt32) (s : H8) : toN (rnd k w s) = rndN k.toNat w.toNat (toN s) := by
  have h1 := xo3_eq s.e (i := 6) (j := 11) (k := 25) (by decide) (by decide) (by decide)
  have h2 := xo3_eq s.a (i := 2) (j := 13) (k := 22) (by decide) (by decide) (by decide)
  have h3 : (~~~s.e).toNat = 4294967295 - s.e.toNat := by rw [UInt32.toNat_not]; rfl
  simp only [toN, rnd, rndN, N8.mk.injEq, and_true, true_and]
  rw [← h1, ← h2]
  generalize (rotr s.e 6 ^^^ rotr s.e 11 ^^^ rotr s.e 25) = S1
  generalize (rotr s.a 2 ^^^ rotr s.a 13 ^^^ rotr s.a 22) = S0
  simp only [UInt32.toNat_add, UInt32.toNat_xor, UInt32.toNat_and, h3]
  show _ = (_ + _ + ((s.e.toNat &&& s.f.toNat) ^^^ ((4294967295 - s.e.toNat) &&& s.g.toNat)) + _ + _ + (_ + ((s.a.toNat &&& s.b.toNat) ^^^ (s.a.toNat &&& s.c.toNat) ^^^ (s.b.toNat &&& s.c.toNat)))) % M32 ∧ _ = (s.d.toNat + (_ + _ + ((s.e.toNat &&& s.f.toNat) ^^^ ((4294967295 - s.e.toNat) &&& s.g.toNat)) + _ + _)) % M32
  simp only [M32]
  omega
def rndsN : List Nat → List Nat → N8 → N8
  | [], _, s => s
  | _ :: _, [], s => s
  | k :: ks, w :: ws, s => rndsN ks ws (rndN k w s)
theorem rndsN_snoc (k w : Nat) : ∀ (ks ws : List Nat) (s : N8), ks.length = ws.length → rndsN (ks ++ [k]) (ws ++ [w]) s = rndN k w (rndsN ks ws s)
  | [], [], s, _ => rfl
  | [], _ :: _, _, h => by simp at h
  | _ :: _, [], _, h => by simp at h
  | k' :: ks, w' :: ws, s, h => by
    simp only [List.cons_append, rndsN]
    exact rndsN_snoc k w ks ws _ (by simpa using h)
def n32 (l : List UInt32) : List Nat := l.map UInt32.toNat
theorem take32 {l : List UInt32} {i : Nat} (h : i < l.length) : l.take (i + 1) = l.take i ++ [at32 l i] := by
  rw [List.take_succ_eq_append_getElem h, at32, List.getD, List.getElem?_eq_getElem h]; rfl
theorem rnds_N (w : List UInt32) (s : H8) (hw : w.length = 64) : ∀ t, t ≤ 64 → toN (rnds w s t) = rndsN (n32 (kc.take t)) (n32 (w.take t)) (toN s)
  | 0, _ => rfl
  | t + 1, h => by
    have hk : kc.length = 64 := rfl
    have e1 : n32 (kc.take (t + 1)) = n32 (kc.take t) ++ [(at32 kc t).toNat] := by rw [take32 (l := kc) (by omega)]; simp [n32]
    have e2 : n32 (w.take (t + 1)) = n32 (w.take t) ++ [(at32 w t).toNat] := by rw [take32 (l := w) (by omega)]; simp [n32]
    rw [rnds, rnd_N, rnds_N w s hw t (by omega), e1, e2]
    exact (rndsN_snoc _ _ _ _ _ (by simp [n32]; omega)).symm
/-- The schedule, the last word first. -/
def schW : Nat → List Nat → List Nat
  | 0, acc => acc
  | n + 1, acc => schW n ((fun p q => Nat.mod (Nat.add (Nat.add (Nat.add (acc.getD 15 0) (xo2 p (dbl p) 7 18 3)) (acc.getD 6 0)) (xo2 q (dbl q) 17 19 10)) M32) (acc.getD 14 0) (acc.getD 1 0) :: acc)
theorem rev_at (w : List UInt32) {i : Nat} (h : i < w.length) : (n32 w.reverse).getD i 0 = (at32 w (w.length - 1 - i)).toNat := by
  rw [n32, List.getD, List.getElem?_map, List.getElem?_eq_getElem (by simpa using h), List.getElem_reverse, at32, List.getD, List.getElem?_eq_getElem (by omega)]
  rfl
theorem sched_N (b : List UInt8) : ∀ (n t : Nat), 16 ≤ t → schW n (n32 (sched b t).reverse) = n32 (sched b (t + n)).reverse
  | 0, _, _ => rfl
  | n + 1, t, ht => by
    have hl := sched_length b t
    rw [schW, rev_at _ (by omega), rev_at _ (by omega), rev_at _ (by omega), rev_at _ (by omega), hl]
    have hs : n32 (sched b (t + 1)).reverse = (wnext b t (sched b t)).toNat :: n32 (sched b t).reverse := by simp [sched, n32]
    have e : (wnext b t (sched b t)).toNat = Nat.mod (Nat.add (Nat.add (Nat.add (at32 (sched b t) (t - 1 - 15)).toNat (xo2 (at32 (sched b t) (t - 1 - 14)).toNat (dbl (at32 (sched b t) (t - 1 - 14)).toNat) 7 18 3)) (at32 (sched b t) (t - 1 - 6)).toNat) (xo2 (at32 (sched b t) (t - 1 - 1)).toNat (dbl (at32 (sched b t) (t - 1 - 1)).toNat) 17 19 10)) M32 := by
      rw [wnext, if_neg (by omega), sg0, sg1, UInt32.toNat_add, UInt32.toNat_add, UInt32.toNat_add, xo2_eq _ 3 (by decide) (by decide), xo2_eq _ 10 (by decide) (by decide)]
      simp only [Nat.sub_sub]
      show _ = (_ + _ + _ + _) % M32
      simp only [M32, Nat.reduceAdd]
      omega
    have e' := (congrArg (· :: n32 (sched b t).reverse) e).symm.trans hs.symm
    have h' := sched_N b n (t + 1) (by omega)
    rw [← e', Nat.add_assoc, Nat.add_comm 1 n] at h'
    exact h'
def wd (b : List UInt8) (t : Nat) : Nat := Nat.add (Nat.mul 256 (Nat.add (Nat.mul 256 (Nat.add (Nat.mul 256 (at8 b (4 * t)).toNat) (at8 b (4 * t + 1)).toNat)) (at8 b (4 * t + 2)).toNat)) (at8 b (4 * t + 3)).toNat
theorem or8 {x : UInt32} {N : Nat} (hx : x.toNat = N) (hN : N < 16777216) (c : UInt8) : (shl32 x 8 ||| c.toUInt32).toNat = 256 * N + c.toNat := by
  subst hx
  have hc := c.toNat_lt
  rw [UInt32.toNat_or]
  show ((x.toBitVec <<< 8).toNat ||| c.toUInt32.toNat) = _
  rw [BitVec.toNat_shiftLeft, UInt8.toNat_toUInt32]
  show (x.toNat <<< 8 % 2 ^ 32 ||| c.toNat) = _
  rw [Nat.mod_eq_of_lt (by rw [Nat.shiftLeft_eq]; omega), ← Nat.shiftLeft_add_eq_or_of_lt (by omega), Nat.shiftLeft_eq]
  omega
theorem ldw_N (b : List UInt8) (t : Nat) : (ldw b t 4).toNat = wd b t := by
  have h0 := (at8 b (4 * t)).toNat_lt
  have h1 := (at8 b (4 * t + 1)).toNat_lt
  have h2 := (at8 b (4 * t + 2)).toNat_lt
  have e1 : (ldw b t 1).toNat = (at8 b (4 * t)).toNat := by rw [ldw, ldw, or8 (N := 0) rfl (by decide)]; simp
  have e2 : (ldw b t 2).toNat = 256 * (at8 b (4 * t)).toNat + (at8 b (4 * t + 1)).toNat := by rw [ldw, or8 e1 (by omega)]
  have e3 : (ldw b t 3).toNat = 256 * (256 * (at8 b (4 * t)).toNat + (at8 b (4 * t + 1)).toNat) + (at8 b (4 * t + 2)).toNat := by rw [ldw, or8 e2 (by omega)]
  rw [ldw, or8 e3 (by omega)]
  rfl
/-- The first words, the last first. -/
def wrds : Nat → List UInt8 → List Nat → List Nat
  | n + 1, a :: b :: c :: d :: r, acc => wrds n r (Nat.add (Nat.mul 256 (Nat.add (Nat.mul 256 (Nat.add (Nat.mul 256 a.toNat) b.toNat)) c.toNat)) d.toNat :: acc)
  | _, _, acc => acc
theorem wrds_N (b : List UInt8) (hb : b.length = 64) : ∀ (n t : Nat), n + t = 16 → wrds n (b.drop (4 * t)) (n32 (sched b t).reverse) = n32 (sched b 16).reverse
  | 0, t, h => by
    have : t = 16 := by omega
    subst this
    rfl
  | n + 1, t, h => by
    have hd : b.drop (4 * t) = at8 b (4 * t) :: at8 b (4 * t + 1) :: at8 b (4 * t + 2) :: at8 b (4 * t + 3) :: b.drop (4 * (t + 1)) := by
      rw [List.drop_eq_getElem_cons (by omega), List.drop_eq_getElem_cons (by omega), List.drop_eq_getElem_cons (by omega), List.drop_eq_getElem_cons (by omega)]
      simp only [at8, List.getD, List.getElem?_eq_getElem (show 4 * t < b.length by omega), List.getElem?_eq_getElem (show 4 * t + 1 < b.length by omega), List.getElem?_eq_getElem (show 4 * t + 2 < b.length by omega), List.getElem?_eq_getElem (show 4 * t + 3 < b.length by omega), Option.getD_some]
      rfl
    have hs : n32 (sched b (t + 1)).reverse = wd b t :: n32 (sched b t).reverse := by
      have : wnext b t (sched b t) = ldw b t 4 := by rw [wnext, if_pos (by omega)]
      simp [sched, n32, this, ldw_N]
    rw [hd, wrds]
    show wrds n _ (wd b t :: _) = _
    rw [← hs, wrds_N b hb n (t + 1) (by omega)]
def kcN : List Nat := n32 kc
def comprN (s : N8) (b : List UInt8) : N8 :=
  (fun r => N8.mk (Nat.mod (Nat.add s.a r.a) M32) (Nat.mod (Nat.add s.b r.b) M32) (Nat.mod (Nat.add s.c r.c) M32) (Nat.mod (Nat.add s.d r.d) M32) (Nat.mod (Nat.add s.e r.e) M32) (Nat.mod (Nat.add s.f r.f) M32) (Nat.mod (Nat.add s.g r.g) M32) (Nat.mod (Nat.add s.h r.h) M32))
    (rndsN kcN (schW 48 (wrds 16 b [])).reverse s)
theorem compr_N (s : H8) (b : List UInt8) (hb : b.length = 64) : toN (compr s b) = comprN (toN s) b := by
  have hw := wrds_N b hb 16 0 rfl
  have e0 : b.drop (4 * 0) = b := rfl
  have e1 : n32 (sched b 0).reverse = [] := rfl
  rw [e0, e1] at hw
  have hs := sched_N b 48 16 (by decide)
  have hr := rnds_N (sched b 64) s (sched_length b 64) 64 (by decide)
  rw [List.take_of_length_le (l := sched b 64) (by rw [sched_length]; decide), List.take_of_length_le (l := kc) (i := 64) (Nat.le_refl _)] at hr
  have hrev : (n32 (sched b 64).reverse).reverse = n32 (sched b 64) := by simp [n32]
  unfold comprN
  rw [hw, hs, hrev, kcN, ← hr]
  simp only [compr, H8.add, toN, N8.mk.injEq]
  exact ⟨UInt32.toNat_add _ _, UInt32.toNat_add _ _, UInt32.toNat_add _ _, UInt32.toNat_add _ _, UInt32.toNat_add _ _, UInt32.toNat_add _ _, UInt32.toNat_add _ _, UInt32.toNat_add _ _⟩
def blkM : Nat → List UInt8 → N8 → N8
  | 0, _, s => s
  | k + 1, m, s => blkM k (m.drop 64) (comprN s (m.take 64))
theorem blkM_snoc : ∀ (k : Nat) (m : List UInt8) (s : N8), blkM (k + 1) m s = comprN (blkM k m s) ((m.drop (64 * k)).take 64)
  | 0, _, _ => rfl
  | k + 1, m, s => by
    rw [blkM, blkM_snoc k, List.drop_drop, show 64 + 64 * k = 64 * (k + 1) by omega]
    rfl
theorem blk_N (m : List UInt8) (s : H8) : ∀ k, 64 * k ≤ m.length → toN (blk m s k) = blkM k m (toN s)
  | 0, _ => rfl
  | k + 1, h => by rw [blk, compr_N _ _ (by simp; omega), blk_N m s k (by omega), blkM_snoc]
def o4 (x : Nat) : List UInt8 := [UInt8.ofNat (Nat.shiftRight x 24), UInt8.ofNat (Nat.shiftRight x 16), UInt8.ofNat (Nat.shiftRight x 8), UInt8.ofNat x]
def outN (s : N8) : List UInt8 := o4 s.a ++ (o4 s.b ++ (o4 s.c ++ (o4 s.d ++ (o4 s.e ++ (o4 s.f ++ (o4 s.g ++ o4 s.h))))))
theorem shr8_N (x : UInt32) (n : Nat) : (shr32 x n).toUInt8 = UInt8.ofNat (Nat.shiftRight x.toNat n) := by
  apply UInt8.toNat_inj.1
  rw [UInt32.toNat_toUInt8, UInt8.toNat_ofNat']
  show (x.toBitVec >>> n).toNat % 256 = (x.toNat >>> n) % 256
  rw [BitVec.toNat_ushiftRight]
  rfl
theorem out_N (h : H8) : outB h 32 = outN (toN h) := by
  simp only [outB, outN, o4, toN, List.nil_append, List.append_assoc, List.cons_append, shr8_N]
  rfl
def padM (n : Nat) : List UInt8 := 128 :: (zeros (Nat.mod (Nat.sub 119 (Nat.mod n 64)) 64) ++ [UInt8.ofNat (Nat.shiftRight (Nat.mul 8 n) 56), UInt8.ofNat (Nat.shiftRight (Nat.mul 8 n) 48), UInt8.ofNat (Nat.shiftRight (Nat.mul 8 n) 40), UInt8.ofNat (Nat.shiftRight (Nat.mul 8 n) 32), UInt8.ofNat (Nat.shiftRight (Nat.mul 8 n) 24), UInt8.ofNat (Nat.shiftRight (Nat.mul 8 n) 16), UInt8.ofNat (Nat.shiftRight (Nat.mul 8 n) 8), UInt8.ofNat (Nat.mul 8 n)])
theorem shr64_N {x : UInt64} {N : Nat} (hx : x.toNat = N) (n : Nat) : (shr64 x n).toUInt8 = UInt8.ofNat (Nat.shiftRight N n) := by
  apply UInt8.toNat_inj.1
  rw [UInt64.toNat_toUInt8, UInt8.toNat_ofNat']
  show (x.toBitVec >>> n).toNat % 256 = (N >>> n) % 256
  rw [BitVec.toNat_ushiftRight]
  subst hx
  rfl
theorem pad_N {n : Nat} (h : n < 1099511627776) : padOf (UInt64.ofNat n) = padM n := by
  have h1 : (UInt64.ofNat n).toNat = n := by rw [UInt64.toNat_ofNat']; omega
  have h2 : (8 * UInt64.ofNat n).toNat = 8 * n := by
    rw [UInt64.toNat_mul, h1]
    have : (8 : UInt64).toNat = 8 := rfl
    rw [this]; omega
  simp only [padOf, h1, padM, be8, List.nil_append, List.append_assoc, List.cons_append, shr64_N h2, padZ]
  rfl
def ivN : N8 := toN iv
def shaN (b : List UInt8) : List UInt8 := (fun m => outN (blkM (Nat.div m.length 64) m ivN)) (b ++ padM b.length)
theorem sha_N {b : List UInt8} (h : b.length < 1099511000000) : sha b = shaN b := by
  obtain ⟨h1, h2, h3⟩ := padded_len (b := b) (by omega)
  rw [sha_blk h, out_N, blk_N _ _ _ (by omega)]
  show _ = outN (blkM ((b ++ padM b.length).length / 64) (b ++ padM b.length) ivN)
  rw [← pad_N (by omega)]
  rfl
end Go.Abs
end

section
namespace Go.Abs
def encQ (n : Nat) : List UInt8 := if n = 0 then [128] else [129, UInt8.ofNat n]
theorem encI_Q {n : Nat} (h : n < 256) : encI (n : Int) = encQ n := by
  have hm : mag (n : Int) = n := by unfold mag; rw [if_neg (by omega)]; omega
  have hf : ∀ c, flp (n : Int) c = c := fun c => by rw [flp, if_neg (by omega)]
  rw [encI, hm, encQ]
  by_cases h0 : n = 0
  · subst h0
    have := hf 128
    simp [digs_zero]
    exact this
  · rw [if_neg h0, digs_pos h0, show n / 256 = 0 by omega, digs_zero]
    simp [hf]
def encSQ (s : List UInt8) : List UInt8 := encQ s.length ++ s
theorem encS_Q {s : List UInt8} (h : s.length < 256) : encS s = encSQ s := by rw [encS, encI_Q h, encSQ]
def digM (tag : Int) (parts : List (List UInt8)) : List UInt8 := (shaN (UInt8.ofInt tag :: parts.flatMap encSQ)).take 16
theorem flat_Q : ∀ {l : List (List UInt8)}, (∀ s ∈ l, s.length < 256) → l.flatMap encS = l.flatMap encSQ
  | [], _ => rfl
  | x :: l, h => by rw [List.flatMap_cons, List.flatMap_cons, encS_Q (h x (by simp)), flat_Q fun s hs => h s (by simp [hs])]
theorem dig_M {tag : Int} {parts : List (List UInt8)} (h : ∀ s ∈ parts, s.length < 256) (ht : totS parts < 1000000000) : digOf tag parts = digM tag parts := by
  have := len_flatMap_encS (l := parts) (by omega)
  rw [digOf, sha_N (by simp only [inpOf, List.length_cons]; omega), inpOf, flat_Q h, digM]
end Go.Abs
end

section
namespace Go.Abs
theorem fwc_ok (E : Env) : ∀ ds, fwC.pre ds → ds.length = f_custodylaw28_few.n ∧ awp E f_custodylaw28_few.body (retQ f_custodylaw28_few.res (fwC.post ds)) (initSt f_custodylaw28_few.wr ds) := by
  rintro _ ⟨c, nl, rfl⟩
  rw [fw_post]
  obtain ⟨k1, k2, k3, k4, k5, k6, dt, ls⟩ := c
  by_cases a : dt.length ≤ 3000
  · by_cases b : ls.length ≤ 200
    · simp (maxSteps := 1000000) (disch := first | omega | (simp; done) | (simp; omega)) [W_id, bys_app, bys_snoc, f_custodylaw28_few, f_custodylaw28_few_r0, cmdL, fewB, a, b, dT, dF]
    · simp (maxSteps := 1000000) (disch := first | omega | (simp; done) | (simp; omega)) [W_id, bys_app, bys_snoc, f_custodylaw28_few, f_custodylaw28_few_r0, cmdL, fewB, a, b, dT, dF]
  · simp (maxSteps := 1000000) (disch := first | omega | (simp; done) | (simp; omega)) [W_id, bys_app, bys_snoc, f_custodylaw28_few, f_custodylaw28_few_r0, cmdL, fewB, a, dT, dF]
theorem dig5 : digs 5 = [5] := digs_lt (by decide) (by decide)
theorem dig12 : digs 12 = [12] := digs_lt (by decide) (by decide)
theorem enc5 : encI 5 = [129, 5] := by simp [encI, mag, flp, dig5]
theorem enc12 : encI 12 = [129, 12] := by simp [encI, mag, flp, dig12]
theorem encEx : encC cEx = [129, 12, 129, 5, 128, 128, 128, 128, 128, 128] := by simp [encC, six, cEx, encS, encIs, enc0, enc5, enc12]
theorem encOdd : encC cOdd = [129, 12, 129, 5, 128, 128, 128, 129, 1, 128, 128] := by simp [encC, six, cOdd, encS, encIs, enc0, enc1, enc5, enc12]
theorem chkEx : chkC cEx = 0 := by decide +kernel
theorem chkOdd : chkC cOdd = 1 := by decide +kernel
theorem decEx : decC (encC cEx) = (cEx, 0) := by rw [dec_enc cEx_small, if_pos chkEx]
theorem dec129 : (decC [129]).2 = 5 := by decide +kernel
theorem kindMerge : kindOf [109, 101, 114, 103, 101] = 19 := by decide +kernel
theorem kindNothing : kindOf [110, 111, 116, 104, 105, 110, 103] = 0 := by decide +kernel
theorem name8 : nameOf 8 = [117, 110, 119, 114, 97, 112] := by decide +kernel
theorem name28 : nameOf 28 = [] := by decide +kernel
theorem digEx : (digM 7 [[129, 12, 129, 5, 128, 128, 128, 128, 128, 128]] == digM 7 [[129, 12, 129, 5, 128, 128, 128, 129, 1, 128, 128]]) = false := by kernel_rfl
theorem digNe : ¬ (digOf 7 [encC cEx] = digOf 7 [encC cOdd]) := by
  rw [encEx, encOdd, dig_M (by simp) (by decide), dig_M (by simp) (by decide)]
  simpa using digEx
theorem exL : [i64 12, i64 5, i64 0, i64 0, i64 0, i64 0, st [], .sl .plain none 0 []] = cmdL cEx none := rfl
theorem oddL : splice (cmdL cEx none) 5 [i64 1] = cmdL cOdd none := rfl

theorem lit10 : splice (splice (splice (splice (splice (splice (splice (splice (splice (splice (bys (zeros 10)) 0 [u8 129]) 1 [u8 12]) 2 [u8 129]) 3 [u8 5]) 4 [u8 128]) 5 [u8 128]) 6 [u8 128]) 7 [u8 128]) 8 [u8 128]) 9 [u8 128] = bys (encC cEx) := by rw [encEx]; rfl
end Go.Abs
end

section
namespace Go.Abs
set_option maxHeartbeats 8000000 in
theorem san28_ok (E : Env) (h130 : E.G 130 = encCC) (h138 : E.G 138 = decCC) (h123 : E.G 123 = kindC) (h38 : E.G 38 = sameC) (h149 : E.G 149 = sameCC) (h125 : E.G 125 = nameC) (h128 : E.G 128 = chkCC) (h133 : E.G 133 = sameCC) (h131 : E.G 131 = digCC) (h148 : E.G 148 = digCC) : ∀ ds, sanC.pre ds → ds.length = f_custodylaw28_sanity.n ∧ awp E f_custodylaw28_sanity.body (retQ f_custodylaw28_sanity.res (sanC.post ds)) (initSt f_custodylaw28_sanity.wr ds) := by
  rintro _ rfl
  have hel : (encC cEx).length = 10 := by rw [encEx]; rfl
  simp (maxSteps := 1000000) (disch := first | omega | (simp; done) | (simp; omega)) [W_id, bys_app, bys_snoc, f_custodylaw28_sanity, f_custodylaw28_sanity_r0, exL, splice_cmd]
  simp (maxSteps := 1000000) (disch := first | omega | (simp; done) | (simp; omega)) [W_id, bys_app, bys_snoc, f_custodylaw28_sanity_r1, h130, encC_pre cEx_small]
  refine awp_name fun Q0 hQ0 => ?_
  simp (maxSteps := 1000000) (disch := first | omega | (simp; done) | (simp; omega)) [W_id, bys_app, bys_snoc, f_custodylaw28_sanity_r2, h138, decC_pre, hel, decEx, splice_cmd]
  obtain ⟨z, hz⟩ : ∃ z, decC [129] = (z, 5) := ⟨(decC [129]).1, Prod.ext rfl dec129⟩
  have l1 : [u8 129] = bys [129] := rfl
  have l2 : splice [u8 0] 0 (bys [129]) = bys [129] := rfl
  simp (maxSteps := 1000000) (disch := first | omega | (simp; done) | (simp; omega)) [W_id, bys_app, bys_snoc, f_custodylaw28_sanity_r3, l1, l2, h138, decC_pre, hz, splice_cmd]
  simp (maxSteps := 1000000) (disch := first | omega | (simp; done) | (simp; omega)) [W_id, bys_app, bys_snoc, f_custodylaw28_sanity_r4, f_custodylaw28_sanity_r5, h123, kindMerge, kindNothing]
  simp (maxSteps := 1000000) (disch := first | omega | (simp; done) | (simp; omega)) [W_id, bys_app, bys_snoc, f_custodylaw28_sanity_r6, f_custodylaw28_sanity_r7, oddL, splice_cmd]
  have n8 : nameC.pre [i64 8] = True := name_pre ⟨by decide, by decide⟩
  have n28 : nameC.pre [i64 28] = True := name_pre ⟨by decide, by decide⟩
  have d1 : (digOf 7 [encC cEx]).length = 16 := digOf_len _ _
  have d2 : (digOf 7 [encC cOdd]).length = 16 := digOf_len _ _
  have se : sameB cEx cEx = true := sameB_self _
  have so : sameB cEx cOdd = false := by decide
  simp (maxSteps := 1000000) (disch := first | omega | (simp; done) | (simp; omega)) [W_id, bys_app, bys_snoc, f_custodylaw28_sanity_r8, lit10, h38, same_pre, hel, h149, sameC_pre cEx_small cEx_small, sameC_pre cEx_small cOdd_small, se, so, h125, n8, n28, name8, name28, h128, chkC_pre cEx_small, chkC_pre cOdd_small, chkEx, chkOdd, h133, h131, digC_pre cEx_small, digC_pre cOdd_small, h148, eqCells_ks8, d1, d2, digNe, hQ0]
end Go.Abs
end
