/- Lemmas: an abstract interpreter, and what the functions compute. -/
import Derived.Test.YtikmfgbgionjhaaDoorE
import Derived.KernelRfl
import Derived.Test.YtikmfgbgionjhaaDoorH
set_option linter.unusedSimpArgs false
set_option linter.unusedVariables false
set_option linter.unusedSectionVars false
section
namespace Go.Abs
def M32 : Nat := 4294967296
def rx (y n : Nat) : Nat := Nat.shiftRight y n
def dbl (x : Nat) : Nat := Nat.mul 4294967297 x
theorem rotr_nat (x : UInt32) {n : Nat} (hn : n ≤ 32) : (rotr x n).toNat = rx (dbl x.toNat) n % 2 ^ 32 := by
  have hx := x.toNat_lt
  have e1 : (rotr x n).toNat = (x.toNat >>> n) ||| ((x.toNat <<< (32 - n)) % 2 ^ 32) := by
    rw [rotr, UInt32.toNat_or]
    show (x.toBitVec >>> n).toNat ||| (x.toBitVec <<< (32 - n)).toNat = _
    rw [BitVec.toNat_ushiftRight, BitVec.toNat_shiftLeft]
    rfl
  have e2 : rx (dbl x.toNat) n = (2 ^ 32 * x.toNat + x.toNat) >>> n := by
    show (4294967297 * x.toNat) >>> n = _
    congr 1
    omega
  rw [e1, e2]
  apply Nat.eq_of_testBit_eq
  intro i
  rw [Nat.testBit_or, Nat.testBit_shiftRight, Nat.testBit_mod_two_pow, Nat.testBit_shiftLeft, Nat.testBit_mod_two_pow, Nat.testBit_shiftRight, Nat.testBit_two_pow_mul_add _ hx]
  by_cases hi : i < 32
  · by_cases h : n + i < 32
    · have h0 : ¬ 32 - n ≤ i := by omega
      simp [hi, h, h0]
    · have h0 : 32 - n ≤ i := by omega
      have hf : x.toNat.testBit (n + i) = false := Nat.testBit_lt_two_pow (Nat.lt_of_lt_of_le hx (Nat.pow_le_pow_right (by decide) (by omega)))
      simp [hi, h, h0, hf]
      congr 1
      omega
  · have hf : x.toNat.testBit (n + i) = false := Nat.testBit_lt_two_pow (Nat.lt_of_lt_of_le hx (Nat.pow_le_pow_right (by decide) (by omega)))
    simp [hi, hf]
def x3 (y i j k : Nat) : Nat := Nat.mod (Nat.xor (Nat.xor (rx y i) (rx y j)) (rx y k)) M32
theorem x3_eq (x : UInt32) {i j k : Nat} (hi : i ≤ 32) (hj : j ≤ 32) (hk : k ≤ 32) : (rotr x i ^^^ rotr x j ^^^ rotr x k).toNat = x3 (dbl x.toNat) i j k := by
  rw [UInt32.toNat_xor, UInt32.toNat_xor, rotr_nat x hi, rotr_nat x hj, rotr_nat x hk]
  show _ = ((rx (dbl x.toNat) i ^^^ rx (dbl x.toNat) j) ^^^ rx (dbl x.toNat) k) % 2 ^ 32
  rw [Nat.xor_mod_two_pow, Nat.xor_mod_two_pow]
def x2 (x y i j k : Nat) : Nat := Nat.xor (Nat.mod (Nat.xor (rx y i) (rx y j)) M32) (Nat.shiftRight x k)
theorem x2_eq (x : UInt32) {i j : Nat} (k : Nat) (hi : i ≤ 32) (hj : j ≤ 32) : (rotr x i ^^^ rotr x j ^^^ shr32 x k).toNat = x2 x.toNat (dbl x.toNat) i j k := by
  rw [UInt32.toNat_xor, UInt32.toNat_xor, rotr_nat x hi, rotr_nat x hj]
  show _ = ((rx (dbl x.toNat) i ^^^ rx (dbl x.toNat) j) % 2 ^ 32) ^^^ (x.toNat >>> k)
  rw [Nat.xor_mod_two_pow]
  rfl
structure N8 where
  a : Nat
  b : Nat
  c : Nat
  d : Nat
  e : Nat
  f : Nat
  g : Nat
  h : Nat
def toN (s : H8) : N8 := ⟨s.a.toNat, s.b.toNat, s.c.toNat, s.d.toNat, s.e.toNat, s.f.toNat, s.g.toNat, s.h.toNat⟩
def rndN (k w : Nat) (s : N8) : N8 :=
  (fun x y => N8.mk (Nat.mod (Nat.add x y) M32) s.a s.b s.c (Nat.mod (Nat.add s.d x) M32) s.e s.f s.g)
    (Nat.add (Nat.add (Nat.add (Nat.add s.h (x3 (dbl s.e) 6 11 25)) (Nat.xor (Nat.land s.e s.f) (Nat.land (Nat.sub 4294967295 s.e) s.g))) k) w)
    (Nat.add (x3 (dbl s.a) 2 13 22) (Nat.xor (Nat.xor (Nat.land s.a s.b) (Nat.land s.a s.c)) (Nat.land s.b s.c)))
theorem rnd_N (k w : UInt32) (s : H8) : toN (rnd k w s) = rndN k.toNat w.toNat (toN s) := by
  have h1 := x3_eq s.e (i := 6) (j := 11) (k := 25) (by decide) (by decide) (by decide)
  have h2 := x3_eq s.a (i := 2) (j := 13) (k := 22) (by decide) (by decide) (by decide)
  have h3 : (~~~s.e).toNat = 4294967295 - s.e.toNat := by rw [UInt32.toNat_not]; rfl
  simp only [toN, rnd, rndN, N8.mk.injEq, and_true, true_and]
  rw [← h1, ← h2]
  generalize (rotr s.e 6 ^^^ rotr s.e 11 ^^^ rotr s.e 25) = S1
  generalize (rotr s.a 2 ^^^ rotr s.a 13 ^^^ rotr s.a 22) = S0
  simp only [UInt32.toNat_add, UInt32.toNat_xor, UInt32.toNat_and, h3]
  show _ = (_ + _ + ((s.e.toNat &&& s.f.toNat) ^^^ ((4294967295 - s.e.toNat) &&& s.g.toNat)) + _ + _ + (_ + ((s.a.toNat &&& s.b.toNat) ^^^ (s.a.toNat &&& s.c.toNat) ^^^ (s.b.toNat &&& s.c.toNat)))) % M32 ∧ _ = (s.d.toNat + (_ + _ + ((s.e.toNat &&& s.f.toNat) ^^^ ((4294967295 - s.e.toNat) &&& s.g.toNat)) + _ + _)) % M32
  simp only [M32]
  omega
def rndsN : List Nat → List Nat → N8 → N8
  | [], _, s => s
  | _ :: _, [], s => s
  | k :: ks, w :: ws, s => rndsN ks ws (rndN k w s)
theorem rndsN_snoc (k w : Nat) : ∀ (ks ws : List Nat) (s : N8), ks.length = ws.length → rndsN (ks ++ [k]) (ws ++ [w]) s = rndN k w (rndsN ks ws s)
  | [], [], s, _ => rfl
  | [], _ :: _, _, h => by simp at h
  | _ :: _, [], _, h => by simp at h
  | k' :: ks, w' :: ws, s, h => by
    simp only [List.cons_append, rndsN]
    exact rndsN_snoc k w ks ws _ (by simpa using h)
def n32 (l : List UInt32) : List Nat := l.map UInt32.toNat
theorem take32 {l : List UInt32} {i : Nat} (h : i < l.length) : l.take (i + 1) = l.take i ++ [at32 l i] := by
  rw [List.take_succ_eq_append_getElem h, at32, List.getD, List.getElem?_eq_getElem h]; rfl
theorem rnds_N (w : List UInt32) (s : H8) (hw : w.length = 64) : ∀ t, t ≤ 64 → toN (rnds w s t) = rndsN (n32 (kc.take t)) (n32 (w.take t)) (toN s)
  | 0, _ => rfl
  | t + 1, h => by
    have hk : kc.length = 64 := rfl
    have e1 : n32 (kc.take (t + 1)) = n32 (kc.take t) ++ [(at32 kc t).toNat] := by rw [take32 (l := kc) (by omega)]; simp [n32]
    have e2 : n32 (w.take (t + 1)) = n32 (w.take t) ++ [(at32 w t).toNat] := by rw [take32 (l := w) (by omega)]; simp [n32]
    rw [rnds, rnd_N, rnds_N w s hw t (by omega), e1, e2]
    exact (rndsN_snoc _ _ _ _ _ (by simp [n32]; omega)).symm
/-- The schedule, the last word first. -/
def schW : Nat → List Nat → List Nat
  | 0, acc => acc
  | n + 1, acc => schW n ((fun p q => Nat.mod (Nat.add (Nat.add (Nat.add (acc.getD 15 0) (x2 p (dbl p) 7 18 3)) (acc.getD 6 0)) (x2 q (dbl q) 17 19 10)) M32) (acc.getD 14 0) (acc.getD 1 0) :: acc)
theorem rev_at (w : List UInt32) {i : Nat} (h : i < w.length) : (n32 w.reverse).getD i 0 = (at32 w (w.length - 1 - i)).toNat := by
  rw [n32, List.getD, List.getElem?_map, List.getElem?_eq_getElem (by simpa using h), List.getElem_reverse, at32, List.getD, List.getElem?_eq_getElem (by omega)]
  rfl
theorem sched_N (b : List UInt8) : ∀ (n t : Nat), 16 ≤ t → schW n (n32 (sched b t).reverse) = n32 (sched b (t + n)).reverse
  | 0, _, _ => rfl
  | n + 1, t, ht => by
    have hl := sched_length b t
    rw [schW, rev_at _ (by omega), rev_at _ (by omega), rev_at _ (by omega), rev_at _ (by omega), hl]
    have hs : n32 (sched b (t + 1)).reverse = (wnext b t (sched b t)).toNat :: n32 (sched b t).reverse := by simp [sched, n32]
    have e : (wnext b t (sched b t)).toNat = Nat.mod (Nat.add (Nat.add (Nat.add (at32 (sched b t) (t - 1 - 15)).toNat (x2 (at32 (sched b t) (t - 1 - 14)).toNat (dbl (at32 (sched b t) (t - 1 - 14)).toNat) 7 18 3)) (at32 (sched b t) (t - 1 - 6)).toNat) (x2 (at32 (sched b t) (t - 1 - 1)).toNat (dbl (at32 (sched b t) (t - 1 - 1)).toNat) 17 19 10)) M32 := by
      rw [wnext, if_neg (by omega), sg0, sg1, UInt32.toNat_add, UInt32.toNat_add, UInt32.toNat_add, x2_eq _ 3 (by decide) (by decide), x2_eq _ 10 (by decide) (by decide)]
      simp only [Nat.sub_sub]
      show _ = (_ + _ + _ + _) % M32
      simp only [M32, Nat.reduceAdd]
      omega
    have e' := (congrArg (· :: n32 (sched b t).reverse) e).symm.trans hs.symm
    have h' := sched_N b n (t + 1) (by omega)
    rw [← e', Nat.add_assoc, Nat.add_comm 1 n] at h'
    exact h'
def wd (b : List UInt8) (t : Nat) : Nat := Nat.add (Nat.mul 256 (Nat.add (Nat.mul 256 (Nat.add (Nat.mul 256 (at8 b (4 * t)).toNat) (at8 b (4 * t + 1)).toNat)) (at8 b (4 * t + 2)).toNat)) (at8 b (4 * t + 3)).toNat
theorem or8 {x : UInt32} {N : Nat} (hx : x.toNat = N) (hN : N < 16777216) (c : UInt8) : (shl32 x 8 ||| c.toUInt32).toNat = 256 * N + c.toNat := by
  subst hx
  have hc := c.toNat_lt
  rw [UInt32.toNat_or]
  show ((x.toBitVec <<< 8).toNat ||| c.toUInt32.toNat) = _
  rw [BitVec.toNat_shiftLeft, UInt8.toNat_toUInt32]
  show (x.toNat <<< 8 % 2 ^ 32 ||| c.toNat) = _
  rw [Nat.mod_eq_of_lt (by rw [Nat.shiftLeft_eq]; omega), ← Nat.shiftLeft_add_eq_or_of_lt (by omega), Nat.shiftLeft_eq]
  omega
theorem ldw_N (b : List UInt8) (t : Nat) : (ldw b t 4).toNat = wd b t := by
  have h0 := (at8 b (4 * t)).toNat_lt
  have h1 := (at8 b (4 * t + 1)).toNat_lt
  have h2 := (at8 b (4 * t + 2)).toNat_lt
  have e1 : (ldw b t 1).toNat = (at8 b (4 * t)).toNat := by rw [ldw, ldw, or8 (N := 0) rfl (by decide)]; simp
  have e2 : (ldw b t 2).toNat = 256 * (at8 b (4 * t)).toNat + (at8 b (4 * t + 1)).toNat := by rw [ldw, or8 e1 (by omega)]
  have e3 : (ldw b t 3).toNat = 256 * (256 * (at8 b (4 * t)).toNat + (at8 b (4 * t + 1)).toNat) + (at8 b (4 * t + 2)).toNat := by rw [ldw, or8 e2 (by omega)]
  rw [ldw, or8 e3 (by omega)]
  rfl
/-- The first words, the last first. -/
def wrds : Nat → List UInt8 → List Nat → List Nat
  | n + 1, a :: b :: c :: d :: r, acc => wrds n r (Nat.add (Nat.mul 256 (Nat.add (Nat.mul 256 (Nat.add (Nat.mul 256 a.toNat) b.toNat)) c.toNat)) d.toNat :: acc)
  | _, _, acc => acc
theorem wrds_N (b : List UInt8) (hb : b.length = 64) : ∀ (n t : Nat), n + t = 16 → wrds n (b.drop (4 * t)) (n32 (sched b t).reverse) = n32 (sched b 16).reverse
  | 0, t, h => by
    have : t = 16 := by omega
    subst this
    rfl
  | n + 1, t, h => by
    have hd : b.drop (4 * t) = at8 b (4 * t) :: at8 b (4 * t + 1) :: at8 b (4 * t + 2) :: at8 b (4 * t + 3) :: b.drop (4 * (t + 1)) := by
      rw [List.drop_eq_getElem_cons (by omega), List.drop_eq_getElem_cons (by omega), List.drop_eq_getElem_cons (by omega), List.drop_eq_getElem_cons (by omega)]
      simp only [at8, List.getD, List.getElem?_eq_getElem (show 4 * t < b.length by omega), List.getElem?_eq_getElem (show 4 * t + 1 < b.length by omega), List.getElem?_eq_getElem (show 4 * t + 2 < b.length by omega), List.getElem?_eq_getElem (show 4 * t + 3 < b.length by omega), Option.getD_some]
      rfl
    have hs : n32 (sched b (t + 1)).reverse = wd b t :: n32 (sched b t).reverse := by
      have : wnext b t (sched b t) = ldw b t 4 := by rw [wnext, if_pos (by omega)]
      simp [sched, n32, this, ldw_N]
    rw [hd, wrds]
    show wrds n _ (wd b t :: _) = _
    rw [← hs, wrds_N b hb n (t + 1) (by omega)]
def kcN : List Nat := n32 kc
def comprN (s : N8) (b : List UInt8) : N8 :=
  (fun r => N8.mk (Nat.mod (Nat.add s.a r.a) M32) (Nat.mod (Nat.add s.b r.b) M32) (Nat.mod (Nat.add s.c r.c) M32) (Nat.mod (Nat.add s.d r.d) M32) (Nat.mod (Nat.add s.e r.e) M32) (Nat.mod (Nat.add s.f r.f) M32) (Nat.mod (Nat.add s.g r.g) M32) (Nat.mod (Nat.add s.h r.h) M32))
    (rndsN kcN (schW 48 (wrds 16 b [])).reverse s)
theorem compr_N (s : H8) (b : List UInt8) (hb : b.length = 64) : toN (compr s b) = comprN (toN s) b := by
  have hw := wrds_N b hb 16 0 rfl
  have e0 : b.drop (4 * 0) = b := rfl
  have e1 : n32 (sched b 0).reverse = [] := rfl
  rw [e0, e1] at hw
  have hs := sched_N b 48 16 (by decide)
  have hr := rnds_N (sched b 64) s (sched_length b 64) 64 (by decide)
  rw [List.take_of_length_le (l := sched b 64) (by rw [sched_length]; decide), List.take_of_length_le (l := kc) (i := 64) (Nat.le_refl _)] at hr
  have hrev : (n32 (sched b 64).reverse).reverse = n32 (sched b 64) := by simp [n32]
  unfold comprN
  rw [hw, hs, hrev, kcN, ← hr]
  simp only [compr, H8.add, toN, N8.mk.injEq]
  exact ⟨UInt32.toNat_add _ _, UInt32.toNat_add _ _, UInt32.toNat_add _ _, UInt32.toNat_add _ _, UInt32.toNat_add _ _, UInt32.toNat_add _ _, UInt32.toNat_add _ _, UInt32.toNat_add _ _⟩
def blkM : Nat → List UInt8 → N8 → N8
  | 0, _, s => s
  | k + 1, m, s => blkM k (m.drop 64) (comprN s (m.take 64))
theorem blkM_snoc : ∀ (k : Nat) (m : List UInt8) (s : N8), blkM (k + 1) m s = comprN (blkM k m s) ((m.drop (64 * k)).take 64)
  | 0, _, _ => rfl
  | k + 1, m, s => by
    rw [blkM, blkM_snoc k, List.drop_drop, show 64 + 64 * k = 64 * (k + 1) by omega]
    rfl
theorem blk_N (m : List UInt8) (s : H8) : ∀ k, 64 * k ≤ m.length → toN (blk m s k) = blkM k m (toN s)
  | 0, _ => rfl
  | k + 1, h => by rw [blk, compr_N _ _ (by simp; omega), blk_N m s k (by omega), blkM_snoc]
def o4 (x : Nat) : List UInt8 := [UInt8.ofNat (Nat.shiftRight x 24), UInt8.ofNat (Nat.shiftRight x 16), UInt8.ofNat (Nat.shiftRight x 8), UInt8.ofNat x]
def outN (s : N8) : List UInt8 := o4 s.a ++ (o4 s.b ++ (o4 s.c ++ (o4 s.d ++ (o4 s.e ++ (o4 s.f ++ (o4 s.g ++ o4 s.h))))))
theorem shr8_N (x : UInt32) (n : Nat) : (shr32 x n).toUInt8 = UInt8.ofNat (Nat.shiftRight x.toNat n) := by
  apply UInt8.toNat_inj.1
  rw [UInt32.toNat_toUInt8, UInt8.toNat_ofNat']
  show (x.toBitVec >>> n).toNat % 256 = (x.toNat >>> n) % 256
  rw [BitVec.toNat_ushiftRight]
  rfl
theorem out_N (h : H8) : outB h 32 = outN (toN h) := by
  simp only [outB, outN, o4, toN, List.nil_append, List.append_assoc, List.cons_append, shr8_N]
  rfl
def padM (n : Nat) : List UInt8 := 128 :: (zeros (Nat.mod (Nat.sub 119 (Nat.mod n 64)) 64) ++ [UInt8.ofNat (Nat.shiftRight (Nat.mul 8 n) 56), UInt8.ofNat (Nat.shiftRight (Nat.mul 8 n) 48), UInt8.ofNat (Nat.shiftRight (Nat.mul 8 n) 40), UInt8.ofNat (Nat.shiftRight (Nat.mul 8 n) 32), UInt8.ofNat (Nat.shiftRight (Nat.mul 8 n) 24), UInt8.ofNat (Nat.shiftRight (Nat.mul 8 n) 16), UInt8.ofNat (Nat.shiftRight (Nat.mul 8 n) 8), UInt8.ofNat (Nat.mul 8 n)])
theorem shr64_N {x : UInt64} {N : Nat} (hx : x.toNat = N) (n : Nat) : (shr64 x n).toUInt8 = UInt8.ofNat (Nat.shiftRight N n) := by
  apply UInt8.toNat_inj.1
  rw [UInt64.toNat_toUInt8, UInt8.toNat_ofNat']
  show (x.toBitVec >>> n).toNat % 256 = (N >>> n) % 256
  rw [BitVec.toNat_ushiftRight]
  subst hx
  rfl
theorem pad_N {n : Nat} (h : n < 1099511627776) : padOf (UInt64.ofNat n) = padM n := by
  have h1 : (UInt64.ofNat n).toNat = n := by rw [UInt64.toNat_ofNat']; omega
  have h2 : (8 * UInt64.ofNat n).toNat = 8 * n := by
    rw [UInt64.toNat_mul, h1]
    have : (8 : UInt64).toNat = 8 := rfl
    rw [this]; omega
  simp only [padOf, h1, padM, be8, List.nil_append, List.append_assoc, List.cons_append, shr64_N h2, padZ]
  rfl
def ivN : N8 := toN iv
def shaN (b : List UInt8) : List UInt8 := (fun m => outN (blkM (Nat.div m.length 64) m ivN)) (b ++ padM b.length)
theorem sha_N {b : List UInt8} (h : b.length < 1099511000000) : sha b = shaN b := by
  obtain ⟨h1, h2, h3⟩ := padded_len (b := b) (by omega)
  rw [sha_blk h, out_N, blk_N _ _ _ (by omega)]
  show _ = outN (blkM ((b ++ padM b.length).length / 64) (b ++ padM b.length) ivN)
  rw [← pad_N (by omega)]
  rfl
end Go.Abs
end

section
namespace Go.Abs
def encQ (n : Nat) : List UInt8 := if n = 0 then [128] else [129, UInt8.ofNat n]
theorem encI_Q {n : Nat} (h : n < 256) : encI (n : Int) = encQ n := by
  have hm : mag (n : Int) = n := by unfold mag; rw [if_neg (by omega)]; omega
  have hf : ∀ c, flp (n : Int) c = c := fun c => by rw [flp, if_neg (by omega)]
  rw [encI, hm, encQ]
  by_cases h0 : n = 0
  · subst h0
    have := hf 128
    simp [digs_zero]
    exact this
  · rw [if_neg h0, digs_pos h0, show n / 256 = 0 by omega, digs_zero]
    simp [hf]
def encSQ (s : List UInt8) : List UInt8 := encQ s.length ++ s
theorem encS_Q {s : List UInt8} (h : s.length < 256) : encS s = encSQ s := by rw [encS, encI_Q h, encSQ]
def digM (tag : Int) (parts : List (List UInt8)) : List UInt8 := (shaN (UInt8.ofInt tag :: parts.flatMap encSQ)).take 16
theorem flat_Q : ∀ {l : List (List UInt8)}, (∀ s ∈ l, s.length < 256) → l.flatMap encS = l.flatMap encSQ
  | [], _ => rfl
  | x :: l, h => by rw [List.flatMap_cons, List.flatMap_cons, encS_Q (h x (by simp)), flat_Q fun s hs => h s (by simp [hs])]
theorem dig_M {tag : Int} {parts : List (List UInt8)} (h : ∀ s ∈ parts, s.length < 256) (ht : totS parts < 1000000000) : digOf tag parts = digM tag parts := by
  have := len_flatMap_encS (l := parts) (by omega)
  rw [digOf, sha_N (by simp only [inpOf, List.length_cons]; omega), inpOf, flat_Q h, digM]
def advM (kb : List UInt8) (f : Nat) : Nat → List UInt8 → List UInt8
  | 0, v => v
  | n + 1, v => digM 4 [kb, encQ (f + n), advM kb f n v]
theorem encQ_len (n : Nat) : (encQ n).length ≤ 2 := by unfold encQ; split <;> simp
theorem adv_M {v : List UInt8} (hv : v.length = 16) {k f : Nat} (hk : k < 256) : ∀ n, f + n < 256 → advN (encI (k : Int)) f n v = advM (encQ k) f n v
  | 0, _ => rfl
  | n + 1, h => by
    have ih := adv_M hv (f := f) hk n (by omega)
    have hl := advN_len hv (encI (k : Int)) f n
    have h1 := encQ_len k
    have h2 := encQ_len (f + n)
    rw [advN, advM, ← ih, encI_Q hk, encI_Q (show f + n < 256 by omega)]
    rw [encI_Q hk] at hl
    refine dig_M ?_ ?_
    · simp only [List.mem_cons, List.not_mem_nil, or_false, forall_eq_or_imp, forall_eq]
      omega
    · simp only [totS, List.map_cons, List.map_nil, List.sum_cons, List.sum_nil]; omega
def macM (k t : List UInt8) : List UInt8 := shaN (padK k 92 ++ shaN (padK k 54 ++ t))
theorem mac_M {k t : List UInt8} (hk : k.length ≤ 64) (ht : t.length < 1000000000) : mac k t = macM k t := by
  have e : keyOf k = k := by rw [keyOf, if_neg (by omega)]
  rw [mac, e, sha_N (b := padK k 54 ++ t) (by simp; omega), sha_N, macM]
  rw [← sha_N (by simp; omega)]
  simp
def seedS : List UInt8 := [115, 101, 101, 100]
def strtM (k : Nat) : List UInt8 := (macM seedS (encSQ chainL ++ [encQ k].flatMap encSQ)).take 16
theorem strt_M {k : Nat} (hk : k < 256) : strt seedS k = strtM k := by
  have h1 := encQ_len k
  have hl : (encSQ chainL ++ [encQ k].flatMap encSQ).length < 1000000000 := by
    have h2 := encQ_len (encQ k).length
    simp only [encSQ, List.flatMap_cons, List.flatMap_nil, List.length_append, List.append_nil, chainL_len]
    have := encQ_len 5
    omega
  rw [strt, drv, inp, encI_Q hk, encS_Q (by decide), flat_Q (by simp; omega), mac_M (by decide) hl, strtM]
def wC : List (List UInt8) := [[140, 191, 173, 128, 31, 80, 113, 186, 199, 39, 39, 241, 51, 172, 26, 239], [25, 8, 52, 196, 33, 123, 119, 119, 146, 106, 235, 13, 153, 138, 218, 162], [179, 4, 103, 180, 70, 54, 118, 23, 194, 166, 182, 216, 0, 246, 217, 195], [69, 212, 87, 147, 150, 91, 109, 223, 10, 29, 159, 207, 201, 154, 151, 104], [13, 35, 70, 222, 189, 94, 81, 3, 94, 75, 15, 201, 148, 55, 173, 98], [214, 222, 12, 75, 39, 222, 104, 15, 12, 175, 155, 13, 99, 151, 54, 71], [81, 19, 12, 213, 23, 14, 58, 61, 158, 194, 12, 47, 27, 223, 120, 132], [169, 201, 55, 46, 37, 244, 24, 41, 120, 55, 182, 234, 4, 6, 81, 41], [116, 219, 227, 225, 190, 123, 253, 17, 46, 254, 9, 55, 40, 185, 91, 185], [90, 213, 31, 171, 107, 228, 180, 25, 86, 105, 62, 17, 177, 88, 2, 196], [71, 7, 110, 145, 66, 112, 255, 90, 65, 77, 78, 213, 251, 127, 152, 188], [120, 179, 74, 120, 34, 117, 241, 240, 108, 94, 6, 185, 30, 153, 134, 19], [117, 212, 192, 88, 147, 116, 96, 172, 136, 130, 34, 203, 126, 102, 49, 37], [192, 78, 42, 197, 16, 239, 150, 138, 36, 156, 231, 17, 193, 220, 138, 156], [2, 23, 234, 157, 16, 115, 116, 172, 61, 33, 90, 3, 146, 195, 70, 19], [38, 153, 238, 158, 193, 129, 115, 98, 183, 231, 105, 222, 171, 215, 49, 212], [255, 97, 19, 60, 120, 196, 228, 166, 18, 153, 27, 210, 161, 10, 46, 33], [33, 35, 122, 106, 170, 123, 61, 173, 186, 150, 174, 105, 75, 141, 31, 155], [115, 33, 20, 7, 240, 14, 25, 50, 37, 214, 105, 233, 54, 226, 206, 97], [255, 225, 32, 149, 238, 124, 81, 161, 164, 78, 106, 235, 251, 68, 176, 251], [170, 72, 201, 80, 179, 179, 127, 34, 5, 232, 47, 218, 222, 173, 44, 92], [93, 13, 173, 150, 145, 149, 165, 21, 141, 149, 87, 185, 36, 44, 23, 120], [148, 253, 119, 14, 150, 241, 125, 116, 202, 194, 231, 97, 207, 196, 73, 171], [48, 63, 50, 159, 110, 215, 208, 194, 91, 243, 32, 23, 254, 170, 92, 65], [209, 58, 219, 209, 229, 61, 112, 54, 64, 153, 72, 38, 245, 219, 243, 185], [41, 185, 75, 75, 214, 133, 202, 125, 240, 147, 178, 139, 184, 51, 137, 185], [53, 49, 124, 106, 162, 136, 121, 68, 152, 67, 31, 172, 3, 136, 200, 106], [5, 115, 131, 196, 25, 5, 166, 32, 255, 11, 85, 220, 136, 8, 56, 204], [180, 116, 166, 253, 79, 220, 61, 217, 78, 196, 93, 35, 144, 225, 192, 86], [230, 110, 88, 143, 227, 129, 144, 33, 210, 99, 85, 138, 220, 246, 107, 153], [89, 30, 34, 141, 128, 211, 2, 106, 25, 153, 93, 234, 103, 128, 71, 237], [231, 217, 111, 215, 103, 148, 67, 162, 8, 43, 213, 224, 53, 148, 242, 4], [21, 63, 242, 58, 88, 226, 210, 213, 25, 242, 255, 68, 148, 14, 175, 29], [87, 122, 113, 172, 171, 27, 173, 43, 146, 18, 5, 119, 162, 125, 158, 255], [54, 148, 30, 9, 132, 29, 113, 35, 32, 41, 38, 28, 76, 217, 15, 136]]
def wE : List (List UInt8) := [[29, 218, 181, 6, 220, 175, 170, 216, 16, 220, 46, 101, 10, 192, 94, 99], [55, 143, 116, 65, 15, 165, 149, 17, 156, 232, 14, 96, 53, 189, 184, 43], [30, 29, 173, 121, 185, 83, 204, 130, 120, 134, 155, 147, 248, 134, 88, 215], [86, 11, 20, 240, 6, 190, 5, 93, 140, 78, 250, 63, 80, 248, 53, 123], [5, 17, 110, 231, 191, 216, 88, 228, 24, 204, 128, 122, 18, 131, 133, 233], [200, 230, 223, 97, 105, 121, 148, 118, 66, 37, 97, 46, 95, 180, 142, 45], [55, 208, 234, 143, 212, 255, 42, 235, 228, 42, 229, 89, 233, 122, 254, 78], [248, 196, 8, 164, 90, 215, 120, 243, 43, 91, 51, 111, 228, 179, 166, 64], [58, 124, 227, 231, 153, 122, 69, 152, 83, 114, 233, 163, 231, 222, 73, 91], [65, 206, 182, 137, 21, 219, 76, 189, 217, 44, 166, 217, 91, 119, 160, 253], [123, 165, 244, 183, 49, 146, 128, 42, 240, 161, 118, 247, 230, 73, 117, 148], [142, 56, 168, 155, 137, 176, 222, 162, 25, 125, 28, 221, 185, 193, 125, 169], [108, 55, 142, 201, 121, 141, 7, 120, 238, 96, 255, 160, 197, 199, 32, 39], [183, 19, 241, 182, 103, 69, 28, 123, 95, 110, 170, 224, 144, 210, 64, 1], [164, 36, 255, 239, 74, 104, 20, 184, 77, 111, 251, 162, 110, 100, 64, 68], [127, 101, 120, 246, 131, 162, 250, 103, 89, 21, 206, 58, 74, 154, 230, 240], [110, 248, 71, 90, 222, 67, 103, 196, 42, 92, 136, 4, 94, 240, 75, 76], [138, 88, 211, 111, 176, 78, 5, 158, 168, 71, 129, 80, 180, 202, 95, 80], [92, 174, 136, 112, 100, 40, 58, 52, 248, 90, 153, 201, 250, 155, 69, 4], [28, 31, 187, 85, 228, 4, 38, 58, 144, 108, 42, 101, 111, 90, 141, 120], [83, 18, 137, 182, 122, 40, 224, 115, 31, 191, 44, 36, 83, 249, 203, 128], [26, 46, 6, 211, 124, 33, 191, 206, 247, 43, 22, 96, 240, 172, 83, 252], [187, 112, 218, 0, 135, 153, 224, 209, 41, 103, 107, 210, 21, 201, 25, 222], [95, 225, 224, 36, 146, 248, 80, 24, 87, 11, 170, 232, 174, 89, 238, 77], [219, 130, 62, 94, 105, 71, 161, 170, 233, 255, 5, 106, 101, 197, 69, 107], [24, 238, 235, 6, 210, 30, 221, 40, 190, 28, 66, 203, 129, 129, 140, 54], [130, 54, 197, 120, 251, 103, 148, 71, 65, 19, 206, 216, 241, 151, 17, 250], [140, 21, 247, 83, 157, 18, 13, 71, 228, 222, 163, 124, 132, 216, 123, 168], [1, 126, 97, 110, 55, 119, 118, 119, 55, 139, 122, 45, 166, 201, 70, 41], [109, 145, 2, 205, 151, 127, 34, 205, 82, 37, 208, 165, 140, 68, 180, 168], [201, 111, 65, 54, 136, 146, 202, 144, 62, 197, 27, 53, 46, 242, 86, 175], [57, 183, 235, 112, 231, 109, 141, 44, 63, 126, 121, 246, 25, 240, 121, 137], [18, 81, 32, 24, 142, 82, 211, 35, 132, 35, 40, 51, 223, 187, 131, 78], [204, 150, 223, 18, 59, 75, 102, 154, 209, 198, 219, 250, 49, 17, 71, 91], [122, 104, 94, 91, 93, 187, 38, 197, 16, 66, 166, 77, 225, 64, 186, 249]]
def wX : List (List UInt8) := [[140, 191, 173, 128, 31, 80, 113, 186, 199, 39, 39, 241, 51, 172, 26, 239], [25, 8, 52, 196, 33, 123, 119, 119, 146, 106, 235, 13, 153, 138, 218, 162], [179, 4, 103, 180, 70, 54, 118, 23, 194, 166, 182, 216, 0, 246, 217, 195], [69, 212, 87, 147, 150, 91, 109, 223, 10, 29, 159, 207, 201, 154, 151, 104], [13, 35, 70, 222, 189, 94, 81, 3, 94, 75, 15, 201, 148, 55, 173, 98], [214, 222, 12, 75, 39, 222, 104, 15, 12, 175, 155, 13, 99, 151, 54, 71], [81, 19, 12, 213, 23, 14, 58, 61, 158, 194, 12, 47, 27, 223, 120, 132], [169, 201, 55, 46, 37, 244, 24, 41, 120, 55, 182, 234, 4, 6, 81, 41], [116, 219, 227, 225, 190, 123, 253, 17, 46, 254, 9, 55, 40, 185, 91, 185], [90, 213, 31, 171, 107, 228, 180, 25, 86, 105, 62, 17, 177, 88, 2, 196], [71, 7, 110, 145, 66, 112, 255, 90, 65, 77, 78, 213, 251, 127, 152, 188], [120, 179, 74, 120, 34, 117, 241, 240, 108, 94, 6, 185, 30, 153, 134, 19], [117, 212, 192, 88, 147, 116, 96, 172, 136, 130, 34, 203, 126, 102, 49, 37], [192, 78, 42, 197, 16, 239, 150, 138, 36, 156, 231, 17, 193, 220, 138, 156], [2, 23, 234, 157, 16, 115, 116, 172, 61, 33, 90, 3, 146, 195, 70, 19], [38, 153, 238, 158, 193, 129, 115, 98, 183, 231, 105, 222, 171, 215, 49, 212], [255, 97, 19, 60, 120, 196, 228, 166, 18, 153, 27, 210, 161, 10, 46, 33], [33, 35, 122, 106, 170, 123, 61, 173, 186, 150, 174, 105, 75, 141, 31, 155], [115, 33, 20, 7, 240, 14, 25, 50, 37, 214, 105, 233, 54, 226, 206, 97], [255, 225, 32, 149, 238, 124, 81, 161, 164, 78, 106, 235, 251, 68, 176, 251], [170, 72, 201, 80, 179, 179, 127, 34, 5, 232, 47, 218, 222, 173, 44, 92], [93, 13, 173, 150, 145, 149, 165, 21, 141, 149, 87, 185, 36, 44, 23, 120], [148, 253, 119, 14, 150, 241, 125, 116, 202, 194, 231, 97, 207, 196, 73, 171], [48, 63, 50, 159, 110, 215, 208, 194, 91, 243, 32, 23, 254, 170, 92, 65], [209, 58, 219, 209, 229, 61, 112, 54, 64, 153, 72, 38, 245, 219, 243, 185], [41, 185, 75, 75, 214, 133, 202, 125, 240, 147, 178, 139, 184, 51, 137, 185], [53, 49, 124, 106, 162, 136, 121, 68, 152, 67, 31, 172, 3, 136, 200, 106], [5, 115, 131, 196, 25, 5, 166, 32, 255, 11, 85, 220, 136, 8, 56, 204], [180, 116, 166, 253, 79, 220, 61, 217, 78, 196, 93, 35, 144, 225, 192, 86], [230, 110, 88, 143, 227, 129, 144, 33, 210, 99, 85, 138, 220, 246, 107, 153], [89, 30, 34, 141, 128, 211, 2, 106, 25, 153, 93, 234, 103, 128, 71, 237], [231, 217, 111, 215, 103, 148, 67, 162, 8, 43, 213, 224, 53, 148, 242, 4], [99, 54, 146, 33, 200, 133, 182, 229, 86, 160, 149, 197, 175, 141, 119, 235], [81, 163, 10, 72, 136, 224, 228, 50, 8, 132, 121, 135, 177, 201, 6, 135], [122, 104, 94, 91, 93, 187, 38, 197, 16, 66, 166, 77, 225, 64, 186, 249]]
theorem wc0 : strtM 0 = [140, 191, 173, 128, 31, 80, 113, 186, 199, 39, 39, 241, 51, 172, 26, 239] := by kernel_rfl
theorem we0 : advM (encQ 0) 0 15 [140, 191, 173, 128, 31, 80, 113, 186, 199, 39, 39, 241, 51, 172, 26, 239] = [29, 218, 181, 6, 220, 175, 170, 216, 16, 220, 46, 101, 10, 192, 94, 99] := by kernel_rfl
theorem wc1 : strtM 1 = [25, 8, 52, 196, 33, 123, 119, 119, 146, 106, 235, 13, 153, 138, 218, 162] := by kernel_rfl
theorem we1 : advM (encQ 1) 0 15 [25, 8, 52, 196, 33, 123, 119, 119, 146, 106, 235, 13, 153, 138, 218, 162] = [55, 143, 116, 65, 15, 165, 149, 17, 156, 232, 14, 96, 53, 189, 184, 43] := by kernel_rfl
theorem wc2 : strtM 2 = [179, 4, 103, 180, 70, 54, 118, 23, 194, 166, 182, 216, 0, 246, 217, 195] := by kernel_rfl
theorem we2 : advM (encQ 2) 0 15 [179, 4, 103, 180, 70, 54, 118, 23, 194, 166, 182, 216, 0, 246, 217, 195] = [30, 29, 173, 121, 185, 83, 204, 130, 120, 134, 155, 147, 248, 134, 88, 215] := by kernel_rfl
theorem wc3 : strtM 3 = [69, 212, 87, 147, 150, 91, 109, 223, 10, 29, 159, 207, 201, 154, 151, 104] := by kernel_rfl
theorem we3 : advM (encQ 3) 0 15 [69, 212, 87, 147, 150, 91, 109, 223, 10, 29, 159, 207, 201, 154, 151, 104] = [86, 11, 20, 240, 6, 190, 5, 93, 140, 78, 250, 63, 80, 248, 53, 123] := by kernel_rfl
theorem wc4 : strtM 4 = [13, 35, 70, 222, 189, 94, 81, 3, 94, 75, 15, 201, 148, 55, 173, 98] := by kernel_rfl
theorem we4 : advM (encQ 4) 0 15 [13, 35, 70, 222, 189, 94, 81, 3, 94, 75, 15, 201, 148, 55, 173, 98] = [5, 17, 110, 231, 191, 216, 88, 228, 24, 204, 128, 122, 18, 131, 133, 233] := by kernel_rfl
theorem wc5 : strtM 5 = [214, 222, 12, 75, 39, 222, 104, 15, 12, 175, 155, 13, 99, 151, 54, 71] := by kernel_rfl
theorem we5 : advM (encQ 5) 0 15 [214, 222, 12, 75, 39, 222, 104, 15, 12, 175, 155, 13, 99, 151, 54, 71] = [200, 230, 223, 97, 105, 121, 148, 118, 66, 37, 97, 46, 95, 180, 142, 45] := by kernel_rfl
theorem wc6 : strtM 6 = [81, 19, 12, 213, 23, 14, 58, 61, 158, 194, 12, 47, 27, 223, 120, 132] := by kernel_rfl
theorem we6 : advM (encQ 6) 0 15 [81, 19, 12, 213, 23, 14, 58, 61, 158, 194, 12, 47, 27, 223, 120, 132] = [55, 208, 234, 143, 212, 255, 42, 235, 228, 42, 229, 89, 233, 122, 254, 78] := by kernel_rfl
theorem wc7 : strtM 7 = [169, 201, 55, 46, 37, 244, 24, 41, 120, 55, 182, 234, 4, 6, 81, 41] := by kernel_rfl
theorem we7 : advM (encQ 7) 0 15 [169, 201, 55, 46, 37, 244, 24, 41, 120, 55, 182, 234, 4, 6, 81, 41] = [248, 196, 8, 164, 90, 215, 120, 243, 43, 91, 51, 111, 228, 179, 166, 64] := by kernel_rfl
theorem wc8 : strtM 8 = [116, 219, 227, 225, 190, 123, 253, 17, 46, 254, 9, 55, 40, 185, 91, 185] := by kernel_rfl
theorem we8 : advM (encQ 8) 0 15 [116, 219, 227, 225, 190, 123, 253, 17, 46, 254, 9, 55, 40, 185, 91, 185] = [58, 124, 227, 231, 153, 122, 69, 152, 83, 114, 233, 163, 231, 222, 73, 91] := by kernel_rfl
theorem wc9 : strtM 9 = [90, 213, 31, 171, 107, 228, 180, 25, 86, 105, 62, 17, 177, 88, 2, 196] := by kernel_rfl
theorem we9 : advM (encQ 9) 0 15 [90, 213, 31, 171, 107, 228, 180, 25, 86, 105, 62, 17, 177, 88, 2, 196] = [65, 206, 182, 137, 21, 219, 76, 189, 217, 44, 166, 217, 91, 119, 160, 253] := by kernel_rfl
theorem wc10 : strtM 10 = [71, 7, 110, 145, 66, 112, 255, 90, 65, 77, 78, 213, 251, 127, 152, 188] := by kernel_rfl
theorem we10 : advM (encQ 10) 0 15 [71, 7, 110, 145, 66, 112, 255, 90, 65, 77, 78, 213, 251, 127, 152, 188] = [123, 165, 244, 183, 49, 146, 128, 42, 240, 161, 118, 247, 230, 73, 117, 148] := by kernel_rfl
theorem wc11 : strtM 11 = [120, 179, 74, 120, 34, 117, 241, 240, 108, 94, 6, 185, 30, 153, 134, 19] := by kernel_rfl
theorem we11 : advM (encQ 11) 0 15 [120, 179, 74, 120, 34, 117, 241, 240, 108, 94, 6, 185, 30, 153, 134, 19] = [142, 56, 168, 155, 137, 176, 222, 162, 25, 125, 28, 221, 185, 193, 125, 169] := by kernel_rfl
theorem wc12 : strtM 12 = [117, 212, 192, 88, 147, 116, 96, 172, 136, 130, 34, 203, 126, 102, 49, 37] := by kernel_rfl
theorem we12 : advM (encQ 12) 0 15 [117, 212, 192, 88, 147, 116, 96, 172, 136, 130, 34, 203, 126, 102, 49, 37] = [108, 55, 142, 201, 121, 141, 7, 120, 238, 96, 255, 160, 197, 199, 32, 39] := by kernel_rfl
theorem wc13 : strtM 13 = [192, 78, 42, 197, 16, 239, 150, 138, 36, 156, 231, 17, 193, 220, 138, 156] := by kernel_rfl
theorem we13 : advM (encQ 13) 0 15 [192, 78, 42, 197, 16, 239, 150, 138, 36, 156, 231, 17, 193, 220, 138, 156] = [183, 19, 241, 182, 103, 69, 28, 123, 95, 110, 170, 224, 144, 210, 64, 1] := by kernel_rfl
theorem wc14 : strtM 14 = [2, 23, 234, 157, 16, 115, 116, 172, 61, 33, 90, 3, 146, 195, 70, 19] := by kernel_rfl
theorem we14 : advM (encQ 14) 0 15 [2, 23, 234, 157, 16, 115, 116, 172, 61, 33, 90, 3, 146, 195, 70, 19] = [164, 36, 255, 239, 74, 104, 20, 184, 77, 111, 251, 162, 110, 100, 64, 68] := by kernel_rfl
theorem wc15 : strtM 15 = [38, 153, 238, 158, 193, 129, 115, 98, 183, 231, 105, 222, 171, 215, 49, 212] := by kernel_rfl
theorem we15 : advM (encQ 15) 0 15 [38, 153, 238, 158, 193, 129, 115, 98, 183, 231, 105, 222, 171, 215, 49, 212] = [127, 101, 120, 246, 131, 162, 250, 103, 89, 21, 206, 58, 74, 154, 230, 240] := by kernel_rfl
theorem wc16 : strtM 16 = [255, 97, 19, 60, 120, 196, 228, 166, 18, 153, 27, 210, 161, 10, 46, 33] := by kernel_rfl
theorem we16 : advM (encQ 16) 0 15 [255, 97, 19, 60, 120, 196, 228, 166, 18, 153, 27, 210, 161, 10, 46, 33] = [110, 248, 71, 90, 222, 67, 103, 196, 42, 92, 136, 4, 94, 240, 75, 76] := by kernel_rfl
theorem wc17 : strtM 17 = [33, 35, 122, 106, 170, 123, 61, 173, 186, 150, 174, 105, 75, 141, 31, 155] := by kernel_rfl
theorem we17 : advM (encQ 17) 0 15 [33, 35, 122, 106, 170, 123, 61, 173, 186, 150, 174, 105, 75, 141, 31, 155] = [138, 88, 211, 111, 176, 78, 5, 158, 168, 71, 129, 80, 180, 202, 95, 80] := by kernel_rfl
theorem wc18 : strtM 18 = [115, 33, 20, 7, 240, 14, 25, 50, 37, 214, 105, 233, 54, 226, 206, 97] := by kernel_rfl
theorem we18 : advM (encQ 18) 0 15 [115, 33, 20, 7, 240, 14, 25, 50, 37, 214, 105, 233, 54, 226, 206, 97] = [92, 174, 136, 112, 100, 40, 58, 52, 248, 90, 153, 201, 250, 155, 69, 4] := by kernel_rfl
theorem wc19 : strtM 19 = [255, 225, 32, 149, 238, 124, 81, 161, 164, 78, 106, 235, 251, 68, 176, 251] := by kernel_rfl
theorem we19 : advM (encQ 19) 0 15 [255, 225, 32, 149, 238, 124, 81, 161, 164, 78, 106, 235, 251, 68, 176, 251] = [28, 31, 187, 85, 228, 4, 38, 58, 144, 108, 42, 101, 111, 90, 141, 120] := by kernel_rfl
theorem wc20 : strtM 20 = [170, 72, 201, 80, 179, 179, 127, 34, 5, 232, 47, 218, 222, 173, 44, 92] := by kernel_rfl
theorem we20 : advM (encQ 20) 0 15 [170, 72, 201, 80, 179, 179, 127, 34, 5, 232, 47, 218, 222, 173, 44, 92] = [83, 18, 137, 182, 122, 40, 224, 115, 31, 191, 44, 36, 83, 249, 203, 128] := by kernel_rfl
theorem wc21 : strtM 21 = [93, 13, 173, 150, 145, 149, 165, 21, 141, 149, 87, 185, 36, 44, 23, 120] := by kernel_rfl
theorem we21 : advM (encQ 21) 0 15 [93, 13, 173, 150, 145, 149, 165, 21, 141, 149, 87, 185, 36, 44, 23, 120] = [26, 46, 6, 211, 124, 33, 191, 206, 247, 43, 22, 96, 240, 172, 83, 252] := by kernel_rfl
theorem wc22 : strtM 22 = [148, 253, 119, 14, 150, 241, 125, 116, 202, 194, 231, 97, 207, 196, 73, 171] := by kernel_rfl
theorem we22 : advM (encQ 22) 0 15 [148, 253, 119, 14, 150, 241, 125, 116, 202, 194, 231, 97, 207, 196, 73, 171] = [187, 112, 218, 0, 135, 153, 224, 209, 41, 103, 107, 210, 21, 201, 25, 222] := by kernel_rfl
theorem wc23 : strtM 23 = [48, 63, 50, 159, 110, 215, 208, 194, 91, 243, 32, 23, 254, 170, 92, 65] := by kernel_rfl
theorem we23 : advM (encQ 23) 0 15 [48, 63, 50, 159, 110, 215, 208, 194, 91, 243, 32, 23, 254, 170, 92, 65] = [95, 225, 224, 36, 146, 248, 80, 24, 87, 11, 170, 232, 174, 89, 238, 77] := by kernel_rfl
theorem wc24 : strtM 24 = [209, 58, 219, 209, 229, 61, 112, 54, 64, 153, 72, 38, 245, 219, 243, 185] := by kernel_rfl
theorem we24 : advM (encQ 24) 0 15 [209, 58, 219, 209, 229, 61, 112, 54, 64, 153, 72, 38, 245, 219, 243, 185] = [219, 130, 62, 94, 105, 71, 161, 170, 233, 255, 5, 106, 101, 197, 69, 107] := by kernel_rfl
theorem wc25 : strtM 25 = [41, 185, 75, 75, 214, 133, 202, 125, 240, 147, 178, 139, 184, 51, 137, 185] := by kernel_rfl
theorem we25 : advM (encQ 25) 0 15 [41, 185, 75, 75, 214, 133, 202, 125, 240, 147, 178, 139, 184, 51, 137, 185] = [24, 238, 235, 6, 210, 30, 221, 40, 190, 28, 66, 203, 129, 129, 140, 54] := by kernel_rfl
theorem wc26 : strtM 26 = [53, 49, 124, 106, 162, 136, 121, 68, 152, 67, 31, 172, 3, 136, 200, 106] := by kernel_rfl
theorem we26 : advM (encQ 26) 0 15 [53, 49, 124, 106, 162, 136, 121, 68, 152, 67, 31, 172, 3, 136, 200, 106] = [130, 54, 197, 120, 251, 103, 148, 71, 65, 19, 206, 216, 241, 151, 17, 250] := by kernel_rfl
theorem wc27 : strtM 27 = [5, 115, 131, 196, 25, 5, 166, 32, 255, 11, 85, 220, 136, 8, 56, 204] := by kernel_rfl
theorem we27 : advM (encQ 27) 0 15 [5, 115, 131, 196, 25, 5, 166, 32, 255, 11, 85, 220, 136, 8, 56, 204] = [140, 21, 247, 83, 157, 18, 13, 71, 228, 222, 163, 124, 132, 216, 123, 168] := by kernel_rfl
theorem wc28 : strtM 28 = [180, 116, 166, 253, 79, 220, 61, 217, 78, 196, 93, 35, 144, 225, 192, 86] := by kernel_rfl
theorem we28 : advM (encQ 28) 0 15 [180, 116, 166, 253, 79, 220, 61, 217, 78, 196, 93, 35, 144, 225, 192, 86] = [1, 126, 97, 110, 55, 119, 118, 119, 55, 139, 122, 45, 166, 201, 70, 41] := by kernel_rfl
theorem wc29 : strtM 29 = [230, 110, 88, 143, 227, 129, 144, 33, 210, 99, 85, 138, 220, 246, 107, 153] := by kernel_rfl
theorem we29 : advM (encQ 29) 0 15 [230, 110, 88, 143, 227, 129, 144, 33, 210, 99, 85, 138, 220, 246, 107, 153] = [109, 145, 2, 205, 151, 127, 34, 205, 82, 37, 208, 165, 140, 68, 180, 168] := by kernel_rfl
theorem wc30 : strtM 30 = [89, 30, 34, 141, 128, 211, 2, 106, 25, 153, 93, 234, 103, 128, 71, 237] := by kernel_rfl
theorem we30 : advM (encQ 30) 0 15 [89, 30, 34, 141, 128, 211, 2, 106, 25, 153, 93, 234, 103, 128, 71, 237] = [201, 111, 65, 54, 136, 146, 202, 144, 62, 197, 27, 53, 46, 242, 86, 175] := by kernel_rfl
theorem wc31 : strtM 31 = [231, 217, 111, 215, 103, 148, 67, 162, 8, 43, 213, 224, 53, 148, 242, 4] := by kernel_rfl
theorem we31 : advM (encQ 31) 0 15 [231, 217, 111, 215, 103, 148, 67, 162, 8, 43, 213, 224, 53, 148, 242, 4] = [57, 183, 235, 112, 231, 109, 141, 44, 63, 126, 121, 246, 25, 240, 121, 137] := by kernel_rfl
theorem wc32 : strtM 32 = [21, 63, 242, 58, 88, 226, 210, 213, 25, 242, 255, 68, 148, 14, 175, 29] := by kernel_rfl
theorem we32 : advM (encQ 32) 0 15 [21, 63, 242, 58, 88, 226, 210, 213, 25, 242, 255, 68, 148, 14, 175, 29] = [18, 81, 32, 24, 142, 82, 211, 35, 132, 35, 40, 51, 223, 187, 131, 78] := by kernel_rfl
theorem wc33 : strtM 33 = [87, 122, 113, 172, 171, 27, 173, 43, 146, 18, 5, 119, 162, 125, 158, 255] := by kernel_rfl
theorem we33 : advM (encQ 33) 0 15 [87, 122, 113, 172, 171, 27, 173, 43, 146, 18, 5, 119, 162, 125, 158, 255] = [204, 150, 223, 18, 59, 75, 102, 154, 209, 198, 219, 250, 49, 17, 71, 91] := by kernel_rfl
theorem wc34 : strtM 34 = [54, 148, 30, 9, 132, 29, 113, 35, 32, 41, 38, 28, 76, 217, 15, 136] := by kernel_rfl
theorem we34 : advM (encQ 34) 0 15 [54, 148, 30, 9, 132, 29, 113, 35, 32, 41, 38, 28, 76, 217, 15, 136] = [122, 104, 94, 91, 93, 187, 38, 197, 16, 66, 166, 77, 225, 64, 186, 249] := by kernel_rfl
theorem wC_ok : ∀ k, k < 35 → strt seedS k = atS wC k
  | 0, _ => (strt_M (by decide)).trans wc0
  | 1, _ => (strt_M (by decide)).trans wc1
  | 2, _ => (strt_M (by decide)).trans wc2
  | 3, _ => (strt_M (by decide)).trans wc3
  | 4, _ => (strt_M (by decide)).trans wc4
  | 5, _ => (strt_M (by decide)).trans wc5
  | 6, _ => (strt_M (by decide)).trans wc6
  | 7, _ => (strt_M (by decide)).trans wc7
  | 8, _ => (strt_M (by decide)).trans wc8
  | 9, _ => (strt_M (by decide)).trans wc9
  | 10, _ => (strt_M (by decide)).trans wc10
  | 11, _ => (strt_M (by decide)).trans wc11
  | 12, _ => (strt_M (by decide)).trans wc12
  | 13, _ => (strt_M (by decide)).trans wc13
  | 14, _ => (strt_M (by decide)).trans wc14
  | 15, _ => (strt_M (by decide)).trans wc15
  | 16, _ => (strt_M (by decide)).trans wc16
  | 17, _ => (strt_M (by decide)).trans wc17
  | 18, _ => (strt_M (by decide)).trans wc18
  | 19, _ => (strt_M (by decide)).trans wc19
  | 20, _ => (strt_M (by decide)).trans wc20
  | 21, _ => (strt_M (by decide)).trans wc21
  | 22, _ => (strt_M (by decide)).trans wc22
  | 23, _ => (strt_M (by decide)).trans wc23
  | 24, _ => (strt_M (by decide)).trans wc24
  | 25, _ => (strt_M (by decide)).trans wc25
  | 26, _ => (strt_M (by decide)).trans wc26
  | 27, _ => (strt_M (by decide)).trans wc27
  | 28, _ => (strt_M (by decide)).trans wc28
  | 29, _ => (strt_M (by decide)).trans wc29
  | 30, _ => (strt_M (by decide)).trans wc30
  | 31, _ => (strt_M (by decide)).trans wc31
  | 32, _ => (strt_M (by decide)).trans wc32
  | 33, _ => (strt_M (by decide)).trans wc33
  | 34, _ => (strt_M (by decide)).trans wc34
  | n + 35, h => absurd h (by omega)
theorem wC_len (k : Nat) (h : k < 35) : (atS wC k).length = 16 := by rw [← wC_ok k h]; exact strt_len _ _
theorem wE_ok : ∀ k, k < 35 → advM (encQ k) 0 15 (atS wC k) = atS wE k
  | 0, _ => we0
  | 1, _ => we1
  | 2, _ => we2
  | 3, _ => we3
  | 4, _ => we4
  | 5, _ => we5
  | 6, _ => we6
  | 7, _ => we7
  | 8, _ => we8
  | 9, _ => we9
  | 10, _ => we10
  | 11, _ => we11
  | 12, _ => we12
  | 13, _ => we13
  | 14, _ => we14
  | 15, _ => we15
  | 16, _ => we16
  | 17, _ => we17
  | 18, _ => we18
  | 19, _ => we19
  | 20, _ => we20
  | 21, _ => we21
  | 22, _ => we22
  | 23, _ => we23
  | 24, _ => we24
  | 25, _ => we25
  | 26, _ => we26
  | 27, _ => we27
  | 28, _ => we28
  | 29, _ => we29
  | 30, _ => we30
  | 31, _ => we31
  | 32, _ => we32
  | 33, _ => we33
  | 34, _ => we34
  | n + 35, h => absurd h (by omega)
theorem wx32 : advM (encQ 32) 0 1 [21, 63, 242, 58, 88, 226, 210, 213, 25, 242, 255, 68, 148, 14, 175, 29] = [62, 130, 87, 76, 206, 175, 98, 236, 252, 137, 74, 59, 3, 177, 42, 132] := by kernel_rfl
theorem wx33 : advM (encQ 33) 0 14 [87, 122, 113, 172, 171, 27, 173, 43, 146, 18, 5, 119, 162, 125, 158, 255] = [51, 179, 78, 160, 232, 255, 157, 175, 250, 228, 242, 203, 35, 95, 219, 178] := by kernel_rfl
theorem wy32 : advM (encQ 32) 0 15 [62, 130, 87, 76, 206, 175, 98, 236, 252, 137, 74, 59, 3, 177, 42, 132] = [99, 54, 146, 33, 200, 133, 182, 229, 86, 160, 149, 197, 175, 141, 119, 235] := by kernel_rfl
theorem wy33 : advM (encQ 33) 0 15 [51, 179, 78, 160, 232, 255, 157, 175, 250, 228, 242, 203, 35, 95, 219, 178] = [81, 163, 10, 72, 136, 224, 228, 50, 8, 132, 121, 135, 177, 201, 6, 135] := by kernel_rfl
theorem adv_at {k f t : Nat} {v : List UInt8} (hv : v.length = 16) (hk : k ≤ 34) (hf : f ≤ t) (ht : t ≤ 15) : adv k f t v = advM (encQ k) f (t - f) v := by
  rw [adv, if_pos ⟨by omega, by omega, by omega, by omega, by omega, by omega⟩]
  exact adv_M hv (by omega) _ (by simp; omega)
theorem pub_all : pubS seedS = catN (atS wE) 35 := by
  refine catN_congr 35 fun k hk => ?_
  rw [pubV, wC_ok k hk]
  exact (adv_at (f := 0) (t := 15) (wC_len k hk) (by omega) (by decide) (by decide)).trans (wE_ok k hk)
def zeroD : List UInt8 := zeros 16
def fullD : List UInt8 := List.replicate 16 255
theorem dg_zero : dgI zeroD = [0, 0, 0, 0, 0, 0, 0, 0, 0, 0, 0, 0, 0, 0, 0, 0, 0, 0, 0, 0, 0, 0, 0, 0, 0, 0, 0, 0, 0, 0, 0, 0, 1, 14, 0] := by kernel_rfl
theorem dg_full : dgI fullD = [15, 15, 15, 15, 15, 15, 15, 15, 15, 15, 15, 15, 15, 15, 15, 15, 15, 15, 15, 15, 15, 15, 15, 15, 15, 15, 15, 15, 15, 15, 15, 15, 0, 0, 0] := by kernel_rfl
theorem sig_at {k z : Nat} (hk : k < 35) (hz : z ≤ 15) (h : atI (dgI zeroD) k = (z : Int)) : sigV seedS (dgI zeroD) k = advM (encQ k) 0 z (atS wC k) := by
  rw [sigV, h, wC_ok k hk]
  exact adv_at (f := 0) (wC_len k hk) (by omega) (by omega) hz
theorem end_at {k z f : Nat} (hk : k < 35) (hz : z ≤ 15) (hf : f ≤ 15) (h : atI (dgI zeroD) k = (z : Int)) (h' : atI (dgI fullD) k = (f : Int)) : endV (dgI fullD) (sigS seedS zeroD) k = advM (encQ k) f (15 - f) (advM (encQ k) 0 z (atS wC k)) := by
  rw [endV, sigS_at _ _ hk, h', sig_at hk hz h]
  refine adv_at ?_ (by omega) hf (by decide)
  rw [← sig_at hk hz h]
  exact sigV_len _ _ _
theorem wX_ok : ∀ k, k < 35 → endV (dgI fullD) (sigS seedS zeroD) k = atS wX k
  | 0, _ => (end_at (k := 0) (z := 0) (f := 15) (by decide) (by decide) (by decide) (by rw [dg_zero]; rfl) (by rw [dg_full]; rfl)).trans rfl
  | 1, _ => (end_at (k := 1) (z := 0) (f := 15) (by decide) (by decide) (by decide) (by rw [dg_zero]; rfl) (by rw [dg_full]; rfl)).trans rfl
  | 2, _ => (end_at (k := 2) (z := 0) (f := 15) (by decide) (by decide) (by decide) (by rw [dg_zero]; rfl) (by rw [dg_full]; rfl)).trans rfl
  | 3, _ => (end_at (k := 3) (z := 0) (f := 15) (by decide) (by decide) (by decide) (by rw [dg_zero]; rfl) (by rw [dg_full]; rfl)).trans rfl
  | 4, _ => (end_at (k := 4) (z := 0) (f := 15) (by decide) (by decide) (by decide) (by rw [dg_zero]; rfl) (by rw [dg_full]; rfl)).trans rfl
  | 5, _ => (end_at (k := 5) (z := 0) (f := 15) (by decide) (by decide) (by decide) (by rw [dg_zero]; rfl) (by rw [dg_full]; rfl)).trans rfl
  | 6, _ => (end_at (k := 6) (z := 0) (f := 15) (by decide) (by decide) (by decide) (by rw [dg_zero]; rfl) (by rw [dg_full]; rfl)).trans rfl
  | 7, _ => (end_at (k := 7) (z := 0) (f := 15) (by decide) (by decide) (by decide) (by rw [dg_zero]; rfl) (by rw [dg_full]; rfl)).trans rfl
  | 8, _ => (end_at (k := 8) (z := 0) (f := 15) (by decide) (by decide) (by decide) (by rw [dg_zero]; rfl) (by rw [dg_full]; rfl)).trans rfl
  | 9, _ => (end_at (k := 9) (z := 0) (f := 15) (by decide) (by decide) (by decide) (by rw [dg_zero]; rfl) (by rw [dg_full]; rfl)).trans rfl
  | 10, _ => (end_at (k := 10) (z := 0) (f := 15) (by decide) (by decide) (by decide) (by rw [dg_zero]; rfl) (by rw [dg_full]; rfl)).trans rfl
  | 11, _ => (end_at (k := 11) (z := 0) (f := 15) (by decide) (by decide) (by decide) (by rw [dg_zero]; rfl) (by rw [dg_full]; rfl)).trans rfl
  | 12, _ => (end_at (k := 12) (z := 0) (f := 15) (by decide) (by decide) (by decide) (by rw [dg_zero]; rfl) (by rw [dg_full]; rfl)).trans rfl
  | 13, _ => (end_at (k := 13) (z := 0) (f := 15) (by decide) (by decide) (by decide) (by rw [dg_zero]; rfl) (by rw [dg_full]; rfl)).trans rfl
  | 14, _ => (end_at (k := 14) (z := 0) (f := 15) (by decide) (by decide) (by decide) (by rw [dg_zero]; rfl) (by rw [dg_full]; rfl)).trans rfl
  | 15, _ => (end_at (k := 15) (z := 0) (f := 15) (by decide) (by decide) (by decide) (by rw [dg_zero]; rfl) (by rw [dg_full]; rfl)).trans rfl
  | 16, _ => (end_at (k := 16) (z := 0) (f := 15) (by decide) (by decide) (by decide) (by rw [dg_zero]; rfl) (by rw [dg_full]; rfl)).trans rfl
  | 17, _ => (end_at (k := 17) (z := 0) (f := 15) (by decide) (by decide) (by decide) (by rw [dg_zero]; rfl) (by rw [dg_full]; rfl)).trans rfl
  | 18, _ => (end_at (k := 18) (z := 0) (f := 15) (by decide) (by decide) (by decide) (by rw [dg_zero]; rfl) (by rw [dg_full]; rfl)).trans rfl
  | 19, _ => (end_at (k := 19) (z := 0) (f := 15) (by decide) (by decide) (by decide) (by rw [dg_zero]; rfl) (by rw [dg_full]; rfl)).trans rfl
  | 20, _ => (end_at (k := 20) (z := 0) (f := 15) (by decide) (by decide) (by decide) (by rw [dg_zero]; rfl) (by rw [dg_full]; rfl)).trans rfl
  | 21, _ => (end_at (k := 21) (z := 0) (f := 15) (by decide) (by decide) (by decide) (by rw [dg_zero]; rfl) (by rw [dg_full]; rfl)).trans rfl
  | 22, _ => (end_at (k := 22) (z := 0) (f := 15) (by decide) (by decide) (by decide) (by rw [dg_zero]; rfl) (by rw [dg_full]; rfl)).trans rfl
  | 23, _ => (end_at (k := 23) (z := 0) (f := 15) (by decide) (by decide) (by decide) (by rw [dg_zero]; rfl) (by rw [dg_full]; rfl)).trans rfl
  | 24, _ => (end_at (k := 24) (z := 0) (f := 15) (by decide) (by decide) (by decide) (by rw [dg_zero]; rfl) (by rw [dg_full]; rfl)).trans rfl
  | 25, _ => (end_at (k := 25) (z := 0) (f := 15) (by decide) (by decide) (by decide) (by rw [dg_zero]; rfl) (by rw [dg_full]; rfl)).trans rfl
  | 26, _ => (end_at (k := 26) (z := 0) (f := 15) (by decide) (by decide) (by decide) (by rw [dg_zero]; rfl) (by rw [dg_full]; rfl)).trans rfl
  | 27, _ => (end_at (k := 27) (z := 0) (f := 15) (by decide) (by decide) (by decide) (by rw [dg_zero]; rfl) (by rw [dg_full]; rfl)).trans rfl
  | 28, _ => (end_at (k := 28) (z := 0) (f := 15) (by decide) (by decide) (by decide) (by rw [dg_zero]; rfl) (by rw [dg_full]; rfl)).trans rfl
  | 29, _ => (end_at (k := 29) (z := 0) (f := 15) (by decide) (by decide) (by decide) (by rw [dg_zero]; rfl) (by rw [dg_full]; rfl)).trans rfl
  | 30, _ => (end_at (k := 30) (z := 0) (f := 15) (by decide) (by decide) (by decide) (by rw [dg_zero]; rfl) (by rw [dg_full]; rfl)).trans rfl
  | 31, _ => (end_at (k := 31) (z := 0) (f := 15) (by decide) (by decide) (by decide) (by rw [dg_zero]; rfl) (by rw [dg_full]; rfl)).trans rfl
  | 32, _ => (end_at (k := 32) (z := 1) (f := 0) (by decide) (by decide) (by decide) (by rw [dg_zero]; rfl) (by rw [dg_full]; rfl)).trans (Eq.trans (congrArg (advM (encQ 32) 0 15) wx32) wy32)
  | 33, _ => (end_at (k := 33) (z := 14) (f := 0) (by decide) (by decide) (by decide) (by rw [dg_zero]; rfl) (by rw [dg_full]; rfl)).trans (Eq.trans (congrArg (advM (encQ 33) 0 15) wx33) wy33)
  | 34, _ => (end_at (k := 34) (z := 0) (f := 0) (by decide) (by decide) (by decide) (by rw [dg_zero]; rfl) (by rw [dg_full]; rfl)).trans we34
  | n + 35, h => absurd h (by omega)
theorem end_all : endS fullD (sigS seedS zeroD) = catN (atS wX) 35 := catN_congr 35 wX_ok
theorem big_M {s : List UInt8} (h : s.length = 560) : digOf 5 [s] = (shaN (5 :: ([130, 2, 48] ++ s))).take 16 := by
  have he : encI ((560 : Nat) : Int) = [130, 2, 48] := by kernel_rfl
  have hi : inpOf 5 [s] = 5 :: ([130, 2, 48] ++ s) := by
    simp only [inpOf, List.flatMap_cons, List.flatMap_nil, List.append_nil, encS, h, he]
    rfl
  rw [digOf, hi, sha_N]
  simp [h]
theorem wE_len : (catN (atS wE) 35).length = 560 := by rw [← pub_all]; exact pubS_len _
theorem wX_len : (catN (atS wX) 35).length = 560 := by rw [← end_all]; exact endS_len _ (sigS_len _ _)
theorem big_E : (shaN (5 :: ([130, 2, 48] ++ catN (atS wE) 35))).take 16 = [237, 4, 79, 183, 14, 155, 166, 56, 127, 55, 90, 144, 3, 113, 88, 5] := by kernel_rfl
theorem big_X : (shaN (5 :: ([130, 2, 48] ++ catN (atS wX) 35))).take 16 = [229, 163, 6, 171, 243, 103, 189, 223, 229, 204, 0, 233, 11, 21, 13, 230] := by kernel_rfl
theorem ver_full : verB (pubD seedS) fullD (sigS seedS zeroD) = false := by
  have h1 : recD fullD (sigS seedS zeroD) = [229, 163, 6, 171, 243, 103, 189, 223, 229, 204, 0, 233, 11, 21, 13, 230] := by rw [recD, if_pos (sigS_len _ _), end_all, big_M wX_len, big_X]
  have h2 : pubD seedS = [237, 4, 79, 183, 14, 155, 166, 56, 127, 55, 90, 144, 3, 113, 88, 5] := by rw [pubD, pub_all, big_M wE_len, big_E]
  rw [verB, h1, h2, decide_eq_false (show ¬ ([229, 163, 6, 171, 243, 103, 189, 223, 229, 204, 0, 233, 11, 21, 13, 230] : List UInt8) = [237, 4, 79, 183, 14, 155, 166, 56, 127, 55, 90, 144, 3, 113, 88, 5] by decide), Bool.and_false]
theorem adv_one : adv 0 0 1 (zeros 16) = [16, 127, 192, 190, 116, 194, 199, 223, 22, 87, 203, 220, 148, 55, 156, 97] :=
  (adv_at (k := 0) (f := 0) (t := 1) (v := zeros 16) rfl (by decide) (by decide) (by decide)).trans (by kernel_rfl)
end Go.Abs
end
