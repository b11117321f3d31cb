/- Lemmas: an abstract interpreter, and what the functions compute. -/
import Derived.Test.YtclloimacncjgaaDoorE
import Derived.KernelRfl
import Derived.Test.YtclloimacncjgaaDoorP
import Derived.Test.YtclloimacncjgaaDoorN
import Derived.Test.YtclloimacncjgaaDoorT
set_option linter.unusedSimpArgs false
set_option linter.unusedVariables false
set_option linter.unusedSectionVars false
section
namespace Go.Abs
def M32 : Nat := 4294967296
def rx (y n : Nat) : Nat := Nat.shiftRight y n
def dbl (x : Nat) : Nat := Nat.mul 4294967297 x
theorem rotr_nat (x : UInt32) {n : Nat} (hn : n ≤ 32) : (rotr x n).toNat = rx (dbl x.toNat) n % 2 ^ 32 := by
  have hx := x.toNat_lt
  have e1 : (rotr x n).toNat = (x.toNat >>> n) ||| ((x.toNat <<< (32 - n)) % 2 ^ 32) := by
    rw [rotr, UInt32.toNat_or]
    show (x.toBitVec >>> n).toNat ||| (x.toBitVec <<< (32 - n)).toNat = _
    rw [BitVec.toNat_ushiftRight, BitVec.toNat_shiftLeft]
    rfl
  have e2 : rx (dbl x.toNat) n = (2 ^ 32 * x.toNat + x.toNat) >>> n := by
    show (4294967297 * x.toNat) >>> n = _
    congr 1
    omega
  rw [e1, e2]
  apply Nat.eq_of_testBit_eq
  intro i
  rw [Nat.testBit_or, Nat.testBit_shiftRight, Nat.testBit_mod_two_pow, Nat.testBit_shiftLeft, Nat.testBit_mod_two_pow, Nat.testBit_shiftRight, Nat.testBit_two_pow_mul_add _ hx]
  by_cases hi : i < 32
  · by_cases h : n + i < 32
    · have h0 : ¬ 32 - n ≤ i := by omega
      simp [hi, h, h0]
    · have h0 : 32 - n ≤ i := by omega
      have hf : x.toNat.testBit (n + i) = false := Nat.testBit_lt_two_pow (Nat.lt_of_lt_of_le hx (Nat.pow_le_pow_right (by decide) (by omega)))
      simp [hi, h, h0, hf]
      congr 1
      omega
  · have hf : x.toNat.testBit (n + i) = false := Nat.testBit_lt_two_pow (Nat.lt_of_lt_of_le hx (Nat.pow_le_pow_right (by decide) (by omega)))
    simp [hi, hf]
def xo3 (y i j k : Nat) : Nat := Nat.mod (Nat.xor (Nat.xor (rx y i) (rx y j)) (rx y k)) M32
theorem xo3_eq (x : UInt32) {i j k : Nat} (hi : i ≤ 32) (hj : j ≤ 32) (hk : k ≤ 32) : (rotr x i ^^^ rotr x j ^^^ rotr x k).toNat = xo3 (dbl x.toNat) i j k := by
  rw [UInt32.toNat_xor, UInt32.toNat_xor, rotr_nat x hi, rotr_nat x hj, rotr_nat x hk]
  show _ = ((rx (dbl x.toNat) i ^^^ rx (dbl x.toNat) j) ^^^ rx (dbl x.toNat) k) % 2 ^ 32
  rw [Nat.xor_mod_two_pow, Nat.xor_mod_two_pow]
def xo2 (x y i j k : Nat) : Nat := Nat.xor (Nat.mod (Nat.xor (rx y i) (rx y j)) M32) (Nat.shiftRight x k)
theorem xo2_eq (x : UInt32) {i j : Nat} (k : Nat) (hi : i ≤ 32) (hj : j ≤ 32) : (rotr x i ^^^ rotr x j ^^^ shr32 x k).toNat = xo2 x.toNat (dbl x.toNat) i j k := by
  rw [UInt32.toNat_xor, UInt32.toNat_xor, rotr_nat x hi, rotr_nat x hj]
  show _ = ((rx (dbl x.toNat) i ^^^ rx (dbl x.toNat) j) % 2 ^ 32) ^^^ (x.toNat >>> k)
  rw [Nat.xor_mod_two_pow]
  rfl
structure N8 where
  a : Nat
  b : Nat
  c : Nat
  d : Nat
  e : Nat
  f : Nat
  g : Nat
  h : Nat
def toN (s : H8) : N8 := ⟨s.a.toNat, s.b.toNat, s.c.toNat, s.d.toNat, s.e.toNat, s.f.toNat, s.g.toNat, s.h.toNat⟩
def rndN (k w : Nat) (s : N8) : N8 :=
  (fun x y => N8.mk (Nat.mod (Nat.add x y) M32) s.a s.b s.c (Nat.mod (Nat.add s.d x) M32) s.e s.f s.g)
    (Nat.add (Nat.add (Nat.add (Nat.add s.h (xo3 (dbl s.e) 6 11 25)) (Nat.xor (Nat.land s.e s.f) (Nat.land (Nat.sub 4294967295 s.e) s.g))) k) w)
    (Nat.add (xo3 (dbl s.a) 2 13 22) (Nat.xor (Nat.xor (Nat.land s.a s.b) (Nat.land s.a s.c)) (Nat.land s.b s.c)))
theorem rnd_N (k w : UInt32) (s : H8) : toN (rnd k w s) = rndN k.toNat w.toNat (toN s) := by
  have h1 := xo3_eq s.e (i := 6) (j := 11) (k := 25) (by decide) (by decide) (by decide)
  have h2 := xo3_eq s.a (i := 2) (j := 13) (k := 22) (by decide) (by decide) (by decide)
  have h3 : (~~~s.e).toNat = 4294967295 - s.e.toNat := by rw [UInt32.toNat_not]; rfl
  simp only [toN, rnd, rndN, N8.mk.injEq, and_true, true_and]
  rw [← h1, ← h2]
  generalize (rotr s.e 6 ^^^ rotr s.e 11 ^^^ rotr s.e 25) = S1
  generalize (rotr s.a 2 ^^^ rotr s.a 13 ^^^ rotr s.a 22) = S0
  simp only [UInt32.toNat_add, UInt32.toNat_xor, UInt32.toNat_and, h3]
  show _ = (_ + _ + ((s.e.toNat &&& s.f.toNat) ^^^ ((4294967295 - s.e.toNat) &&& s.g.toNat)) + _ + _ + (_ + ((s.a.toNat &&& s.b.toNat) ^^^ (s.a.toNat &&& s.c.toNat) ^^^ (s.b.toNat &&& s.c.toNat)))) % M32 ∧ _ = (s.d.toNat + (_ + _ + ((s.e.toNat &&& s.f.toNat) ^^^ ((4294967295 - s.e.toNat) &&& s.g.toNat)) + _ + _)) % M32
  simp only [M32]
  omega
def rndsN : List Nat → List Nat → N8 → N8
  | [], _, s => s
  | _ :: _, [], s => s
  | k :: ks, w :: ws, s => rndsN ks ws (rndN k w s)
theorem rndsN_snoc (k w : Nat) : ∀ (ks ws : List Nat) (s : N8), ks.length = ws.length → rndsN (ks ++ [k]) (ws ++ [w]) s = rndN k w (rndsN ks ws s)
  | [], [], s, _ => rfl
  | [], _ :: _, _, h => by simp at h
  | _ :: _, [], _, h => by simp at h
  | k' :: ks, w' :: ws, s, h => by
    simp only [List.cons_append, rndsN]
    exact rndsN_snoc k w ks ws _ (by simpa using h)
def n32 (l : List UInt32) : List Nat := l.map UInt32.toNat
theorem take32 {l : List UInt32} {i : Nat} (h : i < l.length) : l.take (i + 1) = l.take i ++ [at32 l i] := by
  rw [List.take_succ_eq_append_getElem h, at32, List.getD, List.getElem?_eq_getElem h]; rfl
theorem rnds_N (w : List UInt32) (s : H8) (hw : w.length = 64) : ∀ t, t ≤ 64 → toN (rnds w s t) = rndsN (n32 (kc.take t)) (n32 (w.take t)) (toN s)
  | 0, _ => rfl
  | t + 1, h => by
    have hk : kc.length = 64 := rfl
    have e1 : n32 (kc.take (t + 1)) = n32 (kc.take t) ++ [(at32 kc t).toNat] := by rw [take32 (l := kc) (by omega)]; simp [n32]
    have e2 : n32 (w.take (t + 1)) = n32 (w.take t) ++ [(at32 w t).toNat] := by rw [take32 (l := w) (by omega)]; simp [n32]
    rw [rnds, rnd_N, rnds_N w s hw t (by omega), e1, e2]
    exact (rndsN_snoc _ _ _ _ _ (by simp [n32]; omega)).symm
def schW : Nat → List Nat → List Nat
  | 0, acc => acc
  | n + 1, acc => schW n ((fun p q => Nat.mod (Nat.add (Nat.add (Nat.add (acc.getD 15 0) (xo2 p (dbl p) 7 18 3)) (acc.getD 6 0)) (xo2 q (dbl q) 17 19 10)) M32) (acc.getD 14 0) (acc.getD 1 0) :: acc)
theorem rev_at (w : List UInt32) {i : Nat} (h : i < w.length) : (n32 w.reverse).getD i 0 = (at32 w (w.length - 1 - i)).toNat := by
  rw [n32, List.getD, List.getElem?_map, List.getElem?_eq_getElem (by simpa using h), List.getElem_reverse, at32, List.getD, List.getElem?_eq_getElem (by omega)]
  rfl
theorem sched_N (b : List UInt8) : ∀ (n t : Nat), 16 ≤ t → schW n (n32 (sched b t).reverse) = n32 (sched b (t + n)).reverse
  | 0, _, _ => rfl
  | n + 1, t, ht => by
    have hl := sched_length b t
    rw [schW, rev_at _ (by omega), rev_at _ (by omega), rev_at _ (by omega), rev_at _ (by omega), hl]
    have hs : n32 (sched b (t + 1)).reverse = (wnext b t (sched b t)).toNat :: n32 (sched b t).reverse := by simp [sched, n32]
    have e : (wnext b t (sched b t)).toNat = Nat.mod (Nat.add (Nat.add (Nat.add (at32 (sched b t) (t - 1 - 15)).toNat (xo2 (at32 (sched b t) (t - 1 - 14)).toNat (dbl (at32 (sched b t) (t - 1 - 14)).toNat) 7 18 3)) (at32 (sched b t) (t - 1 - 6)).toNat) (xo2 (at32 (sched b t) (t - 1 - 1)).toNat (dbl (at32 (sched b t) (t - 1 - 1)).toNat) 17 19 10)) M32 := by
      rw [wnext, if_neg (by omega), sg0, sg1, UInt32.toNat_add, UInt32.toNat_add, UInt32.toNat_add, xo2_eq _ 3 (by decide) (by decide), xo2_eq _ 10 (by decide) (by decide)]
      simp only [Nat.sub_sub]
      show _ = (_ + _ + _ + _) % M32
      simp only [M32, Nat.reduceAdd]
      omega
    have e' := (congrArg (· :: n32 (sched b t).reverse) e).symm.trans hs.symm
    have h' := sched_N b n (t + 1) (by omega)
    rw [← e', Nat.add_assoc, Nat.add_comm 1 n] at h'
    exact h'
def wd (b : List UInt8) (t : Nat) : Nat := Nat.add (Nat.mul 256 (Nat.add (Nat.mul 256 (Nat.add (Nat.mul 256 (at8 b (4 * t)).toNat) (at8 b (4 * t + 1)).toNat)) (at8 b (4 * t + 2)).toNat)) (at8 b (4 * t + 3)).toNat
theorem or8 {x : UInt32} {N : Nat} (hx : x.toNat = N) (hN : N < 16777216) (c : UInt8) : (shl32 x 8 ||| c.toUInt32).toNat = 256 * N + c.toNat := by
  subst hx
  have hc := c.toNat_lt
  rw [UInt32.toNat_or]
  show ((x.toBitVec <<< 8).toNat ||| c.toUInt32.toNat) = _
  rw [BitVec.toNat_shiftLeft, UInt8.toNat_toUInt32]
  show (x.toNat <<< 8 % 2 ^ 32 ||| c.toNat) = _
  rw [Nat.mod_eq_of_lt (by rw [Nat.shiftLeft_eq]; omega), ← Nat.shiftLeft_add_eq_or_of_lt (by omega), Nat.shiftLeft_eq]
  omega
theorem ldw_N (b : List UInt8) (t : Nat) : (ldw b t 4).toNat = wd b t := by
  have h0 := (at8 b (4 * t)).toNat_lt
  have h1 := (at8 b (4 * t + 1)).toNat_lt
  have h2 := (at8 b (4 * t + 2)).toNat_lt
  have e1 : (ldw b t 1).toNat = (at8 b (4 * t)).toNat := by rw [ldw, ldw, or8 (N := 0) rfl (by decide)]; simp
  have e2 : (ldw b t 2).toNat = 256 * (at8 b (4 * t)).toNat + (at8 b (4 * t + 1)).toNat := by rw [ldw, or8 e1 (by omega)]
  have e3 : (ldw b t 3).toNat = 256 * (256 * (at8 b (4 * t)).toNat + (at8 b (4 * t + 1)).toNat) + (at8 b (4 * t + 2)).toNat := by rw [ldw, or8 e2 (by omega)]
  rw [ldw, or8 e3 (by omega)]
  rfl
def wrds : Nat → List UInt8 → List Nat → List Nat
  | n + 1, a :: b :: c :: d :: r, acc => wrds n r (Nat.add (Nat.mul 256 (Nat.add (Nat.mul 256 (Nat.add (Nat.mul 256 a.toNat) b.toNat)) c.toNat)) d.toNat :: acc)
  | _, _, acc => acc
theorem wrds_N (b : List UInt8) (hb : b.length = 64) : ∀ (n t : Nat), n + t = 16 → wrds n (b.drop (4 * t)) (n32 (sched b t).reverse) = n32 (sched b 16).reverse
  | 0, t, h => by
    have : t = 16 := by omega
    subst this
    rfl
  | n + 1, t, h => by
    have hd : b.drop (4 * t) = at8 b (4 * t) :: at8 b (4 * t + 1) :: at8 b (4 * t + 2) :: at8 b (4 * t + 3) :: b.drop (4 * (t + 1)) := by
      rw [List.drop_eq_getElem_cons (by omega), List.drop_eq_getElem_cons (by omega), List.drop_eq_getElem_cons (by omega), List.drop_eq_getElem_cons (by omega)]
      simp only [at8, List.getD, List.getElem?_eq_getElem (show 4 * t < b.length by omega), List.getElem?_eq_getElem (show 4 * t + 1 < b.length by omega), List.getElem?_eq_getElem (show 4 * t + 2 < b.length by omega), List.getElem?_eq_getElem (show 4 * t + 3 < b.length by omega), Option.getD_some]
      rfl
    have hs : n32 (sched b (t + 1)).reverse = wd b t :: n32 (sched b t).reverse := by
      have : wnext b t (sched b t) = ldw b t 4 := by rw [wnext, if_pos (by omega)]
      simp [sched, n32, this, ldw_N]
    rw [hd, wrds]
    show wrds n _ (wd b t :: _) = _
    rw [← hs, wrds_N b hb n (t + 1) (by omega)]
def kcN : List Nat := n32 kc
def comprN (s : N8) (b : List UInt8) : N8 :=
  (fun r => N8.mk (Nat.mod (Nat.add s.a r.a) M32) (Nat.mod (Nat.add s.b r.b) M32) (Nat.mod (Nat.add s.c r.c) M32) (Nat.mod (Nat.add s.d r.d) M32) (Nat.mod (Nat.add s.e r.e) M32) (Nat.mod (Nat.add s.f r.f) M32) (Nat.mod (Nat.add s.g r.g) M32) (Nat.mod (Nat.add s.h r.h) M32))
    (rndsN kcN (schW 48 (wrds 16 b [])).reverse s)
theorem compr_N (s : H8) (b : List UInt8) (hb : b.length = 64) : toN (compr s b) = comprN (toN s) b := by
  have hw := wrds_N b hb 16 0 rfl
  have e0 : b.drop (4 * 0) = b := rfl
  have e1 : n32 (sched b 0).reverse = [] := rfl
  rw [e0, e1] at hw
  have hs := sched_N b 48 16 (by decide)
  have hr := rnds_N (sched b 64) s (sched_length b 64) 64 (by decide)
  rw [List.take_of_length_le (l := sched b 64) (by rw [sched_length]; decide), List.take_of_length_le (l := kc) (i := 64) (Nat.le_refl _)] at hr
  have hrev : (n32 (sched b 64).reverse).reverse = n32 (sched b 64) := by simp [n32]
  unfold comprN
  rw [hw, hs, hrev, kcN, ← hr]
  simp only [compr, H8.add, toN, N8.mk.injEq]
  exact ⟨UInt32.toNat_add _ _, UInt32.toNat_add _ _, UInt32.toNat_add _ _, UInt32.toNat_add _ _, UInt32.toNat_add _ _, UInt32.toNat_add _ _, UInt32.toNat_add _ _, UInt32.toNat_add _ _⟩
def blkM : Nat → List UInt8 → N8 → N8
  | 0, _, s => s
  | k + 1, m, s => blkM k (m.drop 64) (comprN s (m.take 64))
theorem blkM_snoc : ∀ (k : Nat) (m : List UInt8) (s : N8), blkM (k + 1) m s = comprN (blkM k m s) ((m.drop (64 * k)).take 64)
  | 0, _, _ => rfl
  | k + 1, m, s => by
    rw [blkM, blkM_snoc k, List.drop_drop, show 64 + 64 * k = 64 * (k + 1) by omega]
    rfl
theorem blk_N (m : List UInt8) (s : H8) : ∀ k, 64 * k ≤ m.length → toN (blk m s k) = blkM k m (toN s)
  | 0, _ => rfl
  | k + 1, h => by rw [blk, compr_N _ _ (by simp; omega), blk_N m s k (by omega), blkM_snoc]
def o4 (x : Nat) : List UInt8 := [UInt8.ofNat (Nat.shiftRight x 24), UInt8.ofNat (Nat.shiftRight x 16), UInt8.ofNat (Nat.shiftRight x 8), UInt8.ofNat x]
def outN (s : N8) : List UInt8 := o4 s.a ++ (o4 s.b ++ (o4 s.c ++ (o4 s.d ++ (o4 s.e ++ (o4 s.f ++ (o4 s.g ++ o4 s.h))))))
theorem shr8_N (x : UInt32) (n : Nat) : (shr32 x n).toUInt8 = UInt8.ofNat (Nat.shiftRight x.toNat n) := by
  apply UInt8.toNat_inj.1
  rw [UInt32.toNat_toUInt8, UInt8.toNat_ofNat']
  show (x.toBitVec >>> n).toNat % 256 = (x.toNat >>> n) % 256
  rw [BitVec.toNat_ushiftRight]
  rfl
theorem out_N (h : H8) : outB h 32 = outN (toN h) := by
  simp only [outB, outN, o4, toN, List.nil_append, List.append_assoc, List.cons_append, shr8_N]
  rfl
def padM (n : Nat) : List UInt8 := 128 :: (zeros (Nat.mod (Nat.sub 119 (Nat.mod n 64)) 64) ++ [UInt8.ofNat (Nat.shiftRight (Nat.mul 8 n) 56), UInt8.ofNat (Nat.shiftRight (Nat.mul 8 n) 48), UInt8.ofNat (Nat.shiftRight (Nat.mul 8 n) 40), UInt8.ofNat (Nat.shiftRight (Nat.mul 8 n) 32), UInt8.ofNat (Nat.shiftRight (Nat.mul 8 n) 24), UInt8.ofNat (Nat.shiftRight (Nat.mul 8 n) 16), UInt8.ofNat (Nat.shiftRight (Nat.mul 8 n) 8), UInt8.ofNat (Nat.mul 8 n)])
theorem shr64_N {x : UInt64} {N : Nat} (hx : x.toNat = N) (n : Nat) : (shr64 x n).toUInt8 = UInt8.ofNat (Nat.shiftRight N n) := by
  apply UInt8.toNat_inj.1
  rw [UInt64.toNat_toUInt8, UInt8.toNat_ofNat']
  show (x.toBitVec >>> n).toNat % 256 = (N >>> n) % 256
  rw [BitVec.toNat_ushiftRight]
  subst hx
  rfl
theorem pad_N {n : Nat} (h : n < 1099511627776) : padOf (UInt64.ofNat n) = padM n := by
  have h1 : (UInt64.ofNat n).toNat = n := by rw [UInt64.toNat_ofNat']; omega
  have h2 : (8 * UInt64.ofNat n).toNat = 8 * n := by
    rw [UInt64.toNat_mul, h1]
    have : (8 : UInt64).toNat = 8 := rfl
    rw [this]; omega
  simp only [padOf, h1, padM, be8, List.nil_append, List.append_assoc, List.cons_append, shr64_N h2, padZ]
  rfl
def ivN : N8 := toN iv
def shaN (b : List UInt8) : List UInt8 := (fun m => outN (blkM (Nat.div m.length 64) m ivN)) (b ++ padM b.length)
theorem sha_N {b : List UInt8} (h : b.length < 1099511000000) : sha b = shaN b := by
  obtain ⟨h1, h2, h3⟩ := padded_len (b := b) (by omega)
  rw [sha_blk h, out_N, blk_N _ _ _ (by omega)]
  show _ = outN (blkM ((b ++ padM b.length).length / 64) (b ++ padM b.length) ivN)
  rw [← pad_N (by omega)]
  rfl
end Go.Abs
end

section
namespace Go.Abs
def encQ (n : Nat) : List UInt8 := if n = 0 then [128] else [129, UInt8.ofNat n]
theorem encI_Q {n : Nat} (h : n < 256) : encI (n : Int) = encQ n := by
  have hm : mag (n : Int) = n := by unfold mag; rw [if_neg (by omega)]; omega
  have hf : ∀ c, flp (n : Int) c = c := fun c => by rw [flp, if_neg (by omega)]
  rw [encI, hm, encQ]
  by_cases h0 : n = 0
  · subst h0
    have := hf 128
    simp [digs_zero]
    exact this
  · rw [if_neg h0, digs_pos h0, show n / 256 = 0 by omega, digs_zero]
    simp [hf]
def encSQ (s : List UInt8) : List UInt8 := encQ s.length ++ s
theorem encS_Q {s : List UInt8} (h : s.length < 256) : encS s = encSQ s := by rw [encS, encI_Q h, encSQ]
def digM (tag : Int) (parts : List (List UInt8)) : List UInt8 := (shaN (UInt8.ofInt tag :: parts.flatMap encSQ)).take 16
theorem flat_Q : ∀ {l : List (List UInt8)}, (∀ s ∈ l, s.length < 256) → l.flatMap encS = l.flatMap encSQ
  | [], _ => rfl
  | x :: l, h => by rw [List.flatMap_cons, List.flatMap_cons, encS_Q (h x (by simp)), flat_Q fun s hs => h s (by simp [hs])]
theorem dig_M {tag : Int} {parts : List (List UInt8)} (h : ∀ s ∈ parts, s.length < 256) (ht : totS parts < 1000000000) : digOf tag parts = digM tag parts := by
  have := len_flatMap_encS (l := parts) (by omega)
  rw [digOf, sha_N (by simp only [inpOf, List.length_cons]; omega), inpOf, flat_Q h, digM]
end Go.Abs
end

section
namespace Go.Abs
set_option maxRecDepth 20000
def dg1 (k : UInt8) : List UInt8 := k :: zeros 15
theorem dg1_len (k : UInt8) : (dg1 k).length = 16 := rfl
def l3 : List (List UInt8) := [dg1 1, dg1 2, dg1 3]
theorem l3_16 : is16 l3 := is16_cons.2 ⟨rfl, is16_cons.2 ⟨rfl, is16_cons.2 ⟨rfl, is16_nil⟩⟩⟩
theorem l3_len : l3.length = 3 := rfl
theorem spl2 : spl 2 = 1 := by decide
theorem spl3 : spl 3 = 2 := by decide
theorem l3_root : root l3 = digOf 2 [digOf 2 [digOf 1 [dg1 1], digOf 1 [dg1 2]], digOf 1 [dg1 3]] := by
  rw [root_two (l := l3) (by decide), l3_len, spl3, show l3.take 2 = [dg1 1, dg1 2] from rfl, show l3.drop 2 = [dg1 3] from rfl, root_few (l := [dg1 3]) (by simp), root_two (l := [dg1 1, dg1 2]) (by simp)]
  rw [show [dg1 1, dg1 2].length = 2 from rfl, spl2, show [dg1 1, dg1 2].take 1 = [dg1 1] from rfl, show [dg1 1, dg1 2].drop 1 = [dg1 2] from rfl, root_few (l := [dg1 1]) (by simp), root_few (l := [dg1 2]) (by simp)]
theorem l3_val : (digM 2 [digM 2 [digM 1 [dg1 1], digM 1 [dg1 2]], digM 1 [dg1 3]] == zeros 16) = false := by kernel_rfl
theorem dig_M16 {t : Int} {l : List (List UInt8)} (h : is16 l) (hl : l.length ≤ 2) (ht : 0 ≤ t ∧ t ≤ 2) : digOf t l = digM t l := by
  have h1 : ∀ s ∈ l, s.length = 16 := h
  refine dig_M (fun s hs => by rw [h1 s hs]; decide) ?_
  match l, hl with
  | [], _ => simp [totS]
  | [a], _ => have := h1 a (by simp); simp [totS, this]
  | [a, b], _ => have := h1 a (by simp); have := h1 b (by simp); simp [totS, *]
theorem l3_ne : ¬ root l3 = zeros 16 := by
  have h1 := digOf_len 1 [dg1 1]
  have h2 := digOf_len 1 [dg1 2]
  have h3 := digOf_len 1 [dg1 3]
  have h4 := digOf_len 2 [digOf 1 [dg1 1], digOf 1 [dg1 2]]
  rw [l3_root, dig_M16 (is16_two h4 h3) (by simp) (by decide), dig_M16 (l := [digOf 1 [dg1 1], digOf 1 [dg1 2]]) (is16_two h1 h2) (by simp) (by decide), dig_M16 (l := [dg1 1]) (is16_one rfl) (by simp) (by decide), dig_M16 (l := [dg1 2]) (is16_one rfl) (by simp) (by decide), dig_M16 (l := [dg1 3]) (is16_one rfl) (by simp) (by decide)]
  simpa using l3_val
/-! ### Small peaks -/
theorem oN2 : oN 2 = 1 := by rw [oN_eq, oN_eq 1, show 1 / 2 = 0 from rfl, oN_zero]
theorem okP_pks {k : Nat} {l : List (List UInt8)} (h : l.length < 2 ^ k) (hk : l.length ≤ 4294967296) : okP l.length (pksL k l).length = true := by
  simp [okP, pksL_len k l h]
  omega
theorem addP_pks {k : Nat} {l : List (List UInt8)} (d : List UInt8) (h : l.length + 1 < 2 ^ k) (hk : l.length < 4294967296) : addP l.length (pksL k l) d = (((l.length : Int) + 1, pksL k (l ++ [d])), 0) := by
  rw [addP, if_pos ⟨okP_pks (by omega) (by omega), by omega⟩, Int.toNat_natCast, add_one k l d h]
theorem topP_pks {k : Nat} {l : List (List UInt8)} (h : l.length < 2 ^ k) (hk : l.length ≤ 4294967296) : topP l.length (pksL k l) = (root l, 0) := by
  rw [topP, if_pos (okP_pks h hk)]
  by_cases h0 : l.length = 0
  · have e : l = [] := List.length_eq_zero_iff.1 h0
    subst e; rfl
  · rw [if_neg (by omega), top_root k l h (by omega)]
theorem topP_bad : topP 2 [] = (zeros 16, 1) := by
  rw [topP, if_neg]
  simp [okP, oN2]
theorem pksL_nil : ∀ k, pksL k [] = [] := fun k => List.length_eq_zero_iff.1 (by rw [pksL_len k [] (Nat.two_pow_pos k)]; exact oN_zero)
theorem sib3 : (sibs l3 2).length = 1 := by
  have h := (dirs_sibs l3 2 (by decide)).1
  rw [← h, l3_len, dirs_two (by decide), spl3, if_neg (by decide), List.length_cons, dirs_few (by decide)]; rfl
theorem tdp3 : (tdp l3 1 true).length = 2 := by
  rw [tdp_two (by decide), l3_len, spl3, if_pos (by decide), List.length_cons, tdp_two (by decide), show (l3.take 2).length = 2 from rfl, spl2, if_pos (by decide), List.length_cons, tdp_few (by decide)]; rfl
theorem cl1 : clN 1 0 (dg1 1) (dg1 1) [] [] = none := by
  have e : inpsI 1 0 (dg1 1) [] = some [inpOf 1 [dg1 1]] := by
    rw [inpsI, if_pos (by decide), inps, show (1 : Int).toNat = 1 from rfl, show (0 : Int).toNat = 0 from rfl, dirs_few (by decide), if_pos (by decide)]; rfl
  rw [clN, e]
  simp [topDiff]
theorem splice_two (a b c e : AVal) : splice [a, b] 0 [c, e] = [c, e] := splice_full rfl
theorem san8_pre : sanC.pre [] = True := eq_true rfl
theorem san8_post : sanC.post [] = bo true := rfl
end Go.Abs
end

section
namespace Go.Abs
set_option maxRecDepth 100000
set_option maxHeartbeats 8000000 in
theorem san8_ok (E : Env) (h182 : E.G 182 = padC) (h178 : E.G 178 = clC) (h163 : E.G 163 = prvC) (h171 : E.G 171 = pvpC) (h168 : E.G 168 = rootC) (h185 : E.G 185 = topC) (h173 : E.G 173 = vfyC) (h176 : E.G 176 = vprC) : ∀ ds, sanC.pre ds → ds.length = f_custodylaw08_sanity.n ∧ awp E f_custodylaw08_sanity.body (retQ f_custodylaw08_sanity.res (sanC.post ds)) (initSt f_custodylaw08_sanity.wr ds) := by
  rintro _ rfl
  rw [show sanC.post [] = bo true from rfl]
  have e1 : splice (bys (zeros 16)) 0 [u8 1] = bys (dg1 1) := rfl
  have e2 : splice (bys (zeros 16)) 0 [u8 2] = bys (dg1 2) := rfl
  have e3 : splice (bys (zeros 16)) 0 [u8 3] = bys (dg1 3) := rfl
  have e4 : splice (splice (splice (bys (zeros 48)) 0 (bys (dg1 1))) 16 (bys (dg1 2))) 32 (bys (dg1 3)) = bys (dgs l3) := rfl
  have g1 := dg1_len 1
  have g2 := dg1_len 2
  have g3 := dg1_len 3
  have h16 := l3_16
  have hne := l3_ne
  have hlen := l3_len
  have f1 : prvI l3 2 = some (prv l3 2) := rfl
  have f2 : pvpI l3 1 = some (sbp l3 1 true) := rfl
  have f3 : prvI l3 3 = none := rfl
  have f4 := vfy_prv (l := l3) (i := 2) (by decide) (root l3)
  have f5 := vp_sbp (l := l3) (m := 1) (by decide) (by decide) (root l3)
  have f6 := topP_pks (k := 21) (l := l3) (by decide) (by decide)
  have f7 := topP_bad
  have f8 := cl1
  have a0 := addP_pks (k := 21) (l := l3.take 0) (dgAt l3 0) (by decide) (by decide)
  have a1 := addP_pks (k := 21) (l := l3.take 1) (dgAt l3 1) (by decide) (by decide)
  have a2 := addP_pks (k := 21) (l := l3.take 2) (dgAt l3 2) (by decide) (by decide)
  have p1 : (prv l3 2).length = 1 := by rw [prv_sibs, List.length_reverse, sib3]
  have p2 : (sbp l3 1 true).length = 2 := by rw [sbp_tdp, List.length_reverse, tdp3]
  have hd := dgs_len h16
  have t0 := dgs_at h16 (i := 0) (by decide)
  have t1 := dgs_at h16 (i := 1) (by decide)
  have t2 := dgs_at h16 (i := 2) (by decide)
  have la := dgAt_len h16 (i := 0) (by decide)
  have lb := dgAt_len h16 (i := 1) (by decide)
  have lc := dgAt_len h16 (i := 2) (by decide)
  have d2 : dgAt l3 2 = dg1 3 := rfl
  have k0 : l3.take 0 = [] := rfl
  have k1 : l3.take 1 = [dg1 1] := rfl
  have rl := root_len l3
  have r1 := root_len [dg1 1]
  have q16 : is16 [dg1 1] := is16_one g1
  have tk1 := dgs_take h16 1
  generalize hx1 : dg1 1 = x1 at *
  generalize hx2 : dg1 2 = x2 at *
  generalize hx3 : dg1 3 = x3 at *
  generalize hL : l3 = L at *
  clear hx1 hx2 hx3 hL
  have ps : is16 (prv L 2) := by rw [prv_sibs]; exact is16_rev (is16_sibs L 2)
  have ss : is16 (sbp L 1 true) := by rw [sbp_tdp]; exact is16_rev (is16_tdp L 1 true)
  have s1 : rootC.pre [.sl .plain (some false) 3 (bys (dgs L))] = True := rootC_pre h16 (by omega) hlen.symm rfl
  have s2 : rootC.post [.sl .plain (some false) 3 (bys (dgs L))] = .agg (bys (root L)) := rootC_post h16 hlen.symm rfl
  have s3 : prvC.pre [.sl .plain (some false) 3 (bys (dgs L)), i64 2] = True := eq_true ⟨some false, L, 2, h16, by omega, by rw [dgsA, hlen]⟩
  have s4 : prvC.post [.sl .plain (some false) 3 (bys (dgs L)), i64 2] = .tup [.sl .plain (some false) 1 (bys (dgs (prv L 2))), i64 0] := by
    have := prvC_post (nl := some false) h16 2
    rw [dgsA, hlen, f1, optA, prfA, p1, if_neg (by intro h; rw [h] at p1; cases p1)] at this
    exact this
  have s5 : prvC.pre [.sl .plain (some false) 3 (bys (dgs L)), i64 3] = True := eq_true ⟨some false, L, 3, h16, by omega, by rw [dgsA, hlen]⟩
  have s6 : prvC.post [.sl .plain (some false) 3 (bys (dgs L)), i64 3] = .tup [.sl .plain none 0 [], i64 11] := by
    have := prvC_post (nl := some false) h16 3
    rw [dgsA, hlen, f3, optA] at this
    exact this
  have s7 : pvpC.pre [.sl .plain (some false) 3 (bys (dgs L)), i64 1] = True := eq_true ⟨some false, L, 1, h16, by omega, by rw [dgsA, hlen]⟩
  have s8 : pvpC.post [.sl .plain (some false) 3 (bys (dgs L)), i64 1] = .tup [.sl .plain (some false) 2 (bys (dgs (sbp L 1 true))), i64 0] := by
    have := pvpC_post (nl := some false) h16 1
    rw [dgsA, hlen, f2, optA, prfA, p2, if_neg (by intro h; rw [h] at p2; cases p2)] at this
    exact this
  have s9 : clC.pre [i64 1, i64 0, .agg (bys x1), .agg (bys x1), .sl .plain (some true) 0 [], .sl .plain (some true) 0 []] = True := clC_pre (p := []) (q := []) (by decide) g1 g1 is16_nil (by decide) is16_nil (by decide)
  have s10 : clC.post [i64 1, i64 0, .agg (bys x1), .agg (bys x1), .sl .plain (some true) 0 [], .sl .plain (some true) 0 []] = .tup [.sl .plain none 0 [], .sl .plain none 0 [], bo false] := by
    have := clC_post (n := 1) (i := 0) (a := x1) (b := x1) (nl := some true) (nl' := some true) is16_nil is16_nil
    rw [f8] at this
    exact this
  clear f1 f2 f3 f8
  simp (maxSteps := 1000000) (disch := first | omega | (simp; done) | (simp; omega)) [W_id, bys_app, bys_snoc, f_custodylaw08_sanity, e1, e2, e3, e4, g1, g2, g3, h168, s1, s2, h163, s3, s4, s5, s6, h171, s7, s8, h178, s9, s10, rl, splice_full]
  clear s1 s2 s3 s4 s5 s6 s7 s8 s9 s10
  refine awp_name fun Q0 hQ0 => ?_
  refine awp_for (fun a : Nat × Option Bool => ⟨[], [(1, .sl (.own 16) (some false) 3 (bys (dgs L))), (2, .bp 2 0), (3, .sl .plain (some false) 1 (bys (dgs (prv L 2)))), (4, i64 0), (5, .sl .plain (some false) 2 (bys (dgs (sbp L 1 true)))), (6, i64 0), (8, i64 11), (11, bo false), (12, .bp 12 0), (13, i64 a.1)], [(2, some (bys (root L))), (12, some [i64 a.1, .sl .plain a.2 (pksL 21 (L.take a.1)).length (bys (dgs (pksL 21 (L.take a.1))))])]⟩) (fun a => 3 - a.1) (fun a => a.1 ≤ 3) (0, none) (by simp [pksL_nil]) (by simp) fun a ha => ?_
  refine awp_name fun Q1 hQ1 => ?_
  obtain ⟨i, nl⟩ := a
  simp only at ha ⊢
  have tkl : (L.take i).length = i := by rw [List.length_take]; omega
  have m16 := pksL_16 21 (L.take i)
  have ml : (pksL 21 (L.take i)).length ≤ 1000000 := by
    have := oN_le 21 i (by omega)
    rw [pksL_len 21 _ (by omega), tkl]; omega
  by_cases h : i < 3
  · have hlt : (i : Int) < 3 := by omega
    have ti := dgs_at h16 (i := i) (by omega)
    have li := dgAt_len h16 (i := i) (by omega)
    have ai := addP_pks (k := 21) (l := L.take i) (dgAt L i) (by omega) (by omega)
    have tn : L.take i ++ [dgAt L i] = L.take (i + 1) := by
      rw [← List.take_append_getElem (i := i) (h := by omega)]
      simp [dgAt, List.getD, List.getElem?_eq_getElem (show i < L.length by omega)]
    rw [tn, tkl] at ai
    have b1 := padC_pre (n := i) (nl := nl) (d := dgAt L i) ⟨by omega, by omega⟩ m16 ml li rfl rfl
    have b2 := padC_post (n := i) (m := .plain) (nl := nl) (d := dgAt L i) m16 rfl rfl
    rw [ai] at b2
    unfold pkA dgsA at b2
    generalize hnl : addNl i (pksL 21 (L.take i)) = nl2 at b2
    generalize pksL 21 (L.take i) = P at *
    generalize hP : pksL 21 (L.take (i + 1)) = P' at *
    simp (maxSteps := 1000000) (disch := first | omega | (simp; done) | (simp; omega)) [W_id, bys_app, bys_snoc, f_custodylaw08_sanity_l0, f_custodylaw08_sanity_r0, kT, kF, dT, dF, hlt, hd, ti, h182, b1, b2, splice_two]
    refine ⟨by omega, ?_⟩
    rw [hQ1]
    exact ⟨(i + 1, nl2), by show 3 - (i + 1) < 3 - i; omega, by show i + 1 ≤ 3; omega, by rw [hP]; simp⟩
  · have hi : i = 3 := by omega
    subst hi
    have hta : L.take 3 = L := by rw [← hlen, List.take_length]
    rw [hta]
    simp (maxSteps := 1000000) (disch := first | omega | (simp; done) | (simp; omega)) [W_id, bys_app, bys_snoc, f_custodylaw08_sanity_l0, kT, kF, dT, dF]
    rw [hQ1]
    show Q0 (.exit 0) _
    rw [hQ0]
    show awp E f_custodylaw08_sanity_r1 _ _
    clear hQ0 hQ1
    have hok := f6
    rw [hlen] at f6
    have P16 := pksL_16 21 L
    have Pl : (pksL 21 L).length ≤ 1000000 := by rw [hta] at ml; exact ml
    generalize pksL 21 L = P at *
    have c1 := topC_pre (n := 3) (nl := nl) ⟨by decide, by decide⟩ P16 Pl rfl rfl
    have c2 := topC_post (n := 3) (m := .plain) (nl := nl) P16 rfl rfl
    rw [show topP 3 P = (root L, 0) from f6] at c2
    have c3 : topC.pre [.agg [i64 2, .sl .plain none 0 []]] = True := topC_pre (n := 2) (l := []) (b := []) ⟨by decide, by decide⟩ is16_nil (by decide) rfl rfl
    have c4 : topC.post [.agg [i64 2, .sl .plain none 0 []]] = .tup [.agg (bys (zeros 16)), i64 1] := by
      have := topC_post (n := 2) (m := .plain) (nl := none) (l := []) (b := []) is16_nil rfl rfl
      rw [f7] at this
      exact this
    have c5 := vfyC_pre (r := root L) (n := 3) (i := 2) (d := x3) (nl := some false) (p := prv L 2) rl (by decide) g3 ps (by omega)
    have c6 := vfyC_post (r := root L) (n := 3) (i := 2) (d := x3) (nl := some false) (p := prv L 2) ps
    rw [hlen, d2, decide_eq_true rfl] at f4
    rw [p1] at c5 c6
    rw [show vfyN (root L) 3 2 x3 (prv L 2) = true from f4] at c6
    have c7 := vprC_pre (old := root [x1]) (root := root L) (m := 1) (n := 3) (nl := some false) (p := sbp L 1 true) r1 rl (by decide) ss (by omega)
    have c8 := vprC_post (old := root [x1]) (root := root L) (m := 1) (n := 3) (nl := some false) (p := sbp L 1 true) ss
    rw [hlen, k1, decide_eq_true rfl] at f5
    rw [p2] at c7 c8
    rw [show vpN (root [x1]) (root L) 1 3 (sbp L 1 true) = true from f5] at c8
    have c9 : rootC.pre [.sl .plain (some false) 1 (bys x1)] = True := rootC_pre (l := [x1]) q16 (by simp) rfl (by simp)
    have c10 : rootC.post [.sl .plain (some false) 1 (bys x1)] = .agg (bys (root [x1])) := rootC_post (l := [x1]) q16 rfl (by simp)
    rw [k1] at tk1
    simp only [dgs_cons, dgs_nil, List.append_nil, Nat.one_mul] at tk1
    have eqb := eqCells_ks8 rl rl
    have eqz := eqCells_ks8 rl (show (zeros 16).length = 16 from rfl)
    have tkr := take_l16 rl
    generalize root L = R at *
    generalize root [x1] = R1 at *
    simp (maxSteps := 1000000) (disch := first | omega | (simp; done) | (simp; omega)) [W_id, bys_app, bys_snoc, f_custodylaw08_sanity_r1, kT, kF, dT, dF, splice_full, splice_two, h185, c1, c2, c3, c4, h173, c5, c6, h168, c9, c10, h176, c7, c8, tk1, eqb, eqz, tkr, hne, g3, e3]
    omega
end Go.Abs
end

section
namespace Go.Abs
set_option maxRecDepth 100000
end Go.Abs
end
