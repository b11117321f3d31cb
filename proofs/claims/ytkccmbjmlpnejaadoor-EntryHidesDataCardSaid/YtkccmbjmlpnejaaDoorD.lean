/- Lemmas: an abstract interpreter, and what the functions compute. -/
import Derived.Test.YtkccmbjmlpnejaaDoorC
set_option linter.unusedSimpArgs false
set_option linter.unusedVariables false
set_option linter.unusedSectionVars false
section
namespace Go.Abs

def u8 (x : UInt8) : z2a := .lit (.int .u8 x.toNat)
def u32 (x : UInt32) : z2a := .lit (.int .u32 x.toNat)
def u64 (x : UInt64) : z2a := .lit (.int .u64 x.toNat)
def i64 (x : Int) : z2a := .lit (.int .i64 x)
def bo (x : Bool) : z2a := .lit (.bool x)
def st (l : List UInt8) : z2a := .lit (.string ⟨l.toArray⟩)
def bys (l : List UInt8) : List z2a := l.map u8
def z1o (l : List UInt32) : List z2a := l.map u32
def W (n : Int) : Int := IntKind.i64.wrap n

theorem z7a {n : Int} (h0 : -9223372036854775808 ≤ n) (h1 : n ≤ 9223372036854775807) : W n = n := by
 unfold W IntKind.wrap IntKind.bits IntKind.signed
 simp only [Bool.true_and, decide_eq_true_eq]
 split <;> omega

theorem z7xa (n : Nat) : IntKind.u8.wrap (n : Int) = ((n % 256 : Nat) : Int) := by
 unfold IntKind.wrap IntKind.bits IntKind.signed
 simp
theorem z0ma (n : Nat) : IntKind.u32.wrap (n : Int) = ((n % 4294967296 : Nat) : Int) := by
 unfold IntKind.wrap IntKind.bits IntKind.signed
 simp
theorem z3ha (n : Nat) : IntKind.u64.wrap (n : Int) = ((n % 18446744073709551616 : Nat) : Int) := by
 unfold IntKind.wrap IntKind.bits IntKind.signed
 simp

section looks
@[simp] theorem z7tb (x : UInt8) : asI (u8 x) = x.toNat := rfl
@[simp] theorem z2Zb (x : UInt32) : asI (u32 x) = x.toNat := rfl
@[simp] theorem z59b (x : UInt64) : asI (u64 x) = x.toNat := rfl
@[simp] theorem z6nb (x : Int) : asI (i64 x) = x := rfl
@[simp] theorem z0Nb (x : Bool) : asB (bo x) = x := rfl
@[simp] theorem asS_st (l : List UInt8) : asS (st l) = ⟨l.toArray⟩ := rfl
@[simp] theorem isB_bo (x : Bool) : isB (bo x) ↔ True := by simp [isB, bo]
@[simp] theorem isI_u8 (x : UInt8) : isI (u8 x) ↔ True := by simp [isI, u8]
@[simp] theorem z62c (x : UInt32) : isI (u32 x) ↔ True := by simp [isI, u32]
@[simp] theorem z53c (x : UInt64) : isI (u64 x) ↔ True := by simp [isI, u64]
@[simp] theorem z2ad (x : Int) : isI (i64 x) ↔ True := by simp [isI, i64]
@[simp] theorem z46c (x : UInt8) : z1mc .u8 (u8 x) ↔ True := by simp [z1mc, u8]
@[simp] theorem isS_st (l : List UInt8) : isS (st l) ↔ True := by simp [isS, st]
@[simp] theorem dem_u8 (x : UInt8) : dem (u8 x) = u8 x := rfl
@[simp] theorem z68c (x : UInt32) : dem (u32 x) = u32 x := rfl
@[simp] theorem z8Zc (x : UInt64) : dem (u64 x) = u64 x := rfl
@[simp] theorem z18c (x : Int) : dem (i64 x) = i64 x := rfl
@[simp] theorem dem_bo (x : Bool) : dem (bo x) = bo x := rfl
@[simp] theorem dem_st (x : List UInt8) : dem (st x) = st x := rfl
@[simp] theorem z3vc (x : UInt8) : z1d (u8 x) ↔ True := by simp [z1d, u8]
@[simp] theorem z9ec (x : UInt32) : z1d (u32 x) ↔ True := by simp [z1d, u32]
@[simp] theorem z1gc (x : UInt64) : z1d (u64 x) ↔ True := by simp [z1d, u64]
@[simp] theorem z9jc (x : Int) : z1d (i64 x) ↔ True := by simp [z1d, i64]
@[simp] theorem z3Ec (x : Bool) : z1d (bo x) ↔ True := by simp [z1d, bo]
@[simp] theorem z8pc (x : List UInt8) : z1d (st x) ↔ True := by simp [z1d, st]
@[simp] theorem z0Qc (x : UInt8) : z8e (u8 x) = true := rfl
@[simp] theorem z9Ic (x : UInt32) : z8e (u32 x) = true := rfl
@[simp] theorem z1rc (x : UInt64) : z8e (u64 x) = true := rfl
@[simp] theorem z3Bc (x : Int) : z8e (i64 x) = true := rfl
@[simp] theorem z7Sc (x : Bool) : z8e (bo x) = true := rfl
@[simp] theorem z7Wc (x : List UInt8) : z8e (st x) = true := rfl
@[simp] theorem z3fc (x : UInt8) : z1f (u8 x) = true := rfl
@[simp] theorem z40b (x : UInt32) : z1f (u32 x) = true := rfl
@[simp] theorem z96b (x : UInt64) : z1f (u64 x) = true := rfl
@[simp] theorem z8Yb (x : Int) : z1f (i64 x) = true := rfl
@[simp] theorem z7kc (x : Bool) : z1f (bo x) = true := rfl
@[simp] theorem z2ic (x : List UInt8) : z1f (st x) = true := rfl
@[simp] theorem z50c (x : UInt8) : z1B (u8 x) = [] := rfl
@[simp] theorem z9Uc (x : UInt32) : z1B (u32 x) = [] := rfl
@[simp] theorem z0Lc (x : UInt64) : z1B (u64 x) = [] := rfl
@[simp] theorem z8Qc (x : Int) : z1B (i64 x) = [] := rfl
@[simp] theorem z65c (x : Bool) : z1B (bo x) = [] := rfl
@[simp] theorem z66c (x : List UInt8) : z1B (st x) = [] := rfl
@[simp] theorem z7wc (x : UInt8) : z3g (u8 x) = false := rfl
@[simp] theorem z7dc (x : UInt32) : z3g (u32 x) = false := rfl
@[simp] theorem z5gc (x : UInt64) : z3g (u64 x) = false := rfl
@[simp] theorem z5hc (x : Int) : z3g (i64 x) = false := rfl
@[simp] theorem z8Jc (x : Bool) : z3g (bo x) = false := rfl
@[simp] theorem z3tc (x : List UInt8) : z3g (st x) = false := rfl
@[simp] theorem z2nc (x : UInt8) : z8s (u8 x) = [u8 x] := rfl
@[simp] theorem z3mc (x : UInt32) : z8s (u32 x) = [u32 x] := rfl
@[simp] theorem z3lc (x : UInt64) : z8s (u64 x) = [u64 x] := rfl
@[simp] theorem z9hc (x : Int) : z8s (i64 x) = [i64 x] := rfl
@[simp] theorem z8Gc (x : Bool) : z8s (bo x) = [bo x] := rfl
@[simp] theorem z7oc (x : List UInt8) : z8s (st x) = [st x] := rfl
@[simp] theorem z0Yc (l : List UInt8) : z3w (st l) = l.length := by simp [z3w, st, ByteArray.size]
@[simp] theorem z2oc (bx : List z2a) (l : List UInt8) : z3h bx (st l) = bys l := by simp [z3h, st, bys, u8]
end looks

section arith
@[simp] theorem z3bc (x y : Int) : z2J .add (i64 x) (i64 y) = i64 (W (x + y)) := rfl
@[simp] theorem z91b (x y : Int) : z2J .sub (i64 x) (i64 y) = i64 (W (x - y)) := rfl
@[simp] theorem z3Wb (x y : Int) : z2J .mul (i64 x) (i64 y) = i64 (W (x * y)) := rfl
@[simp] theorem z0Zb (x y : Int) : z2J .quo (i64 x) (i64 y) = i64 (W (x.tdiv y)) := rfl
@[simp] theorem z7Xb (x y : Int) : z2J .rem (i64 x) (i64 y) = i64 (x.tmod y) := rfl
@[simp] theorem z3Vb (x y : Int) : z2J .eql (i64 x) (i64 y) = bo (x == y) := rfl
@[simp] theorem z9Xb (x y : Int) : z2J .neq (i64 x) (i64 y) = bo (x != y) := rfl
@[simp] theorem z09b (x y : Int) : z2J .lss (i64 x) (i64 y) = bo (decide (x < y)) := rfl
@[simp] theorem z6Zb (x y : Int) : z2J .leq (i64 x) (i64 y) = bo (decide (x ≤ y)) := rfl
@[simp] theorem z54b (x y : Int) : z2J .gtr (i64 x) (i64 y) = bo (decide (y < x)) := rfl
@[simp] theorem z24b (x y : Int) : z2J .geq (i64 x) (i64 y) = bo (decide (y ≤ x)) := rfl

theorem z3Y {n : Int} {x : UInt32} (h : n = x.toNat) : z2a.lit (.int .u32 n) = u32 x := by rw [h]; rfl
theorem z8la {n : Int} {x : UInt8} (h : n = x.toNat) : z2a.lit (.int .u8 n) = u8 x := by rw [h]; rfl
theorem z6O {n : Int} {x : UInt64} (h : n = x.toNat) : z2a.lit (.int .u64 n) = u64 x := by rw [h]; rfl

theorem z5Ma (k n : Nat) : (BitVec.ofInt k (n : Int)).toNat = n % 2 ^ k := by
 simp [BitVec.toNat_ofInt]
theorem z1Ba (x : UInt32) : BitVec.ofInt 32 (x.toNat : Int) = x.toBitVec := by
 apply BitVec.eq_of_toNat_eq
 rw [z5Ma]
 exact Nat.mod_eq_of_lt x.toNat_lt
theorem z6vb (x : UInt8) : BitVec.ofInt 8 (x.toNat : Int) = x.toBitVec := by
 apply BitVec.eq_of_toNat_eq
 rw [z5Ma]
 exact Nat.mod_eq_of_lt x.toNat_lt
theorem z3Oa (x : UInt64) : BitVec.ofInt 64 (x.toNat : Int) = x.toBitVec := by
 apply BitVec.eq_of_toNat_eq
 rw [z5Ma]
 exact Nat.mod_eq_of_lt x.toNat_lt
theorem z8ma (x : BitVec 32) : IntKind.u32.wrap (x.toNat : Int) = (x.toNat : Int) := by rw [z0ma, Nat.mod_eq_of_lt x.isLt]
theorem z24a (x : BitVec 8) : IntKind.u8.wrap (x.toNat : Int) = (x.toNat : Int) := by rw [z7xa, Nat.mod_eq_of_lt x.isLt]
theorem z0xa (x : BitVec 64) : IntKind.u64.wrap (x.toNat : Int) = (x.toNat : Int) := by rw [z3ha, Nat.mod_eq_of_lt x.isLt]

@[simp] theorem z14b (x y : UInt32) : z2J .add (u32 x) (u32 y) = u32 (x + y) := z3Y (by
 show IntKind.u32.wrap ((x.toNat : Int) + y.toNat) = _
 rw [← Int.natCast_add, z0ma, UInt32.toNat_add])
@[simp] theorem z0ec (x y : UInt8) : z2J .add (u8 x) (u8 y) = u8 (x + y) := z8la (by
 show IntKind.u8.wrap ((x.toNat : Int) + y.toNat) = _
 rw [← Int.natCast_add, z7xa, UInt8.toNat_add])
@[simp] theorem z46b (x y : UInt64) : z2J .add (u64 x) (u64 y) = u64 (x + y) := z6O (by
 show IntKind.u64.wrap ((x.toNat : Int) + y.toNat) = _
 rw [← Int.natCast_add, z3ha, UInt64.toNat_add])
@[simp] theorem z31b (x y : UInt64) : z2J .mul (u64 x) (u64 y) = u64 (x * y) := z6O (by
 show IntKind.u64.wrap ((x.toNat : Int) * y.toNat) = _
 rw [← Int.natCast_mul, z3ha, UInt64.toNat_mul])
@[simp] theorem z9cc (x y : UInt32) : z2J .and (u32 x) (u32 y) = u32 (x &&& y) := z3Y (by
 show IntKind.u32.wrap ((BitVec.ofInt 32 x.toNat &&& BitVec.ofInt 32 y.toNat).toNat : Int) = _
 rw [z1Ba, z1Ba, z8ma]
 rfl)
@[simp] theorem z1fc (x y : UInt32) : z2J .or (u32 x) (u32 y) = u32 (x ||| y) := z3Y (by
 show IntKind.u32.wrap ((BitVec.ofInt 32 x.toNat ||| BitVec.ofInt 32 y.toNat).toNat : Int) = _
 rw [z1Ba, z1Ba, z8ma]
 rfl)
@[simp] theorem z61b (x y : UInt32) : z2J .xor (u32 x) (u32 y) = u32 (x ^^^ y) := z3Y (by
 show IntKind.u32.wrap ((BitVec.ofInt 32 x.toNat ^^^ BitVec.ofInt 32 y.toNat).toNat : Int) = _
 rw [z1Ba, z1Ba, z8ma]
 rfl)
@[simp] theorem z7Dc (x y : UInt8) : z2J .or (u8 x) (u8 y) = u8 (x ||| y) := z8la (by
 show IntKind.u8.wrap ((BitVec.ofInt 8 x.toNat ||| BitVec.ofInt 8 y.toNat).toNat : Int) = _
 rw [z6vb, z6vb, z24a]
 rfl)
@[simp] theorem z8ic (x y : UInt8) : z2J .xor (u8 x) (u8 y) = u8 (x ^^^ y) := z8la (by
 show IntKind.u8.wrap ((BitVec.ofInt 8 x.toNat ^^^ BitVec.ofInt 8 y.toNat).toNat : Int) = _
 rw [z6vb, z6vb, z24a]
 rfl)
@[simp] theorem z0nc (x y : UInt64) : z2J .or (u64 x) (u64 y) = u64 (x ||| y) := z6O (by
 show IntKind.u64.wrap ((BitVec.ofInt 64 x.toNat ||| BitVec.ofInt 64 y.toNat).toNat : Int) = _
 rw [z3Oa, z3Oa, z0xa]
 rfl)

@[simp] theorem z3ic (x y : UInt8) : z2J .eql (u8 x) (u8 y) = bo (x == y) := by
 show z2a.lit (.bool ((x.toNat : Int) == y.toNat)) = .lit (.bool _)
 congr 2
 rw [Bool.eq_iff_iff]
 simp only [beq_iff_eq, bne_iff_ne, ne_eq, ← UInt8.toNat_inj]
 omega
@[simp] theorem z4jc (x y : UInt8) : z2J .neq (u8 x) (u8 y) = bo (x != y) := by
 show z2a.lit (.bool ((x.toNat : Int) != y.toNat)) = .lit (.bool _)
 congr 2
 rw [Bool.eq_iff_iff]
 simp only [beq_iff_eq, bne_iff_ne, ne_eq, ← UInt8.toNat_inj]
 omega
@[simp] theorem z23b (x y : UInt64) : z2J .eql (u64 x) (u64 y) = bo (x == y) := by
 show z2a.lit (.bool ((x.toNat : Int) == y.toNat)) = .lit (.bool _)
 congr 2
 rw [Bool.eq_iff_iff]
 simp only [beq_iff_eq, bne_iff_ne, ne_eq, ← UInt64.toNat_inj]
 omega
@[simp] theorem z62b (x y : UInt64) : z2J .gtr (u64 x) (u64 y) = bo (decide (y < x)) := by
 show z2a.lit (.bool (decide ((x.toNat : Int) > y.toNat))) = .lit (.bool _)
 congr 2
 simp [UInt64.lt_iff_toNat_lt]
@[simp] theorem z6Yb (x y : UInt64) : z2J .lss (u64 x) (u64 y) = bo (decide (x < y)) := by
 show z2a.lit (.bool (decide ((x.toNat : Int) < y.toNat))) = .lit (.bool _)
 congr 2
 simp [UInt64.lt_iff_toNat_lt]
@[simp] theorem z00b (x y : UInt64) : z2J .rem (u64 x) (u64 y) = u64 (x % y) := z6O (by
 show ((x.toNat : Int).tmod y.toNat) = _
 rw [UInt64.toNat_mod]
 rfl)
@[simp] theorem z0fc (x : UInt32) : unV .xor (u32 x) = u32 (~~~x) := z3Y (by
 show IntKind.u32.wrap ((BitVec.ofInt 32 4294967295 ^^^ BitVec.ofInt 32 x.toNat).toNat : Int) = _
 rw [z1Ba, z8ma]
 have e : (BitVec.ofInt 32 4294967295) = BitVec.allOnes 32 := by decide
 rw [e, BitVec.allOnes_xor]
 rfl)
@[simp] theorem z0lc (x : UInt64) : unV .xor (u64 x) = u64 (~~~x) := z6O (by
 show IntKind.u64.wrap ((BitVec.ofInt 64 18446744073709551615 ^^^ BitVec.ofInt 64 x.toNat).toNat : Int) = _
 rw [z3Oa, z0xa]
 have e : (BitVec.ofInt 64 18446744073709551615) = BitVec.allOnes 64 := by decide
 rw [e, BitVec.allOnes_xor]
 rfl)
@[simp] theorem un_not (x : Bool) : unV .not (bo x) = bo (!x) := rfl
@[simp] theorem z5mc (x : Int) : unV .neg (i64 x) = i64 (W (-x)) := by
 show z2a.lit (.int .i64 (IntKind.i64.wrap (0 - x))) = _
 rw [Int.zero_sub]; rfl
end arith

/-! ### Shifts and conversions -/
def z9Ma (x : UInt32) (n : Nat) : UInt32 := ⟨x.toBitVec >>> n⟩
def z3ia (x : UInt32) (n : Nat) : UInt32 := ⟨x.toBitVec <<< n⟩
def z2Da (x : UInt64) (n : Nat) : UInt64 := ⟨x.toBitVec >>> n⟩
def z3vb (x : UInt64) (n : Nat) : UInt64 := ⟨x.toBitVec <<< n⟩

theorem z4Ma (b n : Nat) (x : BitVec b) : ((x.toNat : Int).fdiv (2 ^ min n b)) = ((x >>> n).toNat : Int) := by
 have h2 : ((2 : Int) ^ min n b) = ((2 ^ min n b : Nat) : Int) := by simp
 rw [h2, BitVec.toNat_ushiftRight, Nat.shiftRight_eq_div_pow]
 have : ((x.toNat : Int).fdiv ((2 ^ min n b : Nat) : Int)) = ((x.toNat / 2 ^ min n b : Nat) : Int) := by
  rw [Int.fdiv_eq_ediv_of_nonneg _ (Int.natCast_nonneg _)]
  rfl
 rw [this]
 rcases Nat.le_total n b with h | h
 ·rw [Nat.min_eq_left h]
 ·rw [Nat.min_eq_right h, Nat.div_eq_of_lt x.isLt, Nat.div_eq_of_lt]
  exact Nat.lt_of_lt_of_le x.isLt (Nat.pow_le_pow_right (by decide) h)

theorem z7Ia (b n : Nat) (x : BitVec b) : (x.toNat * 2 ^ min n b) % 2 ^ b = (x <<< n).toNat := by
 rw [BitVec.toNat_shiftLeft, Nat.shiftLeft_eq]
 rcases Nat.le_total n b with h | h
 ·rw [Nat.min_eq_left h]
 ·rw [Nat.min_eq_right h, Nat.mul_mod_left]
  obtain ⟨k, rfl⟩ := Nat.exists_eq_add_of_le h
  rw [Nat.pow_add, ← Nat.mul_assoc, Nat.mul_right_comm, Nat.mul_mod_left]

theorem z2va (x n b : Nat) : ((x : Int) * 2 ^ min n b) = ((x * 2 ^ min n b : Nat) : Int) := by simp

@[simp] theorem z0cc (x : UInt32) (n : Int) : z2J .shr (u32 x) (i64 n) = u32 (z9Ma x n.toNat) := z3Y (z4Ma 32 n.toNat x.toBitVec)
@[simp] theorem z4Nb (x : UInt32) (n : UInt64) : z2J .shr (u32 x) (u64 n) = u32 (z9Ma x n.toNat) := z3Y (z4Ma 32 n.toNat x.toBitVec)
@[simp] theorem z29b (x : UInt64) (n : Int) : z2J .shr (u64 x) (i64 n) = u64 (z2Da x n.toNat) := z6O (z4Ma 64 n.toNat x.toBitVec)
@[simp] theorem z8Rb (x : UInt64) (n : UInt64) : z2J .shr (u64 x) (u64 n) = u64 (z2Da x n.toNat) := z6O (z4Ma 64 n.toNat x.toBitVec)
@[simp] theorem z75b (x : UInt32) (n : Int) : z2J .shl (u32 x) (i64 n) = u32 (z3ia x n.toNat) := z3Y (by
 show IntKind.u32.wrap ((x.toNat : Int) * 2 ^ min n.toNat 32) = _
 rw [z2va, z0ma]
 exact congrArg _ (z7Ia 32 n.toNat x.toBitVec))
@[simp] theorem z3Qb (x : UInt32) (n : UInt64) : z2J .shl (u32 x) (u64 n) = u32 (z3ia x n.toNat) := z3Y (by
 show IntKind.u32.wrap ((x.toNat : Int) * 2 ^ min n.toNat 32) = _
 rw [z2va, z0ma]
 exact congrArg _ (z7Ia 32 n.toNat x.toBitVec))
@[simp] theorem z0bc (x : UInt64) (n : Int) : z2J .shl (u64 x) (i64 n) = u64 (z3vb x n.toNat) := z6O (by
 show IntKind.u64.wrap ((x.toNat : Int) * 2 ^ min n.toNat 64) = _
 rw [z2va, z3ha]
 exact congrArg _ (z7Ia 64 n.toNat x.toBitVec))
@[simp] theorem z5Ob (x : UInt64) (n : UInt64) : z2J .shl (u64 x) (u64 n) = u64 (z3vb x n.toNat) := z6O (by
 show IntKind.u64.wrap ((x.toNat : Int) * 2 ^ min n.toNat 64) = _
 rw [z2va, z3ha]
 exact congrArg _ (z7Ia 64 n.toNat x.toBitVec))

@[simp] theorem z07b (x y : UInt64) : z2J .sub (u64 x) (u64 y) = u64 (x - y) := z6O (by
 show IntKind.u64.wrap ((x.toNat : Int) - y.toNat) = _
 rw [UInt64.toNat_sub]
 have := x.toNat_lt
 have := y.toNat_lt
 unfold IntKind.wrap IntKind.bits IntKind.signed
 simp only [Bool.false_and, Bool.false_eq_true, if_false]
 omega)
@[simp] theorem z97b (x y : UInt64) : z2J .and (u64 x) (u64 y) = u64 (x &&& y) := z6O (by
 show IntKind.u64.wrap ((BitVec.ofInt 64 x.toNat &&& BitVec.ofInt 64 y.toNat).toNat : Int) = _
 rw [z3Oa, z3Oa, z0xa]
 rfl)

@[simp] theorem z9wc (x : UInt32) : cvV .u8 (u32 x) = u8 x.toUInt8 := z8la (by
 show IntKind.u8.wrap (x.toNat : Int) = _
 rw [z7xa, UInt32.toNat_toUInt8])
@[simp] theorem z3Hc (x : UInt64) : cvV .u8 (u64 x) = u8 x.toUInt8 := z8la (by
 show IntKind.u8.wrap (x.toNat : Int) = _
 rw [z7xa, UInt64.toNat_toUInt8])
@[simp] theorem z0uc (x : UInt8) : cvV .u32 (u8 x) = u32 x.toUInt32 := z3Y (by
 show IntKind.u32.wrap (x.toNat : Int) = _
 rw [z0ma, UInt8.toNat_toUInt32, Nat.mod_eq_of_lt (by have := x.toNat_lt; omega)])
@[simp] theorem z7sc (x : UInt8) : cvV .u64 (u8 x) = u64 x.toUInt64 := z6O (by
 show IntKind.u64.wrap (x.toNat : Int) = _
 rw [z3ha, UInt8.toNat_toUInt64, Nat.mod_eq_of_lt (by have := x.toNat_lt; omega)])
theorem z8qa (n : Int) (m : Nat) (hm : 0 < m) : (((n % (m : Int)).toNat : Nat) : Int) = n % (m : Int) := Int.toNat_of_nonneg (Int.emod_nonneg _ (by omega))
theorem z8sa (n : Int) : (UInt8.ofInt n).toNat = (n % 256).toNat := by
 unfold UInt8.ofInt
 rw [UInt8.toNat_ofNat', Nat.mod_eq_of_lt (by omega)]
 rfl
theorem z2rb (n : Int) : (UInt32.ofInt n).toNat = (n % 4294967296).toNat := by
 unfold UInt32.ofInt
 rw [UInt32.toNat_ofNat', Nat.mod_eq_of_lt (by omega)]
 rfl
theorem z0qa (n : Int) : (UInt64.ofInt n).toNat = (n % 18446744073709551616).toNat := by
 unfold UInt64.ofInt
 rw [UInt64.toNat_ofNat', Nat.mod_eq_of_lt (by omega)]
 rfl
@[simp] theorem z8rc (n : Int) : cvV .u8 (i64 n) = u8 (UInt8.ofInt n) := z8la (by
 show IntKind.u8.wrap n = _
 rw [show (UInt8.ofInt n).toNat = (n % 256).toNat from z8sa n]
 exact (z8qa n 256 (by decide)).symm)
@[simp] theorem z7ic (n : Int) : cvV .u64 (i64 n) = u64 (UInt64.ofInt n) := z6O (by
 show IntKind.u64.wrap n = _
 rw [show (UInt64.ofInt n).toNat = (n % 18446744073709551616).toNat from z0qa n]
 exact (z8qa n 18446744073709551616 (by decide)).symm)
@[simp] theorem z2kc (n : Int) : cvV .u32 (i64 n) = u32 (UInt32.ofInt n) := z3Y (by
 show IntKind.u32.wrap n = _
 rw [show (UInt32.ofInt n).toNat = (n % 4294967296).toNat from z2rb n]
 exact (z8qa n 4294967296 (by decide)).symm)
@[simp] theorem z5vc (x : UInt8) : cvV .i64 (u8 x) = i64 x.toNat := by
 show z2a.lit (.int .i64 (W x.toNat)) = _
 rw [z7a (by omega) (by have := x.toNat_lt; omega)]
 rfl
@[simp] theorem z8hc (x : UInt32) : cvV .i64 (u32 x) = i64 x.toNat := by
 show z2a.lit (.int .i64 (W x.toNat)) = _
 rw [z7a (by omega) (by have := x.toNat_lt; omega)]
 rfl
@[simp] theorem z1lc (x : UInt64) : cvV .i64 (u64 x) = i64 (W x.toNat) := rfl
@[simp] theorem z7hc (x : Int) : cvV .i64 (i64 x) = i64 (W x) := rfl
end Go.Abs
end

section
namespace Go.Abs

def z2c (n : Nat) : List UInt8 := List.replicate n 0
def z8i (n : Nat) : List UInt32 := List.replicate n 0
@[simp] theorem z1Rb (n : Nat) : (z2c n).length = n := by simp [z2c]
@[simp] theorem z7ub (n : Nat) : (z8i n).length = n := by simp [z8i]

/-! ### Lists of bytes and of words as cells -/
@[simp] theorem z8eb (l : List UInt8) : (bys l).length = l.length := by simp [bys]
@[simp] theorem z01a (l : List UInt32) : (z1o l).length = l.length := by simp [z1o]
@[simp] theorem z60c : bys [] = [] := rfl
@[simp] theorem z9Mc : z1o [] = [] := rfl
theorem z2P (l m : List UInt8) : bys (l ++ m) = bys l ++ bys m := by simp [bys]
theorem z1a (l m : List UInt8) : bys l ++ bys m = bys (l ++ m) := (z2P l m).symm
theorem z0a (l : List UInt8) (x : UInt8) : bys l ++ [u8 x] = bys (l ++ [x]) := by simp [bys]
@[simp] theorem z4yb (l : List UInt8) (n : Nat) : (bys l).take n = bys (l.take n) := by simp [bys]
@[simp] theorem z95a (l : List UInt8) (n : Nat) : (bys l).drop n = bys (l.drop n) := by simp [bys]
@[simp] theorem z3Wc (l : List UInt8) : (bys l).tail = bys l.tail := by cases l <;> rfl
@[simp] theorem z0ad (l : List UInt8) : z7r l = bys l := rfl
theorem z7ka {P : z2a → Prop} {l : List UInt8} (h : ∀ x, P (u8 x)) : ∀ c ∈ bys l, P c := fun c hc => by
 simp only [bys, List.mem_map] at hc
 obtain ⟨x, _, rfl⟩ := hc
 exact h x
theorem z8va {P : z2a → Prop} {l : List UInt32} (h : ∀ x, P (u32 x)) : ∀ c ∈ z1o l, P c := fun c hc => by
 simp only [z1o, List.mem_map] at hc
 obtain ⟨x, _, rfl⟩ := hc
 exact h x
@[simp] theorem z6Uc (l : List UInt8) : (∀ c ∈ bys l, z1d c) ↔ True := iff_true_intro (z7ka (by simp))
@[simp] theorem z12c (l : List UInt8) : (∀ c ∈ bys l, z3g c = false) ↔ True := iff_true_intro (z7ka (by simp))
@[simp] theorem z7Rc (l : List UInt8) : (∀ c ∈ bys l, z8e c = true) ↔ True := iff_true_intro (z7ka (by simp))
@[simp] theorem z0Ib (l : List UInt8) : (∀ c ∈ bys l, z8e c = true ∧ z1d c) ↔ True := iff_true_intro (z7ka (by simp))
@[simp] theorem z3Rb (l : List UInt8) : (∀ c ∈ bys l, z1d c ∧ z3g c = false) ↔ True := iff_true_intro (z7ka (by simp))
@[simp] theorem z8Rc (l : List UInt8) : (∀ c ∈ bys l, z1mc .u8 c) ↔ True := iff_true_intro (z7ka (by simp))
@[simp] theorem z8Ic (l : List UInt32) : (∀ c ∈ z1o l, z1d c) ↔ True := iff_true_intro (z8va (by simp))
@[simp] theorem z1Rc (l : List UInt32) : (∀ c ∈ z1o l, z3g c = false) ↔ True := iff_true_intro (z8va (by simp))
@[simp] theorem z9oc (l : List UInt32) : (∀ c ∈ z1o l, z8e c = true) ↔ True := iff_true_intro (z8va (by simp))
theorem z1na {l : List z2a} (h : ∀ c ∈ l, z8e c = true) : z5h l = true := (z8p l).2 h
@[simp] theorem z1Gc (l : List UInt8) : z5h (bys l) = true := z1na (z7ka (by simp))
@[simp] theorem z3hc (l : List UInt32) : z5h (z1o l) = true := z1na (z8va (by simp))
attribute [simp] z2sa
@[simp] theorem z9tb (l m : List z2a) : z0d (l ++ m) = (z0d l && z0d m) := by induction l <;> simp_all [z0d, Bool.and_assoc]
@[simp] theorem z0Sb (l : List UInt8) : z0d (bys l) = true := by induction l <;> simp_all [bys, z0d]
@[simp] theorem z2Bb (l : List UInt32) : z0d (z1o l) = true := by induction l <;> simp_all [z1o, z0d]
attribute [simp] z9ca
@[simp] theorem z1Hc (l : List UInt8) : z4k (bys l) = [] := by induction l <;> simp_all [bys, z4k]
@[simp] theorem z9dc (l : List UInt32) : z4k (z1o l) = [] := by induction l <;> simp_all [z1o, z4k]

@[simp] theorem z6dc (x y : UInt8) : z2J .sub (u8 x) (u8 y) = u8 (x - y) := z8la (by
 show IntKind.u8.wrap ((x.toNat : Int) - y.toNat) = _
 rw [UInt8.toNat_sub]
 have := x.toNat_lt
 have := y.toNat_lt
 unfold IntKind.wrap IntKind.bits IntKind.signed
 simp only [Bool.false_and, Bool.false_eq_true, if_false]
 omega)
@[simp] theorem z1ic (x y : UInt8) : z2J .quo (u8 x) (u8 y) = u8 (x / y) := z8la (by
 show IntKind.u8.wrap ((x.toNat : Int).tdiv y.toNat) = _
 rw [Int.tdiv_eq_ediv_of_nonneg (by omega), ← Int.natCast_ediv, z7xa, UInt8.toNat_div, Nat.mod_eq_of_lt]
 exact Nat.lt_of_le_of_lt (Nat.div_le_self _ _) x.toNat_lt)
@[simp] theorem z2hc (x y : UInt8) : z2J .rem (u8 x) (u8 y) = u8 (x % y) := z8la (by
 show ((x.toNat : Int).tmod y.toNat) = _
 rw [UInt8.toNat_mod]
 rfl)
@[simp] theorem z5Sb (x y : UInt8) : z3c .quo (u8 x) (u8 y) = (y ≠ 0) := by
 simp only [z3c, u8, true_and, ne_eq, Int.natCast_eq_zero, ← UInt8.toNat_inj]
 rfl
@[simp] theorem z4Ub (x y : UInt8) : z3c .rem (u8 x) (u8 y) = (y ≠ 0) := by
 simp only [z3c, u8, true_and, ne_eq, Int.natCast_eq_zero, ← UInt8.toNat_inj]
 rfl
@[simp] theorem z4fc (x y : UInt8) : z2J .lss (u8 x) (u8 y) = bo (decide (x < y)) := by
 show z2a.lit (.bool (decide ((x.toNat : Int) < y.toNat))) = .lit (.bool _)
 congr 2
 simp [UInt8.lt_iff_toNat_lt]
@[simp] theorem z8kc (x y : UInt8) : z2J .gtr (u8 x) (u8 y) = bo (decide (y < x)) := by
 show z2a.lit (.bool (decide ((x.toNat : Int) > y.toNat))) = .lit (.bool _)
 congr 2
 simp [UInt8.lt_iff_toNat_lt]
@[simp] theorem z08b (x y : UInt64) : z2J .neq (u64 x) (u64 y) = bo (x != y) := by
 show z2a.lit (.bool ((x.toNat : Int) != y.toNat)) = .lit (.bool _)
 congr 2
 rw [Bool.eq_iff_iff]
 simp only [beq_iff_eq, bne_iff_ne, ne_eq, ← UInt64.toNat_inj]
 omega
def z1Nb (x y : Int) : Int := W (BitVec.ofInt 64 x &&& BitVec.ofInt 64 y).toNat
@[simp] theorem z49b (x y : Int) : z2J .and (i64 x) (i64 y) = i64 (z1Nb x y) := rfl

theorem dT {p : Prop} [Decidable p] (h : p) : decide p = true := decide_eq_true h
theorem dF {p : Prop} [Decidable p] (h : ¬ p) : decide p = false := decide_eq_false h

/-! ### What values are -/
@[simp] theorem z4Dc : dem .undef = .undef := rfl
@[simp] theorem z9Zc (cs : List z2a) : dem (.agg cs) = .agg cs := rfl
@[simp] theorem z7ad (cs : List z2a) : dem (.tup cs) = .tup cs := rfl
@[simp] theorem z8Wc (e : Nat) (nl : Option Bool) (n : Nat) (cs rest : List z2a) : dem (.otup e nl n cs rest) = .tup (.sl .plain nl n cs :: rest) := rfl
@[simp] theorem z4ic (e : Nat) (nl : Option Bool) (n : Nat) (cs rest : List z2a) : z8e (.otup e nl n cs rest) = z5h rest := rfl
@[simp] theorem z8Tc (p : List z2a) (e : Nat) (nl : Option Bool) (n : Nat) (cs rest : List z2a) : dem (.oagg p e nl n cs rest) = .agg (p ++ .sl .plain nl n cs :: rest) := rfl
@[simp] theorem z1nc (p : List z2a) (e : Nat) (nl : Option Bool) (n : Nat) (cs rest : List z2a) : z8e (.oagg p e nl n cs rest) = (z5h p && z5h rest) := rfl
@[simp] theorem z7nc (p : List z2a) (e : Nat) (nl : Option Bool) (n : Nat) (cs rest : List z2a) : z1B (.oagg p e nl n cs rest) = z4k p ++ z4k rest := rfl
@[simp] theorem z5rc (e : Nat) (nl : Option Bool) (n : Nat) (cs rest : List z2a) : z1B (.otup e nl n cs rest) = z4k rest := rfl
@[simp] theorem dem_bp (i o : Nat) : dem (.bp i o) = .bp i o := rfl
@[simp] theorem dem_bv (i e o n c : Nat) : dem (.bv i e o n c) = .bv i e o n c := rfl
@[simp] theorem dem_ep (cs : List z2a) : dem (.ep cs) = .ep cs := rfl
@[simp] theorem dem_fn (f : Nat) (x y : List z2a) : dem (.fn f x y) = .fn f x y := rfl
@[simp] theorem z47c (v : Value) : dem (.lit v) = .lit v := rfl
@[simp] theorem z42c (e : Nat) (nl : Option Bool) (n : Nat) (cs : List z2a) : dem (.sl (.own e) nl n cs) = .sl .plain nl n cs := rfl
@[simp] theorem z6vc (nl : Option Bool) (n : Nat) (cs : List z2a) : dem (.sl .plain nl n cs) = .sl .plain nl n cs := rfl
@[simp] theorem z3Tc (nl : Option Bool) (n : Nat) (cs : List z2a) : dem (.sl .clip nl n cs) = .sl .clip nl n cs := rfl
@[simp] theorem z4ec (cs : List z2a) : z1d (.agg cs) = False := rfl
@[simp] theorem z7Ac (m : z7ja) (nl : Option Bool) (n : Nat) (cs : List z2a) : z1d (.sl m nl n cs) = True := rfl
@[simp] theorem z0rc (i o : Nat) : z1d (.bp i o) = True := rfl
@[simp] theorem z6nc (i e o n c : Nat) : z1d (.bv i e o n c) = True := rfl
@[simp] theorem z3uc (f : Nat) (x y : List z2a) : z1d (.fn f x y) = True := rfl
@[simp] theorem z0Ic (cs : List z2a) : z1d (.ep cs) = True := rfl
@[simp] theorem z7ec : z1d (.lit (.slice none 0 0)) = True := rfl
@[simp] theorem z3oc (cs : List z2a) : z8e (.agg cs) = z5h cs := rfl
@[simp] theorem z5xc (cs : List z2a) : z8e (.tup cs) = z5h cs := rfl
@[simp] theorem z0Rc (m : z7ja) (nl : Option Bool) (n : Nat) (cs : List z2a) : z8e (.sl m nl n cs) = true := by cases m <;> rfl
@[simp] theorem z6Wc (cs : List z2a) : z8e (.ep cs) = true := rfl
@[simp] theorem z2Rc (i o : Nat) : z8e (.bp i o) = false := rfl
@[simp] theorem z6Mc (i e o n c : Nat) : z8e (.bv i e o n c) = false := rfl
@[simp] theorem z6Lc (f : Nat) (x y : List z2a) : z8e (.fn f x y) = (z5h x && z5h y) := rfl
@[simp] theorem z7Cc : z8e (.lit (.slice none 0 0)) = true := rfl
@[simp] theorem z7Wb (cs : List z2a) : z1f (.agg cs) = z0d cs := rfl
@[simp] theorem z9Wb (cs : List z2a) : z1f (.tup cs) = z0d cs := rfl
@[simp] theorem z6Vb : z1f (.lit (.slice none 0 0)) = true := rfl
@[simp] theorem z8fc (m : z7ja) (nl : Option Bool) (n : Nat) (cs : List z2a) : z1f (.sl m nl n cs) = false := by cases m <;> rfl
@[simp] theorem z2Nc (cs : List z2a) : z1B (.agg cs) = z4k cs := rfl
@[simp] theorem z2Tc (cs : List z2a) : z1B (.tup cs) = z4k cs := rfl
@[simp] theorem z74c (m : z7ja) (nl : Option Bool) (n : Nat) (cs : List z2a) : z1B (.sl m nl n cs) = [] := by cases m <;> rfl
@[simp] theorem z9Yc (i o : Nat) : z1B (.bp i o) = [i] := rfl
@[simp] theorem z21c (i e o n c : Nat) : z1B (.bv i e o n c) = [i] := rfl
@[simp] theorem z67c (cs : List z2a) : z1B (.ep cs) = [] := rfl
@[simp] theorem z24c (f : Nat) (x y : List z2a) : z1B (.fn f x y) = z4k x ++ z4k y := rfl
@[simp] theorem z4mc : z1B .undef = [] := rfl
@[simp] theorem z5Kc (v : Value) : z1B (.lit v) = [] := rfl
@[simp] theorem z2ec (e : Nat) (nl : Option Bool) (n : Nat) (cs : List z2a) : z3g (.sl (.own e) nl n cs) = true := rfl
@[simp] theorem z6Ub (nl : Option Bool) (n : Nat) (cs : List z2a) : z3g (.sl .plain nl n cs) = false := rfl
@[simp] theorem z5Xb (nl : Option Bool) (n : Nat) (cs : List z2a) : z3g (.sl .clip nl n cs) = false := rfl
@[simp] theorem z4Ec (i o : Nat) : z3g (.bp i o) = false := rfl
@[simp] theorem z7Fc (i e o n c : Nat) : z3g (.bv i e o n c) = false := rfl
@[simp] theorem z1hc (cs : List z2a) : z8s (.agg cs) = cs := rfl
@[simp] theorem z3wc (m : z7ja) (nl : Option Bool) (n : Nat) (cs : List z2a) : z8s (.sl m nl n cs) = [.sl m nl n cs] := rfl
@[simp] theorem z7jc : z8s (.lit (.slice none 0 0)) = [.lit (.slice none 0 0)] := rfl
@[simp] theorem z3Gc (i o : Nat) : z8s (.bp i o) = [.bp i o] := rfl
@[simp] theorem z2tc (f : Nat) (x y : List z2a) : z8s (.fn f x y) = [.fn f x y] := rfl
@[simp] theorem z5Zc (m : z7ja) (nl : Option Bool) (n : Nat) (cs : List z2a) : z3w (.sl m nl n cs) = n := rfl
@[simp] theorem z31c (i e o n c : Nat) : z3w (.bv i e o n c) = n := rfl
@[simp] theorem z3Oc : z3w (.lit (.slice none 0 0)) = 0 := rfl
@[simp] theorem z9Ac (bx : List z2a) (m : z7ja) (nl : Option Bool) (n : Nat) (cs : List z2a) : z3h bx (.sl m nl n cs) = cs := rfl
@[simp] theorem z6pc (bx : List z2a) (i e o n c : Nat) : z3h bx (.bv i e o n c) = (bx.drop o).take (n * e) := rfl
@[simp] theorem z6hc (bx : List z2a) : z3h bx (.lit (.slice none 0 0)) = [] := rfl
@[simp] theorem z8Yc (m : z7ja) (nl : Option Bool) (n : Nat) (cs : List z2a) : z5jc (.sl m nl n cs) = True := rfl
@[simp] theorem z6Zc (i e o n c : Nat) : z5jc (.bv i e o n c) = True := rfl
@[simp] theorem z7Pc : z5jc (.lit (.slice none 0 0)) = True := rfl
@[simp] theorem okS_sl (esz : Nat) (b : Option Nat) (bx : Option (List z2a)) (m : z7ja) (nl : Option Bool) (n : Nat) (cs : List z2a) : okS esz b bx (.sl m nl n cs) = (cs.length = n * esz) := rfl
@[simp] theorem okS_bv (esz : Nat) (b : Option Nat) (bx : Option (List z2a)) (i e o n c : Nat) : okS esz b bx (.bv i e o n c) = (b = some i ∧ e = esz ∧ (∃ cs, bx = some cs ∧ o + n * e ≤ cs.length)) := rfl
@[simp] theorem z14c (esz : Nat) (b : Option Nat) (bx : Option (List z2a)) : okS esz b bx (.lit (.slice none 0 0)) = True := rfl
@[simp] theorem z7Tc (f : Nat → Option (List z2a)) (b : Option Nat) (n i o : Nat) : z0Da f b n (.bp i o) = (b = some i ∧ ∃ cs, f i = some cs ∧ o + n ≤ cs.length) := rfl
@[simp] theorem z3Vc (f : Nat → Option (List z2a)) (b : Option Nat) (n : Nat) (cs : List z2a) : z0Da f b n (.ep cs) = (b = none ∧ n ≤ cs.length) := rfl
@[simp] theorem z63b (f : Nat → Option (List z2a)) (b : Option Nat) (i o : Nat) : z2t f b (.bp i o) = (bxl f b).drop o := rfl
@[simp] theorem z83b (f : Nat → Option (List z2a)) (b : Option Nat) (cs : List z2a) : z2t f b (.ep cs) = cs := rfl
@[simp] theorem z98b (v : z2a) : z12 none v = [dem v] := rfl
@[simp] theorem z92b (n : Nat) (v : z2a) : z12 (some n) v = z8s v := rfl
@[simp] theorem z8Oc (v : z2a) : isK none v = z1d v := rfl
@[simp] theorem z8Mc (n : Nat) (cs : List z2a) : isK (some n) (.agg cs) = (cs.length = n ∧ (∀ c ∈ cs, z1d c) ∧ (∀ c ∈ cs, z3g c = false)) := rfl
@[simp] theorem z9Gc (f : Nat) (x y as : List z2a) : z2N (.fn f x y) as = x ++ as ++ y := rfl
@[simp] theorem z7vc (f : Nat → List z2a) (x : UInt8) : z2z f (u8 x) = u8 x := rfl
@[simp] theorem z8Pc (f : Nat → List z2a) (x : UInt8) : z5X f (u8 x) = u8 x := rfl
@[simp] theorem z5yc (f : Nat → List z2a) (x : UInt32) : z5X f (u32 x) = u32 x := rfl
@[simp] theorem z4Cc (f : Nat → List z2a) (x : UInt64) : z5X f (u64 x) = u64 x := rfl
@[simp] theorem z9Bc (f : Nat → List z2a) (x : Int) : z5X f (i64 x) = i64 x := rfl
@[simp] theorem z8Vc (f : Nat → List z2a) (x : Bool) : z5X f (bo x) = bo x := rfl
@[simp] theorem z1Lc (f : Nat → List z2a) (x : List UInt8) : z5X f (st x) = st x := rfl
@[simp] theorem z9rc (f : Nat → List z2a) (x : List z2a) : z5X f (.agg x) = .agg x := rfl
@[simp] theorem z8yc (f : Nat → List z2a) : z5X f (.lit (.slice none 0 0)) = .sl .plain (some true) 0 [] := rfl
@[simp] theorem z0qc (f : Nat → List z2a) (e : Nat) (nl : Option Bool) (n : Nat) (cs : List z2a) : z5X f (.sl (.own e) nl n cs) = .sl .plain nl n cs := rfl
@[simp] theorem z76b (f : Nat → List z2a) (nl : Option Bool) (n : Nat) (cs : List z2a) : z5X f (.sl .plain nl n cs) = .sl .plain nl n cs := rfl
@[simp] theorem z0ic (f : Nat → List z2a) (nl : Option Bool) (n : Nat) (cs : List z2a) : z5X f (.sl .clip nl n cs) = .sl .plain nl n cs := rfl
@[simp] theorem z1Vc (f : Nat → List z2a) (i o : Nat) : z5X f (.bp i o) = .ep ((f i).drop o) := rfl
@[simp] theorem z5Sc (f : Nat → List z2a) (i e o n c : Nat) : z5X f (.bv i e o n c) = .sl .plain (some false) n (((f i).drop o).take (n * e)) := rfl
@[simp] theorem z9Pc (f : Nat → List z2a) (cs : List z2a) : z5X f (.ep cs) = .ep cs := rfl
@[simp] theorem z5Tc (f : Nat → List z2a) (g : Nat) (x y : List z2a) : z5X f (.fn g x y) = .fn g (x.map (z2z f)) (y.map (z2z f)) := rfl
@[simp] theorem z3Nc (bs : List Nat) (f : Nat → Option (List z2a)) (x : UInt8) : z0A bs f (u8 x) = True := by simp [z0A, z7q, u8, z8e]
@[simp] theorem z0Dc (bs : List Nat) (f : Nat → Option (List z2a)) (x : UInt32) : z0A bs f (u32 x) = True := by simp [z0A, z7q, u32, z8e]
@[simp] theorem z4Gc (bs : List Nat) (f : Nat → Option (List z2a)) (x : UInt64) : z0A bs f (u64 x) = True := by simp [z0A, z7q, u64, z8e]
@[simp] theorem z2qc (bs : List Nat) (f : Nat → Option (List z2a)) (x : Int) : z0A bs f (i64 x) = True := by simp [z0A, z7q, i64, z8e]
@[simp] theorem z2Pc (bs : List Nat) (f : Nat → Option (List z2a)) (x : Bool) : z0A bs f (bo x) = True := by simp [z0A, z7q, bo, z8e]
@[simp] theorem z5Vc (bs : List Nat) (f : Nat → Option (List z2a)) (x : List UInt8) : z0A bs f (st x) = True := by simp [z0A, z7q, st, z8e]
@[simp] theorem z0Ec (bs : List Nat) (f : Nat → Option (List z2a)) (x : List z2a) : z0A bs f (.agg x) = (z5h x = true) := rfl
@[simp] theorem z1Uc (bs : List Nat) (f : Nat → Option (List z2a)) (m : z7ja) (nl : Option Bool) (n : Nat) (cs : List z2a) : z0A bs f (.sl m nl n cs) = True := by simp [z0A, z7q]
@[simp] theorem z1uc (bs : List Nat) (f : Nat → Option (List z2a)) : z0A bs f (.lit (.slice none 0 0)) = True := by simp [z0A, z7q]
@[simp] theorem z2Vc (bs : List Nat) (f : Nat → Option (List z2a)) (i o : Nat) : z0A bs f (.bp i o) = (i ∈ bs ∧ ∃ cs, f i = some cs ∧ o ≤ cs.length) := rfl
@[simp] theorem z9Kc (bs : List Nat) (f : Nat → Option (List z2a)) (i e o n c : Nat) : z0A bs f (.bv i e o n c) = (i ∈ bs ∧ ∃ cs, f i = some cs ∧ o + n * e ≤ cs.length) := rfl
@[simp] theorem z7Qc (bs : List Nat) (f : Nat → Option (List z2a)) (cs : List z2a) : z0A bs f (.ep cs) = True := by simp [z0A, z7q]

/-! ### Whether operations may go ahead -/
@[simp] theorem z44b (x : UInt32) (n : Int) : z3c .shr (u32 x) (i64 n) = (0 ≤ n) := rfl
@[simp] theorem z9ac (x : UInt32) (n : Int) : z3c .shl (u32 x) (i64 n) = (0 ≤ n) := rfl
@[simp] theorem z5Vb (x : UInt64) (n : Int) : z3c .shr (u64 x) (i64 n) = (0 ≤ n) := rfl
@[simp] theorem z0Xb (x : UInt64) (n : Int) : z3c .shl (u64 x) (i64 n) = (0 ≤ n) := rfl
@[simp] theorem z2Sb (x : UInt32) (n : UInt64) : z3c .shr (u32 x) (u64 n) = True := by simp [z3c, u32, u64]
@[simp] theorem z8Sb (x : UInt32) (n : UInt64) : z3c .shl (u32 x) (u64 n) = True := by simp [z3c, u32, u64]
@[simp] theorem z6Ob (x : UInt64) (n : UInt64) : z3c .shr (u64 x) (u64 n) = True := by simp [z3c, u64]
@[simp] theorem z9Tb (x : UInt64) (n : UInt64) : z3c .shl (u64 x) (u64 n) = True := by simp [z3c, u64]
@[simp] theorem z2Ic (x y : Int) : z3c .quo (i64 x) (i64 y) = (y ≠ 0) := by simp [z3c, i64]
@[simp] theorem z4nc (x y : Int) : z3c .rem (i64 x) (i64 y) = (y ≠ 0) := by simp [z3c, i64]
@[simp] theorem z64b (x y : UInt64) : z3c .rem (u64 x) (u64 y) = (y ≠ 0) := by
 simp only [z3c, u64, true_and, ne_eq, Int.natCast_eq_zero, ← UInt64.toNat_inj]
 rfl
@[simp] theorem z5Tb (x y : UInt8) : z3c .add (u8 x) (u8 y) = True := by simp [z3c, u8]
@[simp] theorem z8Gb (x y : UInt32) : z3c .add (u32 x) (u32 y) = True := by simp [z3c, u32]
@[simp] theorem z0Hb (x y : UInt64) : z3c .add (u64 x) (u64 y) = True := by simp [z3c, u64]
@[simp] theorem z2Lb (x y : Int) : z3c .add (i64 x) (i64 y) = True := by simp [z3c, i64]
@[simp] theorem z4Ob (x y : UInt8) : z3c .sub (u8 x) (u8 y) = True := by simp [z3c, u8]
@[simp] theorem z3Eb (x y : UInt32) : z3c .sub (u32 x) (u32 y) = True := by simp [z3c, u32]
@[simp] theorem z6wb (x y : UInt64) : z3c .sub (u64 x) (u64 y) = True := by simp [z3c, u64]
@[simp] theorem z1Eb (x y : Int) : z3c .sub (i64 x) (i64 y) = True := by simp [z3c, i64]
@[simp] theorem z5Nb (x y : UInt8) : z3c .mul (u8 x) (u8 y) = True := by simp [z3c, u8]
@[simp] theorem z5Ab (x y : UInt32) : z3c .mul (u32 x) (u32 y) = True := by simp [z3c, u32]
@[simp] theorem z9zb (x y : UInt64) : z3c .mul (u64 x) (u64 y) = True := by simp [z3c, u64]
@[simp] theorem z3wb (x y : Int) : z3c .mul (i64 x) (i64 y) = True := by simp [z3c, i64]
@[simp] theorem z9Nb (x y : UInt8) : z3c .and (u8 x) (u8 y) = True := by simp [z3c, u8]
@[simp] theorem z4Fb (x y : UInt32) : z3c .and (u32 x) (u32 y) = True := by simp [z3c, u32]
@[simp] theorem z8Eb (x y : UInt64) : z3c .and (u64 x) (u64 y) = True := by simp [z3c, u64]
@[simp] theorem z5Db (x y : Int) : z3c .and (i64 x) (i64 y) = True := by simp [z3c, i64]
@[simp] theorem z7ac (x y : UInt8) : z3c .or (u8 x) (u8 y) = True := by simp [z3c, u8]
@[simp] theorem z1Ob (x y : UInt32) : z3c .or (u32 x) (u32 y) = True := by simp [z3c, u32]
@[simp] theorem z3Pb (x y : UInt64) : z3c .or (u64 x) (u64 y) = True := by simp [z3c, u64]
@[simp] theorem z7Qb (x y : Int) : z3c .or (i64 x) (i64 y) = True := by simp [z3c, i64]
@[simp] theorem z4Pb (x y : UInt8) : z3c .xor (u8 x) (u8 y) = True := by simp [z3c, u8]
@[simp] theorem z4Gb (x y : UInt32) : z3c .xor (u32 x) (u32 y) = True := by simp [z3c, u32]
@[simp] theorem z6xb (x y : UInt64) : z3c .xor (u64 x) (u64 y) = True := by simp [z3c, u64]
@[simp] theorem z8vb (x y : Int) : z3c .xor (i64 x) (i64 y) = True := by simp [z3c, i64]
@[simp] theorem z7Pb (x y : UInt8) : z3c .eql (u8 x) (u8 y) = True := by simp [z3c, u8]
@[simp] theorem z6Fb (x y : UInt32) : z3c .eql (u32 x) (u32 y) = True := by simp [z3c, u32]
@[simp] theorem z0Bb (x y : UInt64) : z3c .eql (u64 x) (u64 y) = True := by simp [z3c, u64]
@[simp] theorem z0Db (x y : Int) : z3c .eql (i64 x) (i64 y) = True := by simp [z3c, i64]
@[simp] theorem z9Qb (x y : UInt8) : z3c .neq (u8 x) (u8 y) = True := by simp [z3c, u8]
@[simp] theorem z0Ab (x y : UInt32) : z3c .neq (u32 x) (u32 y) = True := by simp [z3c, u32]
@[simp] theorem z5yb (x y : UInt64) : z3c .neq (u64 x) (u64 y) = True := by simp [z3c, u64]
@[simp] theorem z4Kb (x y : Int) : z3c .neq (i64 x) (i64 y) = True := by simp [z3c, i64]
@[simp] theorem z7Rb (x y : UInt8) : z3c .lss (u8 x) (u8 y) = True := by simp [z3c, u8]
@[simp] theorem z1Db (x y : UInt32) : z3c .lss (u32 x) (u32 y) = True := by simp [z3c, u32]
@[simp] theorem z5Ib (x y : UInt64) : z3c .lss (u64 x) (u64 y) = True := by simp [z3c, u64]
@[simp] theorem z0Mb (x y : Int) : z3c .lss (i64 x) (i64 y) = True := by simp [z3c, i64]
@[simp] theorem z7Ob (x y : UInt8) : z3c .leq (u8 x) (u8 y) = True := by simp [z3c, u8]
@[simp] theorem z3xb (x y : UInt32) : z3c .leq (u32 x) (u32 y) = True := by simp [z3c, u32]
@[simp] theorem z6yb (x y : UInt64) : z3c .leq (u64 x) (u64 y) = True := by simp [z3c, u64]
@[simp] theorem z3Gb (x y : Int) : z3c .leq (i64 x) (i64 y) = True := by simp [z3c, i64]
@[simp] theorem z1Pb (x y : UInt8) : z3c .gtr (u8 x) (u8 y) = True := by simp [z3c, u8]
@[simp] theorem z6Ab (x y : UInt32) : z3c .gtr (u32 x) (u32 y) = True := by simp [z3c, u32]
@[simp] theorem z9xb (x y : UInt64) : z3c .gtr (u64 x) (u64 y) = True := by simp [z3c, u64]
@[simp] theorem z3yb (x y : Int) : z3c .gtr (i64 x) (i64 y) = True := by simp [z3c, i64]
@[simp] theorem z3Tb (x y : UInt8) : z3c .geq (u8 x) (u8 y) = True := by simp [z3c, u8]
@[simp] theorem z0vb (x y : UInt32) : z3c .geq (u32 x) (u32 y) = True := by simp [z3c, u32]
@[simp] theorem z2zb (x y : UInt64) : z3c .geq (u64 x) (u64 y) = True := by simp [z3c, u64]
@[simp] theorem z2Jb (x y : Int) : z3c .geq (i64 x) (i64 y) = True := by simp [z3c, i64]
@[simp] theorem z2Ub (x y : List UInt8) : z3c .eql (st x) (st y) = True := rfl
@[simp] theorem z8Tb (x y : List UInt8) : z3c .neq (st x) (st y) = True := rfl
@[simp] theorem z9Rb (x y : List UInt8) : z3c .lss (st x) (st y) = True := rfl
@[simp] theorem z4Rb (x y : List UInt8) : z3c .leq (st x) (st y) = True := rfl
@[simp] theorem z2Tb (x y : List UInt8) : z3c .gtr (st x) (st y) = True := rfl
@[simp] theorem z7Ub (x y : List UInt8) : z3c .geq (st x) (st y) = True := rfl
@[simp] theorem z3Ob (x y : List UInt8) : z3c .add (st x) (st y) = (((x.length + y.length : Nat) : Int) ≤ 9223372036854775807) := rfl
@[simp] theorem z8gc (x y : List UInt8) : z2J .add (st x) (st y) = st (x ++ y) := by
 show z2a.lit (.string (ByteArray.mk x.toArray ++ ByteArray.mk y.toArray)) = _
 rw [st]
 congr 2
@[simp] theorem z6fc (x y : List UInt8) : z2J .eql (st x) (st y) = bo (decide (x = y)) := by
 show z2a.lit (.bool ((ByteArray.mk x.toArray).toList == (ByteArray.mk y.toArray).toList)) = _
 rw [bo, ByteArray.toList_eq, ByteArray.toList_eq]
 congr 2
 rw [Bool.eq_iff_iff]
 simp
@[simp] theorem z5ic (x y : List UInt8) : z2J .neq (st x) (st y) = bo (!decide (x = y)) := by
 show z2a.lit (.bool (!((ByteArray.mk x.toArray).toList == (ByteArray.mk y.toArray).toList))) = _
 rw [bo, ByteArray.toList_eq, ByteArray.toList_eq]
 congr 2
 rw [Bool.eq_iff_iff]
 simp
@[simp] theorem z9Vc (x : Int) : z7Jb .neg (i64 x) = True := rfl
@[simp] theorem z0Xc (x : Bool) : z7Jb .not (bo x) = True := rfl
@[simp] theorem z7fc (x : UInt32) : z7Jb .xor (u32 x) = True := rfl
@[simp] theorem z0gc (x : UInt64) : z7Jb .xor (u64 x) = True := rfl

attribute [simp] lk ASt.get ASt.getB z9A z6wa z5Wa arg bxc bxl bnd z9S z8b.W AOp.wrS z6Q z9C z4k z8ta z18 z5h z0d
attribute [simp] z9ab z2fb z8dc z2Ha z4vb
def z8jc (wr : List Nat) : Nat → List z2a → List (Nat × z2a)
 | _, [] => []
 | i, d :: ds => if wr.contains i then z8jc wr (i + 1) ds else (i, d) :: z8jc wr (i + 1) ds
def z0hc (wr : List Nat) : Nat → List z2a → List (Nat × z2a)
 | _, [] => []
 | i, d :: ds => if wr.contains i then (i, dem d) :: z0hc wr (i + 1) ds else z0hc wr (i + 1) ds
theorem z6pb (wr : List Nat) : ∀ (ds : List z2a) (i : Nat), z8jc wr i ds = (z7z i ds).filter fun p => !wr.contains p.1
 | [], i => rfl
 | d :: ds, i => by
  rw [z8jc, z7z, List.filter_cons, z6pb wr ds]
  show (if wr.contains i = true then _ else _) = if (!wr.contains i) = true then _ else _
  cases wr.contains i <;> rfl
theorem z6rb (wr : List Nat) : ∀ (ds : List z2a) (i : Nat), z0hc wr i ds = ((z7z i ds).filter fun p => wr.contains p.1).map fun p => (p.1, dem p.2)
 | [], i => rfl
 | d :: ds, i => by
  rw [z0hc, z7z, List.filter_cons, z6rb wr ds]
  show (if wr.contains i = true then _ else _) = List.map _ (if wr.contains i = true then _ else _)
  cases wr.contains i <;> rfl
@[simp] theorem z3Cc (wr : List Nat) (ds : List z2a) : z6c wr ds = ⟨z8jc wr 0 ds, z0hc wr 0 ds, []⟩ := by rw [z6pb, z6rb]; rfl
attribute [simp] z8jc z0hc

@[simp] theorem z3Rc (E : Env) (Q : z8q → ASt → Prop) (s : ASt) : awp E .skip Q s = Q .normal s := rfl
def z0kc (Q : z8q → ASt → Prop) : List z7M → ASt → Prop
 | [], st => Q .normal st
 | g :: gs, st => z9A g st ∧ z0kc Q gs (z1c g st)
def z7Wa (E : Env) (keep : List Nat) (gs : List z7M) (Q : z8q → ASt → Prop) : List z8b → ASt → Prop
 | [], st => z0kc Q gs (z6da keep st)
 | o :: os, st => okA E o st ∧ z7Wa E keep gs Q os (z4g E o st)
theorem z0rb (Q : z8q → ASt → Prop) : ∀ (gs : List z7M) (st : ASt), z0kc Q gs st = (z9ub gs st ∧ Q .normal (z4Da gs st))
 | [], st => by simp [z0kc, z9ub, z4Da]
 | g :: gs, st => by simp only [z0kc, z9ub, z4Da, z0rb Q gs]; exact propext and_assoc.symm
theorem z6Ja (E : Env) (keep : List Nat) (gs : List z7M) (Q : z8q → ASt → Prop) : ∀ (xs : List z8b) (st : ASt), z7Wa E keep gs Q xs st = (z66 E xs st ∧ z9ub gs (z6da keep (z3sa E xs st)) ∧ Q .normal (z4Da gs (z6da keep (z3sa E xs st))))
 | [], st => by simp only [z7Wa, z66, z3sa, true_and]; exact z0rb Q gs _
 | o :: os, st => by simp only [z7Wa, z66, z3sa, z6Ja E keep gs Q os]; exact propext and_assoc.symm
@[simp] theorem z2r (E : Env) (keep : List Nat) (gs : List z7M) (xs : List z8b) (Q : z8q → ASt → Prop) (s : ASt) :
  awp E (.region keep gs xs) Q s = z7Wa E keep gs Q xs s := (z6Ja E keep gs Q xs s).symm
def z0sc (o e : List (Nat × z2a)) (b : List (Nat × Option (List z2a))) (d : Nat) (x : Eff) : ASt := ⟨o, (d, x.val) :: (x.sl ++ e), x.bx ++ b⟩
def put0 (o e : List (Nat × z2a)) (b : List (Nat × Option (List z2a))) (x : Eff) : ASt := ⟨o, x.sl ++ e, x.bx ++ b⟩
def z44a (o e : List (Nat × z2a)) (b : List (Nat × Option (List z2a))) (d : Nat) (t : Bool) (x : Eff) : ASt := if t then z0sc o e b d x else ⟨o, (d, z4ca) :: e, b⟩
@[simp] theorem z02c (o e : List (Nat × z2a)) (b : List (Nat × Option (List z2a))) (d : Nat) (v : z2a) (sl : List (Nat × z2a)) (bx : List (Nat × Option (List z2a))) : z0sc o e b d ⟨v, sl, bx⟩ = ⟨o, (d, v) :: (sl ++ e), bx ++ b⟩ := rfl
@[simp] theorem z5Yc (o e : List (Nat × z2a)) (b : List (Nat × Option (List z2a))) (v : z2a) (sl : List (Nat × z2a)) (bx : List (Nat × Option (List z2a))) : put0 o e b ⟨v, sl, bx⟩ = ⟨o, sl ++ e, bx ++ b⟩ := rfl
@[simp] theorem z8Kc (o e : List (Nat × z2a)) (b : List (Nat × Option (List z2a))) (d : Nat) (x : Eff) : z44a o e b d true x = z0sc o e b d x := rfl
@[simp] theorem z8Lc (o e : List (Nat × z2a)) (b : List (Nat × Option (List z2a))) (d : Nat) (x : Eff) : z44a o e b d false x = ⟨o, (d, z4ca) :: e, b⟩ := rfl
@[simp] theorem z6oc (E : Env) (d : Nat) (op : AOp) (o e : List (Nat × z2a)) (b : List (Nat × Option (List z2a))) :
  z4g E ⟨some d, none, op⟩ ⟨o, e, b⟩ = z0sc o e b d (eff E (ASt.get ⟨o, e, b⟩) (ASt.getB ⟨o, e, b⟩) op) := rfl
@[simp] theorem z5Hc (E : Env) (op : AOp) (o e : List (Nat × z2a)) (b : List (Nat × Option (List z2a))) :
  z4g E ⟨none, none, op⟩ ⟨o, e, b⟩ = put0 o e b (eff E (ASt.get ⟨o, e, b⟩) (ASt.getB ⟨o, e, b⟩) op) := rfl
@[simp] theorem z2gc (E : Env) (d s : Nat) (w : Bool) (op : AOp) (o e : List (Nat × z2a)) (b : List (Nat × Option (List z2a))) :
  z4g E ⟨some d, some (s, w), op⟩ ⟨o, e, b⟩ = z44a o e b d (z91a (ASt.get ⟨o, e, b⟩ s) w) (eff E (ASt.get ⟨o, e, b⟩) (ASt.getB ⟨o, e, b⟩) op) := by
 simp only [z4g, z44a, z0sc]
 generalize z91a (ASt.get ⟨o, e, b⟩ s) w = t
 cases t <;> simp
@[simp] theorem z01b (x w : Bool) : z91a (bo x) w = (x == w) := rfl
@[simp] theorem z2pc (w : Bool) : z91a z4ca w = false := rfl
@[simp] theorem okG_bo (x : Bool) : okG (bo x) = True := eq_true (.inl trivial)
@[simp] theorem z6Pc : okG z4ca = True := eq_true (.inr rfl)
@[simp] theorem z6Kc : dem z4ca = z4ca := rfl
@[simp] theorem z2Hc : z1B z4ca = [] := rfl
attribute [simp] z0kc z7Wa
def z0Na (f : Nat → z2a) : List Nat → List (Nat × z2a)
 | [] => []
 | s :: l => (s, f s) :: z0Na f l
def z2nb (f : Nat → Option (List z2a)) : List Nat → List (Nat × Option (List z2a))
 | [] => []
 | s :: l => (s, f s) :: z2nb f l
def z12a (ids : List Nat) : List (Nat × Option (List z2a)) → List (Nat × Option (List z2a))
 | [] => []
 | p :: l => if ids.contains p.1 then z12a ids l else p :: z12a ids l
theorem z77a (f : Nat → z2a) : ∀ l, z0Na f l = l.map fun s => (s, f s)
 | [] => rfl
 | s :: l => by rw [z0Na, z77a f l]; rfl
theorem z88a (f : Nat → Option (List z2a)) : ∀ l, z2nb f l = l.map fun s => (s, f s)
 | [] => rfl
 | s :: l => by rw [z2nb, z88a f l]; rfl
theorem z9Ka (ids : List Nat) : ∀ l, z12a ids l = l.filter fun p => !ids.contains p.1
 | [] => rfl
 | p :: l => by
  rw [z12a, z9Ka ids l, List.filter_cons]
  cases ids.contains p.1 <;> rfl
attribute [simp] z0Na z2nb z12a
@[simp] theorem z1Ab (keep : List Nat) (o e : List (Nat × z2a)) (b : List (Nat × Option (List z2a))) : z6da keep ⟨o, e, b⟩ = ⟨o, z0Na (ASt.get ⟨o, e, b⟩) keep, b⟩ := by rw [z77a]; rfl
@[simp] theorem z16c (ids : List Nat) (o e : List (Nat × z2a)) (b : List (Nat × Option (List z2a))) : z1c (.norm ids) ⟨o, e, b⟩ = ⟨o, e, z2nb (ASt.getB ⟨o, e, b⟩) ids⟩ := by rw [z88a]; rfl
@[simp] theorem z1Zc (ids : List Nat) (o e : List (Nat × z2a)) (b : List (Nat × Option (List z2a))) : z1c (.drop ids) ⟨o, e, b⟩ = ⟨o, e, z12a ids b⟩ := by rw [z9Ka]; rfl
def z6bb (s : Nat) : List (Nat × z2a) → List (Nat × z2a)
 | [] => []
 | (k, v) :: l => if k = s then z6bb s l else (k, v) :: z6bb s l
theorem z38a (s : Nat) : ∀ l, z6bb s l = l.filter fun p => decide (p.1 ≠ s)
 | [] => rfl
 | (k, v) :: l => by
  rw [z6bb, z38a s l, List.filter_cons]
  by_cases h : k = s <;> simp [h]
attribute [simp] z6bb
@[simp] theorem z3Kc (s : Nat) (o e : List (Nat × z2a)) (b : List (Nat × Option (List z2a))) : z1c (.unorg s) ⟨o, e, b⟩ = ⟨z6bb s o, (s, ASt.get ⟨o, e, b⟩ s) :: e, b⟩ := by rw [z38a]; rfl
def z5Yb (b i : Nat) (x : Option (List z2a)) (box : List (Nat × Option (List z2a))) : List (Nat × Option (List z2a)) := match x with | some bs => (b, some (bs.set i .undef)) :: box | none => box
@[simp] theorem z7mc (b i : Nat) (bs : List z2a) (box : List (Nat × Option (List z2a))) : z5Yb b i (some bs) box = (b, some (bs.set i .undef)) :: box := rfl
@[simp] theorem z0Tc (b i : Nat) (o e : List (Nat × z2a)) (box : List (Nat × Option (List z2a))) : z1c (.hideB b i) ⟨o, e, box⟩ = ⟨o, e, z5Yb b i (ASt.getB ⟨o, e, box⟩ b) box⟩ := by
 simp only [z1c, z5Yb]
 split <;> simp_all
def reL (b i : Nat) (r : Option Nat) (x : Option (List z2a)) (box : List (Nat × Option (List z2a))) : List (Nat × Option (List z2a)) := match x with | some bs => (b, some (bs.set i (z6ca r (bs.getD i .undef)))) :: box | none => box
@[simp] theorem z2Mc (b i : Nat) (r : Option Nat) (bs : List z2a) (box : List (Nat × Option (List z2a))) : reL b i r (some bs) box = (b, some (bs.set i (z6ca r (bs.getD i .undef)))) :: box := rfl
@[simp] theorem reB_mk (b i : Nat) (r : Option Nat) (o e : List (Nat × z2a)) (box : List (Nat × Option (List z2a))) : z1c (.reB b i r) ⟨o, e, box⟩ = ⟨o, e, reL b i r (ASt.getB ⟨o, e, box⟩ b) box⟩ := by
 simp only [z1c, reL]
 split <;> simp_all
@[simp] theorem z39b (c : z2a) : z6ca none c = dem c := rfl
@[simp] theorem z7lc (e : Nat) : z6ca (some e) (.sl .plain (some true) 0 []) = .sl (.own e) none 0 [] := rfl
@[simp] theorem z32c (keep : List Nat) (o e : List (Nat × z2a)) (b : List (Nat × Option (List z2a))) : z1c (.keep keep) ⟨o, e, b⟩ = ⟨o, z0Na (ASt.get ⟨o, e, b⟩) keep, b⟩ := z1Ab keep o e b
@[simp] theorem z0Jc (ids : List Nat) (o e : List (Nat × z2a)) (b : List (Nat × Option (List z2a))) : z1c (.freeze ids) ⟨o, e, b⟩ =
  ⟨o, e.map fun p => (p.1, z8ta ids (fun id => (ASt.getB ⟨o, e, b⟩ id).getD []) p.2), (z12a ids b).map fun p => (p.1, p.2.map (z18 ids fun id => (ASt.getB ⟨o, e, b⟩ id).getD []))⟩ := by rw [z9Ka]; rfl
@[simp] theorem z8y (E : Env) (a b : z5a) (Q : z8q → ASt → Prop) (s : ASt) : awp E (.seq a b) Q s = awp E a (z6wa (awp E b Q) Q) s := rfl
theorem z5b (E : Env) (c : Arg) (a b : z5a) (Q : z8q → ASt → Prop) (s : ASt) :
  awp E (.cond c a b) Q s = (isB (arg E s.get c) ∧ (asB (arg E s.get c) = true → awp E a Q s) ∧ (asB (arg E s.get c) = false → awp E b Q s)) := rfl
@[simp] theorem z9tc (E : Env) (id : Nat) (b : z5a) (Q : z8q → ASt → Prop) (s : ASt) : awp E (.block id b) Q s = awp E b (z5Wa id Q) s := rfl
@[simp] theorem z6rc (E : Env) (b : z5a) (Q : z8q → ASt → Prop) (s : ASt) : awp E (.scope b) Q s = awp E b Q s := rfl
@[simp] theorem z4Lc (E : Env) (id : Nat) (Q : z8q → ASt → Prop) (s : ASt) : awp E (.exit id) Q s = Q (.exit id) s := rfl
@[simp] theorem z34c (E : Env) (Q : z8q → ASt → Prop) (s : ASt) : awp E .ret Q s = Q .ret s := rfl
@[simp] theorem z3rc (E : Env) (g : z7M) (c : z5a) (Q : z8q → ASt → Prop) (s : ASt) : awp E (.ghost g c) Q s = (z9A g s ∧ awp E c Q (z1c g s)) := rfl

attribute [simp] okA eff okp okp.okApp z5xa z3Qa

/-! ### Reading arguments -/
def nth (ds : List z2a) (i : Nat) : z2a := ds.getD i .undef
def gU8 (v : z2a) : UInt8 := UInt8.ofInt (asI v)
def z8Qb (v : z2a) : UInt32 := UInt32.ofInt (asI v)
def z38c (v : z2a) : UInt64 := UInt64.ofInt (asI v)
def gS (v : z2a) : List UInt8 := (asS v).data.toList
def gCs (v : z2a) : List z2a := match v with | .agg cs => cs | .sl _ _ _ cs => cs | .ep cs => cs | .tup cs => cs | _ => []
def gBs (l : List z2a) : List UInt8 := l.map gU8
def gWs (l : List z2a) : List UInt32 := l.map z8Qb
@[simp] theorem nth_0 (d : z2a) (ds : List z2a) : nth (d :: ds) 0 = d := rfl
@[simp] theorem nth_s (d : z2a) (ds : List z2a) (i : Nat) : nth (d :: ds) (i + 1) = nth ds i := rfl
@[simp] theorem z7Sb (x : UInt8) : gU8 (u8 x) = x := by
 apply UInt8.toNat_inj.1
 rw [gU8, z8sa, z7tb]
 have := x.toNat_lt
 omega
@[simp] theorem z67a (x : UInt32) : z8Qb (u32 x) = x := by
 apply UInt32.toNat_inj.1
 rw [z8Qb, z2rb, z2Zb]
 have := x.toNat_lt
 omega
@[simp] theorem z64a (x : UInt64) : z38c (u64 x) = x := by
 apply UInt64.toNat_inj.1
 rw [z38c, z0qa, z59b]
 have := x.toNat_lt
 omega
@[simp] theorem z7tc (l : List UInt8) : gS (st l) = l := rfl
@[simp] theorem z89c (l : List z2a) : gCs (.agg l) = l := rfl
@[simp] theorem z55c (l : List z2a) : gCs (.tup l) = l := rfl
@[simp] theorem gCs_ep (l : List z2a) : gCs (.ep l) = l := rfl
@[simp] theorem gCs_sl (m : z7ja) (nl : Option Bool) (n : Nat) (l : List z2a) : gCs (.sl m nl n l) = l := rfl
@[simp] theorem z61c : gCs (.lit (.slice none 0 0)) = [] := rfl
@[simp] theorem z0gb (l : List UInt8) : gBs (bys l) = l := by simp [gBs, bys, Function.comp_def]
@[simp] theorem z93a (l : List UInt32) : gWs (z1o l) = l := by simp [gWs, z1o, Function.comp_def]
@[simp] theorem z3Zc : gBs [] = [] := rfl

@[simp] theorem u8_inj (x y : UInt8) : (u8 x = u8 y) = (x = y) := propext ⟨fun h => by rw [← z7Sb x, h, z7Sb], fun h => by rw [h]⟩
@[simp] theorem z4ad (x y : UInt32) : (u32 x = u32 y) = (x = y) := propext ⟨fun h => by rw [← z67a x, h, z67a], fun h => by rw [h]⟩
@[simp] theorem z98c (x y : UInt64) : (u64 x = u64 y) = (x = y) := propext ⟨fun h => by rw [← z64a x, h, z64a], fun h => by rw [h]⟩
@[simp] theorem z3ad (x y : Int) : (i64 x = i64 y) = (x = y) := propext ⟨fun h => by rw [← z6nb x, h, z6nb], fun h => by rw [h]⟩
@[simp] theorem bo_inj (x y : Bool) : (bo x = bo y) = (x = y) := propext ⟨fun h => by rw [← z0Nb x, h, z0Nb], fun h => by rw [h]⟩
@[simp] theorem st_inj (x y : List UInt8) : (st x = st y) = (x = y) := propext ⟨fun h => by rw [← z7tc x, h, z7tc], fun h => by rw [h]⟩
@[simp] theorem z44c (x y : List UInt8) : (bys x = bys y) = (x = y) := propext ⟨fun h => by rw [← z0gb x, h, z0gb], fun h => by rw [h]⟩
@[simp] theorem z5Rc (x y : List UInt32) : (z1o x = z1o y) = (x = y) := propext ⟨fun h => by rw [← z93a x, h, z93a], fun h => by rw [h]⟩
theorem z0Aa (x : UInt32) (l : List UInt32) : z1o (x :: l) = u32 x :: z1o l := rfl

/-! ### Loops -/
theorem z3a {E : Env} {c : z5a} {Q : z8q → ASt → Prop} {st : ASt} (h : ∀ Q', Q' = Q → awp E c Q' st) : awp E c Q st := h Q rfl
theorem z3d {E : Env} {b : z5a} {Q : z8q → ASt → Prop} {st : ASt} {α : Type} (S : α → ASt) (μ : α → Nat) (inv : α → Prop) (a0 : α) (h0 : st = S a0) (hi : inv a0)
  (hr : ∀ a, inv a → awp E b (z6wa (fun st' => ∃ a', μ a' < μ a ∧ inv a' ∧ st' = S a') Q) (S a)) : awp E (.loop b) Q st := by
 refine ⟨fun m st => ∃ a, μ a = m ∧ inv a ∧ st = S a, ⟨μ a0, a0, rfl, hi, h0⟩, ?_⟩
 rintro m _ ⟨a, rfl, hia, rfl⟩
 have e : (z6wa (fun st' => ∃ a', μ a' < μ a ∧ inv a' ∧ st' = S a') Q) = (z6wa (fun st' => ∃ m', m' < μ a ∧ ∃ a', μ a' = m' ∧ inv a' ∧ st' = S a') Q) := by
  funext e st'
  cases e <;> simp only [z6wa]
  apply propext
  constructor
  ·rintro ⟨a', h1, h2, h3⟩; exact ⟨_, h1, a', rfl, h2, h3⟩
  ·rintro ⟨_, h1, a', rfl, h2, h3⟩; exact ⟨a', h1, h2, h3⟩
 rw [← e]
 exact hr a hia

/-! ### Splices -/
@[simp] theorem z0hb (a x : z2a) (l : List z2a) : splice (a :: l) 0 [x] = x :: l := by simp [splice]
@[simp] theorem z06b (a : z2a) (l : List z2a) (n : Nat) (xs : List z2a) : splice (a :: l) (n + 1) xs = a :: splice l n xs := by
 simp only [splice, List.take_succ_cons, List.cons_append, List.cons.injEq, true_and]
 congr 1
 rw [show n + 1 + xs.length = (n + xs.length) + 1 by omega, List.drop_succ_cons]
theorem z0f {l xs : List z2a} (h : xs.length = l.length) : splice l 0 xs = xs := by simp [splice, h]
theorem z98 {a b xs : List z2a} {n : Nat} (h : n + xs.length ≤ a.length) : splice (a ++ b) n xs = splice a n xs ++ b := by
 simp only [splice, List.append_assoc]
 rw [List.take_append_of_le_length (by omega), List.drop_append_of_le_length h]
theorem z2T {a b xs : List z2a} {n : Nat} (h : a.length ≤ n) : splice (a ++ b) n xs = a ++ splice b (n - a.length) xs := by
 simp only [splice]
 rw [List.take_append, List.take_of_length_le h, List.drop_append, List.drop_of_length_le (by omega)]
 simp only [List.append_assoc, List.nil_append]
 rw [show n + xs.length - a.length = n - a.length + xs.length by omega]
theorem z3ra {l : List UInt8} {n : Nat} {x : UInt8} (h : n < l.length) : splice (bys l) n [u8 x] = bys (l.set n x) := by
 simp only [splice, bys, ← List.map_take, ← List.map_drop, List.length_singleton]
 rw [List.set_eq_take_append_cons_drop, if_pos h]
 simp
theorem z2E {l : List UInt32} {n : Nat} {x : UInt32} (h : n < l.length) : splice (z1o l) n [u32 x] = z1o (l.set n x) := by
 simp only [splice, z1o, ← List.map_take, ← List.map_drop, List.length_singleton]
 rw [List.set_eq_take_append_cons_drop, if_pos h]
 simp
def at8 (l : List UInt8) (i : Nat) : UInt8 := l.getD i 0
def z0p (l : List UInt32) (i : Nat) : UInt32 := l.getD i 0
theorem z9Kb {l : List z2a} {n : Nat} : hdA (l.drop n) = l.getD n .undef := by
 rw [hdA, List.headD_eq_head?_getD, List.head?_drop]
 rfl
theorem z1zb {l : List UInt8} {n : Nat} (h : n < l.length) : (bys l).getD n .undef = u8 (at8 l n) := by
 simp [at8, bys, List.getD, List.getElem?_eq_getElem h]
theorem z8xa {l : List UInt32} {n : Nat} (h : n < l.length) : (z1o l).getD n .undef = u32 (z0p l n) := by
 simp [z0p, z1o, List.getD, List.getElem?_eq_getElem h]
theorem z4Ca {l : List UInt8} {n : Nat} (h : n < l.length) : hdA (bys (l.drop n)) = u8 (at8 l n) := by rw [← z95a, z9Kb, z1zb h]
theorem z4Xa {l : List UInt8} (h : 0 < l.length) : hdA (bys l) = u8 (at8 l 0) := by rw [← z4Ca h, List.drop_zero]
@[simp] theorem z7Hc (l : List UInt32) (n : Nat) : (z1o l).take n = z1o (l.take n) := by simp [z1o]
@[simp] theorem z6xa (l : List UInt32) (n : Nat) : (z1o l).drop n = z1o (l.drop n) := by simp [z1o]
theorem z9W {l : List UInt32} {n : Nat} (h : n < l.length) : hdA (z1o (l.drop n)) = u32 (z0p l n) := by rw [← z6xa, z9Kb, z8xa h]
theorem z6Eb {l : List UInt32} (h : 0 < l.length) : hdA (z1o l) = u32 (z0p l 0) := by rw [← z9W h, List.drop_zero]
@[simp] theorem z4Tb (l : List UInt32) (i : Nat) (h : i < (z1o l).length) : (z1o l)[i] = u32 (z0p l i) := by
 have h' : i < l.length := by simpa using h
 simp [z0p, z1o, List.getElem?_eq_getElem h']
@[simp] theorem z9Vb (l : List UInt8) (i : Nat) (h : i < (bys l).length) : (bys l)[i] = u8 (at8 l i) := by
 have h' : i < l.length := by simpa using h
 simp [at8, bys, List.getElem?_eq_getElem h']
@[simp] theorem z1Fb (x : UInt32) (l : List UInt32) : hdA (z1o (x :: l)) = u32 x := rfl
@[simp] theorem z1Tb (x : UInt8) (l : List UInt8) : hdA (bys (x :: l)) = u8 x := rfl
@[simp] theorem z9Nc (a : z2a) (l : List z2a) : hdA (a :: l) = a := rfl
theorem z9Zb {a b : List UInt8} {i : Nat} (h : i < a.length) : at8 (a ++ b) i = at8 a i := by simp [at8, List.getD, List.getElem?_append_left h]
theorem z83a {a b : List UInt32} {i : Nat} (h : i < a.length) : z0p (a ++ b) i = z0p a i := by simp [z0p, List.getD, List.getElem?_append_left h]
theorem z1qb {a b : List UInt8} {i : Nat} (h : a.length ≤ i) : at8 (a ++ b) i = at8 b (i - a.length) := by simp [at8, List.getD, List.getElem?_append_right h]
theorem z9cb {a b : List UInt32} {i : Nat} (h : a.length ≤ i) : z0p (a ++ b) i = z0p b (i - a.length) := by simp [z0p, List.getD, List.getElem?_append_right h]
theorem z53a {a : List UInt8} {i n : Nat} (h : i < n) : at8 (a.take n) i = at8 a i := by simp [at8, List.getD, List.getElem?_take, h]
@[simp] theorem z5Mc {a : List UInt8} {i n : Nat} : at8 (a.drop n) i = at8 a (n + i) := by simp [at8, List.getD]
@[simp] theorem z4Hc {a : List UInt32} {i n : Nat} : z0p (a.drop n) i = z0p a (n + i) := by simp [z0p, List.getD]
@[simp] theorem z7Jc (x : UInt32) (l : List UInt32) : z0p (x :: l) 0 = x := rfl
@[simp] theorem z5tc (x : UInt32) (l : List UInt32) (n : Nat) : z0p (x :: l) (n + 1) = z0p l n := rfl
@[simp] theorem z8Lb (x : UInt8) (l : List UInt8) : at8 (x :: l) 0 = x := rfl
@[simp] theorem z9Sc (x : UInt8) (l : List UInt8) (n : Nat) : at8 (x :: l) (n + 1) = at8 l n := rfl

def ks8 (n : Nat) : List LK := List.replicate n (.int .u8)
@[simp] theorem z6ac (n : Nat) (l : List UInt8) : z0B (ks8 n) (bys l) = (l.length = n) := by
 induction n generalizing l with
 | zero => cases l <;> simp [ks8, z0B, bys]
 | succ n ih =>
  cases l with
  | nil => simp [ks8, List.replicate_succ, z0B, bys]
  | cons x l =>
   have := ih l
   simp only [ks8, bys] at this
   simp [ks8, List.replicate_succ, z0B, bys, z1Kc, u8, this]
theorem z1b {n : Nat} {a b : List UInt8} (ha : a.length = n) (hb : b.length = n) : z7J (ks8 n) (bys a) (bys b) = decide (a = b) := by
 induction n generalizing a b with
 | zero =>
  have e1 := List.length_eq_zero_iff.1 ha
  have e2 := List.length_eq_zero_iff.1 hb
  subst e1; subst e2
  rfl
 | succ n ih =>
  match a, b, ha, hb with
  | x :: a, y :: b, ha, hb =>
   have := ih (a := a) (b := b) (by simpa using ha) (by simpa using hb)
   simp only [ks8, bys] at this
   simp only [ks8, List.replicate_succ, bys, List.map_cons, z7J, z4Nc, z7tb, this]
   rw [Bool.eq_iff_iff]
   simp only [Bool.and_eq_true, beq_iff_eq, decide_eq_true_eq, List.cons.injEq, ← UInt8.toNat_inj, Int.natCast_inj]
@[simp] theorem z23c (l : List UInt8) : (ByteArray.mk l.toArray).size = l.length := by simp [ByteArray.size]
@[simp] theorem mod64 (n : UInt64) : ((n.toNat : Int) % 64).toNat = n.toNat % 64 := by omega
@[simp] theorem z8sb (n : Int) : z2a.lit (.int .i64 n) = i64 n := rfl
@[simp] theorem lit_bo (b : Bool) : z2a.lit (.bool b) = bo b := rfl
@[simp] theorem z93c (x : UInt8) : z2a.lit (.int .u8 (x.toNat : Int)) = u8 x := rfl
@[simp] theorem z9qb (l : List UInt8) : z2a.lit (.string (z23 (bys l))) = st l := by
 simp only [st, z23, bys, List.map_map]
 congr 3
 rw [show ((fun c => UInt8.ofNat (asI c).toNat) ∘ u8) = id from funext fun x => by simp [z7tb]]
 simp
@[simp] theorem z3gc (x : UInt8) : z2a.lit (.string (z23 [u8 x])) = st [x] := z9qb [x]
@[simp] theorem z0ac (l : List UInt8) (a b : Nat) : z2a.lit (.string ((ByteArray.mk l.toArray).extract a b)) = st ((l.drop a).take (b - a)) := by
 simp only [st]
 congr 2
 apply ByteArray.ext
 rw [ByteArray.data_extract]
 simp [List.extract]
attribute [simp] z9t z21a z9ka z77b z5ra okM z2ub z9ha z0Cb fnd Abs.ren z1xa
@[simp] theorem ren_u8 (m : List (Nat × Nat)) (x : UInt8) : Abs.ren m (u8 x) = u8 x := rfl
@[simp] theorem z08c (m : List (Nat × Nat)) (x : UInt32) : Abs.ren m (u32 x) = u32 x := rfl
@[simp] theorem z82c (m : List (Nat × Nat)) (x : UInt64) : Abs.ren m (u64 x) = u64 x := rfl
@[simp] theorem z11c (m : List (Nat × Nat)) (x : Int) : Abs.ren m (i64 x) = i64 x := rfl
@[simp] theorem ren_bo (m : List (Nat × Nat)) (x : Bool) : Abs.ren m (bo x) = bo x := rfl
@[simp] theorem ren_st (m : List (Nat × Nat)) (x : List UInt8) : Abs.ren m (st x) = st x := rfl
end Go.Abs
end

section
namespace Go.Abs
def gv (t : Bool) (v : z2a) : z2a := if t then v else z4ca
def gok (t : Bool) (p : Prop) : Prop := t = true → p
@[simp] theorem gv_t (v : z2a) : gv true v = v := rfl
@[simp] theorem gv_f (v : z2a) : gv false v = z4ca := rfl
@[simp] theorem gok_f (p : Prop) : gok false p = True := by simp [gok]
@[simp] theorem gok_t (p : Prop) : gok true p = p := by simp [gok]
@[simp] theorem gok_T (t : Bool) : gok t True = True := by simp [gok]
@[simp high] theorem z4wc (E : Env) (d s : Nat) (w : Bool) (op : AOp) (o e : List (Nat × z2a)) (b : List (Nat × Option (List z2a))) :
  okA E ⟨some d, some (s, w), op⟩ ⟨o, e, b⟩ = ((∀ x ∈ d :: op.wrS, lk o x = none) ∧ okG (ASt.get ⟨o, e, b⟩ s) ∧ gok (z91a (ASt.get ⟨o, e, b⟩ s) w) (okp E (ASt.get ⟨o, e, b⟩) (ASt.getB ⟨o, e, b⟩) op)) := rfl
@[simp] theorem z28c (t x w : Bool) : z91a (gv t (bo x)) w = (t && (x == w)) := by cases t <;> simp
@[simp] theorem okG_gv (t x : Bool) : okG (gv t (bo x)) = True := by cases t <;> simp
@[simp] theorem dem_gv (t : Bool) (v : z2a) : dem (gv t v) = gv t (dem v) := by cases t <;> rfl
end Go.Abs
end

section
namespace Go.Abs
/-! ### structs that are built, step by step -/
def z2Yb (get : Nat → z2a) (n : Nat) : z2a := dem (get n)
@[simp] theorem z41c (get : Nat → z2a) (n : Nat) : z2Yb get n = dem (get n) := rfl
@[simp ↓ high] theorem z4Qc (E : Env) (get : Nat → z2a) (getB : Nat → Option (List z2a)) (z : List z2a) (ps : List (Nat × Nat × Arg)) : eff E get getB (.build z ps) = { val := .agg (z6Q E (z2Yb get) ps z) } := rfl
@[simp ↓ high] theorem z1Pc (E : Env) (get : Nat → z2a) (getB : Nat → Option (List z2a)) (z : List z2a) (ps : List (Nat × Nat × Arg)) : okp E get getB (.build z ps) = z9C E (z2Yb get) ps z.length := rfl
def z07c (d dd : z2a) (cs : List z2a) (i s : Nat) : Eff := match d with | .sl (.own e) nl n c => { val := .oagg (cs.take i) e nl n c (cs.drop (i + 1)), sl := [(s, dd)] } | _ => { val := .undef }
@[simp] theorem z4Kc (e : Nat) (nl : Option Bool) (n : Nat) (c : List z2a) (dd : z2a) (cs : List z2a) (i s : Nat) : z07c (.sl (.own e) nl n c) dd cs i s = { val := .oagg (cs.take i) e nl n c (cs.drop (i + 1)), sl := [(s, dd)] } := rfl
@[simp ↓ high] theorem z1Nc (E : Env) (get : Nat → z2a) (getB : Nat → Option (List z2a)) (z : List z2a) (ps : List (Nat × Nat × Arg)) (i s : Nat) : eff E get getB (.buildO z ps i s) = z07c (get s) (dem (get s)) (z6Q E (z2Yb get) (ps ++ [(i, 1, .s s)]) z) i s := by
 simp only [eff, z07c]
 rfl
@[simp ↓ high] theorem z9Wc (E : Env) (get : Nat → z2a) (getB : Nat → Option (List z2a)) (z : List z2a) (ps : List (Nat × Nat × Arg)) (i s : Nat) : okp E get getB (.buildO z ps i s) = (z9C E (z2Yb get) (ps ++ [(i, 1, .s s)]) z.length ∧ (match get s with | .sl (.own _) _ _ _ => True | _ => False)) := rfl
@[simp ↓ high] theorem z4Rc (E : Env) (d : Nat) (z : List z2a) (ps : List (Nat × Nat × Arg)) (i s : Nat) (o e : List (Nat × z2a)) (b : List (Nat × Option (List z2a))) : okA E ⟨some d, none, .buildO z ps i s⟩ ⟨o, e, b⟩ =
  ((lk o d = none ∧ lk o s = none) ∧ z9C E (z2Yb (ASt.get ⟨o, e, b⟩)) (ps ++ [(i, 1, .s s)]) z.length ∧ (match ASt.get ⟨o, e, b⟩ s with | .sl (.own _) _ _ _ => True | _ => False)) := by
 have h : (∀ x ∈ [d, s], lk o x = none) = (lk o d = none ∧ lk o s = none) := by simp
 rw [← h]; rfl
@[simp ↓ high] theorem z3Pc (E : Env) (d : Nat) (z : List z2a) (ps : List (Nat × Nat × Arg)) (o e : List (Nat × z2a)) (b : List (Nat × Option (List z2a))) : okA E ⟨some d, none, .build z ps⟩ ⟨o, e, b⟩ =
  (lk o d = none ∧ z9C E (z2Yb (ASt.get ⟨o, e, b⟩)) ps z.length) := by
 have h : (∀ x ∈ [d], lk o x = none) = (lk o d = none) := by simp
 rw [← h]; rfl
def z9Gb (b : Bool) : List Nat → List z8b → Option (List Nat)
 | ks, [] => some ks
 | ks, ⟨some d, some (t, w), op⟩ :: xs => if ks.contains t && (w != b) && op.wrS.isEmpty then z9Gb b (ks.filter (· != d)) xs else none
 | ks, ⟨some d, none, .mv false (.s t)⟩ :: xs => if ks.contains t then z9Gb b (d :: ks) xs else none
 | ks, ⟨some d, none, .pick (.s t) (.c (.lit (.bool x))) (.s _)⟩ :: xs => if ks.contains t && b && x then z9Gb b (d :: ks) xs else none
 | ks, ⟨some d, none, .pick (.s t) (.s _) (.c (.lit (.bool x)))⟩ :: xs => if ks.contains t && !b && !x then z9Gb b (d :: ks) xs else none
 | _, _ => none
def wrT (xs : List z8b) : List Nat := xs.flatMap fun o => o.dst.toList
structure z6Xb (b : Bool) (ks : List Nat) (ws : List Nat) (st st' : ASt) : Prop where
 org : st'.org = st.org
 box : st'.box = st.box
 val : ∀ s ∈ ks, st'.get s = bo b
 same : ∀ s, s ∉ ws → st'.get s = st.get s
theorem z6zb (o : List (Nat × z2a)) (d : Nat) (v : z2a) (e : List (Nat × z2a)) (b : List (Nat × Option (List z2a))) (s : Nat) : ASt.get ⟨o, (d, v) :: e, b⟩ s = if s = d then v else ASt.get ⟨o, e, b⟩ s := by
 by_cases h : s = d
 ·simp only [ASt.get, lk, if_pos h]
 ·simp only [ASt.get, lk, if_neg h]
theorem z63a (E : Env) (b : Bool) : ∀ (xs : List z8b) (ks ks' : List Nat) (st : ASt), z9Gb b ks xs = some ks' → (∀ s ∈ ks, st.get s = bo b) → (∀ s ∈ wrT xs, lk st.org s = none) → z66 E xs st ∧ z6Xb b ks' (wrT xs) st (z3sa E xs st)
 | [], ks, ks', st, hc, hk, _ => by
  simp only [z9Gb, Option.some.injEq] at hc
  subst hc
  exact ⟨trivial, rfl, rfl, hk, fun _ _ => rfl⟩
 | o :: xs, ks, ks', st, hc, hk, ho => by
  have one : ∀ (d : Nat) (v : z2a) (ks1 : List Nat), o.dst = some d → okA E o st → z4g E o st = ⟨st.org, (d, v) :: st.env, st.box⟩ → z9Gb b ks1 xs = some ks' → (∀ s ∈ ks1, s = d → v = bo b) → (∀ s ∈ ks1, s ≠ d → s ∈ ks) → z66 E (o :: xs) st ∧ z6Xb b ks' (wrT (o :: xs)) st (z3sa E (o :: xs) st) := by
   intro d v ks1 hd hok hst hc1 h1 h2
   have hg : ∀ s, ASt.get ⟨st.org, (d, v) :: st.env, st.box⟩ s = if s = d then v else st.get s := fun s => z6zb _ _ _ _ _ _
   obtain ⟨k1, k2⟩ := z63a E b xs ks1 ks' ⟨st.org, (d, v) :: st.env, st.box⟩ hc1 (fun s hs => by
    rw [hg]
    split
    ·rename_i e; exact h1 s hs e
    ·rename_i e; exact hk s (h2 s hs e)) (fun s hs => ho s (by simp only [wrT, List.flatMap_cons, List.mem_append]; exact .inr hs))
   refine ⟨⟨hok, by rw [hst]; exact k1⟩, ?_⟩
   show z6Xb b ks' (wrT (o :: xs)) st (z3sa E xs (z4g E o st))
   rw [hst]
   refine ⟨k2.org, k2.box, k2.val, fun s hs => ?_⟩
   simp only [wrT, List.flatMap_cons, List.mem_append, not_or] at hs
   rw [k2.same s hs.2, hg, if_neg]
   intro e
   apply hs.1
   rw [hd, e]
   simp
  have hW : ∀ d, o.dst = some d → o.op.wrS = [] → ∀ s ∈ o.W, lk st.org s = none := fun d hd hw s hs => by
   apply ho
   simp only [z8b.W, hd, hw, List.append_nil, Option.toList_some, List.mem_singleton] at hs
   simp only [wrT, List.flatMap_cons, List.mem_append, hd, hs]
   exact .inl (by simp)
  unfold z9Gb at hc
  split at hc
  ·cases xs <;> simp at *
  ·rename_i ks0 d t w op xs0 e
   simp only [List.cons.injEq] at e
   obtain ⟨rfl, rfl⟩ := e
   split at hc
   ·rename_i hh
    simp only [Bool.and_eq_true, List.contains_eq_mem, decide_eq_true_eq, bne_iff_ne, List.isEmpty_iff] at hh
    obtain ⟨⟨h1, h2⟩, h3⟩ := hh
    have hv := hk t h1
    have hgate : z91a (st.get t) w = false := by rw [hv, z01b]; exact beq_eq_false_iff_ne.2 (Ne.symm h2)
    refine one d z4ca _ rfl ⟨hW d rfl h3, .inl (by rw [hv]; trivial), fun e => by rw [hgate] at e; cases e⟩ ?_ hc ?_ ?_
    ·simp only [z4g, hgate, Bool.false_eq_true, if_false, Option.toList_some, List.map_cons, List.map_nil, List.cons_append, List.nil_append]
    ·intro s hs e
     simp [e] at hs
    ·intro s hs e
     simp only [List.mem_filter] at hs
     exact hs.1
   ·cases hc
  ·rename_i ks0 d t xs0 e
   simp only [List.cons.injEq] at e
   obtain ⟨rfl, rfl⟩ := e
   split at hc
   ·rename_i hh
    simp only [List.contains_eq_mem, decide_eq_true_eq] at hh
    have hv := hk t hh
    refine one d (bo b) _ rfl ⟨hW d rfl rfl, trivial⟩ ?_ hc (fun _ _ _ => rfl) (fun s hs e => by simpa [e] using hs)
    simp only [z4g, eff, arg, hv, Option.toList_some, List.map_cons, List.map_nil, List.cons_append, List.nil_append]
    rfl
   ·cases hc
  ·rename_i ks0 d t x y xs0 e
   simp only [List.cons.injEq] at e
   obtain ⟨rfl, rfl⟩ := e
   split at hc
   ·rename_i hh
    simp only [Bool.and_eq_true, List.contains_eq_mem, decide_eq_true_eq] at hh
    obtain ⟨⟨h1, rfl⟩, rfl⟩ := hh
    have hv := hk t h1
    refine one d (bo true) _ rfl ⟨hW d rfl rfl, ?_⟩ ?_ hc (fun _ _ _ => rfl) (fun s hs e => by simpa [e] using hs)
    ·simp only [okp, arg, hv]; trivial
    ·simp only [z4g, eff, arg, hv, Option.toList_some, List.map_cons, List.map_nil, List.cons_append, List.nil_append]
     rfl
   ·cases hc
  ·rename_i ks0 d t y x xs0 e
   simp only [List.cons.injEq] at e
   obtain ⟨rfl, rfl⟩ := e
   split at hc
   ·rename_i hh
    simp only [Bool.and_eq_true, List.contains_eq_mem, decide_eq_true_eq, Bool.not_eq_true'] at hh
    obtain ⟨⟨h1, rfl⟩, rfl⟩ := hh
    have hv := hk t h1
    refine one d (bo false) _ rfl ⟨hW d rfl rfl, ?_⟩ ?_ hc (fun _ _ _ => rfl) (fun s hs e => by simpa [e] using hs)
    ·simp only [okp, arg, hv]; trivial
    ·simp only [z4g, eff, arg, hv, Option.toList_some, List.map_cons, List.map_nil, List.cons_append, List.nil_append]
     rfl
   ·cases hc
  ·cases hc
theorem z57b (f : Nat → z2a) (keep : List Nat) (o : List (Nat × z2a)) (bx : List (Nat × Option (List z2a))) {x : Nat} (hx : x ∈ keep) : ASt.get ⟨o, keep.map fun x => (x, f x), bx⟩ x = f x := by
 have h := z5W f x keep
 rw [if_pos hx] at h
 simp only [ASt.get, h]
theorem z2Aa {E : Env} {keep : List Nat} {gs : List z7M} {Q : z8q → ASt → Prop} {xs : List z8b} {st : ASt} (n : Nat) (h : ∀ T, T = xs.drop n → z7Wa E keep gs Q (xs.take n ++ T) st) : z7Wa E keep gs Q xs st := by
 have := h _ rfl
 rwa [List.take_append_drop] at this
theorem z2b {E : Env} {keep : List Nat} {gs : List z7M} {Q : z8q → ASt → Prop} {xs ys : List z8b} {st : ASt} (h : ∀ T, T = ys → z7Wa E keep gs Q (xs ++ T) st) : z7Wa E keep gs Q (xs ++ ys) st := h ys rfl
theorem z3dc (E : Env) (id : Nat) (b : z5a) (Q : z8q → ASt → Prop) (s : ASt) : awp E (.block id b) Q s = awp E b (z5Wa id Q) s := rfl
theorem z9j {E : Env} {Q : z8q → ASt → Prop} {s : ASt} {a b : z5a} (h : ∀ B, B = b → awp E (.seq a B) Q s) : awp E (.seq a b) Q s := h b rfl
def vdG (b : Bool) (d : Nat) (st : ASt) (x : Nat) : z2a := if x = d then bo b else st.get x
@[simp] theorem vdG_eq (b : Bool) (d : Nat) (st : ASt) (x : Nat) : vdG b d st x = if x = d then bo b else st.get x := rfl
theorem z7Oa (f : Nat → z2a) : ∀ l : List Nat, z0Na f l = l.map fun s => (s, f s)
 | [] => rfl
 | s :: l => by simp only [z0Na, List.map_cons, z7Oa f l]
theorem z7b {E : Env} {keep : List Nat} {gs : List z7M} {Q : z8q → ASt → Prop} {xs : List z8b} {o e : List (Nat × z2a)} {bx : List (Nat × Option (List z2a))} (b : Bool) (s d : Nat) (hs : ASt.get ⟨o, e, bx⟩ s = bo b)
  (hc : ((z9Gb b [s] xs).any fun ks => ks.contains d && keep.all fun x => x == d || !(wrT xs).contains x) = true) (ho : ((wrT xs).all fun x => (lk o x).isNone) = true)
  (h : z7Wa E keep gs Q [] ⟨o, z0Na (vdG b d ⟨o, e, bx⟩) keep, bx⟩) : z7Wa E keep gs Q xs ⟨o, e, bx⟩ := by
 rw [z7Oa] at h
 simp only [vdG] at h
 simp only [Option.any_eq_true, Bool.and_eq_true, List.contains_eq_mem, decide_eq_true_eq, List.all_eq_true, Bool.or_eq_true, beq_iff_eq, Bool.not_eq_true', decide_eq_false_iff_not] at hc
 obtain ⟨ks, h1, h2, h3⟩ := hc
 simp only [List.all_eq_true, Option.isNone_iff_eq_none] at ho
 obtain ⟨k1, k2⟩ := z63a E b xs [s] ks ⟨o, e, bx⟩ h1 (fun x hx => by rw [List.mem_singleton.1 hx]; exact hs) ho
 rw [z6Ja] at h ⊢
 simp only [z66, z3sa, true_and] at h
 refine ⟨k1, ?_⟩
 have : z6da keep (z3sa E xs ⟨o, e, bx⟩) = z6da keep ⟨o, keep.map fun x => (x, if x = d then bo b else ASt.get ⟨o, e, bx⟩ x), bx⟩ := by
  unfold z6da
  rw [k2.org, k2.box]
  simp only [ASt.mk.injEq, true_and, and_true]
  refine List.map_congr_left fun x hx => ?_
  have hg : ASt.get ⟨o, keep.map fun x => (x, if x = d then bo b else ASt.get ⟨o, e, bx⟩ x), bx⟩ x = if x = d then bo b else ASt.get ⟨o, e, bx⟩ x := by
   exact z57b _ keep o bx hx
  rw [hg]
  rcases h3 x hx with rfl | h4
  ·rw [if_pos rfl, k2.val x h2]
  ·split
   ·rename_i e; rw [e, k2.val d h2]
   ·rw [k2.same x h4]
 rw [this]
 exact h
end Go.Abs
end
