/- Lemmas: an abstract interpreter, and what the functions compute. -/
import Derived.Test.YtkccmbjmlpnejaaDoorC
set_option linter.unusedSimpArgs false
set_option linter.unusedVariables false
set_option linter.unusedSectionVars false
section
namespace Go.Abs

def u8 (x : UInt8) : z2a := .lit (.int .u8 x.toNat)
def u32 (x : UInt32) : z2a := .lit (.int .u32 x.toNat)
def u64 (x : UInt64) : z2a := .lit (.int .u64 x.toNat)
def i64 (x : Int) : z2a := .lit (.int .i64 x)
def bo (x : Bool) : z2a := .lit (.bool x)
def st (l : List UInt8) : z2a := .lit (.string ⟨l.toArray⟩)
def bys (l : List UInt8) : List z2a := l.map u8
def z6p (l : List UInt32) : List z2a := l.map u32
def W (n : Int) : Int := IntKind.i64.wrap n

theorem z7a {n : Int} (h0 : -9223372036854775808 ≤ n) (h1 : n ≤ 9223372036854775807) : W n = n := by
 unfold W IntKind.wrap IntKind.bits IntKind.signed
 simp only [Bool.true_and, decide_eq_true_eq]
 split <;> omega

theorem z7ya (n : Nat) : IntKind.u8.wrap (n : Int) = ((n % 256 : Nat) : Int) := by
 unfold IntKind.wrap IntKind.bits IntKind.signed
 simp
theorem z9pa (n : Nat) : IntKind.u32.wrap (n : Int) = ((n % 4294967296 : Nat) : Int) := by
 unfold IntKind.wrap IntKind.bits IntKind.signed
 simp
theorem z8ia (n : Nat) : IntKind.u64.wrap (n : Int) = ((n % 18446744073709551616 : Nat) : Int) := by
 unfold IntKind.wrap IntKind.bits IntKind.signed
 simp

section looks
@[simp] theorem z8rb (x : UInt8) : asI (u8 x) = x.toNat := rfl
@[simp] theorem z33b (x : UInt32) : asI (u32 x) = x.toNat := rfl
@[simp] theorem z6ac (x : UInt64) : asI (u64 x) = x.toNat := rfl
@[simp] theorem z9kb (x : Int) : asI (i64 x) = x := rfl
@[simp] theorem z6Rb (x : Bool) : asB (bo x) = x := rfl
@[simp] theorem asS_st (l : List UInt8) : asS (st l) = ⟨l.toArray⟩ := rfl
@[simp] theorem isB_bo (x : Bool) : isB (bo x) ↔ True := by simp [isB, bo]
@[simp] theorem isI_u8 (x : UInt8) : isI (u8 x) ↔ True := by simp [isI, u8]
@[simp] theorem z1fd (x : UInt32) : isI (u32 x) ↔ True := by simp [isI, u32]
@[simp] theorem z8ed (x : UInt64) : isI (u64 x) ↔ True := by simp [isI, u64]
@[simp] theorem z45c (x : Int) : isI (i64 x) ↔ True := by simp [isI, i64]
@[simp] theorem z0cd (x : UInt8) : z5lc .u8 (u8 x) ↔ True := by simp [z5lc, u8]
@[simp] theorem isS_st (l : List UInt8) : isS (st l) ↔ True := by simp [isS, st]
@[simp] theorem dem_u8 (x : UInt8) : dem (u8 x) = u8 x := rfl
@[simp] theorem z4fd (x : UInt32) : dem (u32 x) = u32 x := rfl
@[simp] theorem z08c (x : UInt64) : dem (u64 x) = u64 x := rfl
@[simp] theorem z87c (x : Int) : dem (i64 x) = i64 x := rfl
@[simp] theorem dem_bo (x : Bool) : dem (bo x) = bo x := rfl
@[simp] theorem dem_st (x : List UInt8) : dem (st x) = st x := rfl
@[simp] theorem z9tc (x : UInt8) : z5d (u8 x) ↔ True := by simp [z5d, u8]
@[simp] theorem z5rc (x : UInt32) : z5d (u32 x) ↔ True := by simp [z5d, u32]
@[simp] theorem z7sc (x : UInt64) : z5d (u64 x) ↔ True := by simp [z5d, u64]
@[simp] theorem z5mc (x : Int) : z5d (i64 x) ↔ True := by simp [z5d, i64]
@[simp] theorem z2xc (x : Bool) : z5d (bo x) ↔ True := by simp [z5d, bo]
@[simp] theorem z1Ec (x : List UInt8) : z5d (st x) ↔ True := by simp [z5d, st]
@[simp] theorem z1Sc (x : UInt8) : z5f (u8 x) = true := rfl
@[simp] theorem z2Jc (x : UInt32) : z5f (u32 x) = true := rfl
@[simp] theorem z4Ec (x : UInt64) : z5f (u64 x) = true := rfl
@[simp] theorem z0wc (x : Int) : z5f (i64 x) = true := rfl
@[simp] theorem z0Rc (x : Bool) : z5f (bo x) = true := rfl
@[simp] theorem z23c (x : List UInt8) : z5f (st x) = true := rfl
@[simp] theorem z1kc (x : UInt8) : z6f (u8 x) = true := rfl
@[simp] theorem z5fc (x : UInt32) : z6f (u32 x) = true := rfl
@[simp] theorem z67b (x : UInt64) : z6f (u64 x) = true := rfl
@[simp] theorem z06b (x : Int) : z6f (i64 x) = true := rfl
@[simp] theorem z4sc (x : Bool) : z6f (bo x) = true := rfl
@[simp] theorem z8pc (x : List UInt8) : z6f (st x) = true := rfl
@[simp] theorem z6gd (x : UInt8) : z9r (u8 x) = [] := rfl
@[simp] theorem z6Vc (x : UInt32) : z9r (u32 x) = [] := rfl
@[simp] theorem z40c (x : UInt64) : z9r (u64 x) = [] := rfl
@[simp] theorem z42c (x : Int) : z9r (i64 x) = [] := rfl
@[simp] theorem z19c (x : Bool) : z9r (bo x) = [] := rfl
@[simp] theorem z04c (x : List UInt8) : z9r (st x) = [] := rfl
@[simp] theorem z2Ic (x : UInt8) : z2f (u8 x) = false := rfl
@[simp] theorem z9kc (x : UInt32) : z2f (u32 x) = false := rfl
@[simp] theorem z7jc (x : UInt64) : z2f (u64 x) = false := rfl
@[simp] theorem z0rc (x : Int) : z2f (i64 x) = false := rfl
@[simp] theorem z1zc (x : Bool) : z2f (bo x) = false := rfl
@[simp] theorem z3Ec (x : List UInt8) : z2f (st x) = false := rfl
@[simp] theorem z8vc (x : UInt8) : z3u (u8 x) = [u8 x] := rfl
@[simp] theorem z6kc (x : UInt32) : z3u (u32 x) = [u32 x] := rfl
@[simp] theorem z6qc (x : UInt64) : z3u (u64 x) = [u64 x] := rfl
@[simp] theorem z0lc (x : Int) : z3u (i64 x) = [i64 x] := rfl
@[simp] theorem z7Bc (x : Bool) : z3u (bo x) = [bo x] := rfl
@[simp] theorem z6Fc (x : List UInt8) : z3u (st x) = [st x] := rfl
@[simp] theorem z36c (l : List UInt8) : z5w (st l) = l.length := by simp [z5w, st, ByteArray.size]
@[simp] theorem z6Ec (bx : List z2a) (l : List UInt8) : z3i bx (st l) = bys l := by simp [z3i, st, bys, u8]
end looks

section arith
@[simp] theorem z74b (x y : Int) : z8L .add (i64 x) (i64 y) = i64 (W (x + y)) := rfl
@[simp] theorem z61b (x y : Int) : z8L .sub (i64 x) (i64 y) = i64 (W (x - y)) := rfl
@[simp] theorem z41b (x y : Int) : z8L .mul (i64 x) (i64 y) = i64 (W (x * y)) := rfl
@[simp] theorem z23b (x y : Int) : z8L .quo (i64 x) (i64 y) = i64 (W (x.tdiv y)) := rfl
@[simp] theorem z4bc (x y : Int) : z8L .rem (i64 x) (i64 y) = i64 (x.tmod y) := rfl
@[simp] theorem z2ac (x y : Int) : z8L .eql (i64 x) (i64 y) = bo (x == y) := rfl
@[simp] theorem z6Zb (x y : Int) : z8L .neq (i64 x) (i64 y) = bo (x != y) := rfl
@[simp] theorem z3dc (x y : Int) : z8L .lss (i64 x) (i64 y) = bo (decide (x < y)) := rfl
@[simp] theorem z81b (x y : Int) : z8L .leq (i64 x) (i64 y) = bo (decide (x ≤ y)) := rfl
@[simp] theorem z8ec (x y : Int) : z8L .gtr (i64 x) (i64 y) = bo (decide (y < x)) := rfl
@[simp] theorem z96b (x y : Int) : z8L .geq (i64 x) (i64 y) = bo (decide (y ≤ x)) := rfl

theorem z0Z {n : Int} {x : UInt32} (h : n = x.toNat) : z2a.lit (.int .u32 n) = u32 x := by rw [h]; rfl
theorem z5oa {n : Int} {x : UInt8} (h : n = x.toNat) : z2a.lit (.int .u8 n) = u8 x := by rw [h]; rfl
theorem z5R {n : Int} {x : UInt64} (h : n = x.toNat) : z2a.lit (.int .u64 n) = u64 x := by rw [h]; rfl

theorem z6Ia (k n : Nat) : (BitVec.ofInt k (n : Int)).toNat = n % 2 ^ k := by
 simp [BitVec.toNat_ofInt]
theorem z8Aa (x : UInt32) : BitVec.ofInt 32 (x.toNat : Int) = x.toBitVec := by
 apply BitVec.eq_of_toNat_eq
 rw [z6Ia]
 exact Nat.mod_eq_of_lt x.toNat_lt
theorem z1Lb (x : UInt8) : BitVec.ofInt 8 (x.toNat : Int) = x.toBitVec := by
 apply BitVec.eq_of_toNat_eq
 rw [z6Ia]
 exact Nat.mod_eq_of_lt x.toNat_lt
theorem z4Ta (x : UInt64) : BitVec.ofInt 64 (x.toNat : Int) = x.toBitVec := by
 apply BitVec.eq_of_toNat_eq
 rw [z6Ia]
 exact Nat.mod_eq_of_lt x.toNat_lt
theorem z8pa (x : BitVec 32) : IntKind.u32.wrap (x.toNat : Int) = (x.toNat : Int) := by rw [z9pa, Nat.mod_eq_of_lt x.isLt]
theorem z78a (x : BitVec 8) : IntKind.u8.wrap (x.toNat : Int) = (x.toNat : Int) := by rw [z7ya, Nat.mod_eq_of_lt x.isLt]
theorem z0ya (x : BitVec 64) : IntKind.u64.wrap (x.toNat : Int) = (x.toNat : Int) := by rw [z8ia, Nat.mod_eq_of_lt x.isLt]

@[simp] theorem z66b (x y : UInt32) : z8L .add (u32 x) (u32 y) = u32 (x + y) := z0Z (by
 show IntKind.u32.wrap ((x.toNat : Int) + y.toNat) = _
 rw [← Int.natCast_add, z9pa, UInt32.toNat_add])
@[simp] theorem z9jc (x y : UInt8) : z8L .add (u8 x) (u8 y) = u8 (x + y) := z5oa (by
 show IntKind.u8.wrap ((x.toNat : Int) + y.toNat) = _
 rw [← Int.natCast_add, z7ya, UInt8.toNat_add])
@[simp] theorem z3hc (x y : UInt64) : z8L .add (u64 x) (u64 y) = u64 (x + y) := z5R (by
 show IntKind.u64.wrap ((x.toNat : Int) + y.toNat) = _
 rw [← Int.natCast_add, z8ia, UInt64.toNat_add])
@[simp] theorem z72b (x y : UInt64) : z8L .mul (u64 x) (u64 y) = u64 (x * y) := z5R (by
 show IntKind.u64.wrap ((x.toNat : Int) * y.toNat) = _
 rw [← Int.natCast_mul, z8ia, UInt64.toNat_mul])
@[simp] theorem z70b (x y : UInt32) : z8L .and (u32 x) (u32 y) = u32 (x &&& y) := z0Z (by
 show IntKind.u32.wrap ((BitVec.ofInt 32 x.toNat &&& BitVec.ofInt 32 y.toNat).toNat : Int) = _
 rw [z8Aa, z8Aa, z8pa]
 rfl)
@[simp] theorem z2pc (x y : UInt32) : z8L .or (u32 x) (u32 y) = u32 (x ||| y) := z0Z (by
 show IntKind.u32.wrap ((BitVec.ofInt 32 x.toNat ||| BitVec.ofInt 32 y.toNat).toNat : Int) = _
 rw [z8Aa, z8Aa, z8pa]
 rfl)
@[simp] theorem z26b (x y : UInt32) : z8L .xor (u32 x) (u32 y) = u32 (x ^^^ y) := z0Z (by
 show IntKind.u32.wrap ((BitVec.ofInt 32 x.toNat ^^^ BitVec.ofInt 32 y.toNat).toNat : Int) = _
 rw [z8Aa, z8Aa, z8pa]
 rfl)
@[simp] theorem z6Ac (x y : UInt8) : z8L .or (u8 x) (u8 y) = u8 (x ||| y) := z5oa (by
 show IntKind.u8.wrap ((BitVec.ofInt 8 x.toNat ||| BitVec.ofInt 8 y.toNat).toNat : Int) = _
 rw [z1Lb, z1Lb, z78a]
 rfl)
@[simp] theorem z8rc (x y : UInt8) : z8L .xor (u8 x) (u8 y) = u8 (x ^^^ y) := z5oa (by
 show IntKind.u8.wrap ((BitVec.ofInt 8 x.toNat ^^^ BitVec.ofInt 8 y.toNat).toNat : Int) = _
 rw [z1Lb, z1Lb, z78a]
 rfl)
@[simp] theorem z1nc (x y : UInt64) : z8L .or (u64 x) (u64 y) = u64 (x ||| y) := z5R (by
 show IntKind.u64.wrap ((BitVec.ofInt 64 x.toNat ||| BitVec.ofInt 64 y.toNat).toNat : Int) = _
 rw [z4Ta, z4Ta, z0ya]
 rfl)

@[simp] theorem z4pc (x y : UInt8) : z8L .eql (u8 x) (u8 y) = bo (x == y) := by
 show z2a.lit (.bool ((x.toNat : Int) == y.toNat)) = .lit (.bool _)
 congr 2
 rw [Bool.eq_iff_iff]
 simp only [beq_iff_eq, bne_iff_ne, ne_eq, ← UInt8.toNat_inj]
 omega
@[simp] theorem z6nc (x y : UInt8) : z8L .neq (u8 x) (u8 y) = bo (x != y) := by
 show z2a.lit (.bool ((x.toNat : Int) != y.toNat)) = .lit (.bool _)
 congr 2
 rw [Bool.eq_iff_iff]
 simp only [beq_iff_eq, bne_iff_ne, ne_eq, ← UInt8.toNat_inj]
 omega
@[simp] theorem z93b (x y : UInt64) : z8L .eql (u64 x) (u64 y) = bo (x == y) := by
 show z2a.lit (.bool ((x.toNat : Int) == y.toNat)) = .lit (.bool _)
 congr 2
 rw [Bool.eq_iff_iff]
 simp only [beq_iff_eq, bne_iff_ne, ne_eq, ← UInt64.toNat_inj]
 omega
@[simp] theorem z97b (x y : UInt64) : z8L .gtr (u64 x) (u64 y) = bo (decide (y < x)) := by
 show z2a.lit (.bool (decide ((x.toNat : Int) > y.toNat))) = .lit (.bool _)
 congr 2
 simp [UInt64.lt_iff_toNat_lt]
@[simp] theorem z0fc (x y : UInt64) : z8L .lss (u64 x) (u64 y) = bo (decide (x < y)) := by
 show z2a.lit (.bool (decide ((x.toNat : Int) < y.toNat))) = .lit (.bool _)
 congr 2
 simp [UInt64.lt_iff_toNat_lt]
@[simp] theorem z99b (x y : UInt64) : z8L .rem (u64 x) (u64 y) = u64 (x % y) := z5R (by
 show ((x.toNat : Int).tmod y.toNat) = _
 rw [UInt64.toNat_mod]
 rfl)
@[simp] theorem z0sc (x : UInt32) : unV .xor (u32 x) = u32 (~~~x) := z0Z (by
 show IntKind.u32.wrap ((BitVec.ofInt 32 4294967295 ^^^ BitVec.ofInt 32 x.toNat).toNat : Int) = _
 rw [z8Aa, z8pa]
 have e : (BitVec.ofInt 32 4294967295) = BitVec.allOnes 32 := by decide
 rw [e, BitVec.allOnes_xor]
 rfl)
@[simp] theorem z7qc (x : UInt64) : unV .xor (u64 x) = u64 (~~~x) := z5R (by
 show IntKind.u64.wrap ((BitVec.ofInt 64 18446744073709551615 ^^^ BitVec.ofInt 64 x.toNat).toNat : Int) = _
 rw [z4Ta, z0ya]
 have e : (BitVec.ofInt 64 18446744073709551615) = BitVec.allOnes 64 := by decide
 rw [e, BitVec.allOnes_xor]
 rfl)
@[simp] theorem un_not (x : Bool) : unV .not (bo x) = bo (!x) := rfl
@[simp] theorem z9sc (x : Int) : unV .neg (i64 x) = i64 (W (-x)) := by
 show z2a.lit (.int .i64 (IntKind.i64.wrap (0 - x))) = _
 rw [Int.zero_sub]; rfl
end arith

/-! ### Shifts and conversions -/
def z7La (x : UInt32) (n : Nat) : UInt32 := ⟨x.toBitVec >>> n⟩
def z5ja (x : UInt32) (n : Nat) : UInt32 := ⟨x.toBitVec <<< n⟩
def z2Ea (x : UInt64) (n : Nat) : UInt64 := ⟨x.toBitVec >>> n⟩
def z7Bb (x : UInt64) (n : Nat) : UInt64 := ⟨x.toBitVec <<< n⟩

theorem z8Ka (b n : Nat) (x : BitVec b) : ((x.toNat : Int).fdiv (2 ^ min n b)) = ((x >>> n).toNat : Int) := by
 have h2 : ((2 : Int) ^ min n b) = ((2 ^ min n b : Nat) : Int) := by simp
 rw [h2, BitVec.toNat_ushiftRight, Nat.shiftRight_eq_div_pow]
 have : ((x.toNat : Int).fdiv ((2 ^ min n b : Nat) : Int)) = ((x.toNat / 2 ^ min n b : Nat) : Int) := by
  rw [Int.fdiv_eq_ediv_of_nonneg _ (Int.natCast_nonneg _)]
  rfl
 rw [this]
 rcases Nat.le_total n b with h | h
 ·rw [Nat.min_eq_left h]
 ·rw [Nat.min_eq_right h, Nat.div_eq_of_lt x.isLt, Nat.div_eq_of_lt]
  exact Nat.lt_of_lt_of_le x.isLt (Nat.pow_le_pow_right (by decide) h)

theorem z5Ia (b n : Nat) (x : BitVec b) : (x.toNat * 2 ^ min n b) % 2 ^ b = (x <<< n).toNat := by
 rw [BitVec.toNat_shiftLeft, Nat.shiftLeft_eq]
 rcases Nat.le_total n b with h | h
 ·rw [Nat.min_eq_left h]
 ·rw [Nat.min_eq_right h, Nat.mul_mod_left]
  obtain ⟨k, rfl⟩ := Nat.exists_eq_add_of_le h
  rw [Nat.pow_add, ← Nat.mul_assoc, Nat.mul_right_comm, Nat.mul_mod_left]

theorem z7wa (x n b : Nat) : ((x : Int) * 2 ^ min n b) = ((x * 2 ^ min n b : Nat) : Int) := by simp

@[simp] theorem z2gc (x : UInt32) (n : Int) : z8L .shr (u32 x) (i64 n) = u32 (z7La x n.toNat) := z0Z (z8Ka 32 n.toNat x.toBitVec)
@[simp] theorem z2Zb (x : UInt32) (n : UInt64) : z8L .shr (u32 x) (u64 n) = u32 (z7La x n.toNat) := z0Z (z8Ka 32 n.toNat x.toBitVec)
@[simp] theorem z1jc (x : UInt64) (n : Int) : z8L .shr (u64 x) (i64 n) = u64 (z2Ea x n.toNat) := z5R (z8Ka 64 n.toNat x.toBitVec)
@[simp] theorem z5Tb (x : UInt64) (n : UInt64) : z8L .shr (u64 x) (u64 n) = u64 (z2Ea x n.toNat) := z5R (z8Ka 64 n.toNat x.toBitVec)
@[simp] theorem z27b (x : UInt32) (n : Int) : z8L .shl (u32 x) (i64 n) = u32 (z5ja x n.toNat) := z0Z (by
 show IntKind.u32.wrap ((x.toNat : Int) * 2 ^ min n.toNat 32) = _
 rw [z7wa, z9pa]
 exact congrArg _ (z5Ia 32 n.toNat x.toBitVec))
@[simp] theorem z8Xb (x : UInt32) (n : UInt64) : z8L .shl (u32 x) (u64 n) = u32 (z5ja x n.toNat) := z0Z (by
 show IntKind.u32.wrap ((x.toNat : Int) * 2 ^ min n.toNat 32) = _
 rw [z7wa, z9pa]
 exact congrArg _ (z5Ia 32 n.toNat x.toBitVec))
@[simp] theorem z80b (x : UInt64) (n : Int) : z8L .shl (u64 x) (i64 n) = u64 (z7Bb x n.toNat) := z5R (by
 show IntKind.u64.wrap ((x.toNat : Int) * 2 ^ min n.toNat 64) = _
 rw [z7wa, z8ia]
 exact congrArg _ (z5Ia 64 n.toNat x.toBitVec))
@[simp] theorem z0Zb (x : UInt64) (n : UInt64) : z8L .shl (u64 x) (u64 n) = u64 (z7Bb x n.toNat) := z5R (by
 show IntKind.u64.wrap ((x.toNat : Int) * 2 ^ min n.toNat 64) = _
 rw [z7wa, z8ia]
 exact congrArg _ (z5Ia 64 n.toNat x.toBitVec))

@[simp] theorem z4hc (x y : UInt64) : z8L .sub (u64 x) (u64 y) = u64 (x - y) := z5R (by
 show IntKind.u64.wrap ((x.toNat : Int) - y.toNat) = _
 rw [UInt64.toNat_sub]
 have := x.toNat_lt
 have := y.toNat_lt
 unfold IntKind.wrap IntKind.bits IntKind.signed
 simp only [Bool.false_and, Bool.false_eq_true, if_false]
 omega)
@[simp] theorem z58b (x y : UInt64) : z8L .and (u64 x) (u64 y) = u64 (x &&& y) := z5R (by
 show IntKind.u64.wrap ((BitVec.ofInt 64 x.toNat &&& BitVec.ofInt 64 y.toNat).toNat : Int) = _
 rw [z4Ta, z4Ta, z0ya]
 rfl)

@[simp] theorem z6wc (x : UInt32) : cvV .u8 (u32 x) = u8 x.toUInt8 := z5oa (by
 show IntKind.u8.wrap (x.toNat : Int) = _
 rw [z7ya, UInt32.toNat_toUInt8])
@[simp] theorem z9Oc (x : UInt64) : cvV .u8 (u64 x) = u8 x.toUInt8 := z5oa (by
 show IntKind.u8.wrap (x.toNat : Int) = _
 rw [z7ya, UInt64.toNat_toUInt8])
@[simp] theorem z6zc (x : UInt8) : cvV .u32 (u8 x) = u32 x.toUInt32 := z0Z (by
 show IntKind.u32.wrap (x.toNat : Int) = _
 rw [z9pa, UInt8.toNat_toUInt32, Nat.mod_eq_of_lt (by have := x.toNat_lt; omega)])
@[simp] theorem z7Ec (x : UInt8) : cvV .u64 (u8 x) = u64 x.toUInt64 := z5R (by
 show IntKind.u64.wrap (x.toNat : Int) = _
 rw [z8ia, UInt8.toNat_toUInt64, Nat.mod_eq_of_lt (by have := x.toNat_lt; omega)])
theorem z0sa (n : Int) (m : Nat) (hm : 0 < m) : (((n % (m : Int)).toNat : Nat) : Int) = n % (m : Int) := Int.toNat_of_nonneg (Int.emod_nonneg _ (by omega))
theorem z5ta (n : Int) : (UInt8.ofInt n).toNat = (n % 256).toNat := by
 unfold UInt8.ofInt
 rw [UInt8.toNat_ofNat', Nat.mod_eq_of_lt (by omega)]
 rfl
theorem z4pb (n : Int) : (UInt32.ofInt n).toNat = (n % 4294967296).toNat := by
 unfold UInt32.ofInt
 rw [UInt32.toNat_ofNat', Nat.mod_eq_of_lt (by omega)]
 rfl
theorem z6sa (n : Int) : (UInt64.ofInt n).toNat = (n % 18446744073709551616).toNat := by
 unfold UInt64.ofInt
 rw [UInt64.toNat_ofNat', Nat.mod_eq_of_lt (by omega)]
 rfl
@[simp] theorem z0Bc (n : Int) : cvV .u8 (i64 n) = u8 (UInt8.ofInt n) := z5oa (by
 show IntKind.u8.wrap n = _
 rw [show (UInt8.ofInt n).toNat = (n % 256).toNat from z5ta n]
 exact (z0sa n 256 (by decide)).symm)
@[simp] theorem z3jc (n : Int) : cvV .u64 (i64 n) = u64 (UInt64.ofInt n) := z5R (by
 show IntKind.u64.wrap n = _
 rw [show (UInt64.ofInt n).toNat = (n % 18446744073709551616).toNat from z6sa n]
 exact (z0sa n 18446744073709551616 (by decide)).symm)
@[simp] theorem z7kc (n : Int) : cvV .u32 (i64 n) = u32 (UInt32.ofInt n) := z0Z (by
 show IntKind.u32.wrap n = _
 rw [show (UInt32.ofInt n).toNat = (n % 4294967296).toNat from z4pb n]
 exact (z0sa n 4294967296 (by decide)).symm)
@[simp] theorem z8Gc (x : UInt8) : cvV .i64 (u8 x) = i64 x.toNat := by
 show z2a.lit (.int .i64 (W x.toNat)) = _
 rw [z7a (by omega) (by have := x.toNat_lt; omega)]
 rfl
@[simp] theorem z4oc (x : UInt32) : cvV .i64 (u32 x) = i64 x.toNat := by
 show z2a.lit (.int .i64 (W x.toNat)) = _
 rw [z7a (by omega) (by have := x.toNat_lt; omega)]
 rfl
@[simp] theorem z3nc (x : UInt64) : cvV .i64 (u64 x) = i64 (W x.toNat) := rfl
@[simp] theorem z5jc (x : Int) : cvV .i64 (i64 x) = i64 (W x) := rfl
end Go.Abs
end

section
namespace Go.Abs

def z9c (n : Nat) : List UInt8 := List.replicate n 0
def z8j (n : Nat) : List UInt32 := List.replicate n 0
@[simp] theorem z0Xb (n : Nat) : (z9c n).length = n := by simp [z9c]
@[simp] theorem z4yb (n : Nat) : (z8j n).length = n := by simp [z8j]

/-! ### Lists of bytes and of words as cells -/
@[simp] theorem z7fb (l : List UInt8) : (bys l).length = l.length := by simp [bys]
@[simp] theorem z45a (l : List UInt32) : (z6p l).length = l.length := by simp [z6p]
@[simp] theorem z9bd : bys [] = [] := rfl
@[simp] theorem z73c : z6p [] = [] := rfl
theorem z2R (l m : List UInt8) : bys (l ++ m) = bys l ++ bys m := by simp [bys]
theorem z1a (l m : List UInt8) : bys l ++ bys m = bys (l ++ m) := (z2R l m).symm
theorem z0a (l : List UInt8) (x : UInt8) : bys l ++ [u8 x] = bys (l ++ [x]) := by simp [bys]
@[simp] theorem z6Db (l : List UInt8) (n : Nat) : (bys l).take n = bys (l.take n) := by simp [bys]
@[simp] theorem z8ab (l : List UInt8) (n : Nat) : (bys l).drop n = bys (l.drop n) := by simp [bys]
@[simp] theorem z3Yc (l : List UInt8) : (bys l).tail = bys l.tail := by cases l <;> rfl
@[simp] theorem z94c (l : List UInt8) : z9s l = bys l := rfl
theorem z6la {P : z2a → Prop} {l : List UInt8} (h : ∀ x, P (u8 x)) : ∀ c ∈ bys l, P c := fun c hc => by
 simp only [bys, List.mem_map] at hc
 obtain ⟨x, _, rfl⟩ := hc
 exact h x
theorem z7va {P : z2a → Prop} {l : List UInt32} (h : ∀ x, P (u32 x)) : ∀ c ∈ z6p l, P c := fun c hc => by
 simp only [z6p, List.mem_map] at hc
 obtain ⟨x, _, rfl⟩ := hc
 exact h x
@[simp] theorem z6Rc (l : List UInt8) : (∀ c ∈ bys l, z5d c) ↔ True := iff_true_intro (z6la (by simp))
@[simp] theorem z46c (l : List UInt8) : (∀ c ∈ bys l, z2f c = false) ↔ True := iff_true_intro (z6la (by simp))
@[simp] theorem z5Yc (l : List UInt8) : (∀ c ∈ bys l, z5f c = true) ↔ True := iff_true_intro (z6la (by simp))
@[simp] theorem z3Db (l : List UInt8) : (∀ c ∈ bys l, z5f c = true ∧ z5d c) ↔ True := iff_true_intro (z6la (by simp))
@[simp] theorem z6Vb (l : List UInt8) : (∀ c ∈ bys l, z5d c ∧ z2f c = false) ↔ True := iff_true_intro (z6la (by simp))
@[simp] theorem z0Tc (l : List UInt8) : (∀ c ∈ bys l, z5lc .u8 c) ↔ True := iff_true_intro (z6la (by simp))
@[simp] theorem z8Pc (l : List UInt32) : (∀ c ∈ z6p l, z5d c) ↔ True := iff_true_intro (z7va (by simp))
@[simp] theorem z10c (l : List UInt32) : (∀ c ∈ z6p l, z2f c = false) ↔ True := iff_true_intro (z7va (by simp))
@[simp] theorem z1wc (l : List UInt32) : (∀ c ∈ z6p l, z5f c = true) ↔ True := iff_true_intro (z7va (by simp))
theorem z9oa {l : List z2a} (h : ∀ c ∈ l, z5f c = true) : z7h l = true := (z5n l).2 h
@[simp] theorem z9Pc (l : List UInt8) : z7h (bys l) = true := z9oa (z6la (by simp))
@[simp] theorem z3lc (l : List UInt32) : z7h (z6p l) = true := z9oa (z7va (by simp))
attribute [simp] z6ta
@[simp] theorem z3mb (l m : List z2a) : z4c (l ++ m) = (z4c l && z4c m) := by induction l <;> simp_all [z4c, Bool.and_assoc]
@[simp] theorem z2Sb (l : List UInt8) : z4c (bys l) = true := by induction l <;> simp_all [bys, z4c]
@[simp] theorem z2Cb (l : List UInt32) : z4c (z6p l) = true := by induction l <;> simp_all [z6p, z4c]
attribute [simp] z3L
@[simp] theorem z8Kc (l : List UInt8) : z2i (bys l) = [] := by induction l <;> simp_all [bys, z2i]
@[simp] theorem z8qc (l : List UInt32) : z2i (z6p l) = [] := by induction l <;> simp_all [z6p, z2i]

@[simp] theorem z2rc (x y : UInt8) : z8L .sub (u8 x) (u8 y) = u8 (x - y) := z5oa (by
 show IntKind.u8.wrap ((x.toNat : Int) - y.toNat) = _
 rw [UInt8.toNat_sub]
 have := x.toNat_lt
 have := y.toNat_lt
 unfold IntKind.wrap IntKind.bits IntKind.signed
 simp only [Bool.false_and, Bool.false_eq_true, if_false]
 omega)
@[simp] theorem z0pc (x y : UInt8) : z8L .quo (u8 x) (u8 y) = u8 (x / y) := z5oa (by
 show IntKind.u8.wrap ((x.toNat : Int).tdiv y.toNat) = _
 rw [Int.tdiv_eq_ediv_of_nonneg (by omega), ← Int.natCast_ediv, z7ya, UInt8.toNat_div, Nat.mod_eq_of_lt]
 exact Nat.lt_of_le_of_lt (Nat.div_le_self _ _) x.toNat_lt)
@[simp] theorem z6sc (x y : UInt8) : z8L .rem (u8 x) (u8 y) = u8 (x % y) := z5oa (by
 show ((x.toNat : Int).tmod y.toNat) = _
 rw [UInt8.toNat_mod]
 rfl)
@[simp] theorem z3Tb (x y : UInt8) : z3c .quo (u8 x) (u8 y) = (y ≠ 0) := by
 simp only [z3c, u8, true_and, ne_eq, Int.natCast_eq_zero, ← UInt8.toNat_inj]
 rfl
@[simp] theorem z5Xb (x y : UInt8) : z3c .rem (u8 x) (u8 y) = (y ≠ 0) := by
 simp only [z3c, u8, true_and, ne_eq, Int.natCast_eq_zero, ← UInt8.toNat_inj]
 rfl
@[simp] theorem z8kc (x y : UInt8) : z8L .lss (u8 x) (u8 y) = bo (decide (x < y)) := by
 show z2a.lit (.bool (decide ((x.toNat : Int) < y.toNat))) = .lit (.bool _)
 congr 2
 simp [UInt8.lt_iff_toNat_lt]
@[simp] theorem z1oc (x y : UInt8) : z8L .gtr (u8 x) (u8 y) = bo (decide (y < x)) := by
 show z2a.lit (.bool (decide ((x.toNat : Int) > y.toNat))) = .lit (.bool _)
 congr 2
 simp [UInt8.lt_iff_toNat_lt]
@[simp] theorem z86b (x y : UInt64) : z8L .neq (u64 x) (u64 y) = bo (x != y) := by
 show z2a.lit (.bool ((x.toNat : Int) != y.toNat)) = .lit (.bool _)
 congr 2
 rw [Bool.eq_iff_iff]
 simp only [beq_iff_eq, bne_iff_ne, ne_eq, ← UInt64.toNat_inj]
 omega
def z5hb (x y : Int) : Int := W (BitVec.ofInt 64 x &&& BitVec.ofInt 64 y).toNat
@[simp] theorem z32b (x y : Int) : z8L .and (i64 x) (i64 y) = i64 (z5hb x y) := rfl

theorem dT {p : Prop} [Decidable p] (h : p) : decide p = true := decide_eq_true h
theorem dF {p : Prop} [Decidable p] (h : ¬ p) : decide p = false := decide_eq_false h

/-! ### What values are -/
@[simp] theorem z3Kc : dem .undef = .undef := rfl
@[simp] theorem z7hd (cs : List z2a) : dem (.agg cs) = .agg cs := rfl
@[simp] theorem z4dd (cs : List z2a) : dem (.tup cs) = .tup cs := rfl
@[simp] theorem z5Xc (e : Nat) (nl : Option Bool) (n : Nat) (cs rest : List z2a) : dem (.otup e nl n cs rest) = .tup (.sl .plain nl n cs :: rest) := rfl
@[simp] theorem z2mc (e : Nat) (nl : Option Bool) (n : Nat) (cs rest : List z2a) : z5f (.otup e nl n cs rest) = z7h rest := rfl
@[simp] theorem z7Tc (p : List z2a) (e : Nat) (nl : Option Bool) (n : Nat) (cs rest : List z2a) : dem (.oagg p e nl n cs rest) = .agg (p ++ .sl .plain nl n cs :: rest) := rfl
@[simp] theorem z8nc (p : List z2a) (e : Nat) (nl : Option Bool) (n : Nat) (cs rest : List z2a) : z5f (.oagg p e nl n cs rest) = (z7h p && z7h rest) := rfl
@[simp] theorem z5uc (p : List z2a) (e : Nat) (nl : Option Bool) (n : Nat) (cs rest : List z2a) : z9r (.oagg p e nl n cs rest) = z2i p ++ z2i rest := rfl
@[simp] theorem z3zc (e : Nat) (nl : Option Bool) (n : Nat) (cs rest : List z2a) : z9r (.otup e nl n cs rest) = z2i rest := rfl
@[simp] theorem dem_bp (i o : Nat) : dem (.bp i o) = .bp i o := rfl
@[simp] theorem dem_bv (i e o n c : Nat) : dem (.bv i e o n c) = .bv i e o n c := rfl
@[simp] theorem dem_ep (cs : List z2a) : dem (.ep cs) = .ep cs := rfl
@[simp] theorem dem_fn (f : Nat) (x y : List z2a) : dem (.fn f x y) = .fn f x y := rfl
@[simp] theorem z3fd (v : Value) : dem (.lit v) = .lit v := rfl
@[simp] theorem z0gd (e : Nat) (nl : Option Bool) (n : Nat) (cs : List z2a) : dem (.sl (.own e) nl n cs) = .sl .plain nl n cs := rfl
@[simp] theorem z1Ac (nl : Option Bool) (n : Nat) (cs : List z2a) : dem (.sl .plain nl n cs) = .sl .plain nl n cs := rfl
@[simp] theorem z9Tc (nl : Option Bool) (n : Nat) (cs : List z2a) : dem (.sl .clip nl n cs) = .sl .clip nl n cs := rfl
@[simp] theorem z6rc (cs : List z2a) : z5d (.agg cs) = False := rfl
@[simp] theorem z8Nc (m : z3la) (nl : Option Bool) (n : Nat) (cs : List z2a) : z5d (.sl m nl n cs) = True := rfl
@[simp] theorem z9Kc (i o : Nat) : z5d (.bp i o) = True := rfl
@[simp] theorem z0Ec (i e o n c : Nat) : z5d (.bv i e o n c) = True := rfl
@[simp] theorem z3vc (f : Nat) (x y : List z2a) : z5d (.fn f x y) = True := rfl
@[simp] theorem z0Mc (cs : List z2a) : z5d (.ep cs) = True := rfl
@[simp] theorem z5sc : z5d (.lit (.slice none 0 0)) = True := rfl
@[simp] theorem z9Fc (cs : List z2a) : z5f (.agg cs) = z7h cs := rfl
@[simp] theorem z9Bc (cs : List z2a) : z5f (.tup cs) = z7h cs := rfl
@[simp] theorem z4Sc (m : z3la) (nl : Option Bool) (n : Nat) (cs : List z2a) : z5f (.sl m nl n cs) = true := by cases m <;> rfl
@[simp] theorem z6Tc (cs : List z2a) : z5f (.ep cs) = true := rfl
@[simp] theorem z2Wc (i o : Nat) : z5f (.bp i o) = false := rfl
@[simp] theorem z9Sc (i e o n c : Nat) : z5f (.bv i e o n c) = false := rfl
@[simp] theorem z2Yc (f : Nat) (x y : List z2a) : z5f (.fn f x y) = (z7h x && z7h y) := rfl
@[simp] theorem z6yc : z5f (.lit (.slice none 0 0)) = true := rfl
@[simp] theorem z6ic (cs : List z2a) : z6f (.agg cs) = z4c cs := rfl
@[simp] theorem z6fc (cs : List z2a) : z6f (.tup cs) = z4c cs := rfl
@[simp] theorem z2cc : z6f (.lit (.slice none 0 0)) = true := rfl
@[simp] theorem z1qc (m : z3la) (nl : Option Bool) (n : Nat) (cs : List z2a) : z6f (.sl m nl n cs) = false := by cases m <;> rfl
@[simp] theorem z7Vc (cs : List z2a) : z9r (.agg cs) = z2i cs := rfl
@[simp] theorem z7Sc (cs : List z2a) : z9r (.tup cs) = z2i cs := rfl
@[simp] theorem z64c (m : z3la) (nl : Option Bool) (n : Nat) (cs : List z2a) : z9r (.sl m nl n cs) = [] := by cases m <;> rfl
@[simp] theorem z68c (i o : Nat) : z9r (.bp i o) = [i] := rfl
@[simp] theorem z57c (i e o n c : Nat) : z9r (.bv i e o n c) = [i] := rfl
@[simp] theorem z66c (cs : List z2a) : z9r (.ep cs) = [] := rfl
@[simp] theorem z76c (f : Nat) (x y : List z2a) : z9r (.fn f x y) = z2i x ++ z2i y := rfl
@[simp] theorem z1lc : z9r .undef = [] := rfl
@[simp] theorem z12c (v : Value) : z9r (.lit v) = [] := rfl
@[simp] theorem z4rc (e : Nat) (nl : Option Bool) (n : Nat) (cs : List z2a) : z2f (.sl (.own e) nl n cs) = true := rfl
@[simp] theorem z5Rb (nl : Option Bool) (n : Nat) (cs : List z2a) : z2f (.sl .plain nl n cs) = false := rfl
@[simp] theorem z8fc (nl : Option Bool) (n : Nat) (cs : List z2a) : z2f (.sl .clip nl n cs) = false := rfl
@[simp] theorem z3Hc (i o : Nat) : z2f (.bp i o) = false := rfl
@[simp] theorem z2Bc (i e o n c : Nat) : z2f (.bv i e o n c) = false := rfl
@[simp] theorem z3qc (cs : List z2a) : z3u (.agg cs) = cs := rfl
@[simp] theorem z8uc (m : z3la) (nl : Option Bool) (n : Nat) (cs : List z2a) : z3u (.sl m nl n cs) = [.sl m nl n cs] := rfl
@[simp] theorem z6oc : z3u (.lit (.slice none 0 0)) = [.lit (.slice none 0 0)] := rfl
@[simp] theorem z1Dc (i o : Nat) : z3u (.bp i o) = [.bp i o] := rfl
@[simp] theorem z7vc (f : Nat) (x y : List z2a) : z3u (.fn f x y) = [.fn f x y] := rfl
@[simp] theorem z97c (m : z3la) (nl : Option Bool) (n : Nat) (cs : List z2a) : z5w (.sl m nl n cs) = n := rfl
@[simp] theorem z0fd (i e o n c : Nat) : z5w (.bv i e o n c) = n := rfl
@[simp] theorem z7Yc : z5w (.lit (.slice none 0 0)) = 0 := rfl
@[simp] theorem z5Nc (bx : List z2a) (m : z3la) (nl : Option Bool) (n : Nat) (cs : List z2a) : z3i bx (.sl m nl n cs) = cs := rfl
@[simp] theorem z7Nc (bx : List z2a) (i e o n c : Nat) : z3i bx (.bv i e o n c) = (bx.drop o).take (n * e) := rfl
@[simp] theorem z9rc (bx : List z2a) : z3i bx (.lit (.slice none 0 0)) = [] := rfl
@[simp] theorem z99c (m : z3la) (nl : Option Bool) (n : Nat) (cs : List z2a) : z3sc (.sl m nl n cs) = True := rfl
@[simp] theorem z8fd (i e o n c : Nat) : z3sc (.bv i e o n c) = True := rfl
@[simp] theorem z91c : z3sc (.lit (.slice none 0 0)) = True := rfl
@[simp] theorem okS_sl (esz : Nat) (b : Option Nat) (bx : Option (List z2a)) (m : z3la) (nl : Option Bool) (n : Nat) (cs : List z2a) : okS esz b bx (.sl m nl n cs) = (cs.length = n * esz) := rfl
@[simp] theorem okS_bv (esz : Nat) (b : Option Nat) (bx : Option (List z2a)) (i e o n c : Nat) : okS esz b bx (.bv i e o n c) = (b = some i ∧ e = esz ∧ (∃ cs, bx = some cs ∧ o + n * e ≤ cs.length)) := rfl
@[simp] theorem z49c (esz : Nat) (b : Option Nat) (bx : Option (List z2a)) : okS esz b bx (.lit (.slice none 0 0)) = True := rfl
@[simp] theorem z4Yc (f : Nat → Option (List z2a)) (b : Option Nat) (n i o : Nat) : z1Ea f b n (.bp i o) = (b = some i ∧ ∃ cs, f i = some cs ∧ o + n ≤ cs.length) := rfl
@[simp] theorem z30c (f : Nat → Option (List z2a)) (b : Option Nat) (n : Nat) (cs : List z2a) : z1Ea f b n (.ep cs) = (b = none ∧ n ≤ cs.length) := rfl
@[simp] theorem z01b (f : Nat → Option (List z2a)) (b : Option Nat) (i o : Nat) : z6v f b (.bp i o) = (bxl f b).drop o := rfl
@[simp] theorem z88b (f : Nat → Option (List z2a)) (b : Option Nat) (cs : List z2a) : z6v f b (.ep cs) = cs := rfl
@[simp] theorem z9Zb (v : z2a) : z62 none v = [dem v] := rfl
@[simp] theorem z0dc (n : Nat) (v : z2a) : z62 (some n) v = z3u v := rfl
@[simp] theorem z61c (v : z2a) : isK none v = z5d v := rfl
@[simp] theorem z8Qc (n : Nat) (cs : List z2a) : isK (some n) (.agg cs) = (cs.length = n ∧ (∀ c ∈ cs, z5d c) ∧ (∀ c ∈ cs, z2f c = false)) := rfl
@[simp] theorem z4xc (f : Nat) (x y as : List z2a) : z4C (.fn f x y) as = x ++ as ++ y := rfl
@[simp] theorem z3Lc (f : Nat → List z2a) (x : UInt8) : z0s f (u8 x) = u8 x := rfl
@[simp] theorem z81c (f : Nat → List z2a) (x : UInt8) : z8Z f (u8 x) = u8 x := rfl
@[simp] theorem z5Oc (f : Nat → List z2a) (x : UInt32) : z8Z f (u32 x) = u32 x := rfl
@[simp] theorem z6Bc (f : Nat → List z2a) (x : UInt64) : z8Z f (u64 x) = u64 x := rfl
@[simp] theorem z1Kc (f : Nat → List z2a) (x : Int) : z8Z f (i64 x) = i64 x := rfl
@[simp] theorem z0Yc (f : Nat → List z2a) (x : Bool) : z8Z f (bo x) = bo x := rfl
@[simp] theorem z11c (f : Nat → List z2a) (x : List UInt8) : z8Z f (st x) = st x := rfl
@[simp] theorem z1Ic (f : Nat → List z2a) (x : List z2a) : z8Z f (.agg x) = .agg x := rfl
@[simp] theorem z4wc (f : Nat → List z2a) : z8Z f (.lit (.slice none 0 0)) = .sl .plain (some true) 0 [] := rfl
@[simp] theorem z9Jc (f : Nat → List z2a) (e : Nat) (nl : Option Bool) (n : Nat) (cs : List z2a) : z8Z f (.sl (.own e) nl n cs) = .sl .plain nl n cs := rfl
@[simp] theorem z5cc (f : Nat → List z2a) (nl : Option Bool) (n : Nat) (cs : List z2a) : z8Z f (.sl .plain nl n cs) = .sl .plain nl n cs := rfl
@[simp] theorem z3kc (f : Nat → List z2a) (nl : Option Bool) (n : Nat) (cs : List z2a) : z8Z f (.sl .clip nl n cs) = .sl .plain nl n cs := rfl
@[simp] theorem z0Wc (f : Nat → List z2a) (i o : Nat) : z8Z f (.bp i o) = .ep ((f i).drop o) := rfl
@[simp] theorem z41c (f : Nat → List z2a) (i e o n c : Nat) : z8Z f (.bv i e o n c) = .sl .plain (some false) n (((f i).drop o).take (n * e)) := rfl
@[simp] theorem z7Uc (f : Nat → List z2a) (cs : List z2a) : z8Z f (.ep cs) = .ep cs := rfl
@[simp] theorem z7Qc (f : Nat → List z2a) (g : Nat) (x y : List z2a) : z8Z f (.fn g x y) = .fn g (x.map (z0s f)) (y.map (z0s f)) := rfl
@[simp] theorem z8Rc (bs : List Nat) (f : Nat → Option (List z2a)) (x : UInt8) : z1x bs f (u8 x) = True := by simp [z1x, z1o, u8, z5f]
@[simp] theorem z2Hc (bs : List Nat) (f : Nat → Option (List z2a)) (x : UInt32) : z1x bs f (u32 x) = True := by simp [z1x, z1o, u32, z5f]
@[simp] theorem z5Ac (bs : List Nat) (f : Nat → Option (List z2a)) (x : UInt64) : z1x bs f (u64 x) = True := by simp [z1x, z1o, u64, z5f]
@[simp] theorem z0Pc (bs : List Nat) (f : Nat → Option (List z2a)) (x : Int) : z1x bs f (i64 x) = True := by simp [z1x, z1o, i64, z5f]
@[simp] theorem z8Sc (bs : List Nat) (f : Nat → Option (List z2a)) (x : Bool) : z1x bs f (bo x) = True := by simp [z1x, z1o, bo, z5f]
@[simp] theorem z02c (bs : List Nat) (f : Nat → Option (List z2a)) (x : List UInt8) : z1x bs f (st x) = True := by simp [z1x, z1o, st, z5f]
@[simp] theorem z4Ic (bs : List Nat) (f : Nat → Option (List z2a)) (x : List z2a) : z1x bs f (.agg x) = (z7h x = true) := rfl
@[simp] theorem z3Tc (bs : List Nat) (f : Nat → Option (List z2a)) (m : z3la) (nl : Option Bool) (n : Nat) (cs : List z2a) : z1x bs f (.sl m nl n cs) = True := by simp [z1x, z1o]
@[simp] theorem z3wc (bs : List Nat) (f : Nat → Option (List z2a)) : z1x bs f (.lit (.slice none 0 0)) = True := by simp [z1x, z1o]
@[simp] theorem z1Rc (bs : List Nat) (f : Nat → Option (List z2a)) (i o : Nat) : z1x bs f (.bp i o) = (i ∈ bs ∧ ∃ cs, f i = some cs ∧ o ≤ cs.length) := rfl
@[simp] theorem z33c (bs : List Nat) (f : Nat → Option (List z2a)) (i e o n c : Nat) : z1x bs f (.bv i e o n c) = (i ∈ bs ∧ ∃ cs, f i = some cs ∧ o + n * e ≤ cs.length) := rfl
@[simp] theorem z7Wc (bs : List Nat) (f : Nat → Option (List z2a)) (cs : List z2a) : z1x bs f (.ep cs) = True := by simp [z1x, z1o]

/-! ### Whether operations may go ahead -/
@[simp] theorem z2hc (x : UInt32) (n : Int) : z3c .shr (u32 x) (i64 n) = (0 ≤ n) := rfl
@[simp] theorem z1ec (x : UInt32) (n : Int) : z3c .shl (u32 x) (i64 n) = (0 ≤ n) := rfl
@[simp] theorem z68b (x : UInt64) (n : Int) : z3c .shr (u64 x) (i64 n) = (0 ≤ n) := rfl
@[simp] theorem z08b (x : UInt64) (n : Int) : z3c .shl (u64 x) (i64 n) = (0 ≤ n) := rfl
@[simp] theorem z4Zb (x : UInt32) (n : UInt64) : z3c .shr (u32 x) (u64 n) = True := by simp [z3c, u32, u64]
@[simp] theorem z8Wb (x : UInt32) (n : UInt64) : z3c .shl (u32 x) (u64 n) = True := by simp [z3c, u32, u64]
@[simp] theorem z4Wb (x : UInt64) (n : UInt64) : z3c .shr (u64 x) (u64 n) = True := by simp [z3c, u64]
@[simp] theorem z9Yb (x : UInt64) (n : UInt64) : z3c .shl (u64 x) (u64 n) = True := by simp [z3c, u64]
@[simp] theorem z3Pc (x y : Int) : z3c .quo (i64 x) (i64 y) = (y ≠ 0) := by simp [z3c, i64]
@[simp] theorem z1Jc (x y : Int) : z3c .rem (i64 x) (i64 y) = (y ≠ 0) := by simp [z3c, i64]
@[simp] theorem z37b (x y : UInt64) : z3c .rem (u64 x) (u64 y) = (y ≠ 0) := by
 simp only [z3c, u64, true_and, ne_eq, Int.natCast_eq_zero, ← UInt64.toNat_inj]
 rfl
@[simp] theorem z1Zb (x y : UInt8) : z3c .add (u8 x) (u8 y) = True := by simp [z3c, u8]
@[simp] theorem z4Mb (x y : UInt32) : z3c .add (u32 x) (u32 y) = True := by simp [z3c, u32]
@[simp] theorem z1Db (x y : UInt64) : z3c .add (u64 x) (u64 y) = True := by simp [z3c, u64]
@[simp] theorem z2Db (x y : Int) : z3c .add (i64 x) (i64 y) = True := by simp [z3c, i64]
@[simp] theorem z9Wb (x y : UInt8) : z3c .sub (u8 x) (u8 y) = True := by simp [z3c, u8]
@[simp] theorem z6Kb (x y : UInt32) : z3c .sub (u32 x) (u32 y) = True := by simp [z3c, u32]
@[simp] theorem z2zb (x y : UInt64) : z3c .sub (u64 x) (u64 y) = True := by simp [z3c, u64]
@[simp] theorem z2Eb (x y : Int) : z3c .sub (i64 x) (i64 y) = True := by simp [z3c, i64]
@[simp] theorem z3Yb (x y : UInt8) : z3c .mul (u8 x) (u8 y) = True := by simp [z3c, u8]
@[simp] theorem z4Eb (x y : UInt32) : z3c .mul (u32 x) (u32 y) = True := by simp [z3c, u32]
@[simp] theorem z7Eb (x y : UInt64) : z3c .mul (u64 x) (u64 y) = True := by simp [z3c, u64]
@[simp] theorem z9zb (x y : Int) : z3c .mul (i64 x) (i64 y) = True := by simp [z3c, i64]
@[simp] theorem z0Wb (x y : UInt8) : z3c .and (u8 x) (u8 y) = True := by simp [z3c, u8]
@[simp] theorem z4Nb (x y : UInt32) : z3c .and (u32 x) (u32 y) = True := by simp [z3c, u32]
@[simp] theorem z8Ob (x y : UInt64) : z3c .and (u64 x) (u64 y) = True := by simp [z3c, u64]
@[simp] theorem z3Nb (x y : Int) : z3c .and (i64 x) (i64 y) = True := by simp [z3c, i64]
@[simp] theorem z1hc (x y : UInt8) : z3c .or (u8 x) (u8 y) = True := by simp [z3c, u8]
@[simp] theorem z0Tb (x y : UInt32) : z3c .or (u32 x) (u32 y) = True := by simp [z3c, u32]
@[simp] theorem z6Yb (x y : UInt64) : z3c .or (u64 x) (u64 y) = True := by simp [z3c, u64]
@[simp] theorem z7Wb (x y : Int) : z3c .or (i64 x) (i64 y) = True := by simp [z3c, i64]
@[simp] theorem z3Xb (x y : UInt8) : z3c .xor (u8 x) (u8 y) = True := by simp [z3c, u8]
@[simp] theorem z1Gb (x y : UInt32) : z3c .xor (u32 x) (u32 y) = True := by simp [z3c, u32]
@[simp] theorem z9Mb (x y : UInt64) : z3c .xor (u64 x) (u64 y) = True := by simp [z3c, u64]
@[simp] theorem z0Pb (x y : Int) : z3c .xor (i64 x) (i64 y) = True := by simp [z3c, i64]
@[simp] theorem z0Ub (x y : UInt8) : z3c .eql (u8 x) (u8 y) = True := by simp [z3c, u8]
@[simp] theorem z6Hb (x y : UInt32) : z3c .eql (u32 x) (u32 y) = True := by simp [z3c, u32]
@[simp] theorem z1Ob (x y : UInt64) : z3c .eql (u64 x) (u64 y) = True := by simp [z3c, u64]
@[simp] theorem z5Ib (x y : Int) : z3c .eql (i64 x) (i64 y) = True := by simp [z3c, i64]
@[simp] theorem z1Wb (x y : UInt8) : z3c .neq (u8 x) (u8 y) = True := by simp [z3c, u8]
@[simp] theorem z6Pb (x y : UInt32) : z3c .neq (u32 x) (u32 y) = True := by simp [z3c, u32]
@[simp] theorem z3Ob (x y : UInt64) : z3c .neq (u64 x) (u64 y) = True := by simp [z3c, u64]
@[simp] theorem z3Kb (x y : Int) : z3c .neq (i64 x) (i64 y) = True := by simp [z3c, i64]
@[simp] theorem z7Yb (x y : UInt8) : z3c .lss (u8 x) (u8 y) = True := by simp [z3c, u8]
@[simp] theorem z0Cb (x y : UInt32) : z3c .lss (u32 x) (u32 y) = True := by simp [z3c, u32]
@[simp] theorem z5Mb (x y : UInt64) : z3c .lss (u64 x) (u64 y) = True := by simp [z3c, u64]
@[simp] theorem z2Lb (x y : Int) : z3c .lss (i64 x) (i64 y) = True := by simp [z3c, i64]
@[simp] theorem z8Qb (x y : UInt8) : z3c .leq (u8 x) (u8 y) = True := by simp [z3c, u8]
@[simp] theorem z7Ib (x y : UInt32) : z3c .leq (u32 x) (u32 y) = True := by simp [z3c, u32]
@[simp] theorem z9Hb (x y : UInt64) : z3c .leq (u64 x) (u64 y) = True := by simp [z3c, u64]
@[simp] theorem z6Ob (x y : Int) : z3c .leq (i64 x) (i64 y) = True := by simp [z3c, i64]
@[simp] theorem z8Ub (x y : UInt8) : z3c .gtr (u8 x) (u8 y) = True := by simp [z3c, u8]
@[simp] theorem z7Fb (x y : UInt32) : z3c .gtr (u32 x) (u32 y) = True := by simp [z3c, u32]
@[simp] theorem z6Ib (x y : UInt64) : z3c .gtr (u64 x) (u64 y) = True := by simp [z3c, u64]
@[simp] theorem z3Jb (x y : Int) : z3c .gtr (i64 x) (i64 y) = True := by simp [z3c, i64]
@[simp] theorem z2Ub (x y : UInt8) : z3c .geq (u8 x) (u8 y) = True := by simp [z3c, u8]
@[simp] theorem z5Ob (x y : UInt32) : z3c .geq (u32 x) (u32 y) = True := by simp [z3c, u32]
@[simp] theorem z2Nb (x y : UInt64) : z3c .geq (u64 x) (u64 y) = True := by simp [z3c, u64]
@[simp] theorem z8Kb (x y : Int) : z3c .geq (i64 x) (i64 y) = True := by simp [z3c, i64]
@[simp] theorem z4Rb (x y : List UInt8) : z3c .eql (st x) (st y) = True := rfl
@[simp] theorem z8Yb (x y : List UInt8) : z3c .neq (st x) (st y) = True := rfl
@[simp] theorem z1Ub (x y : List UInt8) : z3c .lss (st x) (st y) = True := rfl
@[simp] theorem z0Yb (x y : List UInt8) : z3c .leq (st x) (st y) = True := rfl
@[simp] theorem z9Ub (x y : List UInt8) : z3c .gtr (st x) (st y) = True := rfl
@[simp] theorem z2Yb (x y : List UInt8) : z3c .geq (st x) (st y) = True := rfl
@[simp] theorem z3Sb (x y : List UInt8) : z3c .add (st x) (st y) = (((x.length + y.length : Nat) : Int) ≤ 9223372036854775807) := rfl
@[simp] theorem z3rc (x y : List UInt8) : z8L .add (st x) (st y) = st (x ++ y) := by
 show z2a.lit (.string (ByteArray.mk x.toArray ++ ByteArray.mk y.toArray)) = _
 rw [st]
 congr 2
@[simp] theorem z3pc (x y : List UInt8) : z8L .eql (st x) (st y) = bo (decide (x = y)) := by
 show z2a.lit (.bool ((ByteArray.mk x.toArray).toList == (ByteArray.mk y.toArray).toList)) = _
 rw [bo, ByteArray.toList_eq, ByteArray.toList_eq]
 congr 2
 rw [Bool.eq_iff_iff]
 simp
@[simp] theorem z8oc (x y : List UInt8) : z8L .neq (st x) (st y) = bo (!decide (x = y)) := by
 show z2a.lit (.bool (!((ByteArray.mk x.toArray).toList == (ByteArray.mk y.toArray).toList))) = _
 rw [bo, ByteArray.toList_eq, ByteArray.toList_eq]
 congr 2
 rw [Bool.eq_iff_iff]
 simp
@[simp] theorem z21c (x : Int) : z9Cb .neg (i64 x) = True := rfl
@[simp] theorem z6Zc (x : Bool) : z9Cb .not (bo x) = True := rfl
@[simp] theorem z4jc (x : UInt32) : z9Cb .xor (u32 x) = True := rfl
@[simp] theorem z5oc (x : UInt64) : z9Cb .xor (u64 x) = True := rfl

attribute [simp] lk ASt.get ASt.getB z7r z1va z5Xa arg bxc bxl bnd z4U z1c.W AOp.wrS z0Q z0E z2i z9ta z8aa z7h z4c
attribute [simp] z3ab z22a z5nc z8ma z3Mb
def z2lc (wr : List Nat) : Nat → List z2a → List (Nat × z2a)
 | _, [] => []
 | i, d :: ds => if wr.contains i then z2lc wr (i + 1) ds else (i, d) :: z2lc wr (i + 1) ds
def z5pc (wr : List Nat) : Nat → List z2a → List (Nat × z2a)
 | _, [] => []
 | i, d :: ds => if wr.contains i then (i, dem d) :: z5pc wr (i + 1) ds else z5pc wr (i + 1) ds
theorem z9rb (wr : List Nat) : ∀ (ds : List z2a) (i : Nat), z2lc wr i ds = (z0B i ds).filter fun p => !wr.contains p.1
 | [], i => rfl
 | d :: ds, i => by
  rw [z2lc, z0B, List.filter_cons, z9rb wr ds]
  show (if wr.contains i = true then _ else _) = if (!wr.contains i) = true then _ else _
  cases wr.contains i <;> rfl
theorem z4nb (wr : List Nat) : ∀ (ds : List z2a) (i : Nat), z5pc wr i ds = ((z0B i ds).filter fun p => wr.contains p.1).map fun p => (p.1, dem p.2)
 | [], i => rfl
 | d :: ds, i => by
  rw [z5pc, z0B, List.filter_cons, z4nb wr ds]
  show (if wr.contains i = true then _ else _) = List.map _ (if wr.contains i = true then _ else _)
  cases wr.contains i <;> rfl
@[simp] theorem z8Ic (wr : List Nat) (ds : List z2a) : z8c wr ds = ⟨z2lc wr 0 ds, z5pc wr 0 ds, []⟩ := by rw [z9rb, z4nb]; rfl
attribute [simp] z2lc z5pc

@[simp] theorem z2Xc (E : Env) (Q : z9p → ASt → Prop) (s : ASt) : awp E .skip Q s = Q .normal s := rfl
def z5kc (Q : z9p → ASt → Prop) : List z2P → ASt → Prop
 | [], st => Q .normal st
 | g :: gs, st => z7r g st ∧ z5kc Q gs (z5b g st)
def z6Ya (E : Env) (keep : List Nat) (gs : List z2P) (Q : z9p → ASt → Prop) : List z1c → ASt → Prop
 | [], st => z5kc Q gs (z0ha keep st)
 | o :: os, st => okA E o st ∧ z6Ya E keep gs Q os (z1h E o st)
theorem z8ob (Q : z9p → ASt → Prop) : ∀ (gs : List z2P) (st : ASt), z5kc Q gs st = (z8yb gs st ∧ Q .normal (z7Ea gs st))
 | [], st => by simp [z5kc, z8yb, z7Ea]
 | g :: gs, st => by simp only [z5kc, z8yb, z7Ea, z8ob Q gs]; exact propext and_assoc.symm
theorem z0Ja (E : Env) (keep : List Nat) (gs : List z2P) (Q : z9p → ASt → Prop) : ∀ (xs : List z1c) (st : ASt), z6Ya E keep gs Q xs st = (z45 E xs st ∧ z8yb gs (z0ha keep (z7ta E xs st)) ∧ Q .normal (z7Ea gs (z0ha keep (z7ta E xs st))))
 | [], st => by simp only [z6Ya, z45, z7ta, true_and]; exact z8ob Q gs _
 | o :: os, st => by simp only [z6Ya, z45, z7ta, z0Ja E keep gs Q os]; exact propext and_assoc.symm
@[simp] theorem z0x (E : Env) (keep : List Nat) (gs : List z2P) (xs : List z1c) (Q : z9p → ASt → Prop) (s : ASt) :
  awp E (.region keep gs xs) Q s = z6Ya E keep gs Q xs s := (z0Ja E keep gs Q xs s).symm
def z2Nc (o e : List (Nat × z2a)) (b : List (Nat × Option (List z2a))) (d : Nat) (x : Eff) : ASt := ⟨o, (d, x.val) :: (x.sl ++ e), x.bx ++ b⟩
def put0 (o e : List (Nat × z2a)) (b : List (Nat × Option (List z2a))) (x : Eff) : ASt := ⟨o, x.sl ++ e, x.bx ++ b⟩
def z3bb (o e : List (Nat × z2a)) (b : List (Nat × Option (List z2a))) (d : Nat) (t : Bool) (x : Eff) : ASt := if t then z2Nc o e b d x else ⟨o, (d, z3fa) :: e, b⟩
@[simp] theorem z6cd (o e : List (Nat × z2a)) (b : List (Nat × Option (List z2a))) (d : Nat) (v : z2a) (sl : List (Nat × z2a)) (bx : List (Nat × Option (List z2a))) : z2Nc o e b d ⟨v, sl, bx⟩ = ⟨o, (d, v) :: (sl ++ e), bx ++ b⟩ := rfl
@[simp] theorem z5ed (o e : List (Nat × z2a)) (b : List (Nat × Option (List z2a))) (v : z2a) (sl : List (Nat × z2a)) (bx : List (Nat × Option (List z2a))) : put0 o e b ⟨v, sl, bx⟩ = ⟨o, sl ++ e, bx ++ b⟩ := rfl
@[simp] theorem z6Uc (o e : List (Nat × z2a)) (b : List (Nat × Option (List z2a))) (d : Nat) (x : Eff) : z3bb o e b d true x = z2Nc o e b d x := rfl
@[simp] theorem z3Wc (o e : List (Nat × z2a)) (b : List (Nat × Option (List z2a))) (d : Nat) (x : Eff) : z3bb o e b d false x = ⟨o, (d, z3fa) :: e, b⟩ := rfl
@[simp] theorem z0Hc (E : Env) (d : Nat) (op : AOp) (o e : List (Nat × z2a)) (b : List (Nat × Option (List z2a))) :
  z1h E ⟨some d, none, op⟩ ⟨o, e, b⟩ = z2Nc o e b d (eff E (ASt.get ⟨o, e, b⟩) (ASt.getB ⟨o, e, b⟩) op) := rfl
@[simp] theorem z3Mc (E : Env) (op : AOp) (o e : List (Nat × z2a)) (b : List (Nat × Option (List z2a))) :
  z1h E ⟨none, none, op⟩ ⟨o, e, b⟩ = put0 o e b (eff E (ASt.get ⟨o, e, b⟩) (ASt.getB ⟨o, e, b⟩) op) := rfl
@[simp] theorem z8mc (E : Env) (d s : Nat) (w : Bool) (op : AOp) (o e : List (Nat × z2a)) (b : List (Nat × Option (List z2a))) :
  z1h E ⟨some d, some (s, w), op⟩ ⟨o, e, b⟩ = z3bb o e b d (z7Ya (ASt.get ⟨o, e, b⟩ s) w) (eff E (ASt.get ⟨o, e, b⟩) (ASt.getB ⟨o, e, b⟩) op) := by
 simp only [z1h, z3bb, z2Nc]
 generalize z7Ya (ASt.get ⟨o, e, b⟩ s) w = t
 cases t <;> simp
@[simp] theorem z29b (x w : Bool) : z7Ya (bo x) w = (x == w) := rfl
@[simp] theorem z6Kc (w : Bool) : z7Ya z3fa w = false := rfl
@[simp] theorem okG_bo (x : Bool) : okG (bo x) = True := eq_true (.inl trivial)
@[simp] theorem z8Zc : okG z3fa = True := eq_true (.inr rfl)
@[simp] theorem z5Zc : dem z3fa = z3fa := rfl
@[simp] theorem z6Hc : z9r z3fa = [] := rfl
attribute [simp] z5kc z6Ya
def z6Ea (f : Nat → z2a) : List Nat → List (Nat × z2a)
 | [] => []
 | s :: l => (s, f s) :: z6Ea f l
def z0pb (f : Nat → Option (List z2a)) : List Nat → List (Nat × Option (List z2a))
 | [] => []
 | s :: l => (s, f s) :: z0pb f l
def z81a (ids : List Nat) : List (Nat × Option (List z2a)) → List (Nat × Option (List z2a))
 | [] => []
 | p :: l => if ids.contains p.1 then z81a ids l else p :: z81a ids l
theorem z3Oa (f : Nat → z2a) : ∀ l, z6Ea f l = l.map fun s => (s, f s)
 | [] => rfl
 | s :: l => by rw [z6Ea, z3Oa f l]; rfl
theorem z0db (f : Nat → Option (List z2a)) : ∀ l, z0pb f l = l.map fun s => (s, f s)
 | [] => rfl
 | s :: l => by rw [z0pb, z0db f l]; rfl
theorem z1Ka (ids : List Nat) : ∀ l, z81a ids l = l.filter fun p => !ids.contains p.1
 | [] => rfl
 | p :: l => by
  rw [z81a, z1Ka ids l, List.filter_cons]
  cases ids.contains p.1 <;> rfl
attribute [simp] z6Ea z0pb z81a
@[simp] theorem z0Jb (keep : List Nat) (o e : List (Nat × z2a)) (b : List (Nat × Option (List z2a))) : z0ha keep ⟨o, e, b⟩ = ⟨o, z6Ea (ASt.get ⟨o, e, b⟩) keep, b⟩ := by rw [z3Oa]; rfl
@[simp] theorem z36b (ids : List Nat) (o e : List (Nat × z2a)) (b : List (Nat × Option (List z2a))) : z5b (.norm ids) ⟨o, e, b⟩ = ⟨o, e, z0pb (ASt.getB ⟨o, e, b⟩) ids⟩ := by rw [z0db]; rfl
@[simp] theorem z56c (ids : List Nat) (o e : List (Nat × z2a)) (b : List (Nat × Option (List z2a))) : z5b (.drop ids) ⟨o, e, b⟩ = ⟨o, e, z81a ids b⟩ := by rw [z1Ka]; rfl
def z63a (s : Nat) : List (Nat × z2a) → List (Nat × z2a)
 | [] => []
 | (k, v) :: l => if k = s then z63a s l else (k, v) :: z63a s l
theorem z2Oa (s : Nat) : ∀ l, z63a s l = l.filter fun p => decide (p.1 ≠ s)
 | [] => rfl
 | (k, v) :: l => by
  rw [z63a, z2Oa s l, List.filter_cons]
  by_cases h : k = s <;> simp [h]
attribute [simp] z63a
@[simp] theorem z5Qc (s : Nat) (o e : List (Nat × z2a)) (b : List (Nat × Option (List z2a))) : z5b (.unorg s) ⟨o, e, b⟩ = ⟨z63a s o, (s, ASt.get ⟨o, e, b⟩ s) :: e, b⟩ := by rw [z2Oa]; rfl
def z51b (b i : Nat) (x : Option (List z2a)) (box : List (Nat × Option (List z2a))) : List (Nat × Option (List z2a)) := match x with | some bs => (b, some (bs.set i .undef)) :: box | none => box
@[simp] theorem z2sc (b i : Nat) (bs : List z2a) (box : List (Nat × Option (List z2a))) : z51b b i (some bs) box = (b, some (bs.set i .undef)) :: box := rfl
@[simp] theorem z1Zc (b i : Nat) (o e : List (Nat × z2a)) (box : List (Nat × Option (List z2a))) : z5b (.hideB b i) ⟨o, e, box⟩ = ⟨o, e, z51b b i (ASt.getB ⟨o, e, box⟩ b) box⟩ := by
 simp only [z5b, z51b]
 split <;> simp_all
def reL (b i : Nat) (r : Option Nat) (x : Option (List z2a)) (box : List (Nat × Option (List z2a))) : List (Nat × Option (List z2a)) := match x with | some bs => (b, some (bs.set i (z4ea r (bs.getD i .undef)))) :: box | none => box
@[simp] theorem z4Wc (b i : Nat) (r : Option Nat) (bs : List z2a) (box : List (Nat × Option (List z2a))) : reL b i r (some bs) box = (b, some (bs.set i (z4ea r (bs.getD i .undef)))) :: box := rfl
@[simp] theorem reB_mk (b i : Nat) (r : Option Nat) (o e : List (Nat × z2a)) (box : List (Nat × Option (List z2a))) : z5b (.reB b i r) ⟨o, e, box⟩ = ⟨o, e, reL b i r (ASt.getB ⟨o, e, box⟩ b) box⟩ := by
 simp only [z5b, reL]
 split <;> simp_all
@[simp] theorem z77b (c : z2a) : z4ea none c = dem c := rfl
@[simp] theorem z3mc (e : Nat) : z4ea (some e) (.sl .plain (some true) 0 []) = .sl (.own e) none 0 [] := rfl
@[simp] theorem z34c (keep : List Nat) (o e : List (Nat × z2a)) (b : List (Nat × Option (List z2a))) : z5b (.keep keep) ⟨o, e, b⟩ = ⟨o, z6Ea (ASt.get ⟨o, e, b⟩) keep, b⟩ := z0Jb keep o e b
@[simp] theorem z1Nc (ids : List Nat) (o e : List (Nat × z2a)) (b : List (Nat × Option (List z2a))) : z5b (.freeze ids) ⟨o, e, b⟩ =
  ⟨o, e.map fun p => (p.1, z9ta ids (fun id => (ASt.getB ⟨o, e, b⟩ id).getD []) p.2), (z81a ids b).map fun p => (p.1, p.2.map (z8aa ids fun id => (ASt.getB ⟨o, e, b⟩ id).getD []))⟩ := by rw [z1Ka]; rfl
@[simp] theorem z9F (E : Env) (a b : z4a) (Q : z9p → ASt → Prop) (s : ASt) : awp E (.seq a b) Q s = awp E a (z1va (awp E b Q) Q) s := rfl
theorem z3b (E : Env) (c : Arg) (a b : z4a) (Q : z9p → ASt → Prop) (s : ASt) :
  awp E (.cond c a b) Q s = (isB (arg E s.get c) ∧ (asB (arg E s.get c) = true → awp E a Q s) ∧ (asB (arg E s.get c) = false → awp E b Q s)) := rfl
@[simp] theorem z1Mc (E : Env) (id : Nat) (b : z4a) (Q : z9p → ASt → Prop) (s : ASt) : awp E (.block id b) Q s = awp E b (z5Xa id Q) s := rfl
@[simp] theorem z2Cc (E : Env) (b : z4a) (Q : z9p → ASt → Prop) (s : ASt) : awp E (.scope b) Q s = awp E b Q s := rfl
@[simp] theorem z63c (E : Env) (id : Nat) (Q : z9p → ASt → Prop) (s : ASt) : awp E (.exit id) Q s = Q (.exit id) s := rfl
@[simp] theorem z75c (E : Env) (Q : z9p → ASt → Prop) (s : ASt) : awp E .ret Q s = Q .ret s := rfl
@[simp] theorem z9fa (E : Env) (g : z2P) (c : z4a) (Q : z9p → ASt → Prop) (s : ASt) : awp E (.ghost g c) Q s = (z7r g s ∧ awp E c Q (z5b g s)) := rfl

attribute [simp] okA eff okp okp.okApp z0za z3Ya

/-! ### Reading arguments -/
def nth (ds : List z2a) (i : Nat) : z2a := ds.getD i .undef
def gU8 (v : z2a) : UInt8 := UInt8.ofInt (asI v)
def z0Vb (v : z2a) : UInt32 := UInt32.ofInt (asI v)
def z5fd (v : z2a) : UInt64 := UInt64.ofInt (asI v)
def gS (v : z2a) : List UInt8 := (asS v).data.toList
def gCs (v : z2a) : List z2a := match v with | .agg cs => cs | .sl _ _ _ cs => cs | .ep cs => cs | .tup cs => cs | _ => []
def gBs (l : List z2a) : List UInt8 := l.map gU8
def gWs (l : List z2a) : List UInt32 := l.map z0Vb
@[simp] theorem nth_0 (d : z2a) (ds : List z2a) : nth (d :: ds) 0 = d := rfl
@[simp] theorem nth_s (d : z2a) (ds : List z2a) (i : Nat) : nth (d :: ds) (i + 1) = nth ds i := rfl
@[simp] theorem z4Ub (x : UInt8) : gU8 (u8 x) = x := by
 apply UInt8.toNat_inj.1
 rw [gU8, z5ta, z8rb]
 have := x.toNat_lt
 omega
@[simp] theorem z86a (x : UInt32) : z0Vb (u32 x) = x := by
 apply UInt32.toNat_inj.1
 rw [z0Vb, z4pb, z33b]
 have := x.toNat_lt
 omega
@[simp] theorem z16a (x : UInt64) : z5fd (u64 x) = x := by
 apply UInt64.toNat_inj.1
 rw [z5fd, z6sa, z6ac]
 have := x.toNat_lt
 omega
@[simp] theorem z1Gc (l : List UInt8) : gS (st l) = l := rfl
@[simp] theorem z95c (l : List z2a) : gCs (.agg l) = l := rfl
@[simp] theorem z65c (l : List z2a) : gCs (.tup l) = l := rfl
@[simp] theorem gCs_ep (l : List z2a) : gCs (.ep l) = l := rfl
@[simp] theorem gCs_sl (m : z3la) (nl : Option Bool) (n : Nat) (l : List z2a) : gCs (.sl m nl n l) = l := rfl
@[simp] theorem z54c : gCs (.lit (.slice none 0 0)) = [] := rfl
@[simp] theorem z1pb (l : List UInt8) : gBs (bys l) = l := by simp [gBs, bys, Function.comp_def]
@[simp] theorem z77a (l : List UInt32) : gWs (z6p l) = l := by simp [gWs, z6p, Function.comp_def]
@[simp] theorem z0ad : gBs [] = [] := rfl

@[simp] theorem u8_inj (x y : UInt8) : (u8 x = u8 y) = (x = y) := propext ⟨fun h => by rw [← z4Ub x, h, z4Ub], fun h => by rw [h]⟩
@[simp] theorem z1ed (x y : UInt32) : (u32 x = u32 y) = (x = y) := propext ⟨fun h => by rw [← z86a x, h, z86a], fun h => by rw [h]⟩
@[simp] theorem z9gd (x y : UInt64) : (u64 x = u64 y) = (x = y) := propext ⟨fun h => by rw [← z16a x, h, z16a], fun h => by rw [h]⟩
@[simp] theorem z6ed (x y : Int) : (i64 x = i64 y) = (x = y) := propext ⟨fun h => by rw [← z9kb x, h, z9kb], fun h => by rw [h]⟩
@[simp] theorem bo_inj (x y : Bool) : (bo x = bo y) = (x = y) := propext ⟨fun h => by rw [← z6Rb x, h, z6Rb], fun h => by rw [h]⟩
@[simp] theorem st_inj (x y : List UInt8) : (st x = st y) = (x = y) := propext ⟨fun h => by rw [← z1Gc x, h, z1Gc], fun h => by rw [h]⟩
@[simp] theorem z3cd (x y : List UInt8) : (bys x = bys y) = (x = y) := propext ⟨fun h => by rw [← z1pb x, h, z1pb], fun h => by rw [h]⟩
@[simp] theorem z6Yc (x y : List UInt32) : (z6p x = z6p y) = (x = y) := propext ⟨fun h => by rw [← z77a x, h, z77a], fun h => by rw [h]⟩
theorem z1ya (x : UInt32) (l : List UInt32) : z6p (x :: l) = u32 x :: z6p l := rfl

/-! ### Loops -/
theorem z3a {E : Env} {c : z4a} {Q : z9p → ASt → Prop} {st : ASt} (h : ∀ Q', Q' = Q → awp E c Q' st) : awp E c Q st := h Q rfl
theorem z7d {E : Env} {b : z4a} {Q : z9p → ASt → Prop} {st : ASt} {α : Type} (S : α → ASt) (μ : α → Nat) (inv : α → Prop) (a0 : α) (h0 : st = S a0) (hi : inv a0)
  (hr : ∀ a, inv a → awp E b (z1va (fun st' => ∃ a', μ a' < μ a ∧ inv a' ∧ st' = S a') Q) (S a)) : awp E (.loop b) Q st := by
 refine ⟨fun m st => ∃ a, μ a = m ∧ inv a ∧ st = S a, ⟨μ a0, a0, rfl, hi, h0⟩, ?_⟩
 rintro m _ ⟨a, rfl, hia, rfl⟩
 have e : (z1va (fun st' => ∃ a', μ a' < μ a ∧ inv a' ∧ st' = S a') Q) = (z1va (fun st' => ∃ m', m' < μ a ∧ ∃ a', μ a' = m' ∧ inv a' ∧ st' = S a') Q) := by
  funext e st'
  cases e <;> simp only [z1va]
  apply propext
  constructor
  ·rintro ⟨a', h1, h2, h3⟩; exact ⟨_, h1, a', rfl, h2, h3⟩
  ·rintro ⟨_, h1, a', rfl, h2, h3⟩; exact ⟨a', h1, h2, h3⟩
 rw [← e]
 exact hr a hia

/-! ### Splices -/
@[simp] theorem z7ub (a x : z2a) (l : List z2a) : splice (a :: l) 0 [x] = x :: l := by simp [splice]
@[simp] theorem z5Zb (a : z2a) (l : List z2a) (n : Nat) (xs : List z2a) : splice (a :: l) (n + 1) xs = a :: splice l n xs := by
 simp only [splice, List.take_succ_cons, List.cons_append, List.cons.injEq, true_and]
 congr 1
 rw [show n + 1 + xs.length = (n + xs.length) + 1 by omega, List.drop_succ_cons]
theorem z9f {l xs : List z2a} (h : xs.length = l.length) : splice l 0 xs = xs := by simp [splice, h]
theorem z5ba {a b xs : List z2a} {n : Nat} (h : n + xs.length ≤ a.length) : splice (a ++ b) n xs = splice a n xs ++ b := by
 simp only [splice, List.append_assoc]
 rw [List.take_append_of_le_length (by omega), List.drop_append_of_le_length h]
theorem z2V {a b xs : List z2a} {n : Nat} (h : a.length ≤ n) : splice (a ++ b) n xs = a ++ splice b (n - a.length) xs := by
 simp only [splice]
 rw [List.take_append, List.take_of_length_le h, List.drop_append, List.drop_of_length_le (by omega)]
 simp only [List.append_assoc, List.nil_append]
 rw [show n + xs.length - a.length = n - a.length + xs.length by omega]
theorem z9qa {l : List UInt8} {n : Nat} {x : UInt8} (h : n < l.length) : splice (bys l) n [u8 x] = bys (l.set n x) := by
 simp only [splice, bys, ← List.map_take, ← List.map_drop, List.length_singleton]
 rw [List.set_eq_take_append_cons_drop, if_pos h]
 simp
theorem z0G {l : List UInt32} {n : Nat} {x : UInt32} (h : n < l.length) : splice (z6p l) n [u32 x] = z6p (l.set n x) := by
 simp only [splice, z6p, ← List.map_take, ← List.map_drop, List.length_singleton]
 rw [List.set_eq_take_append_cons_drop, if_pos h]
 simp
def at8 (l : List UInt8) (i : Nat) : UInt8 := l.getD i 0
def z5q (l : List UInt32) (i : Nat) : UInt32 := l.getD i 0
theorem z1Cb {l : List z2a} {n : Nat} : hdA (l.drop n) = l.getD n .undef := by
 rw [hdA, List.headD_eq_head?_getD, List.head?_drop]
 rfl
theorem z4Hb {l : List UInt8} {n : Nat} (h : n < l.length) : (bys l).getD n .undef = u8 (at8 l n) := by
 simp [at8, bys, List.getD, List.getElem?_eq_getElem h]
theorem z7xa {l : List UInt32} {n : Nat} (h : n < l.length) : (z6p l).getD n .undef = u32 (z5q l n) := by
 simp [z5q, z6p, List.getD, List.getElem?_eq_getElem h]
theorem z2Ia {l : List UInt8} {n : Nat} (h : n < l.length) : hdA (bys (l.drop n)) = u8 (at8 l n) := by rw [← z8ab, z1Cb, z4Hb h]
theorem z33a {l : List UInt8} (h : 0 < l.length) : hdA (bys l) = u8 (at8 l 0) := by rw [← z2Ia h, List.drop_zero]
@[simp] theorem z5Jc (l : List UInt32) (n : Nat) : (z6p l).take n = z6p (l.take n) := by simp [z6p]
@[simp] theorem z0Ba (l : List UInt32) (n : Nat) : (z6p l).drop n = z6p (l.drop n) := by simp [z6p]
theorem z2Y {l : List UInt32} {n : Nat} (h : n < l.length) : hdA (z6p (l.drop n)) = u32 (z5q l n) := by rw [← z0Ba, z1Cb, z7xa h]
theorem z2Ib {l : List UInt32} (h : 0 < l.length) : hdA (z6p l) = u32 (z5q l 0) := by rw [← z2Y h, List.drop_zero]
@[simp] theorem z1Sb (l : List UInt32) (i : Nat) (h : i < (z6p l).length) : (z6p l)[i] = u32 (z5q l i) := by
 have h' : i < l.length := by simpa using h
 simp [z5q, z6p, List.getElem?_eq_getElem h']
@[simp] theorem z95b (l : List UInt8) (i : Nat) (h : i < (bys l).length) : (bys l)[i] = u8 (at8 l i) := by
 have h' : i < l.length := by simpa using h
 simp [at8, bys, List.getElem?_eq_getElem h']
@[simp] theorem z9Ob (x : UInt32) (l : List UInt32) : hdA (z6p (x :: l)) = u32 x := rfl
@[simp] theorem z0Sb (x : UInt8) (l : List UInt8) : hdA (bys (x :: l)) = u8 x := rfl
@[simp] theorem z13c (a : z2a) (l : List z2a) : hdA (a :: l) = a := rfl
theorem z58a {a b : List UInt32} {i : Nat} (h : i < a.length) : z5q (a ++ b) i = z5q a i := by simp [z5q, List.getD, List.getElem?_append_left h]
theorem z8pb {a b : List UInt8} {i : Nat} (h : a.length ≤ i) : at8 (a ++ b) i = at8 b (i - a.length) := by simp [at8, List.getD, List.getElem?_append_right h]
theorem z2fb {a b : List UInt32} {i : Nat} (h : a.length ≤ i) : z5q (a ++ b) i = z5q b (i - a.length) := by simp [z5q, List.getD, List.getElem?_append_right h]
theorem z6ab {a : List UInt8} {i n : Nat} (h : i < n) : at8 (a.take n) i = at8 a i := by simp [at8, List.getD, List.getElem?_take, h]
@[simp] theorem z2Qc {a : List UInt8} {i n : Nat} : at8 (a.drop n) i = at8 a (n + i) := by simp [at8, List.getD]
@[simp] theorem z9Gc {a : List UInt32} {i n : Nat} : z5q (a.drop n) i = z5q a (n + i) := by simp [z5q, List.getD]
@[simp] theorem z7wc (x : UInt32) (l : List UInt32) : z5q (x :: l) 0 = x := rfl
@[simp] theorem z5Lc (x : UInt32) (l : List UInt32) (n : Nat) : z5q (x :: l) (n + 1) = z5q l n := rfl
@[simp] theorem z3Fb (x : UInt8) (l : List UInt8) : at8 (x :: l) 0 = x := rfl
@[simp] theorem z0Xc (x : UInt8) (l : List UInt8) (n : Nat) : at8 (x :: l) (n + 1) = at8 l n := rfl

def ks8 (n : Nat) : List LK := List.replicate n (.int .u8)
@[simp] theorem z18b (n : Nat) (l : List UInt8) : z7C (ks8 n) (bys l) = (l.length = n) := by
 induction n generalizing l with
 | zero => cases l <;> simp [ks8, z7C, bys]
 | succ n ih =>
  cases l with
  | nil => simp [ks8, List.replicate_succ, z7C, bys]
  | cons x l =>
   have := ih l
   simp only [ks8, bys] at this
   simp [ks8, List.replicate_succ, z7C, bys, z5Vc, u8, this]
theorem z2b {n : Nat} {a b : List UInt8} (ha : a.length = n) (hb : b.length = n) : z1P (ks8 n) (bys a) (bys b) = decide (a = b) := by
 induction n generalizing a b with
 | zero =>
  have e1 := List.length_eq_zero_iff.1 ha
  have e2 := List.length_eq_zero_iff.1 hb
  subst e1; subst e2
  rfl
 | succ n ih =>
  match a, b, ha, hb with
  | x :: a, y :: b, ha, hb =>
   have := ih (a := a) (b := b) (by simpa using ha) (by simpa using hb)
   simp only [ks8, bys] at this
   simp only [ks8, List.replicate_succ, bys, List.map_cons, z1P, z0Zc, z8rb, this]
   rw [Bool.eq_iff_iff]
   simp only [Bool.and_eq_true, beq_iff_eq, decide_eq_true_eq, List.cons.injEq, ← UInt8.toNat_inj, Int.natCast_inj]
@[simp] theorem z0id (l : List UInt8) : (ByteArray.mk l.toArray).size = l.length := by simp [ByteArray.size]
@[simp] theorem mod64 (n : UInt64) : ((n.toNat : Int) % 64).toNat = n.toNat % 64 := by omega
@[simp] theorem z3qb (n : Int) : z2a.lit (.int .i64 n) = i64 n := rfl
@[simp] theorem lit_bo (b : Bool) : z2a.lit (.bool b) = bo b := rfl
@[simp] theorem z3bd (x : UInt8) : z2a.lit (.int .u8 (x.toNat : Int)) = u8 x := rfl
@[simp] theorem z8jb (l : List UInt8) : z2a.lit (.string (z54 (bys l))) = st l := by
 simp only [st, z54, bys, List.map_map]
 congr 3
 rw [show ((fun c => UInt8.ofNat (asI c).toNat) ∘ u8) = id from funext fun x => by simp [z8rb]]
 simp
@[simp] theorem z8jc (x : UInt8) : z2a.lit (.string (z54 [u8 x])) = st [x] := z8jb [x]
@[simp] theorem z3bc (l : List UInt8) (a b : Nat) : z2a.lit (.string ((ByteArray.mk l.toArray).extract a b)) = st ((l.drop a).take (b - a)) := by
 simp only [st]
 congr 2
 apply ByteArray.ext
 rw [ByteArray.data_extract]
 simp [List.extract]
attribute [simp] z9u z61a z5la z1fc z4qa okM z7yb z3ja z8Ib fnd Abs.ren z4ua
@[simp] theorem ren_u8 (m : List (Nat × Nat)) (x : UInt8) : Abs.ren m (u8 x) = u8 x := rfl
@[simp] theorem z09c (m : List (Nat × Nat)) (x : UInt32) : Abs.ren m (u32 x) = u32 x := rfl
@[simp] theorem z84c (m : List (Nat × Nat)) (x : UInt64) : Abs.ren m (u64 x) = u64 x := rfl
@[simp] theorem z2id (m : List (Nat × Nat)) (x : Int) : Abs.ren m (i64 x) = i64 x := rfl
@[simp] theorem ren_bo (m : List (Nat × Nat)) (x : Bool) : Abs.ren m (bo x) = bo x := rfl
@[simp] theorem ren_st (m : List (Nat × Nat)) (x : List UInt8) : Abs.ren m (st x) = st x := rfl
end Go.Abs
end

section
namespace Go.Abs
def gv (t : Bool) (v : z2a) : z2a := if t then v else z3fa
def gok (t : Bool) (p : Prop) : Prop := t = true → p
@[simp] theorem gv_t (v : z2a) : gv true v = v := rfl
@[simp] theorem gv_f (v : z2a) : gv false v = z3fa := rfl
@[simp] theorem gok_f (p : Prop) : gok false p = True := by simp [gok]
@[simp] theorem gok_t (p : Prop) : gok true p = p := by simp [gok]
@[simp] theorem gok_T (t : Bool) : gok t True = True := by simp [gok]
@[simp high] theorem z8zc (E : Env) (d s : Nat) (w : Bool) (op : AOp) (o e : List (Nat × z2a)) (b : List (Nat × Option (List z2a))) :
  okA E ⟨some d, some (s, w), op⟩ ⟨o, e, b⟩ = ((∀ x ∈ d :: op.wrS, lk o x = none) ∧ okG (ASt.get ⟨o, e, b⟩ s) ∧ gok (z7Ya (ASt.get ⟨o, e, b⟩ s) w) (okp E (ASt.get ⟨o, e, b⟩) (ASt.getB ⟨o, e, b⟩) op)) := rfl
@[simp] theorem z2cd (t x w : Bool) : z7Ya (gv t (bo x)) w = (t && (x == w)) := by cases t <;> simp
@[simp] theorem okG_gv (t x : Bool) : okG (gv t (bo x)) = True := by cases t <;> simp
@[simp] theorem dem_gv (t : Bool) (v : z2a) : dem (gv t v) = gv t (dem v) := by cases t <;> rfl
end Go.Abs
end

section
namespace Go.Abs
/-! ### structs that are built, step by step -/
def z31b (get : Nat → z2a) (n : Nat) : z2a := dem (get n)
@[simp] theorem z7ad (get : Nat → z2a) (n : Nat) : z31b get n = dem (get n) := rfl
@[simp ↓ high] theorem z3Sc (E : Env) (get : Nat → z2a) (getB : Nat → Option (List z2a)) (z : List z2a) (ps : List (Nat × Nat × Arg)) : eff E get getB (.build z ps) = { val := .agg (z0Q E (z31b get) ps z) } := rfl
@[simp ↓ high] theorem z0Vc (E : Env) (get : Nat → z2a) (getB : Nat → Option (List z2a)) (z : List z2a) (ps : List (Nat × Nat × Arg)) : okp E get getB (.build z ps) = z0E E (z31b get) ps z.length := rfl
def z9fd (d dd : z2a) (cs : List z2a) (i s : Nat) : Eff := match d with | .sl (.own e) nl n c => { val := .oagg (cs.take i) e nl n c (cs.drop (i + 1)), sl := [(s, dd)] } | _ => { val := .undef }
@[simp] theorem z9Wc (e : Nat) (nl : Option Bool) (n : Nat) (c : List z2a) (dd : z2a) (cs : List z2a) (i s : Nat) : z9fd (.sl (.own e) nl n c) dd cs i s = { val := .oagg (cs.take i) e nl n c (cs.drop (i + 1)), sl := [(s, dd)] } := rfl
@[simp ↓ high] theorem z7Xc (E : Env) (get : Nat → z2a) (getB : Nat → Option (List z2a)) (z : List z2a) (ps : List (Nat × Nat × Arg)) (i s : Nat) : eff E get getB (.buildO z ps i s) = z9fd (get s) (dem (get s)) (z0Q E (z31b get) (ps ++ [(i, 1, .s s)]) z) i s := by
 simp only [eff, z9fd]
 rfl
@[simp ↓ high] theorem z2Vc (E : Env) (get : Nat → z2a) (getB : Nat → Option (List z2a)) (z : List z2a) (ps : List (Nat × Nat × Arg)) (i s : Nat) : okp E get getB (.buildO z ps i s) = (z0E E (z31b get) (ps ++ [(i, 1, .s s)]) z.length ∧ (match get s with | .sl (.own _) _ _ _ => True | _ => False)) := rfl
@[simp ↓ high] theorem z0Sc (E : Env) (d : Nat) (z : List z2a) (ps : List (Nat × Nat × Arg)) (i s : Nat) (o e : List (Nat × z2a)) (b : List (Nat × Option (List z2a))) : okA E ⟨some d, none, .buildO z ps i s⟩ ⟨o, e, b⟩ =
  ((lk o d = none ∧ lk o s = none) ∧ z0E E (z31b (ASt.get ⟨o, e, b⟩)) (ps ++ [(i, 1, .s s)]) z.length ∧ (match ASt.get ⟨o, e, b⟩ s with | .sl (.own _) _ _ _ => True | _ => False)) := by
 have h : (∀ x ∈ [d, s], lk o x = none) = (lk o d = none ∧ lk o s = none) := by simp
 rw [← h]; rfl
@[simp ↓ high] theorem z4Xc (E : Env) (d : Nat) (z : List z2a) (ps : List (Nat × Nat × Arg)) (o e : List (Nat × z2a)) (b : List (Nat × Option (List z2a))) : okA E ⟨some d, none, .build z ps⟩ ⟨o, e, b⟩ =
  (lk o d = none ∧ z0E E (z31b (ASt.get ⟨o, e, b⟩)) ps z.length) := by
 have h : (∀ x ∈ [d], lk o x = none) = (lk o d = none) := by simp
 rw [← h]; rfl
def z8Lb (b : Bool) : List Nat → List z1c → Option (List Nat)
 | ks, [] => some ks
 | ks, ⟨some d, some (t, w), op⟩ :: xs => if ks.contains t && (w != b) && op.wrS.isEmpty then z8Lb b (ks.filter (· != d)) xs else none
 | ks, ⟨some d, none, .mv false (.s t)⟩ :: xs => if ks.contains t then z8Lb b (d :: ks) xs else none
 | ks, ⟨some d, none, .pick (.s t) (.c (.lit (.bool x))) (.s _)⟩ :: xs => if ks.contains t && b && x then z8Lb b (d :: ks) xs else none
 | ks, ⟨some d, none, .pick (.s t) (.s _) (.c (.lit (.bool x)))⟩ :: xs => if ks.contains t && !b && !x then z8Lb b (d :: ks) xs else none
 | _, _ => none
def wrT (xs : List z1c) : List Nat := xs.flatMap fun o => o.dst.toList
structure z7fc (b : Bool) (ks : List Nat) (ws : List Nat) (st st' : ASt) : Prop where
 org : st'.org = st.org
 box : st'.box = st.box
 val : ∀ s ∈ ks, st'.get s = bo b
 same : ∀ s, s ∉ ws → st'.get s = st.get s
theorem z4Gb (o : List (Nat × z2a)) (d : Nat) (v : z2a) (e : List (Nat × z2a)) (b : List (Nat × Option (List z2a))) (s : Nat) : ASt.get ⟨o, (d, v) :: e, b⟩ s = if s = d then v else ASt.get ⟨o, e, b⟩ s := by
 by_cases h : s = d
 ·simp only [ASt.get, lk, if_pos h]
 ·simp only [ASt.get, lk, if_neg h]
theorem z0bb (E : Env) (b : Bool) : ∀ (xs : List z1c) (ks ks' : List Nat) (st : ASt), z8Lb b ks xs = some ks' → (∀ s ∈ ks, st.get s = bo b) → (∀ s ∈ wrT xs, lk st.org s = none) → z45 E xs st ∧ z7fc b ks' (wrT xs) st (z7ta E xs st)
 | [], ks, ks', st, hc, hk, _ => by
  simp only [z8Lb, Option.some.injEq] at hc
  subst hc
  exact ⟨trivial, rfl, rfl, hk, fun _ _ => rfl⟩
 | o :: xs, ks, ks', st, hc, hk, ho => by
  have one : ∀ (d : Nat) (v : z2a) (ks1 : List Nat), o.dst = some d → okA E o st → z1h E o st = ⟨st.org, (d, v) :: st.env, st.box⟩ → z8Lb b ks1 xs = some ks' → (∀ s ∈ ks1, s = d → v = bo b) → (∀ s ∈ ks1, s ≠ d → s ∈ ks) → z45 E (o :: xs) st ∧ z7fc b ks' (wrT (o :: xs)) st (z7ta E (o :: xs) st) := by
   intro d v ks1 hd hok hst hc1 h1 h2
   have hg : ∀ s, ASt.get ⟨st.org, (d, v) :: st.env, st.box⟩ s = if s = d then v else st.get s := fun s => z4Gb _ _ _ _ _ _
   obtain ⟨k1, k2⟩ := z0bb E b xs ks1 ks' ⟨st.org, (d, v) :: st.env, st.box⟩ hc1 (fun s hs => by
    rw [hg]
    split
    ·rename_i e; exact h1 s hs e
    ·rename_i e; exact hk s (h2 s hs e)) (fun s hs => ho s (by simp only [wrT, List.flatMap_cons, List.mem_append]; exact .inr hs))
   refine ⟨⟨hok, by rw [hst]; exact k1⟩, ?_⟩
   show z7fc b ks' (wrT (o :: xs)) st (z7ta E xs (z1h E o st))
   rw [hst]
   refine ⟨k2.org, k2.box, k2.val, fun s hs => ?_⟩
   simp only [wrT, List.flatMap_cons, List.mem_append, not_or] at hs
   rw [k2.same s hs.2, hg, if_neg]
   intro e
   apply hs.1
   rw [hd, e]
   simp
  have hW : ∀ d, o.dst = some d → o.op.wrS = [] → ∀ s ∈ o.W, lk st.org s = none := fun d hd hw s hs => by
   apply ho
   simp only [z1c.W, hd, hw, List.append_nil, Option.toList_some, List.mem_singleton] at hs
   simp only [wrT, List.flatMap_cons, List.mem_append, hd, hs]
   exact .inl (by simp)
  unfold z8Lb at hc
  split at hc
  ·cases xs <;> simp at *
  ·rename_i ks0 d t w op xs0 e
   simp only [List.cons.injEq] at e
   obtain ⟨rfl, rfl⟩ := e
   split at hc
   ·rename_i hh
    simp only [Bool.and_eq_true, List.contains_eq_mem, decide_eq_true_eq, bne_iff_ne, List.isEmpty_iff] at hh
    obtain ⟨⟨h1, h2⟩, h3⟩ := hh
    have hv := hk t h1
    have hgate : z7Ya (st.get t) w = false := by rw [hv, z29b]; exact beq_eq_false_iff_ne.2 (Ne.symm h2)
    refine one d z3fa _ rfl ⟨hW d rfl h3, .inl (by rw [hv]; trivial), fun e => by rw [hgate] at e; cases e⟩ ?_ hc ?_ ?_
    ·simp only [z1h, hgate, Bool.false_eq_true, if_false, Option.toList_some, List.map_cons, List.map_nil, List.cons_append, List.nil_append]
    ·intro s hs e
     simp [e] at hs
    ·intro s hs e
     simp only [List.mem_filter] at hs
     exact hs.1
   ·cases hc
  ·rename_i ks0 d t xs0 e
   simp only [List.cons.injEq] at e
   obtain ⟨rfl, rfl⟩ := e
   split at hc
   ·rename_i hh
    simp only [List.contains_eq_mem, decide_eq_true_eq] at hh
    have hv := hk t hh
    refine one d (bo b) _ rfl ⟨hW d rfl rfl, trivial⟩ ?_ hc (fun _ _ _ => rfl) (fun s hs e => by simpa [e] using hs)
    simp only [z1h, eff, arg, hv, Option.toList_some, List.map_cons, List.map_nil, List.cons_append, List.nil_append]
    rfl
   ·cases hc
  ·rename_i ks0 d t x y xs0 e
   simp only [List.cons.injEq] at e
   obtain ⟨rfl, rfl⟩ := e
   split at hc
   ·rename_i hh
    simp only [Bool.and_eq_true, List.contains_eq_mem, decide_eq_true_eq] at hh
    obtain ⟨⟨h1, rfl⟩, rfl⟩ := hh
    have hv := hk t h1
    refine one d (bo true) _ rfl ⟨hW d rfl rfl, ?_⟩ ?_ hc (fun _ _ _ => rfl) (fun s hs e => by simpa [e] using hs)
    ·simp only [okp, arg, hv]; trivial
    ·simp only [z1h, eff, arg, hv, Option.toList_some, List.map_cons, List.map_nil, List.cons_append, List.nil_append]
     rfl
   ·cases hc
  ·rename_i ks0 d t y x xs0 e
   simp only [List.cons.injEq] at e
   obtain ⟨rfl, rfl⟩ := e
   split at hc
   ·rename_i hh
    simp only [Bool.and_eq_true, List.contains_eq_mem, decide_eq_true_eq, Bool.not_eq_true'] at hh
    obtain ⟨⟨h1, rfl⟩, rfl⟩ := hh
    have hv := hk t h1
    refine one d (bo false) _ rfl ⟨hW d rfl rfl, ?_⟩ ?_ hc (fun _ _ _ => rfl) (fun s hs e => by simpa [e] using hs)
    ·simp only [okp, arg, hv]; trivial
    ·simp only [z1h, eff, arg, hv, Option.toList_some, List.map_cons, List.map_nil, List.cons_append, List.nil_append]
     rfl
   ·cases hc
  ·cases hc
theorem z1dc (f : Nat → z2a) (keep : List Nat) (o : List (Nat × z2a)) (bx : List (Nat × Option (List z2a))) {x : Nat} (hx : x ∈ keep) : ASt.get ⟨o, keep.map fun x => (x, f x), bx⟩ x = f x := by
 have h := z9X f x keep
 rw [if_pos hx] at h
 simp only [ASt.get, h]
theorem z7Ca {E : Env} {keep : List Nat} {gs : List z2P} {Q : z9p → ASt → Prop} {xs : List z1c} {st : ASt} (n : Nat) (h : ∀ T, T = xs.drop n → z6Ya E keep gs Q (xs.take n ++ T) st) : z6Ya E keep gs Q xs st := by
 have := h _ rfl
 rwa [List.take_append_drop] at this
theorem z4b {E : Env} {keep : List Nat} {gs : List z2P} {Q : z9p → ASt → Prop} {xs ys : List z1c} {st : ASt} (h : ∀ T, T = ys → z6Ya E keep gs Q (xs ++ T) st) : z6Ya E keep gs Q (xs ++ ys) st := h ys rfl
theorem z0ac (E : Env) (id : Nat) (b : z4a) (Q : z9p → ASt → Prop) (s : ASt) : awp E (.block id b) Q s = awp E b (z5Xa id Q) s := rfl
theorem z2s {E : Env} {Q : z9p → ASt → Prop} {s : ASt} {a b : z4a} (h : ∀ B, B = b → awp E (.seq a B) Q s) : awp E (.seq a b) Q s := h b rfl
def vdG (b : Bool) (d : Nat) (st : ASt) (x : Nat) : z2a := if x = d then bo b else st.get x
@[simp] theorem vdG_eq (b : Bool) (d : Nat) (st : ASt) (x : Nat) : vdG b d st x = if x = d then bo b else st.get x := rfl
theorem z6Ua (f : Nat → z2a) : ∀ l : List Nat, z6Ea f l = l.map fun s => (s, f s)
 | [] => rfl
 | s :: l => by simp only [z6Ea, List.map_cons, z6Ua f l]
theorem z7c {E : Env} {keep : List Nat} {gs : List z2P} {Q : z9p → ASt → Prop} {xs : List z1c} {o e : List (Nat × z2a)} {bx : List (Nat × Option (List z2a))} (b : Bool) (s d : Nat) (hs : ASt.get ⟨o, e, bx⟩ s = bo b)
  (hc : ((z8Lb b [s] xs).any fun ks => ks.contains d && keep.all fun x => x == d || !(wrT xs).contains x) = true) (ho : ((wrT xs).all fun x => (lk o x).isNone) = true)
  (h : z6Ya E keep gs Q [] ⟨o, z6Ea (vdG b d ⟨o, e, bx⟩) keep, bx⟩) : z6Ya E keep gs Q xs ⟨o, e, bx⟩ := by
 rw [z6Ua] at h
 simp only [vdG] at h
 simp only [Option.any_eq_true, Bool.and_eq_true, List.contains_eq_mem, decide_eq_true_eq, List.all_eq_true, Bool.or_eq_true, beq_iff_eq, Bool.not_eq_true', decide_eq_false_iff_not] at hc
 obtain ⟨ks, h1, h2, h3⟩ := hc
 simp only [List.all_eq_true, Option.isNone_iff_eq_none] at ho
 obtain ⟨k1, k2⟩ := z0bb E b xs [s] ks ⟨o, e, bx⟩ h1 (fun x hx => by rw [List.mem_singleton.1 hx]; exact hs) ho
 rw [z0Ja] at h ⊢
 simp only [z45, z7ta, true_and] at h
 refine ⟨k1, ?_⟩
 have : z0ha keep (z7ta E xs ⟨o, e, bx⟩) = z0ha keep ⟨o, keep.map fun x => (x, if x = d then bo b else ASt.get ⟨o, e, bx⟩ x), bx⟩ := by
  unfold z0ha
  rw [k2.org, k2.box]
  simp only [ASt.mk.injEq, true_and, and_true]
  refine List.map_congr_left fun x hx => ?_
  have hg : ASt.get ⟨o, keep.map fun x => (x, if x = d then bo b else ASt.get ⟨o, e, bx⟩ x), bx⟩ x = if x = d then bo b else ASt.get ⟨o, e, bx⟩ x := by
   exact z1dc _ keep o bx hx
  rw [hg]
  rcases h3 x hx with rfl | h4
  ·rw [if_pos rfl, k2.val x h2]
  ·split
   ·rename_i e; rw [e, k2.val d h2]
   ·rw [k2.same x h4]
 rw [this]
 exact h
end Go.Abs
end

section
namespace Go.Abs
theorem z1Xa (E : Env) (b : Option Nat) (i id : Nat) (c : z4a) (Q : z9p → ASt → Prop) (s : ASt) : awp E (.thawc b i id c) Q s = (z2za b i id s ∧ ∀ m, awp E c Q (z9ga b i id m s)) := rfl
theorem z0nb (E : Env) (s t : Nat) (c : z4a) (Q : z9p → ASt → Prop) (st : ASt) : awp E (.holdc s t c) Q st = ∃ V, z2pb s t st V ∧ ∀ V', z5Nb V' = z5Nb V → awp E c Q (z0Ua s t V' st) := rfl
theorem z3Lb (E : Env) (a b : z4a) (Q : z9p → ASt → Prop) (s : ASt) : awp E (.alt a b) Q s = (awp E a Q s ∨ awp E b Q s) := rfl
theorem z2xb {b i id m : Nat} {o e : List (Nat × z2a)} {box : List (Nat × Option (List z2a))} {bs : List z2a} {k n : Nat} {nl : Option Bool} {cs : List z2a} (h : ASt.getB ⟨o, e, box⟩ b = some bs) (h2 : bs.getD i .undef = .sl (.own k) nl n cs) :
  z9ga (some b) i id m ⟨o, e, box⟩ = ⟨o, e, (b, some (bs.set i (.bv id k 0 n (n + m)))) :: (id, some (cs ++ List.replicate (m * k) .undef)) :: box⟩ := by
 simp only [z9ga, h, h2]
theorem z6lb {i id m : Nat} {o e : List (Nat × z2a)} {box : List (Nat × Option (List z2a))} {k n : Nat} {nl : Option Bool} {cs : List z2a} (h : ASt.get ⟨o, e, box⟩ i = .sl (.own k) nl n cs) :
  z9ga none i id m ⟨o, e, box⟩ = ⟨o, (i, .bv id k 0 n (n + m)) :: e, (id, some (cs ++ List.replicate (m * k) .undef)) :: box⟩ := by
 simp only [z9ga, h]
theorem z3Bb {b i id : Nat} {o e : List (Nat × z2a)} {box : List (Nat × Option (List z2a))} {bs : List z2a} {j k q n c : Nat} {cs : List z2a} (h : ASt.getB ⟨o, e, box⟩ b = some bs) (h2 : bs.getD i .undef = .bv j k q n c) (h3 : ASt.getB ⟨o, e, box⟩ id = some cs) :
  z5b (.coolB b i id) ⟨o, e, box⟩ = ⟨o, e, (b, some (bs.set i (.sl (.own k) none n (cs.take (n * k))))) :: (id, none) :: box⟩ := by
 simp only [z5b, h, h2, h3, Option.getD_some]
@[simp] theorem z3Gc (ks : List Nat) (o e : List (Nat × z2a)) (b : List (Nat × Option (List z2a))) : z5b (.rebase ks) ⟨o, e, b⟩ = ⟨z6Ea (ASt.get ⟨o, e, b⟩) ks ++ o, e.filter fun p => !ks.contains p.1, b⟩ := by
 rw [z3Oa]; rfl
theorem z1qb (s t : Nat) (V : Value) (o e : List (Nat × z2a)) (b : List (Nat × Option (List z2a))) : z0Ua s t V ⟨o, e, b⟩ = ⟨(t, .lit V) :: z63a s o, (s, ASt.get ⟨o, e, b⟩ s) :: (t, ASt.get ⟨o, e, b⟩ t) :: e, b⟩ := by rw [z2Oa]; rfl
end Go.Abs
end
