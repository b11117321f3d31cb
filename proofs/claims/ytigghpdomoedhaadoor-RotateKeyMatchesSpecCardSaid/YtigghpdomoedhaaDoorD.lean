/- Lemmas: an abstract interpreter, and what the functions compute. -/
import Derived.Test.YtigghpdomoedhaaDoorC
set_option linter.unusedSimpArgs false
set_option linter.unusedVariables false
set_option linter.unusedSectionVars false
section
namespace Go.Abs

def u8 (x : UInt8) : AVal := .lit (.int .u8 x.toNat)
def u32 (x : UInt32) : AVal := .lit (.int .u32 x.toNat)
def u64 (x : UInt64) : AVal := .lit (.int .u64 x.toNat)
def i64 (x : Int) : AVal := .lit (.int .i64 x)
def bo (x : Bool) : AVal := .lit (.bool x)
def st (l : List UInt8) : AVal := .lit (.string ⟨l.toArray⟩)
def bys (l : List UInt8) : List AVal := l.map u8
def w32s (l : List UInt32) : List AVal := l.map u32
def W (n : Int) : Int := IntKind.i64.wrap n

theorem W_id {n : Int} (h0 : -9223372036854775808 ≤ n) (h1 : n ≤ 9223372036854775807) : W n = n := by
  unfold W IntKind.wrap IntKind.bits IntKind.signed
  simp only [Bool.true_and, decide_eq_true_eq]
  split <;> omega

theorem wrap_u8 (n : Nat) : IntKind.u8.wrap (n : Int) = ((n % 256 : Nat) : Int) := by
  unfold IntKind.wrap IntKind.bits IntKind.signed
  simp
theorem wrap_u32 (n : Nat) : IntKind.u32.wrap (n : Int) = ((n % 4294967296 : Nat) : Int) := by
  unfold IntKind.wrap IntKind.bits IntKind.signed
  simp
theorem wrap_u64 (n : Nat) : IntKind.u64.wrap (n : Int) = ((n % 18446744073709551616 : Nat) : Int) := by
  unfold IntKind.wrap IntKind.bits IntKind.signed
  simp

section looks
@[simp] theorem asI_u8 (x : UInt8) : asI (u8 x) = x.toNat := rfl
@[simp] theorem asI_u32 (x : UInt32) : asI (u32 x) = x.toNat := rfl
@[simp] theorem asI_u64 (x : UInt64) : asI (u64 x) = x.toNat := rfl
@[simp] theorem asI_i64 (x : Int) : asI (i64 x) = x := rfl
@[simp] theorem asB_bo (x : Bool) : asB (bo x) = x := rfl
@[simp] theorem asS_st (l : List UInt8) : asS (st l) = ⟨l.toArray⟩ := rfl
@[simp] theorem isB_bo (x : Bool) : isB (bo x) ↔ True := by simp [isB, bo]
@[simp] theorem isI_u8 (x : UInt8) : isI (u8 x) ↔ True := by simp [isI, u8]
@[simp] theorem isI_u32 (x : UInt32) : isI (u32 x) ↔ True := by simp [isI, u32]
@[simp] theorem isI_u64 (x : UInt64) : isI (u64 x) ↔ True := by simp [isI, u64]
@[simp] theorem isI_i64 (x : Int) : isI (i64 x) ↔ True := by simp [isI, i64]
@[simp] theorem isIk_u8 (x : UInt8) : isIk .u8 (u8 x) ↔ True := by simp [isIk, u8]
@[simp] theorem isS_st (l : List UInt8) : isS (st l) ↔ True := by simp [isS, st]
@[simp] theorem dem_u8 (x : UInt8) : dem (u8 x) = u8 x := rfl
@[simp] theorem dem_u32 (x : UInt32) : dem (u32 x) = u32 x := rfl
@[simp] theorem dem_u64 (x : UInt64) : dem (u64 x) = u64 x := rfl
@[simp] theorem dem_i64 (x : Int) : dem (i64 x) = i64 x := rfl
@[simp] theorem dem_bo (x : Bool) : dem (bo x) = bo x := rfl
@[simp] theorem dem_st (x : List UInt8) : dem (st x) = st x := rfl
@[simp] theorem isCell_u8 (x : UInt8) : isCell (u8 x) ↔ True := by simp [isCell, u8]
@[simp] theorem isCell_u32 (x : UInt32) : isCell (u32 x) ↔ True := by simp [isCell, u32]
@[simp] theorem isCell_u64 (x : UInt64) : isCell (u64 x) ↔ True := by simp [isCell, u64]
@[simp] theorem isCell_i64 (x : Int) : isCell (i64 x) ↔ True := by simp [isCell, i64]
@[simp] theorem isCell_bo (x : Bool) : isCell (bo x) ↔ True := by simp [isCell, bo]
@[simp] theorem isCell_st (x : List UInt8) : isCell (st x) ↔ True := by simp [isCell, st]
@[simp] theorem pureB_u8 (x : UInt8) : pureB (u8 x) = true := rfl
@[simp] theorem pureB_u32 (x : UInt32) : pureB (u32 x) = true := rfl
@[simp] theorem pureB_u64 (x : UInt64) : pureB (u64 x) = true := rfl
@[simp] theorem pureB_i64 (x : Int) : pureB (i64 x) = true := rfl
@[simp] theorem pureB_bo (x : Bool) : pureB (bo x) = true := rfl
@[simp] theorem pureB_st (x : List UInt8) : pureB (st x) = true := rfl
@[simp] theorem memFree_u8 (x : UInt8) : memFree (u8 x) = true := rfl
@[simp] theorem memFree_u32 (x : UInt32) : memFree (u32 x) = true := rfl
@[simp] theorem memFree_u64 (x : UInt64) : memFree (u64 x) = true := rfl
@[simp] theorem memFree_i64 (x : Int) : memFree (i64 x) = true := rfl
@[simp] theorem memFree_bo (x : Bool) : memFree (bo x) = true := rfl
@[simp] theorem memFree_st (x : List UInt8) : memFree (st x) = true := rfl
@[simp] theorem refs_u8 (x : UInt8) : refs (u8 x) = [] := rfl
@[simp] theorem refs_u32 (x : UInt32) : refs (u32 x) = [] := rfl
@[simp] theorem refs_u64 (x : UInt64) : refs (u64 x) = [] := rfl
@[simp] theorem refs_i64 (x : Int) : refs (i64 x) = [] := rfl
@[simp] theorem refs_bo (x : Bool) : refs (bo x) = [] := rfl
@[simp] theorem refs_st (x : List UInt8) : refs (st x) = [] := rfl
@[simp] theorem ownTop_u8 (x : UInt8) : ownTop (u8 x) = false := rfl
@[simp] theorem ownTop_u32 (x : UInt32) : ownTop (u32 x) = false := rfl
@[simp] theorem ownTop_u64 (x : UInt64) : ownTop (u64 x) = false := rfl
@[simp] theorem ownTop_i64 (x : Int) : ownTop (i64 x) = false := rfl
@[simp] theorem ownTop_bo (x : Bool) : ownTop (bo x) = false := rfl
@[simp] theorem ownTop_st (x : List UInt8) : ownTop (st x) = false := rfl
@[simp] theorem cellsA_u8 (x : UInt8) : cellsA (u8 x) = [u8 x] := rfl
@[simp] theorem cellsA_u32 (x : UInt32) : cellsA (u32 x) = [u32 x] := rfl
@[simp] theorem cellsA_u64 (x : UInt64) : cellsA (u64 x) = [u64 x] := rfl
@[simp] theorem cellsA_i64 (x : Int) : cellsA (i64 x) = [i64 x] := rfl
@[simp] theorem cellsA_bo (x : Bool) : cellsA (bo x) = [bo x] := rfl
@[simp] theorem cellsA_st (x : List UInt8) : cellsA (st x) = [st x] := rfl
@[simp] theorem slen_st (l : List UInt8) : slen (st l) = l.length := by simp [slen, st, ByteArray.size]
@[simp] theorem scells_st (bx : List AVal) (l : List UInt8) : scells bx (st l) = bys l := by simp [scells, st, bys, u8]
end looks

section arith
@[simp] theorem bin_i64_add (x y : Int) : binV .add (i64 x) (i64 y) = i64 (W (x + y)) := rfl
@[simp] theorem bin_i64_sub (x y : Int) : binV .sub (i64 x) (i64 y) = i64 (W (x - y)) := rfl
@[simp] theorem bin_i64_mul (x y : Int) : binV .mul (i64 x) (i64 y) = i64 (W (x * y)) := rfl
@[simp] theorem bin_i64_quo (x y : Int) : binV .quo (i64 x) (i64 y) = i64 (W (x.tdiv y)) := rfl
@[simp] theorem bin_i64_rem (x y : Int) : binV .rem (i64 x) (i64 y) = i64 (x.tmod y) := rfl
@[simp] theorem bin_i64_eql (x y : Int) : binV .eql (i64 x) (i64 y) = bo (x == y) := rfl
@[simp] theorem bin_i64_neq (x y : Int) : binV .neq (i64 x) (i64 y) = bo (x != y) := rfl
@[simp] theorem bin_i64_lss (x y : Int) : binV .lss (i64 x) (i64 y) = bo (decide (x < y)) := rfl
@[simp] theorem bin_i64_leq (x y : Int) : binV .leq (i64 x) (i64 y) = bo (decide (x ≤ y)) := rfl
@[simp] theorem bin_i64_gtr (x y : Int) : binV .gtr (i64 x) (i64 y) = bo (decide (y < x)) := rfl
@[simp] theorem bin_i64_geq (x y : Int) : binV .geq (i64 x) (i64 y) = bo (decide (y ≤ x)) := rfl

theorem lit_u32 {n : Int} {x : UInt32} (h : n = x.toNat) : AVal.lit (.int .u32 n) = u32 x := by rw [h]; rfl
theorem lit_u8 {n : Int} {x : UInt8} (h : n = x.toNat) : AVal.lit (.int .u8 n) = u8 x := by rw [h]; rfl
theorem lit_u64 {n : Int} {x : UInt64} (h : n = x.toNat) : AVal.lit (.int .u64 n) = u64 x := by rw [h]; rfl

theorem bv_ofInt (k n : Nat) : (BitVec.ofInt k (n : Int)).toNat = n % 2 ^ k := by
  simp [BitVec.toNat_ofInt]
theorem of_u32 (x : UInt32) : BitVec.ofInt 32 (x.toNat : Int) = x.toBitVec := by
  apply BitVec.eq_of_toNat_eq
  rw [bv_ofInt]
  exact Nat.mod_eq_of_lt x.toNat_lt
theorem of_u8 (x : UInt8) : BitVec.ofInt 8 (x.toNat : Int) = x.toBitVec := by
  apply BitVec.eq_of_toNat_eq
  rw [bv_ofInt]
  exact Nat.mod_eq_of_lt x.toNat_lt
theorem of_u64 (x : UInt64) : BitVec.ofInt 64 (x.toNat : Int) = x.toBitVec := by
  apply BitVec.eq_of_toNat_eq
  rw [bv_ofInt]
  exact Nat.mod_eq_of_lt x.toNat_lt
theorem wrap_bv32 (x : BitVec 32) : IntKind.u32.wrap (x.toNat : Int) = (x.toNat : Int) := by rw [wrap_u32, Nat.mod_eq_of_lt x.isLt]
theorem wrap_bv8 (x : BitVec 8) : IntKind.u8.wrap (x.toNat : Int) = (x.toNat : Int) := by rw [wrap_u8, Nat.mod_eq_of_lt x.isLt]
theorem wrap_bv64 (x : BitVec 64) : IntKind.u64.wrap (x.toNat : Int) = (x.toNat : Int) := by rw [wrap_u64, Nat.mod_eq_of_lt x.isLt]

@[simp] theorem bin_u32_add (x y : UInt32) : binV .add (u32 x) (u32 y) = u32 (x + y) := lit_u32 (by
  show IntKind.u32.wrap ((x.toNat : Int) + y.toNat) = _
  rw [← Int.natCast_add, wrap_u32, UInt32.toNat_add])
@[simp] theorem bin_u8_add (x y : UInt8) : binV .add (u8 x) (u8 y) = u8 (x + y) := lit_u8 (by
  show IntKind.u8.wrap ((x.toNat : Int) + y.toNat) = _
  rw [← Int.natCast_add, wrap_u8, UInt8.toNat_add])
@[simp] theorem bin_u64_add (x y : UInt64) : binV .add (u64 x) (u64 y) = u64 (x + y) := lit_u64 (by
  show IntKind.u64.wrap ((x.toNat : Int) + y.toNat) = _
  rw [← Int.natCast_add, wrap_u64, UInt64.toNat_add])
@[simp] theorem bin_u64_mul (x y : UInt64) : binV .mul (u64 x) (u64 y) = u64 (x * y) := lit_u64 (by
  show IntKind.u64.wrap ((x.toNat : Int) * y.toNat) = _
  rw [← Int.natCast_mul, wrap_u64, UInt64.toNat_mul])
@[simp] theorem bin_u32_and (x y : UInt32) : binV .and (u32 x) (u32 y) = u32 (x &&& y) := lit_u32 (by
  show IntKind.u32.wrap ((BitVec.ofInt 32 x.toNat &&& BitVec.ofInt 32 y.toNat).toNat : Int) = _
  rw [of_u32, of_u32, wrap_bv32]
  rfl)
@[simp] theorem bin_u32_or (x y : UInt32) : binV .or (u32 x) (u32 y) = u32 (x ||| y) := lit_u32 (by
  show IntKind.u32.wrap ((BitVec.ofInt 32 x.toNat ||| BitVec.ofInt 32 y.toNat).toNat : Int) = _
  rw [of_u32, of_u32, wrap_bv32]
  rfl)
@[simp] theorem bin_u32_xor (x y : UInt32) : binV .xor (u32 x) (u32 y) = u32 (x ^^^ y) := lit_u32 (by
  show IntKind.u32.wrap ((BitVec.ofInt 32 x.toNat ^^^ BitVec.ofInt 32 y.toNat).toNat : Int) = _
  rw [of_u32, of_u32, wrap_bv32]
  rfl)
@[simp] theorem bin_u8_or (x y : UInt8) : binV .or (u8 x) (u8 y) = u8 (x ||| y) := lit_u8 (by
  show IntKind.u8.wrap ((BitVec.ofInt 8 x.toNat ||| BitVec.ofInt 8 y.toNat).toNat : Int) = _
  rw [of_u8, of_u8, wrap_bv8]
  rfl)
@[simp] theorem bin_u8_xor (x y : UInt8) : binV .xor (u8 x) (u8 y) = u8 (x ^^^ y) := lit_u8 (by
  show IntKind.u8.wrap ((BitVec.ofInt 8 x.toNat ^^^ BitVec.ofInt 8 y.toNat).toNat : Int) = _
  rw [of_u8, of_u8, wrap_bv8]
  rfl)
@[simp] theorem bin_u64_or (x y : UInt64) : binV .or (u64 x) (u64 y) = u64 (x ||| y) := lit_u64 (by
  show IntKind.u64.wrap ((BitVec.ofInt 64 x.toNat ||| BitVec.ofInt 64 y.toNat).toNat : Int) = _
  rw [of_u64, of_u64, wrap_bv64]
  rfl)

@[simp] theorem bin_u8_eql (x y : UInt8) : binV .eql (u8 x) (u8 y) = bo (x == y) := by
  show AVal.lit (.bool ((x.toNat : Int) == y.toNat)) = .lit (.bool _)
  congr 2
  rw [Bool.eq_iff_iff]
  simp only [beq_iff_eq, bne_iff_ne, ne_eq, ← UInt8.toNat_inj]
  omega
@[simp] theorem bin_u8_neq (x y : UInt8) : binV .neq (u8 x) (u8 y) = bo (x != y) := by
  show AVal.lit (.bool ((x.toNat : Int) != y.toNat)) = .lit (.bool _)
  congr 2
  rw [Bool.eq_iff_iff]
  simp only [beq_iff_eq, bne_iff_ne, ne_eq, ← UInt8.toNat_inj]
  omega
@[simp] theorem bin_u64_eql (x y : UInt64) : binV .eql (u64 x) (u64 y) = bo (x == y) := by
  show AVal.lit (.bool ((x.toNat : Int) == y.toNat)) = .lit (.bool _)
  congr 2
  rw [Bool.eq_iff_iff]
  simp only [beq_iff_eq, bne_iff_ne, ne_eq, ← UInt64.toNat_inj]
  omega
@[simp] theorem bin_u64_gtr (x y : UInt64) : binV .gtr (u64 x) (u64 y) = bo (decide (y < x)) := by
  show AVal.lit (.bool (decide ((x.toNat : Int) > y.toNat))) = .lit (.bool _)
  congr 2
  simp [UInt64.lt_iff_toNat_lt]
@[simp] theorem bin_u64_lss (x y : UInt64) : binV .lss (u64 x) (u64 y) = bo (decide (x < y)) := by
  show AVal.lit (.bool (decide ((x.toNat : Int) < y.toNat))) = .lit (.bool _)
  congr 2
  simp [UInt64.lt_iff_toNat_lt]
@[simp] theorem bin_u64_rem (x y : UInt64) : binV .rem (u64 x) (u64 y) = u64 (x % y) := lit_u64 (by
  show ((x.toNat : Int).tmod y.toNat) = _
  rw [UInt64.toNat_mod]
  rfl)
@[simp] theorem un_u32_xor (x : UInt32) : unV .xor (u32 x) = u32 (~~~x) := lit_u32 (by
  show IntKind.u32.wrap ((BitVec.ofInt 32 4294967295 ^^^ BitVec.ofInt 32 x.toNat).toNat : Int) = _
  rw [of_u32, wrap_bv32]
  have e : (BitVec.ofInt 32 4294967295) = BitVec.allOnes 32 := by decide
  rw [e, BitVec.allOnes_xor]
  rfl)
@[simp] theorem un_u64_xor (x : UInt64) : unV .xor (u64 x) = u64 (~~~x) := lit_u64 (by
  show IntKind.u64.wrap ((BitVec.ofInt 64 18446744073709551615 ^^^ BitVec.ofInt 64 x.toNat).toNat : Int) = _
  rw [of_u64, wrap_bv64]
  have e : (BitVec.ofInt 64 18446744073709551615) = BitVec.allOnes 64 := by decide
  rw [e, BitVec.allOnes_xor]
  rfl)
@[simp] theorem un_not (x : Bool) : unV .not (bo x) = bo (!x) := rfl
@[simp] theorem un_i64_neg (x : Int) : unV .neg (i64 x) = i64 (W (-x)) := by
  show AVal.lit (.int .i64 (IntKind.i64.wrap (0 - x))) = _
  rw [Int.zero_sub]; rfl
end arith

/-! ### Shifts and conversions -/
def shr32 (x : UInt32) (n : Nat) : UInt32 := ⟨x.toBitVec >>> n⟩
def shl32 (x : UInt32) (n : Nat) : UInt32 := ⟨x.toBitVec <<< n⟩
def shr64 (x : UInt64) (n : Nat) : UInt64 := ⟨x.toBitVec >>> n⟩
def shl64 (x : UInt64) (n : Nat) : UInt64 := ⟨x.toBitVec <<< n⟩

theorem shr_val (b n : Nat) (x : BitVec b) : ((x.toNat : Int).fdiv (2 ^ min n b)) = ((x >>> n).toNat : Int) := by
  have h2 : ((2 : Int) ^ min n b) = ((2 ^ min n b : Nat) : Int) := by simp
  rw [h2, BitVec.toNat_ushiftRight, Nat.shiftRight_eq_div_pow]
  have : ((x.toNat : Int).fdiv ((2 ^ min n b : Nat) : Int)) = ((x.toNat / 2 ^ min n b : Nat) : Int) := by
    rw [Int.fdiv_eq_ediv_of_nonneg _ (Int.natCast_nonneg _)]
    rfl
  rw [this]
  rcases Nat.le_total n b with h | h
  · rw [Nat.min_eq_left h]
  · rw [Nat.min_eq_right h, Nat.div_eq_of_lt x.isLt, Nat.div_eq_of_lt]
    exact Nat.lt_of_lt_of_le x.isLt (Nat.pow_le_pow_right (by decide) h)

theorem shl_val (b n : Nat) (x : BitVec b) : (x.toNat * 2 ^ min n b) % 2 ^ b = (x <<< n).toNat := by
  rw [BitVec.toNat_shiftLeft, Nat.shiftLeft_eq]
  rcases Nat.le_total n b with h | h
  · rw [Nat.min_eq_left h]
  · rw [Nat.min_eq_right h, Nat.mul_mod_left]
    obtain ⟨k, rfl⟩ := Nat.exists_eq_add_of_le h
    rw [Nat.pow_add, ← Nat.mul_assoc, Nat.mul_right_comm, Nat.mul_mod_left]

theorem shl_cast (x n b : Nat) : ((x : Int) * 2 ^ min n b) = ((x * 2 ^ min n b : Nat) : Int) := by simp

@[simp] theorem bin_u32_shr (x : UInt32) (n : Int) : binV .shr (u32 x) (i64 n) = u32 (shr32 x n.toNat) := lit_u32 (shr_val 32 n.toNat x.toBitVec)
@[simp] theorem bin_u32_shr' (x : UInt32) (n : UInt64) : binV .shr (u32 x) (u64 n) = u32 (shr32 x n.toNat) := lit_u32 (shr_val 32 n.toNat x.toBitVec)
@[simp] theorem bin_u64_shr (x : UInt64) (n : Int) : binV .shr (u64 x) (i64 n) = u64 (shr64 x n.toNat) := lit_u64 (shr_val 64 n.toNat x.toBitVec)
@[simp] theorem bin_u64_shr' (x : UInt64) (n : UInt64) : binV .shr (u64 x) (u64 n) = u64 (shr64 x n.toNat) := lit_u64 (shr_val 64 n.toNat x.toBitVec)
@[simp] theorem bin_u32_shl (x : UInt32) (n : Int) : binV .shl (u32 x) (i64 n) = u32 (shl32 x n.toNat) := lit_u32 (by
  show IntKind.u32.wrap ((x.toNat : Int) * 2 ^ min n.toNat 32) = _
  rw [shl_cast, wrap_u32]
  exact congrArg _ (shl_val 32 n.toNat x.toBitVec))
@[simp] theorem bin_u32_shl' (x : UInt32) (n : UInt64) : binV .shl (u32 x) (u64 n) = u32 (shl32 x n.toNat) := lit_u32 (by
  show IntKind.u32.wrap ((x.toNat : Int) * 2 ^ min n.toNat 32) = _
  rw [shl_cast, wrap_u32]
  exact congrArg _ (shl_val 32 n.toNat x.toBitVec))
@[simp] theorem bin_u64_shl (x : UInt64) (n : Int) : binV .shl (u64 x) (i64 n) = u64 (shl64 x n.toNat) := lit_u64 (by
  show IntKind.u64.wrap ((x.toNat : Int) * 2 ^ min n.toNat 64) = _
  rw [shl_cast, wrap_u64]
  exact congrArg _ (shl_val 64 n.toNat x.toBitVec))
@[simp] theorem bin_u64_shl' (x : UInt64) (n : UInt64) : binV .shl (u64 x) (u64 n) = u64 (shl64 x n.toNat) := lit_u64 (by
  show IntKind.u64.wrap ((x.toNat : Int) * 2 ^ min n.toNat 64) = _
  rw [shl_cast, wrap_u64]
  exact congrArg _ (shl_val 64 n.toNat x.toBitVec))

@[simp] theorem bin_u64_sub (x y : UInt64) : binV .sub (u64 x) (u64 y) = u64 (x - y) := lit_u64 (by
  show IntKind.u64.wrap ((x.toNat : Int) - y.toNat) = _
  rw [UInt64.toNat_sub]
  have := x.toNat_lt
  have := y.toNat_lt
  unfold IntKind.wrap IntKind.bits IntKind.signed
  simp only [Bool.false_and, Bool.false_eq_true, if_false]
  omega)
@[simp] theorem bin_u64_and (x y : UInt64) : binV .and (u64 x) (u64 y) = u64 (x &&& y) := lit_u64 (by
  show IntKind.u64.wrap ((BitVec.ofInt 64 x.toNat &&& BitVec.ofInt 64 y.toNat).toNat : Int) = _
  rw [of_u64, of_u64, wrap_bv64]
  rfl)

@[simp] theorem cv_u8_u32 (x : UInt32) : cvV .u8 (u32 x) = u8 x.toUInt8 := lit_u8 (by
  show IntKind.u8.wrap (x.toNat : Int) = _
  rw [wrap_u8, UInt32.toNat_toUInt8])
@[simp] theorem cv_u8_u64 (x : UInt64) : cvV .u8 (u64 x) = u8 x.toUInt8 := lit_u8 (by
  show IntKind.u8.wrap (x.toNat : Int) = _
  rw [wrap_u8, UInt64.toNat_toUInt8])
@[simp] theorem cv_u32_u8 (x : UInt8) : cvV .u32 (u8 x) = u32 x.toUInt32 := lit_u32 (by
  show IntKind.u32.wrap (x.toNat : Int) = _
  rw [wrap_u32, UInt8.toNat_toUInt32, Nat.mod_eq_of_lt (by have := x.toNat_lt; omega)])
@[simp] theorem cv_u64_u8 (x : UInt8) : cvV .u64 (u8 x) = u64 x.toUInt64 := lit_u64 (by
  show IntKind.u64.wrap (x.toNat : Int) = _
  rw [wrap_u64, UInt8.toNat_toUInt64, Nat.mod_eq_of_lt (by have := x.toNat_lt; omega)])
theorem toNat_emod (n : Int) (m : Nat) (hm : 0 < m) : (((n % (m : Int)).toNat : Nat) : Int) = n % (m : Int) := Int.toNat_of_nonneg (Int.emod_nonneg _ (by omega))
theorem ofInt8 (n : Int) : (UInt8.ofInt n).toNat = (n % 256).toNat := by
  unfold UInt8.ofInt
  rw [UInt8.toNat_ofNat', Nat.mod_eq_of_lt (by omega)]
  rfl
theorem ofInt32 (n : Int) : (UInt32.ofInt n).toNat = (n % 4294967296).toNat := by
  unfold UInt32.ofInt
  rw [UInt32.toNat_ofNat', Nat.mod_eq_of_lt (by omega)]
  rfl
theorem ofInt64 (n : Int) : (UInt64.ofInt n).toNat = (n % 18446744073709551616).toNat := by
  unfold UInt64.ofInt
  rw [UInt64.toNat_ofNat', Nat.mod_eq_of_lt (by omega)]
  rfl
@[simp] theorem cv_u8_i64 (n : Int) : cvV .u8 (i64 n) = u8 (UInt8.ofInt n) := lit_u8 (by
  show IntKind.u8.wrap n = _
  rw [show (UInt8.ofInt n).toNat = (n % 256).toNat from ofInt8 n]
  exact (toNat_emod n 256 (by decide)).symm)
@[simp] theorem cv_u64_i64 (n : Int) : cvV .u64 (i64 n) = u64 (UInt64.ofInt n) := lit_u64 (by
  show IntKind.u64.wrap n = _
  rw [show (UInt64.ofInt n).toNat = (n % 18446744073709551616).toNat from ofInt64 n]
  exact (toNat_emod n 18446744073709551616 (by decide)).symm)
@[simp] theorem cv_u32_i64 (n : Int) : cvV .u32 (i64 n) = u32 (UInt32.ofInt n) := lit_u32 (by
  show IntKind.u32.wrap n = _
  rw [show (UInt32.ofInt n).toNat = (n % 4294967296).toNat from ofInt32 n]
  exact (toNat_emod n 4294967296 (by decide)).symm)
@[simp] theorem cv_i64_u8 (x : UInt8) : cvV .i64 (u8 x) = i64 x.toNat := by
  show AVal.lit (.int .i64 (W x.toNat)) = _
  rw [W_id (by omega) (by have := x.toNat_lt; omega)]
  rfl
@[simp] theorem cv_i64_u32 (x : UInt32) : cvV .i64 (u32 x) = i64 x.toNat := by
  show AVal.lit (.int .i64 (W x.toNat)) = _
  rw [W_id (by omega) (by have := x.toNat_lt; omega)]
  rfl
@[simp] theorem cv_i64_u64 (x : UInt64) : cvV .i64 (u64 x) = i64 (W x.toNat) := rfl
@[simp] theorem cv_i64_i64 (x : Int) : cvV .i64 (i64 x) = i64 (W x) := rfl
end Go.Abs
end

section
namespace Go.Abs

def zeros (n : Nat) : List UInt8 := List.replicate n 0
def zeros32 (n : Nat) : List UInt32 := List.replicate n 0
@[simp] theorem zeros_length (n : Nat) : (zeros n).length = n := by simp [zeros]
@[simp] theorem zeros32_length (n : Nat) : (zeros32 n).length = n := by simp [zeros32]

/-! ### Lists of bytes and of words as cells -/
@[simp] theorem bys_length (l : List UInt8) : (bys l).length = l.length := by simp [bys]
@[simp] theorem w32s_length (l : List UInt32) : (w32s l).length = l.length := by simp [w32s]
@[simp] theorem bys_nil : bys [] = [] := rfl
@[simp] theorem w32s_nil : w32s [] = [] := rfl
theorem bys_append (l m : List UInt8) : bys (l ++ m) = bys l ++ bys m := by simp [bys]
theorem bys_app (l m : List UInt8) : bys l ++ bys m = bys (l ++ m) := (bys_append l m).symm
theorem bys_snoc (l : List UInt8) (x : UInt8) : bys l ++ [u8 x] = bys (l ++ [x]) := by simp [bys]
@[simp] theorem bys_take (l : List UInt8) (n : Nat) : (bys l).take n = bys (l.take n) := by simp [bys]
@[simp] theorem bys_drop (l : List UInt8) (n : Nat) : (bys l).drop n = bys (l.drop n) := by simp [bys]
@[simp] theorem bys_tail (l : List UInt8) : (bys l).tail = bys l.tail := by cases l <;> rfl
@[simp] theorem bys_map (l : List UInt8) : bytesA l = bys l := rfl
theorem bys_mem {P : AVal → Prop} {l : List UInt8} (h : ∀ x, P (u8 x)) : ∀ c ∈ bys l, P c := fun c hc => by
  simp only [bys, List.mem_map] at hc
  obtain ⟨x, _, rfl⟩ := hc
  exact h x
theorem w32s_mem {P : AVal → Prop} {l : List UInt32} (h : ∀ x, P (u32 x)) : ∀ c ∈ w32s l, P c := fun c hc => by
  simp only [w32s, List.mem_map] at hc
  obtain ⟨x, _, rfl⟩ := hc
  exact h x
@[simp] theorem bys_cell (l : List UInt8) : (∀ c ∈ bys l, isCell c) ↔ True := iff_true_intro (bys_mem (by simp))
@[simp] theorem bys_own (l : List UInt8) : (∀ c ∈ bys l, ownTop c = false) ↔ True := iff_true_intro (bys_mem (by simp))
@[simp] theorem bys_pure (l : List UInt8) : (∀ c ∈ bys l, pureB c = true) ↔ True := iff_true_intro (bys_mem (by simp))
@[simp] theorem bys_pure_cell (l : List UInt8) : (∀ c ∈ bys l, pureB c = true ∧ isCell c) ↔ True := iff_true_intro (bys_mem (by simp))
@[simp] theorem bys_cell_own (l : List UInt8) : (∀ c ∈ bys l, isCell c ∧ ownTop c = false) ↔ True := iff_true_intro (bys_mem (by simp))
@[simp] theorem bys_isIk (l : List UInt8) : (∀ c ∈ bys l, isIk .u8 c) ↔ True := iff_true_intro (bys_mem (by simp))
@[simp] theorem w32s_cell (l : List UInt32) : (∀ c ∈ w32s l, isCell c) ↔ True := iff_true_intro (w32s_mem (by simp))
@[simp] theorem w32s_own (l : List UInt32) : (∀ c ∈ w32s l, ownTop c = false) ↔ True := iff_true_intro (w32s_mem (by simp))
@[simp] theorem w32s_pure (l : List UInt32) : (∀ c ∈ w32s l, pureB c = true) ↔ True := iff_true_intro (w32s_mem (by simp))
theorem pureL_mem {l : List AVal} (h : ∀ c ∈ l, pureB c = true) : pureL l = true := (pureL_iff l).2 h
@[simp] theorem pureL_bys (l : List UInt8) : pureL (bys l) = true := pureL_mem (bys_mem (by simp))
@[simp] theorem pureL_w32s (l : List UInt32) : pureL (w32s l) = true := pureL_mem (w32s_mem (by simp))
attribute [simp] pureL_append
@[simp] theorem memFreeL_append (l m : List AVal) : memFreeL (l ++ m) = (memFreeL l && memFreeL m) := by induction l <;> simp_all [memFreeL, Bool.and_assoc]
@[simp] theorem memFreeL_bys (l : List UInt8) : memFreeL (bys l) = true := by induction l <;> simp_all [bys, memFreeL]
@[simp] theorem memFreeL_w32s (l : List UInt32) : memFreeL (w32s l) = true := by induction l <;> simp_all [w32s, memFreeL]
@[simp] theorem refsL_append (l m : List AVal) : refsL (l ++ m) = refsL l ++ refsL m := by induction l <;> simp_all [refsL]
@[simp] theorem refsL_bys (l : List UInt8) : refsL (bys l) = [] := by induction l <;> simp_all [bys, refsL]
@[simp] theorem refsL_w32s (l : List UInt32) : refsL (w32s l) = [] := by induction l <;> simp_all [w32s, refsL]

@[simp] theorem bin_u8_sub (x y : UInt8) : binV .sub (u8 x) (u8 y) = u8 (x - y) := lit_u8 (by
  show IntKind.u8.wrap ((x.toNat : Int) - y.toNat) = _
  rw [UInt8.toNat_sub]
  have := x.toNat_lt
  have := y.toNat_lt
  unfold IntKind.wrap IntKind.bits IntKind.signed
  simp only [Bool.false_and, Bool.false_eq_true, if_false]
  omega)
@[simp] theorem bin_u8_quo (x y : UInt8) : binV .quo (u8 x) (u8 y) = u8 (x / y) := lit_u8 (by
  show IntKind.u8.wrap ((x.toNat : Int).tdiv y.toNat) = _
  rw [Int.tdiv_eq_ediv_of_nonneg (by omega), ← Int.natCast_ediv, wrap_u8, UInt8.toNat_div, Nat.mod_eq_of_lt]
  exact Nat.lt_of_le_of_lt (Nat.div_le_self _ _) x.toNat_lt)
@[simp] theorem bin_u8_rem (x y : UInt8) : binV .rem (u8 x) (u8 y) = u8 (x % y) := lit_u8 (by
  show ((x.toNat : Int).tmod y.toNat) = _
  rw [UInt8.toNat_mod]
  rfl)
@[simp] theorem binOk_quo_u8 (x y : UInt8) : binOk .quo (u8 x) (u8 y) = (y ≠ 0) := by
  simp only [binOk, u8, true_and, ne_eq, Int.natCast_eq_zero, ← UInt8.toNat_inj]
  rfl
@[simp] theorem binOk_rem_u8 (x y : UInt8) : binOk .rem (u8 x) (u8 y) = (y ≠ 0) := by
  simp only [binOk, u8, true_and, ne_eq, Int.natCast_eq_zero, ← UInt8.toNat_inj]
  rfl
@[simp] theorem bin_u8_lss (x y : UInt8) : binV .lss (u8 x) (u8 y) = bo (decide (x < y)) := by
  show AVal.lit (.bool (decide ((x.toNat : Int) < y.toNat))) = .lit (.bool _)
  congr 2
  simp [UInt8.lt_iff_toNat_lt]
@[simp] theorem bin_u8_gtr (x y : UInt8) : binV .gtr (u8 x) (u8 y) = bo (decide (y < x)) := by
  show AVal.lit (.bool (decide ((x.toNat : Int) > y.toNat))) = .lit (.bool _)
  congr 2
  simp [UInt8.lt_iff_toNat_lt]
@[simp] theorem bin_u64_neq (x y : UInt64) : binV .neq (u64 x) (u64 y) = bo (x != y) := by
  show AVal.lit (.bool ((x.toNat : Int) != y.toNat)) = .lit (.bool _)
  congr 2
  rw [Bool.eq_iff_iff]
  simp only [beq_iff_eq, bne_iff_ne, ne_eq, ← UInt64.toNat_inj]
  omega
def andI (x y : Int) : Int := W (BitVec.ofInt 64 x &&& BitVec.ofInt 64 y).toNat
@[simp] theorem bin_i64_and (x y : Int) : binV .and (i64 x) (i64 y) = i64 (andI x y) := rfl

theorem dT {p : Prop} [Decidable p] (h : p) : decide p = true := decide_eq_true h
theorem dF {p : Prop} [Decidable p] (h : ¬ p) : decide p = false := decide_eq_false h

/-! ### What values are -/
@[simp] theorem dem_undef : dem .undef = .undef := rfl
@[simp] theorem dem_agg (cs : List AVal) : dem (.agg cs) = .agg cs := rfl
@[simp] theorem dem_tup (cs : List AVal) : dem (.tup cs) = .tup cs := rfl
@[simp] theorem dem_otup (e : Nat) (nl : Option Bool) (n : Nat) (cs rest : List AVal) : dem (.otup e nl n cs rest) = .tup (.sl .plain nl n cs :: rest) := rfl
@[simp] theorem pureB_otup (e : Nat) (nl : Option Bool) (n : Nat) (cs rest : List AVal) : pureB (.otup e nl n cs rest) = pureL rest := rfl
@[simp] theorem refs_otup (e : Nat) (nl : Option Bool) (n : Nat) (cs rest : List AVal) : refs (.otup e nl n cs rest) = refsL rest := rfl
@[simp] theorem dem_bp (i o : Nat) : dem (.bp i o) = .bp i o := rfl
@[simp] theorem dem_bv (i e o n c : Nat) : dem (.bv i e o n c) = .bv i e o n c := rfl
@[simp] theorem dem_ep (cs : List AVal) : dem (.ep cs) = .ep cs := rfl
@[simp] theorem dem_fn (f : Nat) (x y : List AVal) : dem (.fn f x y) = .fn f x y := rfl
@[simp] theorem dem_lit (v : Value) : dem (.lit v) = .lit v := rfl
@[simp] theorem dem_own (e : Nat) (nl : Option Bool) (n : Nat) (cs : List AVal) : dem (.sl (.own e) nl n cs) = .sl .plain nl n cs := rfl
@[simp] theorem dem_plain (nl : Option Bool) (n : Nat) (cs : List AVal) : dem (.sl .plain nl n cs) = .sl .plain nl n cs := rfl
@[simp] theorem dem_clip (nl : Option Bool) (n : Nat) (cs : List AVal) : dem (.sl .clip nl n cs) = .sl .clip nl n cs := rfl
@[simp] theorem isCell_agg (cs : List AVal) : isCell (.agg cs) = False := rfl
@[simp] theorem isCell_sl (m : Mode) (nl : Option Bool) (n : Nat) (cs : List AVal) : isCell (.sl m nl n cs) = True := rfl
@[simp] theorem isCell_bp (i o : Nat) : isCell (.bp i o) = True := rfl
@[simp] theorem isCell_bv (i e o n c : Nat) : isCell (.bv i e o n c) = True := rfl
@[simp] theorem isCell_fn (f : Nat) (x y : List AVal) : isCell (.fn f x y) = True := rfl
@[simp] theorem isCell_ep (cs : List AVal) : isCell (.ep cs) = True := rfl
@[simp] theorem isCell_nil : isCell (.lit (.slice none 0 0)) = True := rfl
@[simp] theorem pureB_agg (cs : List AVal) : pureB (.agg cs) = pureL cs := rfl
@[simp] theorem pureB_tup (cs : List AVal) : pureB (.tup cs) = pureL cs := rfl
@[simp] theorem pureB_sl (m : Mode) (nl : Option Bool) (n : Nat) (cs : List AVal) : pureB (.sl m nl n cs) = true := by cases m <;> rfl
@[simp] theorem pureB_ep (cs : List AVal) : pureB (.ep cs) = true := rfl
@[simp] theorem pureB_bp (i o : Nat) : pureB (.bp i o) = false := rfl
@[simp] theorem pureB_bv (i e o n c : Nat) : pureB (.bv i e o n c) = false := rfl
@[simp] theorem pureB_fn (f : Nat) (x y : List AVal) : pureB (.fn f x y) = (pureL x && pureL y) := rfl
@[simp] theorem pureB_nil : pureB (.lit (.slice none 0 0)) = true := rfl
@[simp] theorem memFree_agg (cs : List AVal) : memFree (.agg cs) = memFreeL cs := rfl
@[simp] theorem memFree_tup (cs : List AVal) : memFree (.tup cs) = memFreeL cs := rfl
@[simp] theorem memFree_nil : memFree (.lit (.slice none 0 0)) = true := rfl
@[simp] theorem memFree_sl (m : Mode) (nl : Option Bool) (n : Nat) (cs : List AVal) : memFree (.sl m nl n cs) = false := by cases m <;> rfl
@[simp] theorem refs_agg (cs : List AVal) : refs (.agg cs) = refsL cs := rfl
@[simp] theorem refs_tup (cs : List AVal) : refs (.tup cs) = refsL cs := rfl
@[simp] theorem refs_sl (m : Mode) (nl : Option Bool) (n : Nat) (cs : List AVal) : refs (.sl m nl n cs) = [] := by cases m <;> rfl
@[simp] theorem refs_bp (i o : Nat) : refs (.bp i o) = [i] := rfl
@[simp] theorem refs_bv (i e o n c : Nat) : refs (.bv i e o n c) = [i] := rfl
@[simp] theorem refs_ep (cs : List AVal) : refs (.ep cs) = [] := rfl
@[simp] theorem refs_fn (f : Nat) (x y : List AVal) : refs (.fn f x y) = refsL x ++ refsL y := rfl
@[simp] theorem refs_undef : refs .undef = [] := rfl
@[simp] theorem refs_lit (v : Value) : refs (.lit v) = [] := rfl
@[simp] theorem ownTop_own (e : Nat) (nl : Option Bool) (n : Nat) (cs : List AVal) : ownTop (.sl (.own e) nl n cs) = true := rfl
@[simp] theorem ownTop_plain (nl : Option Bool) (n : Nat) (cs : List AVal) : ownTop (.sl .plain nl n cs) = false := rfl
@[simp] theorem ownTop_clip (nl : Option Bool) (n : Nat) (cs : List AVal) : ownTop (.sl .clip nl n cs) = false := rfl
@[simp] theorem ownTop_bp (i o : Nat) : ownTop (.bp i o) = false := rfl
@[simp] theorem ownTop_bv (i e o n c : Nat) : ownTop (.bv i e o n c) = false := rfl
@[simp] theorem cellsA_agg (cs : List AVal) : cellsA (.agg cs) = cs := rfl
@[simp] theorem cellsA_sl (m : Mode) (nl : Option Bool) (n : Nat) (cs : List AVal) : cellsA (.sl m nl n cs) = [.sl m nl n cs] := rfl
@[simp] theorem cellsA_nil : cellsA (.lit (.slice none 0 0)) = [.lit (.slice none 0 0)] := rfl
@[simp] theorem cellsA_bp (i o : Nat) : cellsA (.bp i o) = [.bp i o] := rfl
@[simp] theorem cellsA_fn (f : Nat) (x y : List AVal) : cellsA (.fn f x y) = [.fn f x y] := rfl
@[simp] theorem slen_sl (m : Mode) (nl : Option Bool) (n : Nat) (cs : List AVal) : slen (.sl m nl n cs) = n := rfl
@[simp] theorem slen_bv (i e o n c : Nat) : slen (.bv i e o n c) = n := rfl
@[simp] theorem slen_nil : slen (.lit (.slice none 0 0)) = 0 := rfl
@[simp] theorem scells_sl (bx : List AVal) (m : Mode) (nl : Option Bool) (n : Nat) (cs : List AVal) : scells bx (.sl m nl n cs) = cs := rfl
@[simp] theorem scells_bv (bx : List AVal) (i e o n c : Nat) : scells bx (.bv i e o n c) = (bx.drop o).take (n * e) := rfl
@[simp] theorem scells_nil (bx : List AVal) : scells bx (.lit (.slice none 0 0)) = [] := rfl
@[simp] theorem isSl_sl (m : Mode) (nl : Option Bool) (n : Nat) (cs : List AVal) : isSl (.sl m nl n cs) = True := rfl
@[simp] theorem isSl_bv (i e o n c : Nat) : isSl (.bv i e o n c) = True := rfl
@[simp] theorem isSl_nil : isSl (.lit (.slice none 0 0)) = True := rfl
@[simp] theorem okS_sl (esz : Nat) (b : Option Nat) (bx : Option (List AVal)) (m : Mode) (nl : Option Bool) (n : Nat) (cs : List AVal) : okS esz b bx (.sl m nl n cs) = (cs.length = n * esz) := rfl
@[simp] theorem okS_bv (esz : Nat) (b : Option Nat) (bx : Option (List AVal)) (i e o n c : Nat) : okS esz b bx (.bv i e o n c) = (b = some i ∧ e = esz ∧ (∃ cs, bx = some cs ∧ o + n * e ≤ cs.length)) := rfl
@[simp] theorem okS_nil (esz : Nat) (b : Option Nat) (bx : Option (List AVal)) : okS esz b bx (.lit (.slice none 0 0)) = True := rfl
@[simp] theorem okPtr_bp (f : Nat → Option (List AVal)) (b : Option Nat) (n i o : Nat) : okPtr f b n (.bp i o) = (b = some i ∧ ∃ cs, f i = some cs ∧ o + n ≤ cs.length) := rfl
@[simp] theorem okPtr_ep (f : Nat → Option (List AVal)) (b : Option Nat) (n : Nat) (cs : List AVal) : okPtr f b n (.ep cs) = (b = none ∧ n ≤ cs.length) := rfl
@[simp] theorem ptrCells_bp (f : Nat → Option (List AVal)) (b : Option Nat) (i o : Nat) : ptrCells f b (.bp i o) = (bxl f b).drop o := rfl
@[simp] theorem ptrCells_ep (f : Nat → Option (List AVal)) (b : Option Nat) (cs : List AVal) : ptrCells f b (.ep cs) = cs := rfl
@[simp] theorem kCells_none (v : AVal) : kCells none v = [dem v] := rfl
@[simp] theorem kCells_some (n : Nat) (v : AVal) : kCells (some n) v = cellsA v := rfl
@[simp] theorem isK_none (v : AVal) : isK none v = isCell v := rfl
@[simp] theorem isK_some (n : Nat) (cs : List AVal) : isK (some n) (.agg cs) = (cs.length = n ∧ (∀ c ∈ cs, isCell c) ∧ (∀ c ∈ cs, ownTop c = false)) := rfl
@[simp] theorem fnArgs_fn (f : Nat) (x y as : List AVal) : fnArgs (.fn f x y) as = x ++ as ++ y := rfl
@[simp] theorem toArg1_u8 (f : Nat → List AVal) (x : UInt8) : toArg1 f (u8 x) = u8 x := rfl
@[simp] theorem toArg_u8 (f : Nat → List AVal) (x : UInt8) : toArg f (u8 x) = u8 x := rfl
@[simp] theorem toArg_u32 (f : Nat → List AVal) (x : UInt32) : toArg f (u32 x) = u32 x := rfl
@[simp] theorem toArg_u64 (f : Nat → List AVal) (x : UInt64) : toArg f (u64 x) = u64 x := rfl
@[simp] theorem toArg_i64 (f : Nat → List AVal) (x : Int) : toArg f (i64 x) = i64 x := rfl
@[simp] theorem toArg_bo (f : Nat → List AVal) (x : Bool) : toArg f (bo x) = bo x := rfl
@[simp] theorem toArg_st (f : Nat → List AVal) (x : List UInt8) : toArg f (st x) = st x := rfl
@[simp] theorem toArg_agg (f : Nat → List AVal) (x : List AVal) : toArg f (.agg x) = .agg x := rfl
@[simp] theorem toArg_nil (f : Nat → List AVal) : toArg f (.lit (.slice none 0 0)) = .sl .plain (some true) 0 [] := rfl
@[simp] theorem toArg_own (f : Nat → List AVal) (e : Nat) (nl : Option Bool) (n : Nat) (cs : List AVal) : toArg f (.sl (.own e) nl n cs) = .sl .plain nl n cs := rfl
@[simp] theorem toArg_plain (f : Nat → List AVal) (nl : Option Bool) (n : Nat) (cs : List AVal) : toArg f (.sl .plain nl n cs) = .sl .plain nl n cs := rfl
@[simp] theorem toArg_clip (f : Nat → List AVal) (nl : Option Bool) (n : Nat) (cs : List AVal) : toArg f (.sl .clip nl n cs) = .sl .plain nl n cs := rfl
@[simp] theorem toArg_bp (f : Nat → List AVal) (i o : Nat) : toArg f (.bp i o) = .ep ((f i).drop o) := rfl
@[simp] theorem toArg_bv (f : Nat → List AVal) (i e o n c : Nat) : toArg f (.bv i e o n c) = .sl .plain (some false) n (((f i).drop o).take (n * e)) := rfl
@[simp] theorem toArg_ep (f : Nat → List AVal) (cs : List AVal) : toArg f (.ep cs) = .ep cs := rfl
@[simp] theorem toArg_fn (f : Nat → List AVal) (g : Nat) (x y : List AVal) : toArg f (.fn g x y) = .fn g (x.map (toArg1 f)) (y.map (toArg1 f)) := rfl
@[simp] theorem okArg_u8 (bs : List Nat) (f : Nat → Option (List AVal)) (x : UInt8) : okArg bs f (u8 x) = True := by simp [okArg, okArg1, u8, pureB]
@[simp] theorem okArg_u32 (bs : List Nat) (f : Nat → Option (List AVal)) (x : UInt32) : okArg bs f (u32 x) = True := by simp [okArg, okArg1, u32, pureB]
@[simp] theorem okArg_u64 (bs : List Nat) (f : Nat → Option (List AVal)) (x : UInt64) : okArg bs f (u64 x) = True := by simp [okArg, okArg1, u64, pureB]
@[simp] theorem okArg_i64 (bs : List Nat) (f : Nat → Option (List AVal)) (x : Int) : okArg bs f (i64 x) = True := by simp [okArg, okArg1, i64, pureB]
@[simp] theorem okArg_bo (bs : List Nat) (f : Nat → Option (List AVal)) (x : Bool) : okArg bs f (bo x) = True := by simp [okArg, okArg1, bo, pureB]
@[simp] theorem okArg_st (bs : List Nat) (f : Nat → Option (List AVal)) (x : List UInt8) : okArg bs f (st x) = True := by simp [okArg, okArg1, st, pureB]
@[simp] theorem okArg_agg (bs : List Nat) (f : Nat → Option (List AVal)) (x : List AVal) : okArg bs f (.agg x) = (pureL x = true) := rfl
@[simp] theorem okArg_sl (bs : List Nat) (f : Nat → Option (List AVal)) (m : Mode) (nl : Option Bool) (n : Nat) (cs : List AVal) : okArg bs f (.sl m nl n cs) = True := by simp [okArg, okArg1]
@[simp] theorem okArg_nil (bs : List Nat) (f : Nat → Option (List AVal)) : okArg bs f (.lit (.slice none 0 0)) = True := by simp [okArg, okArg1]
@[simp] theorem okArg_bp (bs : List Nat) (f : Nat → Option (List AVal)) (i o : Nat) : okArg bs f (.bp i o) = (i ∈ bs ∧ ∃ cs, f i = some cs ∧ o ≤ cs.length) := rfl
@[simp] theorem okArg_bv (bs : List Nat) (f : Nat → Option (List AVal)) (i e o n c : Nat) : okArg bs f (.bv i e o n c) = (i ∈ bs ∧ ∃ cs, f i = some cs ∧ o + n * e ≤ cs.length) := rfl
@[simp] theorem okArg_ep (bs : List Nat) (f : Nat → Option (List AVal)) (cs : List AVal) : okArg bs f (.ep cs) = True := by simp [okArg, okArg1]

/-! ### Whether operations may go ahead -/
@[simp] theorem binOk_shr32 (x : UInt32) (n : Int) : binOk .shr (u32 x) (i64 n) = (0 ≤ n) := rfl
@[simp] theorem binOk_shl32 (x : UInt32) (n : Int) : binOk .shl (u32 x) (i64 n) = (0 ≤ n) := rfl
@[simp] theorem binOk_shr64 (x : UInt64) (n : Int) : binOk .shr (u64 x) (i64 n) = (0 ≤ n) := rfl
@[simp] theorem binOk_shl64 (x : UInt64) (n : Int) : binOk .shl (u64 x) (i64 n) = (0 ≤ n) := rfl
@[simp] theorem binOk_shr32' (x : UInt32) (n : UInt64) : binOk .shr (u32 x) (u64 n) = True := by simp [binOk, u32, u64]
@[simp] theorem binOk_shl32' (x : UInt32) (n : UInt64) : binOk .shl (u32 x) (u64 n) = True := by simp [binOk, u32, u64]
@[simp] theorem binOk_shr64' (x : UInt64) (n : UInt64) : binOk .shr (u64 x) (u64 n) = True := by simp [binOk, u64]
@[simp] theorem binOk_shl64' (x : UInt64) (n : UInt64) : binOk .shl (u64 x) (u64 n) = True := by simp [binOk, u64]
@[simp] theorem binOk_quo (x y : Int) : binOk .quo (i64 x) (i64 y) = (y ≠ 0) := by simp [binOk, i64]
@[simp] theorem binOk_rem (x y : Int) : binOk .rem (i64 x) (i64 y) = (y ≠ 0) := by simp [binOk, i64]
@[simp] theorem binOk_rem64 (x y : UInt64) : binOk .rem (u64 x) (u64 y) = (y ≠ 0) := by
  simp only [binOk, u64, true_and, ne_eq, Int.natCast_eq_zero, ← UInt64.toNat_inj]
  rfl
@[simp] theorem binOk_add_u8 (x y : UInt8) : binOk .add (u8 x) (u8 y) = True := by simp [binOk, u8]
@[simp] theorem binOk_add_u32 (x y : UInt32) : binOk .add (u32 x) (u32 y) = True := by simp [binOk, u32]
@[simp] theorem binOk_add_u64 (x y : UInt64) : binOk .add (u64 x) (u64 y) = True := by simp [binOk, u64]
@[simp] theorem binOk_add_i64 (x y : Int) : binOk .add (i64 x) (i64 y) = True := by simp [binOk, i64]
@[simp] theorem binOk_sub_u8 (x y : UInt8) : binOk .sub (u8 x) (u8 y) = True := by simp [binOk, u8]
@[simp] theorem binOk_sub_u32 (x y : UInt32) : binOk .sub (u32 x) (u32 y) = True := by simp [binOk, u32]
@[simp] theorem binOk_sub_u64 (x y : UInt64) : binOk .sub (u64 x) (u64 y) = True := by simp [binOk, u64]
@[simp] theorem binOk_sub_i64 (x y : Int) : binOk .sub (i64 x) (i64 y) = True := by simp [binOk, i64]
@[simp] theorem binOk_mul_u8 (x y : UInt8) : binOk .mul (u8 x) (u8 y) = True := by simp [binOk, u8]
@[simp] theorem binOk_mul_u32 (x y : UInt32) : binOk .mul (u32 x) (u32 y) = True := by simp [binOk, u32]
@[simp] theorem binOk_mul_u64 (x y : UInt64) : binOk .mul (u64 x) (u64 y) = True := by simp [binOk, u64]
@[simp] theorem binOk_mul_i64 (x y : Int) : binOk .mul (i64 x) (i64 y) = True := by simp [binOk, i64]
@[simp] theorem binOk_and_u8 (x y : UInt8) : binOk .and (u8 x) (u8 y) = True := by simp [binOk, u8]
@[simp] theorem binOk_and_u32 (x y : UInt32) : binOk .and (u32 x) (u32 y) = True := by simp [binOk, u32]
@[simp] theorem binOk_and_u64 (x y : UInt64) : binOk .and (u64 x) (u64 y) = True := by simp [binOk, u64]
@[simp] theorem binOk_and_i64 (x y : Int) : binOk .and (i64 x) (i64 y) = True := by simp [binOk, i64]
@[simp] theorem binOk_or_u8 (x y : UInt8) : binOk .or (u8 x) (u8 y) = True := by simp [binOk, u8]
@[simp] theorem binOk_or_u32 (x y : UInt32) : binOk .or (u32 x) (u32 y) = True := by simp [binOk, u32]
@[simp] theorem binOk_or_u64 (x y : UInt64) : binOk .or (u64 x) (u64 y) = True := by simp [binOk, u64]
@[simp] theorem binOk_or_i64 (x y : Int) : binOk .or (i64 x) (i64 y) = True := by simp [binOk, i64]
@[simp] theorem binOk_xor_u8 (x y : UInt8) : binOk .xor (u8 x) (u8 y) = True := by simp [binOk, u8]
@[simp] theorem binOk_xor_u32 (x y : UInt32) : binOk .xor (u32 x) (u32 y) = True := by simp [binOk, u32]
@[simp] theorem binOk_xor_u64 (x y : UInt64) : binOk .xor (u64 x) (u64 y) = True := by simp [binOk, u64]
@[simp] theorem binOk_xor_i64 (x y : Int) : binOk .xor (i64 x) (i64 y) = True := by simp [binOk, i64]
@[simp] theorem binOk_eql_u8 (x y : UInt8) : binOk .eql (u8 x) (u8 y) = True := by simp [binOk, u8]
@[simp] theorem binOk_eql_u32 (x y : UInt32) : binOk .eql (u32 x) (u32 y) = True := by simp [binOk, u32]
@[simp] theorem binOk_eql_u64 (x y : UInt64) : binOk .eql (u64 x) (u64 y) = True := by simp [binOk, u64]
@[simp] theorem binOk_eql_i64 (x y : Int) : binOk .eql (i64 x) (i64 y) = True := by simp [binOk, i64]
@[simp] theorem binOk_neq_u8 (x y : UInt8) : binOk .neq (u8 x) (u8 y) = True := by simp [binOk, u8]
@[simp] theorem binOk_neq_u32 (x y : UInt32) : binOk .neq (u32 x) (u32 y) = True := by simp [binOk, u32]
@[simp] theorem binOk_neq_u64 (x y : UInt64) : binOk .neq (u64 x) (u64 y) = True := by simp [binOk, u64]
@[simp] theorem binOk_neq_i64 (x y : Int) : binOk .neq (i64 x) (i64 y) = True := by simp [binOk, i64]
@[simp] theorem binOk_lss_u8 (x y : UInt8) : binOk .lss (u8 x) (u8 y) = True := by simp [binOk, u8]
@[simp] theorem binOk_lss_u32 (x y : UInt32) : binOk .lss (u32 x) (u32 y) = True := by simp [binOk, u32]
@[simp] theorem binOk_lss_u64 (x y : UInt64) : binOk .lss (u64 x) (u64 y) = True := by simp [binOk, u64]
@[simp] theorem binOk_lss_i64 (x y : Int) : binOk .lss (i64 x) (i64 y) = True := by simp [binOk, i64]
@[simp] theorem binOk_leq_u8 (x y : UInt8) : binOk .leq (u8 x) (u8 y) = True := by simp [binOk, u8]
@[simp] theorem binOk_leq_u32 (x y : UInt32) : binOk .leq (u32 x) (u32 y) = True := by simp [binOk, u32]
@[simp] theorem binOk_leq_u64 (x y : UInt64) : binOk .leq (u64 x) (u64 y) = True := by simp [binOk, u64]
@[simp] theorem binOk_leq_i64 (x y : Int) : binOk .leq (i64 x) (i64 y) = True := by simp [binOk, i64]
@[simp] theorem binOk_gtr_u8 (x y : UInt8) : binOk .gtr (u8 x) (u8 y) = True := by simp [binOk, u8]
@[simp] theorem binOk_gtr_u32 (x y : UInt32) : binOk .gtr (u32 x) (u32 y) = True := by simp [binOk, u32]
@[simp] theorem binOk_gtr_u64 (x y : UInt64) : binOk .gtr (u64 x) (u64 y) = True := by simp [binOk, u64]
@[simp] theorem binOk_gtr_i64 (x y : Int) : binOk .gtr (i64 x) (i64 y) = True := by simp [binOk, i64]
@[simp] theorem binOk_geq_u8 (x y : UInt8) : binOk .geq (u8 x) (u8 y) = True := by simp [binOk, u8]
@[simp] theorem binOk_geq_u32 (x y : UInt32) : binOk .geq (u32 x) (u32 y) = True := by simp [binOk, u32]
@[simp] theorem binOk_geq_u64 (x y : UInt64) : binOk .geq (u64 x) (u64 y) = True := by simp [binOk, u64]
@[simp] theorem binOk_geq_i64 (x y : Int) : binOk .geq (i64 x) (i64 y) = True := by simp [binOk, i64]
@[simp] theorem binOk_eql_st (x y : List UInt8) : binOk .eql (st x) (st y) = True := rfl
@[simp] theorem binOk_neq_st (x y : List UInt8) : binOk .neq (st x) (st y) = True := rfl
@[simp] theorem binOk_lss_st (x y : List UInt8) : binOk .lss (st x) (st y) = True := rfl
@[simp] theorem binOk_leq_st (x y : List UInt8) : binOk .leq (st x) (st y) = True := rfl
@[simp] theorem binOk_gtr_st (x y : List UInt8) : binOk .gtr (st x) (st y) = True := rfl
@[simp] theorem binOk_geq_st (x y : List UInt8) : binOk .geq (st x) (st y) = True := rfl
@[simp] theorem binOk_add_st (x y : List UInt8) : binOk .add (st x) (st y) = (((x.length + y.length : Nat) : Int) ≤ 9223372036854775807) := rfl
@[simp] theorem bin_st_add (x y : List UInt8) : binV .add (st x) (st y) = st (x ++ y) := by
  show AVal.lit (.string (ByteArray.mk x.toArray ++ ByteArray.mk y.toArray)) = _
  rw [st]
  congr 2
@[simp] theorem bin_st_eql (x y : List UInt8) : binV .eql (st x) (st y) = bo (decide (x = y)) := by
  show AVal.lit (.bool ((ByteArray.mk x.toArray).toList == (ByteArray.mk y.toArray).toList)) = _
  rw [bo, ByteArray.toList_eq, ByteArray.toList_eq]
  congr 2
  rw [Bool.eq_iff_iff]
  simp
@[simp] theorem bin_st_neq (x y : List UInt8) : binV .neq (st x) (st y) = bo (!decide (x = y)) := by
  show AVal.lit (.bool (!((ByteArray.mk x.toArray).toList == (ByteArray.mk y.toArray).toList))) = _
  rw [bo, ByteArray.toList_eq, ByteArray.toList_eq]
  congr 2
  rw [Bool.eq_iff_iff]
  simp
@[simp] theorem unOk_neg (x : Int) : unOk .neg (i64 x) = True := rfl
@[simp] theorem unOk_not (x : Bool) : unOk .not (bo x) = True := rfl
@[simp] theorem unOk_xor32 (x : UInt32) : unOk .xor (u32 x) = True := rfl
@[simp] theorem unOk_xor64 (x : UInt64) : unOk .xor (u64 x) = True := rfl

attribute [simp] lk ASt.get ASt.getB okGhost thenQ blockQ arg bxc bxl bnd okBnd AOper.W AOp.wrS fillA okFill refsL deep deepL pureL memFreeL
attribute [simp] resA okRes resV resV0 otupV
def orgL (wr : List Nat) : Nat → List AVal → List (Nat × AVal)
  | _, [] => []
  | i, d :: ds => if wr.contains i then orgL wr (i + 1) ds else (i, d) :: orgL wr (i + 1) ds
def envL (wr : List Nat) : Nat → List AVal → List (Nat × AVal)
  | _, [] => []
  | i, d :: ds => if wr.contains i then (i, dem d) :: envL wr (i + 1) ds else envL wr (i + 1) ds
theorem orgL_eq (wr : List Nat) : ∀ (ds : List AVal) (i : Nat), orgL wr i ds = (enumFrom i ds).filter fun p => !wr.contains p.1
  | [], i => rfl
  | d :: ds, i => by
    rw [orgL, enumFrom, List.filter_cons, orgL_eq wr ds]
    show (if wr.contains i = true then _ else _) = if (!wr.contains i) = true then _ else _
    cases wr.contains i <;> rfl
theorem envL_eq (wr : List Nat) : ∀ (ds : List AVal) (i : Nat), envL wr i ds = ((enumFrom i ds).filter fun p => wr.contains p.1).map fun p => (p.1, dem p.2)
  | [], i => rfl
  | d :: ds, i => by
    rw [envL, enumFrom, List.filter_cons, envL_eq wr ds]
    show (if wr.contains i = true then _ else _) = List.map _ (if wr.contains i = true then _ else _)
    cases wr.contains i <;> rfl
@[simp] theorem initSt_mk (wr : List Nat) (ds : List AVal) : initSt wr ds = ⟨orgL wr 0 ds, envL wr 0 ds, []⟩ := by rw [orgL_eq, envL_eq]; rfl
attribute [simp] orgL envL

@[simp] theorem awp_skip (E : Env) (Q : AExit → ASt → Prop) (s : ASt) : awp E .skip Q s = Q .normal s := rfl
def finG (Q : AExit → ASt → Prop) : List Ghost → ASt → Prop
  | [], st => Q .normal st
  | g :: gs, st => okGhost g st ∧ finG Q gs (runGhost g st)
def runR (E : Env) (keep : List Nat) (gs : List Ghost) (Q : AExit → ASt → Prop) : List AOper → ASt → Prop
  | [], st => finG Q gs (restr keep st)
  | o :: os, st => okA E o st ∧ runR E keep gs Q os (stepA E o st)
theorem finG_eq (Q : AExit → ASt → Prop) : ∀ (gs : List Ghost) (st : ASt), finG Q gs st = (okGs gs st ∧ Q .normal (runGs gs st))
  | [], st => by simp [finG, okGs, runGs]
  | g :: gs, st => by simp only [finG, okGs, runGs, finG_eq Q gs]; exact propext and_assoc.symm
theorem runR_eq (E : Env) (keep : List Nat) (gs : List Ghost) (Q : AExit → ASt → Prop) : ∀ (xs : List AOper) (st : ASt), runR E keep gs Q xs st = (okRun E xs st ∧ okGs gs (restr keep (runA E xs st)) ∧ Q .normal (runGs gs (restr keep (runA E xs st))))
  | [], st => by simp only [runR, okRun, runA, true_and]; exact finG_eq Q gs _
  | o :: os, st => by simp only [runR, okRun, runA, runR_eq E keep gs Q os]; exact propext and_assoc.symm
@[simp] theorem awp_region (E : Env) (keep : List Nat) (gs : List Ghost) (xs : List AOper) (Q : AExit → ASt → Prop) (s : ASt) :
    awp E (.region keep gs xs) Q s = runR E keep gs Q xs s := (runR_eq E keep gs Q xs s).symm
def put1 (o e : List (Nat × AVal)) (b : List (Nat × Option (List AVal))) (d : Nat) (x : Eff) : ASt := ⟨o, (d, x.val) :: (x.sl ++ e), x.bx ++ b⟩
def put0 (o e : List (Nat × AVal)) (b : List (Nat × Option (List AVal))) (x : Eff) : ASt := ⟨o, x.sl ++ e, x.bx ++ b⟩
def guard1 (o e : List (Nat × AVal)) (b : List (Nat × Option (List AVal))) (d : Nat) (t : Bool) (x : Eff) : ASt := if t then put1 o e b d x else ⟨o, (d, skipV) :: e, b⟩
@[simp] theorem put1_mk (o e : List (Nat × AVal)) (b : List (Nat × Option (List AVal))) (d : Nat) (v : AVal) (sl : List (Nat × AVal)) (bx : List (Nat × Option (List AVal))) : put1 o e b d ⟨v, sl, bx⟩ = ⟨o, (d, v) :: (sl ++ e), bx ++ b⟩ := rfl
@[simp] theorem put0_mk (o e : List (Nat × AVal)) (b : List (Nat × Option (List AVal))) (v : AVal) (sl : List (Nat × AVal)) (bx : List (Nat × Option (List AVal))) : put0 o e b ⟨v, sl, bx⟩ = ⟨o, sl ++ e, bx ++ b⟩ := rfl
@[simp] theorem guard1_t (o e : List (Nat × AVal)) (b : List (Nat × Option (List AVal))) (d : Nat) (x : Eff) : guard1 o e b d true x = put1 o e b d x := rfl
@[simp] theorem guard1_f (o e : List (Nat × AVal)) (b : List (Nat × Option (List AVal))) (d : Nat) (x : Eff) : guard1 o e b d false x = ⟨o, (d, skipV) :: e, b⟩ := rfl
@[simp] theorem step_some (E : Env) (d : Nat) (op : AOp) (o e : List (Nat × AVal)) (b : List (Nat × Option (List AVal))) :
    stepA E ⟨some d, none, op⟩ ⟨o, e, b⟩ = put1 o e b d (eff E (ASt.get ⟨o, e, b⟩) (ASt.getB ⟨o, e, b⟩) op) := rfl
@[simp] theorem step_none (E : Env) (op : AOp) (o e : List (Nat × AVal)) (b : List (Nat × Option (List AVal))) :
    stepA E ⟨none, none, op⟩ ⟨o, e, b⟩ = put0 o e b (eff E (ASt.get ⟨o, e, b⟩) (ASt.getB ⟨o, e, b⟩) op) := rfl
@[simp] theorem step_guard (E : Env) (d s : Nat) (w : Bool) (op : AOp) (o e : List (Nat × AVal)) (b : List (Nat × Option (List AVal))) :
    stepA E ⟨some d, some (s, w), op⟩ ⟨o, e, b⟩ = guard1 o e b d (gate (ASt.get ⟨o, e, b⟩ s) w) (eff E (ASt.get ⟨o, e, b⟩) (ASt.getB ⟨o, e, b⟩) op) := by
  simp only [stepA, guard1, put1]
  generalize gate (ASt.get ⟨o, e, b⟩ s) w = t
  cases t <;> simp
@[simp] theorem gate_bo (x w : Bool) : gate (bo x) w = (x == w) := rfl
@[simp] theorem gate_skip (w : Bool) : gate skipV w = false := rfl
@[simp] theorem okG_bo (x : Bool) : okG (bo x) = True := eq_true (.inl trivial)
@[simp] theorem okG_skip : okG skipV = True := eq_true (.inr rfl)
@[simp] theorem dem_skip : dem skipV = skipV := rfl
@[simp] theorem refs_skip : refs skipV = [] := rfl
attribute [simp] finG runR
def pickS (f : Nat → AVal) : List Nat → List (Nat × AVal)
  | [] => []
  | s :: l => (s, f s) :: pickS f l
def pickB (f : Nat → Option (List AVal)) : List Nat → List (Nat × Option (List AVal))
  | [] => []
  | s :: l => (s, f s) :: pickB f l
def dropB (ids : List Nat) : List (Nat × Option (List AVal)) → List (Nat × Option (List AVal))
  | [] => []
  | p :: l => if ids.contains p.1 then dropB ids l else p :: dropB ids l
theorem pickS_eq (f : Nat → AVal) : ∀ l, pickS f l = l.map fun s => (s, f s)
  | [] => rfl
  | s :: l => by rw [pickS, pickS_eq f l]; rfl
theorem pickB_eq (f : Nat → Option (List AVal)) : ∀ l, pickB f l = l.map fun s => (s, f s)
  | [] => rfl
  | s :: l => by rw [pickB, pickB_eq f l]; rfl
theorem dropB_eq (ids : List Nat) : ∀ l, dropB ids l = l.filter fun p => !ids.contains p.1
  | [] => rfl
  | p :: l => by
    rw [dropB, dropB_eq ids l, List.filter_cons]
    cases ids.contains p.1 <;> rfl
attribute [simp] pickS pickB dropB
@[simp] theorem restr_mk (keep : List Nat) (o e : List (Nat × AVal)) (b : List (Nat × Option (List AVal))) : restr keep ⟨o, e, b⟩ = ⟨o, pickS (ASt.get ⟨o, e, b⟩) keep, b⟩ := by rw [pickS_eq]; rfl
@[simp] theorem norm_mk (ids : List Nat) (o e : List (Nat × AVal)) (b : List (Nat × Option (List AVal))) : runGhost (.norm ids) ⟨o, e, b⟩ = ⟨o, e, pickB (ASt.getB ⟨o, e, b⟩) ids⟩ := by rw [pickB_eq]; rfl
@[simp] theorem drop_mk (ids : List Nat) (o e : List (Nat × AVal)) (b : List (Nat × Option (List AVal))) : runGhost (.drop ids) ⟨o, e, b⟩ = ⟨o, e, dropB ids b⟩ := by rw [dropB_eq]; rfl
def dropO (s : Nat) : List (Nat × AVal) → List (Nat × AVal)
  | [] => []
  | (k, v) :: l => if k = s then dropO s l else (k, v) :: dropO s l
theorem dropO_eq (s : Nat) : ∀ l, dropO s l = l.filter fun p => decide (p.1 ≠ s)
  | [] => rfl
  | (k, v) :: l => by
    rw [dropO, dropO_eq s l, List.filter_cons]
    by_cases h : k = s <;> simp [h]
attribute [simp] dropO
@[simp] theorem unorg_mk (s : Nat) (o e : List (Nat × AVal)) (b : List (Nat × Option (List AVal))) : runGhost (.unorg s) ⟨o, e, b⟩ = ⟨dropO s o, (s, ASt.get ⟨o, e, b⟩ s) :: e, b⟩ := by rw [dropO_eq]; rfl
def hideL (b i : Nat) (x : Option (List AVal)) (box : List (Nat × Option (List AVal))) : List (Nat × Option (List AVal)) := match x with | some bs => (b, some (bs.set i .undef)) :: box | none => box
@[simp] theorem hideL_some (b i : Nat) (bs : List AVal) (box : List (Nat × Option (List AVal))) : hideL b i (some bs) box = (b, some (bs.set i .undef)) :: box := rfl
@[simp] theorem hideB_mk (b i : Nat) (o e : List (Nat × AVal)) (box : List (Nat × Option (List AVal))) : runGhost (.hideB b i) ⟨o, e, box⟩ = ⟨o, e, hideL b i (ASt.getB ⟨o, e, box⟩ b) box⟩ := by
  simp only [runGhost, hideL]
  split <;> simp_all
def reL (b i : Nat) (r : Option Nat) (x : Option (List AVal)) (box : List (Nat × Option (List AVal))) : List (Nat × Option (List AVal)) := match x with | some bs => (b, some (bs.set i (reCell r (bs.getD i .undef)))) :: box | none => box
@[simp] theorem reL_some (b i : Nat) (r : Option Nat) (bs : List AVal) (box : List (Nat × Option (List AVal))) : reL b i r (some bs) box = (b, some (bs.set i (reCell r (bs.getD i .undef)))) :: box := rfl
@[simp] theorem reB_mk (b i : Nat) (r : Option Nat) (o e : List (Nat × AVal)) (box : List (Nat × Option (List AVal))) : runGhost (.reB b i r) ⟨o, e, box⟩ = ⟨o, e, reL b i r (ASt.getB ⟨o, e, box⟩ b) box⟩ := by
  simp only [runGhost, reL]
  split <;> simp_all
@[simp] theorem reCell_none (c : AVal) : reCell none c = dem c := rfl
@[simp] theorem reCell_nil (e : Nat) : reCell (some e) (.sl .plain (some true) 0 []) = .sl (.own e) none 0 [] := rfl
@[simp] theorem keep_mk (keep : List Nat) (o e : List (Nat × AVal)) (b : List (Nat × Option (List AVal))) : runGhost (.keep keep) ⟨o, e, b⟩ = ⟨o, pickS (ASt.get ⟨o, e, b⟩) keep, b⟩ := restr_mk keep o e b
@[simp] theorem freeze_mk (ids : List Nat) (o e : List (Nat × AVal)) (b : List (Nat × Option (List AVal))) : runGhost (.freeze ids) ⟨o, e, b⟩ =
    ⟨o, e.map fun p => (p.1, deep ids (fun id => (ASt.getB ⟨o, e, b⟩ id).getD []) p.2), (dropB ids b).map fun p => (p.1, p.2.map (deepL ids fun id => (ASt.getB ⟨o, e, b⟩ id).getD []))⟩ := by rw [dropB_eq]; rfl
@[simp] theorem awp_seq (E : Env) (a b : ACode) (Q : AExit → ASt → Prop) (s : ASt) : awp E (.seq a b) Q s = awp E a (thenQ (awp E b Q) Q) s := rfl
theorem awp_cond (E : Env) (c : Arg) (a b : ACode) (Q : AExit → ASt → Prop) (s : ASt) :
    awp E (.cond c a b) Q s = (isB (arg E s.get c) ∧ (asB (arg E s.get c) = true → awp E a Q s) ∧ (asB (arg E s.get c) = false → awp E b Q s)) := rfl
@[simp] theorem awp_block (E : Env) (id : Nat) (b : ACode) (Q : AExit → ASt → Prop) (s : ASt) : awp E (.block id b) Q s = awp E b (blockQ id Q) s := rfl
@[simp] theorem awp_scope (E : Env) (b : ACode) (Q : AExit → ASt → Prop) (s : ASt) : awp E (.scope b) Q s = awp E b Q s := rfl
@[simp] theorem awp_exit (E : Env) (id : Nat) (Q : AExit → ASt → Prop) (s : ASt) : awp E (.exit id) Q s = Q (.exit id) s := rfl
@[simp] theorem awp_ret (E : Env) (Q : AExit → ASt → Prop) (s : ASt) : awp E .ret Q s = Q .ret s := rfl
@[simp] theorem awp_ghost (E : Env) (g : Ghost) (c : ACode) (Q : AExit → ASt → Prop) (s : ASt) : awp E (.ghost g c) Q s = (okGhost g s ∧ awp E c Q (runGhost g s)) := rfl

attribute [simp] okA eff okp okp.okApp okCall callV

/-! ### Reading arguments -/
def nth (ds : List AVal) (i : Nat) : AVal := ds.getD i .undef
def gU8 (v : AVal) : UInt8 := UInt8.ofInt (asI v)
def gU32 (v : AVal) : UInt32 := UInt32.ofInt (asI v)
def gU64 (v : AVal) : UInt64 := UInt64.ofInt (asI v)
def gS (v : AVal) : List UInt8 := (asS v).data.toList
def gCs (v : AVal) : List AVal := match v with | .agg cs => cs | .sl _ _ _ cs => cs | .ep cs => cs | .tup cs => cs | _ => []
def gBs (l : List AVal) : List UInt8 := l.map gU8
def gWs (l : List AVal) : List UInt32 := l.map gU32
@[simp] theorem nth_0 (d : AVal) (ds : List AVal) : nth (d :: ds) 0 = d := rfl
@[simp] theorem nth_s (d : AVal) (ds : List AVal) (i : Nat) : nth (d :: ds) (i + 1) = nth ds i := rfl
@[simp] theorem gU8_u8 (x : UInt8) : gU8 (u8 x) = x := by
  apply UInt8.toNat_inj.1
  rw [gU8, ofInt8, asI_u8]
  have := x.toNat_lt
  omega
@[simp] theorem gU32_u32 (x : UInt32) : gU32 (u32 x) = x := by
  apply UInt32.toNat_inj.1
  rw [gU32, ofInt32, asI_u32]
  have := x.toNat_lt
  omega
@[simp] theorem gU64_u64 (x : UInt64) : gU64 (u64 x) = x := by
  apply UInt64.toNat_inj.1
  rw [gU64, ofInt64, asI_u64]
  have := x.toNat_lt
  omega
@[simp] theorem gS_st (l : List UInt8) : gS (st l) = l := rfl
@[simp] theorem gCs_agg (l : List AVal) : gCs (.agg l) = l := rfl
@[simp] theorem gCs_tup (l : List AVal) : gCs (.tup l) = l := rfl
@[simp] theorem gCs_ep (l : List AVal) : gCs (.ep l) = l := rfl
@[simp] theorem gCs_sl (m : Mode) (nl : Option Bool) (n : Nat) (l : List AVal) : gCs (.sl m nl n l) = l := rfl
@[simp] theorem gCs_nil : gCs (.lit (.slice none 0 0)) = [] := rfl
@[simp] theorem gBs_bys (l : List UInt8) : gBs (bys l) = l := by simp [gBs, bys, Function.comp_def]
@[simp] theorem gWs_w32s (l : List UInt32) : gWs (w32s l) = l := by simp [gWs, w32s, Function.comp_def]
@[simp] theorem gBs_nil : gBs [] = [] := rfl

@[simp] theorem u8_inj (x y : UInt8) : (u8 x = u8 y) = (x = y) := propext ⟨fun h => by rw [← gU8_u8 x, h, gU8_u8], fun h => by rw [h]⟩
@[simp] theorem u32_inj (x y : UInt32) : (u32 x = u32 y) = (x = y) := propext ⟨fun h => by rw [← gU32_u32 x, h, gU32_u32], fun h => by rw [h]⟩
@[simp] theorem u64_inj (x y : UInt64) : (u64 x = u64 y) = (x = y) := propext ⟨fun h => by rw [← gU64_u64 x, h, gU64_u64], fun h => by rw [h]⟩
@[simp] theorem i64_inj (x y : Int) : (i64 x = i64 y) = (x = y) := propext ⟨fun h => by rw [← asI_i64 x, h, asI_i64], fun h => by rw [h]⟩
@[simp] theorem bo_inj (x y : Bool) : (bo x = bo y) = (x = y) := propext ⟨fun h => by rw [← asB_bo x, h, asB_bo], fun h => by rw [h]⟩
@[simp] theorem st_inj (x y : List UInt8) : (st x = st y) = (x = y) := propext ⟨fun h => by rw [← gS_st x, h, gS_st], fun h => by rw [h]⟩
@[simp] theorem bys_inj (x y : List UInt8) : (bys x = bys y) = (x = y) := propext ⟨fun h => by rw [← gBs_bys x, h, gBs_bys], fun h => by rw [h]⟩
@[simp] theorem w32s_inj (x y : List UInt32) : (w32s x = w32s y) = (x = y) := propext ⟨fun h => by rw [← gWs_w32s x, h, gWs_w32s], fun h => by rw [h]⟩
theorem w32s_cons (x : UInt32) (l : List UInt32) : w32s (x :: l) = u32 x :: w32s l := rfl

/-! ### Loops -/
theorem awp_name {E : Env} {c : ACode} {Q : AExit → ASt → Prop} {st : ASt} (h : ∀ Q', Q' = Q → awp E c Q' st) : awp E c Q st := h Q rfl
theorem awp_for {E : Env} {b : ACode} {Q : AExit → ASt → Prop} {st : ASt} {α : Type} (S : α → ASt) (μ : α → Nat) (inv : α → Prop) (a0 : α) (h0 : st = S a0) (hi : inv a0)
    (hr : ∀ a, inv a → awp E b (thenQ (fun st' => ∃ a', μ a' < μ a ∧ inv a' ∧ st' = S a') Q) (S a)) : awp E (.loop b) Q st := by
  refine ⟨fun m st => ∃ a, μ a = m ∧ inv a ∧ st = S a, ⟨μ a0, a0, rfl, hi, h0⟩, ?_⟩
  rintro m _ ⟨a, rfl, hia, rfl⟩
  have e : (thenQ (fun st' => ∃ a', μ a' < μ a ∧ inv a' ∧ st' = S a') Q) = (thenQ (fun st' => ∃ m', m' < μ a ∧ ∃ a', μ a' = m' ∧ inv a' ∧ st' = S a') Q) := by
    funext e st'
    cases e <;> simp only [thenQ]
    apply propext
    constructor
    · rintro ⟨a', h1, h2, h3⟩; exact ⟨_, h1, a', rfl, h2, h3⟩
    · rintro ⟨_, h1, a', rfl, h2, h3⟩; exact ⟨a', h1, h2, h3⟩
  rw [← e]
  exact hr a hia

/-! ### Splices -/
@[simp] theorem splice_zero_one (a x : AVal) (l : List AVal) : splice (a :: l) 0 [x] = x :: l := by simp [splice]
@[simp] theorem splice_succ (a : AVal) (l : List AVal) (n : Nat) (xs : List AVal) : splice (a :: l) (n + 1) xs = a :: splice l n xs := by
  simp only [splice, List.take_succ_cons, List.cons_append, List.cons.injEq, true_and]
  congr 1
  rw [show n + 1 + xs.length = (n + xs.length) + 1 by omega, List.drop_succ_cons]
theorem splice_full {l xs : List AVal} (h : xs.length = l.length) : splice l 0 xs = xs := by simp [splice, h]
theorem splice_left {a b xs : List AVal} {n : Nat} (h : n + xs.length ≤ a.length) : splice (a ++ b) n xs = splice a n xs ++ b := by
  simp only [splice, List.append_assoc]
  rw [List.take_append_of_le_length (by omega), List.drop_append_of_le_length h]
theorem splice_right {a b xs : List AVal} {n : Nat} (h : a.length ≤ n) : splice (a ++ b) n xs = a ++ splice b (n - a.length) xs := by
  simp only [splice]
  rw [List.take_append, List.take_of_length_le h, List.drop_append, List.drop_of_length_le (by omega)]
  simp only [List.append_assoc, List.nil_append]
  rw [show n + xs.length - a.length = n - a.length + xs.length by omega]
theorem splice_bys {l : List UInt8} {n : Nat} {x : UInt8} (h : n < l.length) : splice (bys l) n [u8 x] = bys (l.set n x) := by
  simp only [splice, bys, ← List.map_take, ← List.map_drop, List.length_singleton]
  rw [List.set_eq_take_append_cons_drop, if_pos h]
  simp
theorem splice_w32s {l : List UInt32} {n : Nat} {x : UInt32} (h : n < l.length) : splice (w32s l) n [u32 x] = w32s (l.set n x) := by
  simp only [splice, w32s, ← List.map_take, ← List.map_drop, List.length_singleton]
  rw [List.set_eq_take_append_cons_drop, if_pos h]
  simp
def at8 (l : List UInt8) (i : Nat) : UInt8 := l.getD i 0
def at32 (l : List UInt32) (i : Nat) : UInt32 := l.getD i 0
theorem hd_at {l : List AVal} {n : Nat} : hdA (l.drop n) = l.getD n .undef := by
  rw [hdA, List.headD_eq_head?_getD, List.head?_drop]
  rfl
theorem getD_bys {l : List UInt8} {n : Nat} (h : n < l.length) : (bys l).getD n .undef = u8 (at8 l n) := by
  simp [at8, bys, List.getD, List.getElem?_eq_getElem h]
theorem getD_w32s {l : List UInt32} {n : Nat} (h : n < l.length) : (w32s l).getD n .undef = u32 (at32 l n) := by
  simp [at32, w32s, List.getD, List.getElem?_eq_getElem h]
theorem hd_bys {l : List UInt8} {n : Nat} (h : n < l.length) : hdA (bys (l.drop n)) = u8 (at8 l n) := by rw [← bys_drop, hd_at, getD_bys h]
@[simp] theorem w32s_take (l : List UInt32) (n : Nat) : (w32s l).take n = w32s (l.take n) := by simp [w32s]
@[simp] theorem w32s_drop (l : List UInt32) (n : Nat) : (w32s l).drop n = w32s (l.drop n) := by simp [w32s]
theorem hd_w32s {l : List UInt32} {n : Nat} (h : n < l.length) : hdA (w32s (l.drop n)) = u32 (at32 l n) := by rw [← w32s_drop, hd_at, getD_w32s h]
theorem hd_w32s0 {l : List UInt32} (h : 0 < l.length) : hdA (w32s l) = u32 (at32 l 0) := by rw [← hd_w32s h, List.drop_zero]
@[simp] theorem w32s_getElem (l : List UInt32) (i : Nat) (h : i < (w32s l).length) : (w32s l)[i] = u32 (at32 l i) := by
  have h' : i < l.length := by simpa using h
  simp [at32, w32s, List.getElem?_eq_getElem h']
@[simp] theorem bys_getElem (l : List UInt8) (i : Nat) (h : i < (bys l).length) : (bys l)[i] = u8 (at8 l i) := by
  have h' : i < l.length := by simpa using h
  simp [at8, bys, List.getElem?_eq_getElem h']
@[simp] theorem hdA_w32s_cons (x : UInt32) (l : List UInt32) : hdA (w32s (x :: l)) = u32 x := rfl
@[simp] theorem hdA_bys_cons (x : UInt8) (l : List UInt8) : hdA (bys (x :: l)) = u8 x := rfl
@[simp] theorem hdA_cons (a : AVal) (l : List AVal) : hdA (a :: l) = a := rfl
theorem at8_app {a b : List UInt8} {i : Nat} (h : i < a.length) : at8 (a ++ b) i = at8 a i := by simp [at8, List.getD, List.getElem?_append_left h]
theorem at32_app {a b : List UInt32} {i : Nat} (h : i < a.length) : at32 (a ++ b) i = at32 a i := by simp [at32, List.getD, List.getElem?_append_left h]
theorem at8_app_r {a b : List UInt8} {i : Nat} (h : a.length ≤ i) : at8 (a ++ b) i = at8 b (i - a.length) := by simp [at8, List.getD, List.getElem?_append_right h]
theorem at32_app_r {a b : List UInt32} {i : Nat} (h : a.length ≤ i) : at32 (a ++ b) i = at32 b (i - a.length) := by simp [at32, List.getD, List.getElem?_append_right h]
theorem at8_take {a : List UInt8} {i n : Nat} (h : i < n) : at8 (a.take n) i = at8 a i := by simp [at8, List.getD, List.getElem?_take, h]
@[simp] theorem at8_drop {a : List UInt8} {i n : Nat} : at8 (a.drop n) i = at8 a (n + i) := by simp [at8, List.getD]
@[simp] theorem at32_drop {a : List UInt32} {i n : Nat} : at32 (a.drop n) i = at32 a (n + i) := by simp [at32, List.getD]
@[simp] theorem at32_cons (x : UInt32) (l : List UInt32) : at32 (x :: l) 0 = x := rfl
@[simp] theorem at32_succ (x : UInt32) (l : List UInt32) (n : Nat) : at32 (x :: l) (n + 1) = at32 l n := rfl
@[simp] theorem at8_cons (x : UInt8) (l : List UInt8) : at8 (x :: l) 0 = x := rfl
@[simp] theorem at8_succ (x : UInt8) (l : List UInt8) (n : Nat) : at8 (x :: l) (n + 1) = at8 l n := rfl

def ks8 (n : Nat) : List LK := List.replicate n (.int .u8)
@[simp] theorem okCells_ks8 (n : Nat) (l : List UInt8) : okCells (ks8 n) (bys l) = (l.length = n) := by
  induction n generalizing l with
  | zero => cases l <;> simp [ks8, okCells, bys]
  | succ n ih =>
    cases l with
    | nil => simp [ks8, List.replicate_succ, okCells, bys]
    | cons x l =>
      have := ih l
      simp only [ks8, bys] at this
      simp [ks8, List.replicate_succ, okCells, bys, okLK, u8, this]
@[simp] theorem size_mk (l : List UInt8) : (ByteArray.mk l.toArray).size = l.length := by simp [ByteArray.size]
@[simp] theorem mod64 (n : UInt64) : ((n.toNat : Int) % 64).toNat = n.toNat % 64 := by omega
@[simp] theorem lit_i64 (n : Int) : AVal.lit (.int .i64 n) = i64 n := rfl
@[simp] theorem lit_bo (b : Bool) : AVal.lit (.bool b) = bo b := rfl
@[simp] theorem lit_u8n (x : UInt8) : AVal.lit (.int .u8 (x.toNat : Int)) = u8 x := rfl
@[simp] theorem lit_tostr (l : List UInt8) : AVal.lit (.string (bytesOf (bys l))) = st l := by
  simp only [st, bytesOf, bys, List.map_map]
  congr 3
  rw [show ((fun c => UInt8.ofNat (asI c).toNat) ∘ u8) = id from funext fun x => by simp [asI_u8]]
  simp
@[simp] theorem lit_tostr1 (x : UInt8) : AVal.lit (.string (bytesOf [u8 x])) = st [x] := lit_tostr [x]
@[simp] theorem lit_extract (l : List UInt8) (a b : Nat) : AVal.lit (.string ((ByteArray.mk l.toArray).extract a b)) = st ((l.drop a).take (b - a)) := by
  simp only [st]
  congr 2
  apply ByteArray.ext
  rw [ByteArray.data_extract]
  simp [List.extract]
attribute [simp] retQ retM initM envM epCells okM effM mArgs okMA fnd Abs.ren renL
@[simp] theorem ren_u8 (m : List (Nat × Nat)) (x : UInt8) : Abs.ren m (u8 x) = u8 x := rfl
@[simp] theorem ren_u32 (m : List (Nat × Nat)) (x : UInt32) : Abs.ren m (u32 x) = u32 x := rfl
@[simp] theorem ren_u64 (m : List (Nat × Nat)) (x : UInt64) : Abs.ren m (u64 x) = u64 x := rfl
@[simp] theorem ren_i64 (m : List (Nat × Nat)) (x : Int) : Abs.ren m (i64 x) = i64 x := rfl
@[simp] theorem ren_bo (m : List (Nat × Nat)) (x : Bool) : Abs.ren m (bo x) = bo x := rfl
@[simp] theorem ren_st (m : List (Nat × Nat)) (x : List UInt8) : Abs.ren m (st x) = st x := rfl
end Go.Abs
end
