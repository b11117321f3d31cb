/- Lemmas: an abstract interpreter, and what the functions compute. -/
import Derived.Test.YtkccmbjmlpnejaaDoorC
set_option linter.unusedSimpArgs false
set_option linter.unusedVariables false
set_option linter.unusedSectionVars false
section
namespace Go.Abs

def u8 (x:UInt8):z2a:= .lit (.int .u8 x.toNat)
def u32 (x:UInt32):z2a:= .lit (.int .u32 x.toNat)
def u64 (x:UInt64):z2a:= .lit (.int .u64 x.toNat)
def i64 (x:Int):z2a:= .lit (.int .i64 x)
def bo (x:Bool):z2a:= .lit (.bool x)
def st (l:List UInt8):z2a:= .lit (.string ⟨l.toArray⟩)
def bys (l:List UInt8):List z2a:=l.map u8
def z2p (l:List UInt32):List z2a:=l.map u32
def W (n:Int):Int:=IntKind.i64.wrap n

theorem z9a {n:Int} (h0: -9223372036854775808≤n) (h1:n≤9223372036854775807):W n=n:=by
 unfold W IntKind.wrap IntKind.bits IntKind.signed
 simp only[Bool.true_and,decide_eq_true_eq]
 split<;>omega

theorem z1va (n:Nat):IntKind.u8.wrap (n:Int)=((n% 256:Nat):Int):=by
 unfold IntKind.wrap IntKind.bits IntKind.signed
 simp
theorem z0ia (n:Nat):IntKind.u32.wrap (n:Int)=((n% 4294967296:Nat):Int):=by
 unfold IntKind.wrap IntKind.bits IntKind.signed
 simp
theorem z6ba (n:Nat):IntKind.u64.wrap (n:Int)=((n% 18446744073709551616:Nat):Int):=by
 unfold IntKind.wrap IntKind.bits IntKind.signed
 simp

section looks
@[simp] theorem z4db (x:UInt8):asI (u8 x)=x.toNat:=rfl
@[simp] theorem z84b (x:UInt32):asI (u32 x)=x.toNat:=rfl
@[simp] theorem z64b (x:UInt64):asI (u64 x)=x.toNat:=rfl
@[simp] theorem z8mb (x:Int):asI (i64 x)=x:=rfl
@[simp] theorem z1Qb (x:Bool):asB (bo x)=x:=rfl
@[simp] theorem asS_st (l:List UInt8):asS (st l)=⟨l.toArray⟩:=rfl
@[simp] theorem isB_bo (x:Bool):isB (bo x)↔True:=by simp[isB,bo]
@[simp] theorem isI_u8 (x:UInt8):isI (u8 x)↔True:=by simp[isI,u8]
@[simp] theorem z68c (x:UInt32):isI (u32 x)↔True:=by simp[isI,u32]
@[simp] theorem z60c (x:UInt64):isI (u64 x)↔True:=by simp[isI,u64]
@[simp] theorem z3ad (x:Int):isI (i64 x)↔True:=by simp[isI,i64]
@[simp] theorem z2Xc (x:UInt8):z6dc .u8 (u8 x)↔True:=by simp[z6dc,u8]
@[simp] theorem isS_st (l:List UInt8):isS (st l)↔True:=by simp[isS,st]
@[simp] theorem dem_u8 (x:UInt8):dem (u8 x)=u8 x:=rfl
@[simp] theorem z35c (x:UInt32):dem (u32 x)=u32 x:=rfl
@[simp] theorem z69c (x:UInt64):dem (u64 x)=u64 x:=rfl
@[simp] theorem z51c (x:Int):dem (i64 x)=i64 x:=rfl
@[simp] theorem dem_bo (x:Bool):dem (bo x)=bo x:=rfl
@[simp] theorem dem_st (x:List UInt8):dem (st x)=st x:=rfl
@[simp] theorem z7uc (x:UInt8):z2d (u8 x)↔True:=by simp[z2d,u8]
@[simp] theorem z8kc (x:UInt32):z2d (u32 x)↔True:=by simp[z2d,u32]
@[simp] theorem z6ec (x:UInt64):z2d (u64 x)↔True:=by simp[z2d,u64]
@[simp] theorem z7ec (x:Int):z2d (i64 x)↔True:=by simp[z2d,i64]
@[simp] theorem z1uc (x:Bool):z2d (bo x)↔True:=by simp[z2d,bo]
@[simp] theorem z4Ec (x:List UInt8):z2d (st x)↔True:=by simp[z2d,st]
@[simp] theorem z3Lc (x:UInt8):z6f (u8 x)=true:=rfl
@[simp] theorem z3Gc (x:UInt32):z6f (u32 x)=true:=rfl
@[simp] theorem z7mc (x:UInt64):z6f (u64 x)=true:=rfl
@[simp] theorem z9Ic (x:Int):z6f (i64 x)=true:=rfl
@[simp] theorem z0Tc (x:Bool):z6f (bo x)=true:=rfl
@[simp] theorem z2Nc (x:List UInt8):z6f (st x)=true:=rfl
@[simp] theorem z5jc (x:UInt8):z2f (u8 x)=true:=rfl
@[simp] theorem z8Zb (x:UInt32):z2f (u32 x)=true:=rfl
@[simp] theorem z52b (x:UInt64):z2f (u64 x)=true:=rfl
@[simp] theorem z43b (x:Int):z2f (i64 x)=true:=rfl
@[simp] theorem z2bc (x:Bool):z2f (bo x)=true:=rfl
@[simp] theorem z6bc (x:List UInt8):z2f (st x)=true:=rfl
@[simp] theorem z79c (x:UInt8):z0r (u8 x)=[]:=rfl
@[simp] theorem z6Nc (x:UInt32):z0r (u32 x)=[]:=rfl
@[simp] theorem z7Vc (x:UInt64):z0r (u64 x)=[]:=rfl
@[simp] theorem z7Mc (x:Int):z0r (i64 x)=[]:=rfl
@[simp] theorem z8Zc (x:Bool):z0r (bo x)=[]:=rfl
@[simp] theorem z99c (x:List UInt8):z0r (st x)=[]:=rfl
@[simp] theorem z9zc (x:UInt8):z1f (u8 x)=false:=rfl
@[simp] theorem z3ic (x:UInt32):z1f (u32 x)=false:=rfl
@[simp] theorem z9dc (x:UInt64):z1f (u64 x)=false:=rfl
@[simp] theorem z5bc (x:Int):z1f (i64 x)=false:=rfl
@[simp] theorem z9Bc (x:Bool):z1f (bo x)=false:=rfl
@[simp] theorem z1Hc (x:List UInt8):z1f (st x)=false:=rfl
@[simp] theorem z7wc (x:UInt8):z3s (u8 x)=[u8 x]:=rfl
@[simp] theorem z3jc (x:UInt32):z3s (u32 x)=[u32 x]:=rfl
@[simp] theorem z9fc (x:UInt64):z3s (u64 x)=[u64 x]:=rfl
@[simp] theorem z8cc (x:Int):z3s (i64 x)=[i64 x]:=rfl
@[simp] theorem z9Ec (x:Bool):z3s (bo x)=[bo x]:=rfl
@[simp] theorem z0Ic (x:List UInt8):z3s (st x)=[st x]:=rfl
@[simp] theorem z7ad (l:List UInt8):z5t (st l)=l.length:=by simp[z5t,st,ByteArray.size]
@[simp] theorem z8nc (bx:List z2a) (l:List UInt8):z1i bx (st l)=bys l:=by simp[z1i,st,bys,u8]
end looks

section arith
@[simp] theorem z4Yb (x y:Int):z4G .add (i64 x) (i64 y)=i64 (W (x+y)):=rfl
@[simp] theorem z25b (x y:Int):z4G .sub (i64 x) (i64 y)=i64 (W (x-y)):=rfl
@[simp] theorem z71b (x y:Int):z4G .mul (i64 x) (i64 y)=i64 (W (x*y)):=rfl
@[simp] theorem z4Zb (x y:Int):z4G .quo (i64 x) (i64 y)=i64 (W (x.tdiv y)):=rfl
@[simp] theorem z53b (x y:Int):z4G .rem (i64 x) (i64 y)=i64 (x.tmod y):=rfl
@[simp] theorem z30b (x y:Int):z4G .eql (i64 x) (i64 y)=bo (x==y):=rfl
@[simp] theorem z70b (x y:Int):z4G .neq (i64 x) (i64 y)=bo (x !=y):=rfl
@[simp] theorem z3Ub (x y:Int):z4G .lss (i64 x) (i64 y)=bo (decide (x<y)):=rfl
@[simp] theorem z58b (x y:Int):z4G .leq (i64 x) (i64 y)=bo (decide (x≤y)):=rfl
@[simp] theorem z63b (x y:Int):z4G .gtr (i64 x) (i64 y)=bo (decide (y<x)):=rfl
@[simp] theorem z51b (x y:Int):z4G .geq (i64 x) (i64 y)=bo (decide (y≤x)):=rfl

theorem z3T {n:Int} {x:UInt32} (h:n=x.toNat):z2a.lit (.int .u32 n)=u32 x:=by rw[h];rfl
theorem z9ha {n:Int} {x:UInt8} (h:n=x.toNat):z2a.lit (.int .u8 n)=u8 x:=by rw[h];rfl
theorem z7L {n:Int} {x:UInt64} (h:n=x.toNat):z2a.lit (.int .u64 n)=u64 x:=by rw[h];rfl

theorem z5Ba (k n:Nat):(BitVec.ofInt k (n:Int)).toNat=n% 2^k:=by
 simp[BitVec.toNat_ofInt]
theorem z2ra (x:UInt32):BitVec.ofInt 32 (x.toNat:Int)=x.toBitVec:=by
 apply BitVec.eq_of_toNat_eq
 rw[z5Ba]
 exact Nat.mod_eq_of_lt x.toNat_lt
theorem z7Hb (x:UInt8):BitVec.ofInt 8 (x.toNat:Int)=x.toBitVec:=by
 apply BitVec.eq_of_toNat_eq
 rw[z5Ba]
 exact Nat.mod_eq_of_lt x.toNat_lt
theorem z5Ma (x:UInt64):BitVec.ofInt 64 (x.toNat:Int)=x.toBitVec:=by
 apply BitVec.eq_of_toNat_eq
 rw[z5Ba]
 exact Nat.mod_eq_of_lt x.toNat_lt
theorem z9ga (x:BitVec 32):IntKind.u32.wrap (x.toNat:Int)=(x.toNat:Int):=by rw[z0ia,Nat.mod_eq_of_lt x.isLt]
theorem z64a (x:BitVec 8):IntKind.u8.wrap (x.toNat:Int)=(x.toNat:Int):=by rw[z1va,Nat.mod_eq_of_lt x.isLt]
theorem z4ta (x:BitVec 64):IntKind.u64.wrap (x.toNat:Int)=(x.toNat:Int):=by rw[z6ba,Nat.mod_eq_of_lt x.isLt]

@[simp] theorem z55b (x y:UInt32):z4G .add (u32 x) (u32 y)=u32 (x+y):=z3T (by
 show IntKind.u32.wrap ((x.toNat:Int)+y.toNat)=_
 rw[←Int.natCast_add,z0ia,UInt32.toNat_add])
@[simp] theorem z6cc (x y:UInt8):z4G .add (u8 x) (u8 y)=u8 (x+y):=z9ha (by
 show IntKind.u8.wrap ((x.toNat:Int)+y.toNat)=_
 rw[←Int.natCast_add,z1va,UInt8.toNat_add])
@[simp] theorem z8ac (x y:UInt64):z4G .add (u64 x) (u64 y)=u64 (x+y):=z7L (by
 show IntKind.u64.wrap ((x.toNat:Int)+y.toNat)=_
 rw[←Int.natCast_add,z6ba,UInt64.toNat_add])
@[simp] theorem z9Ub (x y:UInt64):z4G .mul (u64 x) (u64 y)=u64 (x*y):=z7L (by
 show IntKind.u64.wrap ((x.toNat:Int)*y.toNat)=_
 rw[←Int.natCast_mul,z6ba,UInt64.toNat_mul])
@[simp] theorem z85b (x y:UInt32):z4G .and (u32 x) (u32 y)=u32 (x&&&y):=z3T (by
 show IntKind.u32.wrap ((BitVec.ofInt 32 x.toNat&&&BitVec.ofInt 32 y.toNat).toNat:Int)=_
 rw[z2ra,z2ra,z9ga]
 rfl)
@[simp] theorem z1bc (x y:UInt32):z4G .or (u32 x) (u32 y)=u32 (x|||y):=z3T (by
 show IntKind.u32.wrap ((BitVec.ofInt 32 x.toNat|||BitVec.ofInt 32 y.toNat).toNat:Int)=_
 rw[z2ra,z2ra,z9ga]
 rfl)
@[simp] theorem z5Sb (x y:UInt32):z4G .xor (u32 x) (u32 y)=u32 (x^^^y):=z3T (by
 show IntKind.u32.wrap ((BitVec.ofInt 32 x.toNat^^^BitVec.ofInt 32 y.toNat).toNat:Int)=_
 rw[z2ra,z2ra,z9ga]
 rfl)
@[simp] theorem z8mc (x y:UInt8):z4G .or (u8 x) (u8 y)=u8 (x|||y):=z9ha (by
 show IntKind.u8.wrap ((BitVec.ofInt 8 x.toNat|||BitVec.ofInt 8 y.toNat).toNat:Int)=_
 rw[z7Hb,z7Hb,z64a]
 rfl)
@[simp] theorem z1jc (x y:UInt8):z4G .xor (u8 x) (u8 y)=u8 (x^^^y):=z9ha (by
 show IntKind.u8.wrap ((BitVec.ofInt 8 x.toNat^^^BitVec.ofInt 8 y.toNat).toNat:Int)=_
 rw[z7Hb,z7Hb,z64a]
 rfl)
@[simp] theorem z2kc (x y:UInt64):z4G .or (u64 x) (u64 y)=u64 (x|||y):=z7L (by
 show IntKind.u64.wrap ((BitVec.ofInt 64 x.toNat|||BitVec.ofInt 64 y.toNat).toNat:Int)=_
 rw[z5Ma,z5Ma,z4ta]
 rfl)

@[simp] theorem z9cc (x y:UInt8):z4G .eql (u8 x) (u8 y)=bo (x==y):=by
 show z2a.lit (.bool ((x.toNat:Int)==y.toNat))= .lit (.bool _)
 congr 2
 rw[Bool.eq_iff_iff]
 simp only[beq_iff_eq,bne_iff_ne,ne_eq,←UInt8.toNat_inj]
 omega
@[simp] theorem z9jc (x y:UInt8):z4G .neq (u8 x) (u8 y)=bo (x !=y):=by
 show z2a.lit (.bool ((x.toNat:Int) !=y.toNat))= .lit (.bool _)
 congr 2
 rw[Bool.eq_iff_iff]
 simp only[beq_iff_eq,bne_iff_ne,ne_eq,←UInt8.toNat_inj]
 omega
@[simp] theorem z72b (x y:UInt64):z4G .eql (u64 x) (u64 y)=bo (x==y):=by
 show z2a.lit (.bool ((x.toNat:Int)==y.toNat))= .lit (.bool _)
 congr 2
 rw[Bool.eq_iff_iff]
 simp only[beq_iff_eq,bne_iff_ne,ne_eq,←UInt64.toNat_inj]
 omega
@[simp] theorem z40b (x y:UInt64):z4G .gtr (u64 x) (u64 y)=bo (decide (y<x)):=by
 show z2a.lit (.bool (decide ((x.toNat:Int)>y.toNat)))= .lit (.bool _)
 congr 2
 simp[UInt64.lt_iff_toNat_lt]
@[simp] theorem z0ac (x y:UInt64):z4G .lss (u64 x) (u64 y)=bo (decide (x<y)):=by
 show z2a.lit (.bool (decide ((x.toNat:Int)<y.toNat)))= .lit (.bool _)
 congr 2
 simp[UInt64.lt_iff_toNat_lt]
@[simp] theorem z35b (x y:UInt64):z4G .rem (u64 x) (u64 y)=u64 (x% y):=z7L (by
 show((x.toNat:Int).tmod y.toNat)=_
 rw[UInt64.toNat_mod]
 rfl)
@[simp] theorem z7cc (x:UInt32):unV .xor (u32 x)=u32 (~~~x):=z3T (by
 show IntKind.u32.wrap ((BitVec.ofInt 32 4294967295^^^BitVec.ofInt 32 x.toNat).toNat:Int)=_
 rw[z2ra,z9ga]
 have e:(BitVec.ofInt 32 4294967295)=BitVec.allOnes 32:=by decide
 rw[e,BitVec.allOnes_xor]
 rfl)
@[simp] theorem z9ec (x:UInt64):unV .xor (u64 x)=u64 (~~~x):=z7L (by
 show IntKind.u64.wrap ((BitVec.ofInt 64 18446744073709551615^^^BitVec.ofInt 64 x.toNat).toNat:Int)=_
 rw[z5Ma,z4ta]
 have e:(BitVec.ofInt 64 18446744073709551615)=BitVec.allOnes 64:=by decide
 rw[e,BitVec.allOnes_xor]
 rfl)
@[simp] theorem un_not (x:Bool):unV .not (bo x)=bo (!x):=rfl
@[simp] theorem z0hc (x:Int):unV .neg (i64 x)=i64 (W (-x)):=by
 show z2a.lit (.int .i64 (IntKind.i64.wrap (0-x)))=_
 rw[Int.zero_sub];rfl
end arith

/-! ### Shifts and conversions -/
def z6Ga (x:UInt32) (n:Nat):UInt32:=⟨x.toBitVec>>>n⟩
def z2ca (x:UInt32) (n:Nat):UInt32:=⟨x.toBitVec<<<n⟩
def z2xa (x:UInt64) (n:Nat):UInt64:=⟨x.toBitVec>>>n⟩
def z5xb (x:UInt64) (n:Nat):UInt64:=⟨x.toBitVec<<<n⟩

theorem z3Ea (b n:Nat) (x:BitVec b):((x.toNat:Int).fdiv (2^min n b))=((x>>>n).toNat:Int):=by
 have h2:((2:Int)^min n b)=((2^min n b:Nat):Int):=by simp
 rw[h2,BitVec.toNat_ushiftRight,Nat.shiftRight_eq_div_pow]
 have:((x.toNat:Int).fdiv ((2^min n b:Nat):Int))=((x.toNat/2^min n b:Nat):Int):=by
  rw[Int.fdiv_eq_ediv_of_nonneg _ (Int.natCast_nonneg _)]
  rfl
 rw[this]
 rcases Nat.le_total n b with h|h
 ·rw[Nat.min_eq_left h]
 ·rw[Nat.min_eq_right h,Nat.div_eq_of_lt x.isLt,Nat.div_eq_of_lt]
  exact Nat.lt_of_lt_of_le x.isLt (Nat.pow_le_pow_right (by decide) h)

theorem z4Ba (b n:Nat) (x:BitVec b):(x.toNat*2^min n b)% 2^b=(x<<<n).toNat:=by
 rw[BitVec.toNat_shiftLeft,Nat.shiftLeft_eq]
 rcases Nat.le_total n b with h|h
 ·rw[Nat.min_eq_left h]
 ·rw[Nat.min_eq_right h,Nat.mul_mod_left]
  obtain⟨k,rfl⟩:=Nat.exists_eq_add_of_le h
  rw[Nat.pow_add,←Nat.mul_assoc,Nat.mul_right_comm,Nat.mul_mod_left]

theorem z9pa (x n b:Nat):((x:Int)*2^min n b)=((x*2^min n b:Nat):Int):=by simp

@[simp] theorem z7Ub (x:UInt32) (n:Int):z4G .shr (u32 x) (i64 n)=u32 (z6Ga x n.toNat):=z3T (z3Ea 32 n.toNat x.toBitVec)
@[simp] theorem z4Kb (x:UInt32) (n:UInt64):z4G .shr (u32 x) (u64 n)=u32 (z6Ga x n.toNat):=z3T (z3Ea 32 n.toNat x.toBitVec)
@[simp] theorem z0Yb (x:UInt64) (n:Int):z4G .shr (u64 x) (i64 n)=u64 (z2xa x n.toNat):=z7L (z3Ea 64 n.toNat x.toBitVec)
@[simp] theorem z0Ob (x:UInt64) (n:UInt64):z4G .shr (u64 x) (u64 n)=u64 (z2xa x n.toNat):=z7L (z3Ea 64 n.toNat x.toBitVec)
@[simp] theorem z66b (x:UInt32) (n:Int):z4G .shl (u32 x) (i64 n)=u32 (z2ca x n.toNat):=z3T (by
 show IntKind.u32.wrap ((x.toNat:Int)*2^min n.toNat 32)=_
 rw[z9pa,z0ia]
 exact congrArg _ (z4Ba 32 n.toNat x.toBitVec))
@[simp] theorem z9Rb (x:UInt32) (n:UInt64):z4G .shl (u32 x) (u64 n)=u32 (z2ca x n.toNat):=z3T (by
 show IntKind.u32.wrap ((x.toNat:Int)*2^min n.toNat 32)=_
 rw[z9pa,z0ia]
 exact congrArg _ (z4Ba 32 n.toNat x.toBitVec))
@[simp] theorem z6Ub (x:UInt64) (n:Int):z4G .shl (u64 x) (i64 n)=u64 (z5xb x n.toNat):=z7L (by
 show IntKind.u64.wrap ((x.toNat:Int)*2^min n.toNat 64)=_
 rw[z9pa,z6ba]
 exact congrArg _ (z4Ba 64 n.toNat x.toBitVec))
@[simp] theorem z0Mb (x:UInt64) (n:UInt64):z4G .shl (u64 x) (u64 n)=u64 (z5xb x n.toNat):=z7L (by
 show IntKind.u64.wrap ((x.toNat:Int)*2^min n.toNat 64)=_
 rw[z9pa,z6ba]
 exact congrArg _ (z4Ba 64 n.toNat x.toBitVec))

@[simp] theorem z59b (x y:UInt64):z4G .sub (u64 x) (u64 y)=u64 (x-y):=z7L (by
 show IntKind.u64.wrap ((x.toNat:Int)-y.toNat)=_
 rw[UInt64.toNat_sub]
 have:=x.toNat_lt
 have:=y.toNat_lt
 unfold IntKind.wrap IntKind.bits IntKind.signed
 simp only[Bool.false_and,Bool.false_eq_true,if_false]
 omega)
@[simp] theorem z03b (x y:UInt64):z4G .and (u64 x) (u64 y)=u64 (x&&&y):=z7L (by
 show IntKind.u64.wrap ((BitVec.ofInt 64 x.toNat&&&BitVec.ofInt 64 y.toNat).toNat:Int)=_
 rw[z5Ma,z5Ma,z4ta]
 rfl)

@[simp] theorem z8rc (x:UInt32):cvV .u8 (u32 x)=u8 x.toUInt8:=z9ha (by
 show IntKind.u8.wrap (x.toNat:Int)=_
 rw[z1va,UInt32.toNat_toUInt8])
@[simp] theorem z0Dc (x:UInt64):cvV .u8 (u64 x)=u8 x.toUInt8:=z9ha (by
 show IntKind.u8.wrap (x.toNat:Int)=_
 rw[z1va,UInt64.toNat_toUInt8])
@[simp] theorem z3lc (x:UInt8):cvV .u32 (u8 x)=u32 x.toUInt32:=z3T (by
 show IntKind.u32.wrap (x.toNat:Int)=_
 rw[z0ia,UInt8.toNat_toUInt32,Nat.mod_eq_of_lt (by have:=x.toNat_lt;omega)])
@[simp] theorem z3rc (x:UInt8):cvV .u64 (u8 x)=u64 x.toUInt64:=z7L (by
 show IntKind.u64.wrap (x.toNat:Int)=_
 rw[z6ba,UInt8.toNat_toUInt64,Nat.mod_eq_of_lt (by have:=x.toNat_lt;omega)])
theorem z7la (n:Int) (m:Nat) (hm:0<m):(((n% (m:Int)).toNat:Nat):Int)=n% (m:Int):=Int.toNat_of_nonneg (Int.emod_nonneg _ (by omega))
theorem z6ma (n:Int):(UInt8.ofInt n).toNat=(n% 256).toNat:=by
 unfold UInt8.ofInt
 rw[UInt8.toNat_ofNat',Nat.mod_eq_of_lt (by omega)]
 rfl
theorem z3hb (n:Int):(UInt32.ofInt n).toNat=(n% 4294967296).toNat:=by
 unfold UInt32.ofInt
 rw[UInt32.toNat_ofNat',Nat.mod_eq_of_lt (by omega)]
 rfl
theorem z6la (n:Int):(UInt64.ofInt n).toNat=(n% 18446744073709551616).toNat:=by
 unfold UInt64.ofInt
 rw[UInt64.toNat_ofNat',Nat.mod_eq_of_lt (by omega)]
 rfl
@[simp] theorem z7oc (n:Int):cvV .u8 (i64 n)=u8 (UInt8.ofInt n):=z9ha (by
 show IntKind.u8.wrap n=_
 rw[show(UInt8.ofInt n).toNat=(n% 256).toNat from z6ma n]
 exact(z7la n 256 (by decide)).symm)
@[simp] theorem z1ec (n:Int):cvV .u64 (i64 n)=u64 (UInt64.ofInt n):=z7L (by
 show IntKind.u64.wrap n=_
 rw[show(UInt64.ofInt n).toNat=(n% 18446744073709551616).toNat from z6la n]
 exact(z7la n 18446744073709551616 (by decide)).symm)
@[simp] theorem z6hc (n:Int):cvV .u32 (i64 n)=u32 (UInt32.ofInt n):=z3T (by
 show IntKind.u32.wrap n=_
 rw[show(UInt32.ofInt n).toNat=(n% 4294967296).toNat from z3hb n]
 exact(z7la n 4294967296 (by decide)).symm)
@[simp] theorem z0Jc (x:UInt8):cvV .i64 (u8 x)=i64 x.toNat:=by
 show z2a.lit (.int .i64 (W x.toNat))=_
 rw[z9a (by omega) (by have:=x.toNat_lt;omega)]
 rfl
@[simp] theorem z0ic (x:UInt32):cvV .i64 (u32 x)=i64 x.toNat:=by
 show z2a.lit (.int .i64 (W x.toNat))=_
 rw[z9a (by omega) (by have:=x.toNat_lt;omega)]
 rfl
@[simp] theorem z0jc (x:UInt64):cvV .i64 (u64 x)=i64 (W x.toNat):=rfl
@[simp] theorem z5fc (x:Int):cvV .i64 (i64 x)=i64 (W x):=rfl
end Go.Abs
end

section
namespace Go.Abs

def z4c (n:Nat):List UInt8:=List.replicate n 0
def z2j (n:Nat):List UInt32:=List.replicate n 0
@[simp] theorem z9Qb (n:Nat):(z4c n).length=n:=by simp[z4c]
@[simp] theorem z1rb (n:Nat):(z2j n).length=n:=by simp[z2j]

/-! ### Lists of bytes and of words as cells -/
@[simp] theorem z78a (l:List UInt8):(bys l).length=l.length:=by simp[bys]
@[simp] theorem z0Ta (l:List UInt32):(z2p l).length=l.length:=by simp[z2p]
@[simp] theorem z77c:bys []=[]:=rfl
@[simp] theorem z6Lc:z2p []=[]:=rfl
theorem z6J (l m:List UInt8):bys (l++m)=bys l++bys m:=by simp[bys]
theorem z1a (l m:List UInt8):bys l++bys m=bys (l++m):=(z6J l m).symm
theorem z0a (l:List UInt8) (x:UInt8):bys l++[u8 x]=bys (l++[x]):=by simp[bys]
@[simp] theorem z6Gb (l:List UInt8) (n:Nat):(bys l).take n=bys (l.take n):=by simp[bys]
@[simp] theorem z42a (l:List UInt8) (n:Nat):(bys l).drop n=bys (l.drop n):=by simp[bys]
@[simp] theorem z8Kc (l:List UInt8):(bys l).tail=bys l.tail:=by cases l<;>rfl
@[simp] theorem z07c (l:List UInt8):z2r l=bys l:=rfl
theorem z3ea {P:z2a→Prop} {l:List UInt8} (h:∀x,P (u8 x)):∀c∈bys l,P c:=fun c hc=>by
 simp only[bys,List.mem_map] at hc
 obtain⟨x,_,rfl⟩:=hc
 exact h x
theorem z3pa {P:z2a→Prop} {l:List UInt32} (h:∀x,P (u32 x)):∀c∈z2p l,P c:=fun c hc=>by
 simp only[z2p,List.mem_map] at hc
 obtain⟨x,_,rfl⟩:=hc
 exact h x
@[simp] theorem z5Qc (l:List UInt8):(∀c∈bys l,z2d c)↔True:=iff_true_intro (z3ea (by simp))
@[simp] theorem z0bd (l:List UInt8):(∀c∈bys l,z1f c=false)↔True:=iff_true_intro (z3ea (by simp))
@[simp] theorem z9Mc (l:List UInt8):(∀c∈bys l,z6f c=true)↔True:=iff_true_intro (z3ea (by simp))
@[simp] theorem z0Gb (l:List UInt8):(∀c∈bys l,z6f c=true∧z2d c)↔True:=iff_true_intro (z3ea (by simp))
@[simp] theorem z0Qb (l:List UInt8):(∀c∈bys l,z2d c∧z1f c=false)↔True:=iff_true_intro (z3ea (by simp))
@[simp] theorem z0Rc (l:List UInt8):(∀c∈bys l,z6dc .u8 c)↔True:=iff_true_intro (z3ea (by simp))
@[simp] theorem z8zc (l:List UInt32):(∀c∈z2p l,z2d c)↔True:=iff_true_intro (z3pa (by simp))
@[simp] theorem z2Tc (l:List UInt32):(∀c∈z2p l,z1f c=false)↔True:=iff_true_intro (z3pa (by simp))
@[simp] theorem z0Bc (l:List UInt32):(∀c∈z2p l,z6f c=true)↔True:=iff_true_intro (z3pa (by simp))
theorem z5ia {l:List z2a} (h:∀c∈l,z6f c=true):z2h l=true:=(z5m l).2 h
@[simp] theorem z6Ac (l:List UInt8):z2h (bys l)=true:=z5ia (z3ea (by simp))
@[simp] theorem z6jc (l:List UInt32):z2h (z2p l)=true:=z5ia (z3pa (by simp))
attribute [simp] z6na
@[simp] theorem z6eb (l m:List z2a):z0c (l++m)=(z0c l&&z0c m):=by induction l<;>simp_all [z0c,Bool.and_assoc]
@[simp] theorem z2Pb (l:List UInt8):z0c (bys l)=true:=by induction l<;>simp_all [bys,z0c]
@[simp] theorem z4wb (l:List UInt32):z0c (z2p l)=true:=by induction l<;>simp_all [z2p,z0c]
attribute [simp] z2E
@[simp] theorem z9lc (l:List UInt8):z7g (bys l)=[]:=by induction l<;>simp_all [bys,z7g]
@[simp] theorem z4fc (l:List UInt32):z7g (z2p l)=[]:=by induction l<;>simp_all [z2p,z7g]

@[simp] theorem z2gc (x y:UInt8):z4G .sub (u8 x) (u8 y)=u8 (x-y):=z9ha (by
 show IntKind.u8.wrap ((x.toNat:Int)-y.toNat)=_
 rw[UInt8.toNat_sub]
 have:=x.toNat_lt
 have:=y.toNat_lt
 unfold IntKind.wrap IntKind.bits IntKind.signed
 simp only[Bool.false_and,Bool.false_eq_true,if_false]
 omega)
@[simp] theorem z4ic (x y:UInt8):z4G .quo (u8 x) (u8 y)=u8 (x/y):=z9ha (by
 show IntKind.u8.wrap ((x.toNat:Int).tdiv y.toNat)=_
 rw[Int.tdiv_eq_ediv_of_nonneg (by omega),←Int.natCast_ediv,z1va,UInt8.toNat_div,Nat.mod_eq_of_lt]
 exact Nat.lt_of_le_of_lt (Nat.div_le_self _ _) x.toNat_lt)
@[simp] theorem z4hc (x y:UInt8):z4G .rem (u8 x) (u8 y)=u8 (x% y):=z9ha (by
 show((x.toNat:Int).tmod y.toNat)=_
 rw[UInt8.toNat_mod]
 rfl)
@[simp] theorem z6Nb (x y:UInt8):z9b .quo (u8 x) (u8 y)=(y≠0):=by
 simp only[z9b,u8,true_and,ne_eq,Int.natCast_eq_zero,←UInt8.toNat_inj]
 rfl
@[simp] theorem z5Mb (x y:UInt8):z9b .rem (u8 x) (u8 y)=(y≠0):=by
 simp only[z9b,u8,true_and,ne_eq,Int.natCast_eq_zero,←UInt8.toNat_inj]
 rfl
@[simp] theorem z3kc (x y:UInt8):z4G .lss (u8 x) (u8 y)=bo (decide (x<y)):=by
 show z2a.lit (.bool (decide ((x.toNat:Int)<y.toNat)))= .lit (.bool _)
 congr 2
 simp[UInt8.lt_iff_toNat_lt]
@[simp] theorem z8ec (x y:UInt8):z4G .gtr (u8 x) (u8 y)=bo (decide (y<x)):=by
 show z2a.lit (.bool (decide ((x.toNat:Int)>y.toNat)))= .lit (.bool _)
 congr 2
 simp[UInt8.lt_iff_toNat_lt]
@[simp] theorem z9Xb (x y:UInt64):z4G .neq (u64 x) (u64 y)=bo (x !=y):=by
 show z2a.lit (.bool ((x.toNat:Int) !=y.toNat))= .lit (.bool _)
 congr 2
 rw[Bool.eq_iff_iff]
 simp only[beq_iff_eq,bne_iff_ne,ne_eq,←UInt64.toNat_inj]
 omega
def z6Kb (x y:Int):Int:=W (BitVec.ofInt 64 x&&&BitVec.ofInt 64 y).toNat
@[simp] theorem z06b (x y:Int):z4G .and (i64 x) (i64 y)=i64 (z6Kb x y):=rfl

theorem dT {p:Prop} [Decidable p] (h:p):decide p=true:=decide_eq_true h
theorem dF {p:Prop} [Decidable p] (h:¬p):decide p=false:=decide_eq_false h

/-! ### What values are -/
@[simp] theorem z0oc:dem .undef= .undef:=rfl
@[simp] theorem z44c (cs:List z2a):dem (.agg cs)= .agg cs:=rfl
@[simp] theorem z58c (cs:List z2a):dem (.tup cs)= .tup cs:=rfl
@[simp] theorem z6Oc (e:Nat) (nl:Option Bool) (n:Nat) (cs rest:List z2a):dem (.otup e nl n cs rest)= .tup (.sl .plain nl n cs::rest):=rfl
@[simp] theorem z5hc (e:Nat) (nl:Option Bool) (n:Nat) (cs rest:List z2a):z6f (.otup e nl n cs rest)=z2h rest:=rfl
@[simp] theorem z6Sc (p:List z2a) (e:Nat) (nl:Option Bool) (n:Nat) (cs rest:List z2a):dem (.oagg p e nl n cs rest)= .agg (p++ .sl .plain nl n cs::rest):=rfl
@[simp] theorem z3bc (p:List z2a) (e:Nat) (nl:Option Bool) (n:Nat) (cs rest:List z2a):z6f (.oagg p e nl n cs rest)=(z2h p&&z2h rest):=rfl
@[simp] theorem z5sc (p:List z2a) (e:Nat) (nl:Option Bool) (n:Nat) (cs rest:List z2a):z0r (.oagg p e nl n cs rest)=z7g p++z7g rest:=rfl
@[simp] theorem z2Ac (e:Nat) (nl:Option Bool) (n:Nat) (cs rest:List z2a):z0r (.otup e nl n cs rest)=z7g rest:=rfl
@[simp] theorem dem_bp (i o:Nat):dem (.bp i o)= .bp i o:=rfl
@[simp] theorem dem_bv (i e o n c:Nat):dem (.bv i e o n c)= .bv i e o n c:=rfl
@[simp] theorem dem_ep (cs:List z2a):dem (.ep cs)= .ep cs:=rfl
@[simp] theorem dem_fn (f:Nat) (x y:List z2a):dem (.fn f x y)= .fn f x y:=rfl
@[simp] theorem z7Yc (v:Value):dem (.lit v)= .lit v:=rfl
@[simp] theorem z73c (e:Nat) (nl:Option Bool) (n:Nat) (cs:List z2a):dem (.sl (.own e) nl n cs)= .sl .plain nl n cs:=rfl
@[simp] theorem z1Cc (nl:Option Bool) (n:Nat) (cs:List z2a):dem (.sl .plain nl n cs)= .sl .plain nl n cs:=rfl
@[simp] theorem z8Vc (nl:Option Bool) (n:Nat) (cs:List z2a):dem (.sl .clip nl n cs)= .sl .clip nl n cs:=rfl
@[simp] theorem z4kc (cs:List z2a):z2d (.agg cs)=False:=rfl
@[simp] theorem z1oc (m:z0ea) (nl:Option Bool) (n:Nat) (cs:List z2a):z2d (.sl m nl n cs)=True:=rfl
@[simp] theorem z3oc (i o:Nat):z2d (.bp i o)=True:=rfl
@[simp] theorem z6Hc (i e o n c:Nat):z2d (.bv i e o n c)=True:=rfl
@[simp] theorem z8lc (f:Nat) (x y:List z2a):z2d (.fn f x y)=True:=rfl
@[simp] theorem z8Ic (cs:List z2a):z2d (.ep cs)=True:=rfl
@[simp] theorem z8hc:z2d (.lit (.slice none 0 0))=True:=rfl
@[simp] theorem z0xc (cs:List z2a):z6f (.agg cs)=z2h cs:=rfl
@[simp] theorem z8vc (cs:List z2a):z6f (.tup cs)=z2h cs:=rfl
@[simp] theorem z2Sc (m:z0ea) (nl:Option Bool) (n:Nat) (cs:List z2a):z6f (.sl m nl n cs)=true:=by cases m<;>rfl
@[simp] theorem z1Rc (cs:List z2a):z6f (.ep cs)=true:=rfl
@[simp] theorem z0Lc (i o:Nat):z6f (.bp i o)=false:=rfl
@[simp] theorem z5Sc (i e o n c:Nat):z6f (.bv i e o n c)=false:=rfl
@[simp] theorem z3Sc (f:Nat) (x y:List z2a):z6f (.fn f x y)=(z2h x&&z2h y):=rfl
@[simp] theorem z2Ic:z6f (.lit (.slice none 0 0))=true:=rfl
@[simp] theorem z7Zb (cs:List z2a):z2f (.agg cs)=z0c cs:=rfl
@[simp] theorem z2Tb (cs:List z2a):z2f (.tup cs)=z0c cs:=rfl
@[simp] theorem z16b:z2f (.lit (.slice none 0 0))=true:=rfl
@[simp] theorem z9gc (m:z0ea) (nl:Option Bool) (n:Nat) (cs:List z2a):z2f (.sl m nl n cs)=false:=by cases m<;>rfl
@[simp] theorem z4Pc (cs:List z2a):z0r (.agg cs)=z7g cs:=rfl
@[simp] theorem z7Sc (cs:List z2a):z0r (.tup cs)=z7g cs:=rfl
@[simp] theorem z2Zc (m:z0ea) (nl:Option Bool) (n:Nat) (cs:List z2a):z0r (.sl m nl n cs)=[]:=by cases m<;>rfl
@[simp] theorem z9Yc (i o:Nat):z0r (.bp i o)=[i]:=rfl
@[simp] theorem z75c (i e o n c:Nat):z0r (.bv i e o n c)=[i]:=rfl
@[simp] theorem z14c (cs:List z2a):z0r (.ep cs)=[]:=rfl
@[simp] theorem z1Yc (f:Nat) (x y:List z2a):z0r (.fn f x y)=z7g x++z7g y:=rfl
@[simp] theorem z3hc:z0r .undef=[]:=rfl
@[simp] theorem z3Pc (v:Value):z0r (.lit v)=[]:=rfl
@[simp] theorem z6ic (e:Nat) (nl:Option Bool) (n:Nat) (cs:List z2a):z1f (.sl (.own e) nl n cs)=true:=rfl
@[simp] theorem z1Lb (nl:Option Bool) (n:Nat) (cs:List z2a):z1f (.sl .plain nl n cs)=false:=rfl
@[simp] theorem z89b (nl:Option Bool) (n:Nat) (cs:List z2a):z1f (.sl .clip nl n cs)=false:=rfl
@[simp] theorem z5Cc (i o:Nat):z1f (.bp i o)=false:=rfl
@[simp] theorem z6xc (i e o n c:Nat):z1f (.bv i e o n c)=false:=rfl
@[simp] theorem z7ic (cs:List z2a):z3s (.agg cs)=cs:=rfl
@[simp] theorem z5qc (m:z0ea) (nl:Option Bool) (n:Nat) (cs:List z2a):z3s (.sl m nl n cs)=[.sl m nl n cs]:=rfl
@[simp] theorem z4bc:z3s (.lit (.slice none 0 0))=[.lit (.slice none 0 0)]:=rfl
@[simp] theorem z5Hc (i o:Nat):z3s (.bp i o)=[.bp i o]:=rfl
@[simp] theorem z5rc (f:Nat) (x y:List z2a):z3s (.fn f x y)=[.fn f x y]:=rfl
@[simp] theorem z82c (m:z0ea) (nl:Option Bool) (n:Nat) (cs:List z2a):z5t (.sl m nl n cs)=n:=rfl
@[simp] theorem z0ad (i e o n c:Nat):z5t (.bv i e o n c)=n:=rfl
@[simp] theorem z4Vc:z5t (.lit (.slice none 0 0))=0:=rfl
@[simp] theorem z2rc (bx:List z2a) (m:z0ea) (nl:Option Bool) (n:Nat) (cs:List z2a):z1i bx (.sl m nl n cs)=cs:=rfl
@[simp] theorem z5nc (bx:List z2a) (i e o n c:Nat):z1i bx (.bv i e o n c)=(bx.drop o).take (n*e):=rfl
@[simp] theorem z8ic (bx:List z2a):z1i bx (.lit (.slice none 0 0))=[]:=rfl
@[simp] theorem z63c (m:z0ea) (nl:Option Bool) (n:Nat) (cs:List z2a):z3fc (.sl m nl n cs)=True:=rfl
@[simp] theorem z27c (i e o n c:Nat):z3fc (.bv i e o n c)=True:=rfl
@[simp] theorem z8Pc:z3fc (.lit (.slice none 0 0))=True:=rfl
@[simp] theorem okS_sl (esz:Nat) (b:Option Nat) (bx:Option (List z2a)) (m:z0ea) (nl:Option Bool) (n:Nat) (cs:List z2a):okS esz b bx (.sl m nl n cs)=(cs.length=n*esz):=rfl
@[simp] theorem okS_bv (esz:Nat) (b:Option Nat) (bx:Option (List z2a)) (i e o n c:Nat):okS esz b bx (.bv i e o n c)=(b=some i∧e=esz∧(∃cs,bx=some cs∧o+n*e≤cs.length)):=rfl
@[simp] theorem z64c (esz:Nat) (b:Option Nat) (bx:Option (List z2a)):okS esz b bx (.lit (.slice none 0 0))=True:=rfl
@[simp] theorem z2Vc (f:Nat→Option (List z2a)) (b:Option Nat) (n i o:Nat):z3xa f b n (.bp i o)=(b=some i∧∃cs,f i=some cs∧o+n≤cs.length):=rfl
@[simp] theorem z7Pc (f:Nat→Option (List z2a)) (b:Option Nat) (n:Nat) (cs:List z2a):z3xa f b n (.ep cs)=(b=none∧n≤cs.length):=rfl
@[simp] theorem z4Xb (f:Nat→Option (List z2a)) (b:Option Nat) (i o:Nat):z0t f b (.bp i o)=(bxl f b).drop o:=rfl
@[simp] theorem z82b (f:Nat→Option (List z2a)) (b:Option Nat) (cs:List z2a):z0t f b (.ep cs)=cs:=rfl
@[simp] theorem z5Yb (v:z2a):z9X none v=[dem v]:=rfl
@[simp] theorem z8Xb (n:Nat) (v:z2a):z9X (some n) v=z3s v:=rfl
@[simp] theorem z9Jc (v:z2a):isK none v=z2d v:=rfl
@[simp] theorem z0Oc (n:Nat) (cs:List z2a):isK (some n) (.agg cs)=(cs.length=n∧(∀c∈cs,z2d c)∧(∀c∈cs,z1f c=false)):=rfl
@[simp] theorem z5mc (f:Nat) (x y as:List z2a):z0A (.fn f x y) as=x++as++y:=rfl
@[simp] theorem z2Bc (f:Nat→List z2a) (x:UInt8):z9q f (u8 x)=u8 x:=rfl
@[simp] theorem z8Lc (f:Nat→List z2a) (x:UInt8):z7T f (u8 x)=u8 x:=rfl
@[simp] theorem z0rc (f:Nat→List z2a) (x:UInt32):z7T f (u32 x)=u32 x:=rfl
@[simp] theorem z0Ac (f:Nat→List z2a) (x:UInt64):z7T f (u64 x)=u64 x:=rfl
@[simp] theorem z9mc (f:Nat→List z2a) (x:Int):z7T f (i64 x)=i64 x:=rfl
@[simp] theorem z4Oc (f:Nat→List z2a) (x:Bool):z7T f (bo x)=bo x:=rfl
@[simp] theorem z9Sc (f:Nat→List z2a) (x:List UInt8):z7T f (st x)=st x:=rfl
@[simp] theorem z0pc (f:Nat→List z2a) (x:List z2a):z7T f (.agg x)= .agg x:=rfl
@[simp] theorem z6lc (f:Nat→List z2a):z7T f (.lit (.slice none 0 0))= .sl .plain (some true) 0 []:=rfl
@[simp] theorem z9Hc (f:Nat→List z2a) (e:Nat) (nl:Option Bool) (n:Nat) (cs:List z2a):z7T f (.sl (.own e) nl n cs)= .sl .plain nl n cs:=rfl
@[simp] theorem z8Vb (f:Nat→List z2a) (nl:Option Bool) (n:Nat) (cs:List z2a):z7T f (.sl .plain nl n cs)= .sl .plain nl n cs:=rfl
@[simp] theorem z9ic (f:Nat→List z2a) (nl:Option Bool) (n:Nat) (cs:List z2a):z7T f (.sl .clip nl n cs)= .sl .plain nl n cs:=rfl
@[simp] theorem z3Wc (f:Nat→List z2a) (i o:Nat):z7T f (.bp i o)= .ep ((f i).drop o):=rfl
@[simp] theorem z8Rc (f:Nat→List z2a) (i e o n c:Nat):z7T f (.bv i e o n c)= .sl .plain (some false) n (((f i).drop o).take (n*e)):=rfl
@[simp] theorem z8Tc (f:Nat→List z2a) (cs:List z2a):z7T f (.ep cs)= .ep cs:=rfl
@[simp] theorem z9Uc (f:Nat→List z2a) (g:Nat) (x y:List z2a):z7T f (.fn g x y)= .fn g (x.map (z9q f)) (y.map (z9q f)):=rfl
@[simp] theorem z0Qc (bs:List Nat) (f:Nat→Option (List z2a)) (x:UInt8):z3v bs f (u8 x)=True:=by simp[z3v,z6n,u8,z6f]
@[simp] theorem z4pc (bs:List Nat) (f:Nat→Option (List z2a)) (x:UInt32):z3v bs f (u32 x)=True:=by simp[z3v,z6n,u32,z6f]
@[simp] theorem z2Gc (bs:List Nat) (f:Nat→Option (List z2a)) (x:UInt64):z3v bs f (u64 x)=True:=by simp[z3v,z6n,u64,z6f]
@[simp] theorem z5lc (bs:List Nat) (f:Nat→Option (List z2a)) (x:Int):z3v bs f (i64 x)=True:=by simp[z3v,z6n,i64,z6f]
@[simp] theorem z9Oc (bs:List Nat) (f:Nat→Option (List z2a)) (x:Bool):z3v bs f (bo x)=True:=by simp[z3v,z6n,bo,z6f]
@[simp] theorem z9Pc (bs:List Nat) (f:Nat→Option (List z2a)) (x:List UInt8):z3v bs f (st x)=True:=by simp[z3v,z6n,st,z6f]
@[simp] theorem z8uc (bs:List Nat) (f:Nat→Option (List z2a)) (x:List z2a):z3v bs f (.agg x)=(z2h x=true):=rfl
@[simp] theorem z5Rc (bs:List Nat) (f:Nat→Option (List z2a)) (m:z0ea) (nl:Option Bool) (n:Nat) (cs:List z2a):z3v bs f (.sl m nl n cs)=True:=by simp[z3v,z6n]
@[simp] theorem z2Hc (bs:List Nat) (f:Nat→Option (List z2a)):z3v bs f (.lit (.slice none 0 0))=True:=by simp[z3v,z6n]
@[simp] theorem z3Qc (bs:List Nat) (f:Nat→Option (List z2a)) (i o:Nat):z3v bs f (.bp i o)=(i∈bs∧∃cs,f i=some cs∧o≤cs.length):=rfl
@[simp] theorem z3Nc (bs:List Nat) (f:Nat→Option (List z2a)) (i e o n c:Nat):z3v bs f (.bv i e o n c)=(i∈bs∧∃cs,f i=some cs∧o+n*e≤cs.length):=rfl
@[simp] theorem z9Lc (bs:List Nat) (f:Nat→Option (List z2a)) (cs:List z2a):z3v bs f (.ep cs)=True:=by simp[z3v,z6n]

/-! ### Whether operations may go ahead -/
@[simp] theorem z7Sb (x:UInt32) (n:Int):z9b .shr (u32 x) (i64 n)=(0≤n):=rfl
@[simp] theorem z92b (x:UInt32) (n:Int):z9b .shl (u32 x) (i64 n)=(0≤n):=rfl
@[simp] theorem z91b (x:UInt64) (n:Int):z9b .shr (u64 x) (i64 n)=(0≤n):=rfl
@[simp] theorem z3ac (x:UInt64) (n:Int):z9b .shl (u64 x) (i64 n)=(0≤n):=rfl
@[simp] theorem z6Mb (x:UInt32) (n:UInt64):z9b .shr (u32 x) (u64 n)=True:=by simp[z9b,u32,u64]
@[simp] theorem z5Qb (x:UInt32) (n:UInt64):z9b .shl (u32 x) (u64 n)=True:=by simp[z9b,u32,u64]
@[simp] theorem z0Lb (x:UInt64) (n:UInt64):z9b .shr (u64 x) (u64 n)=True:=by simp[z9b,u64]
@[simp] theorem z4Pb (x:UInt64) (n:UInt64):z9b .shl (u64 x) (u64 n)=True:=by simp[z9b,u64]
@[simp] theorem z5uc (x y:Int):z9b .quo (i64 x) (i64 y)=(y≠0):=by simp[z9b,i64]
@[simp] theorem z7qc (x y:Int):z9b .rem (i64 x) (i64 y)=(y≠0):=by simp[z9b,i64]
@[simp] theorem z8Yb (x y:UInt64):z9b .rem (u64 x) (u64 y)=(y≠0):=by
 simp only[z9b,u64,true_and,ne_eq,Int.natCast_eq_zero,←UInt64.toNat_inj]
 rfl
@[simp] theorem z9Pb (x y:UInt8):z9b .add (u8 x) (u8 y)=True:=by simp[z9b,u8]
@[simp] theorem z9Fb (x y:UInt32):z9b .add (u32 x) (u32 y)=True:=by simp[z9b,u32]
@[simp] theorem z8Bb (x y:UInt64):z9b .add (u64 x) (u64 y)=True:=by simp[z9b,u64]
@[simp] theorem z7tb (x y:Int):z9b .add (i64 x) (i64 y)=True:=by simp[z9b,i64]
@[simp] theorem z0Rb (x y:UInt8):z9b .sub (u8 x) (u8 y)=True:=by simp[z9b,u8]
@[simp] theorem z4Cb (x y:UInt32):z9b .sub (u32 x) (u32 y)=True:=by simp[z9b,u32]
@[simp] theorem z6Hb (x y:UInt64):z9b .sub (u64 x) (u64 y)=True:=by simp[z9b,u64]
@[simp] theorem z0sb (x y:Int):z9b .sub (i64 x) (i64 y)=True:=by simp[z9b,i64]
@[simp] theorem z4Lb (x y:UInt8):z9b .mul (u8 x) (u8 y)=True:=by simp[z9b,u8]
@[simp] theorem z2Ab (x y:UInt32):z9b .mul (u32 x) (u32 y)=True:=by simp[z9b,u32]
@[simp] theorem z8Gb (x y:UInt64):z9b .mul (u64 x) (u64 y)=True:=by simp[z9b,u64]
@[simp] theorem z1sb (x y:Int):z9b .mul (i64 x) (i64 y)=True:=by simp[z9b,i64]
@[simp] theorem z1Pb (x y:UInt8):z9b .and (u8 x) (u8 y)=True:=by simp[z9b,u8]
@[simp] theorem z7Bb (x y:UInt32):z9b .and (u32 x) (u32 y)=True:=by simp[z9b,u32]
@[simp] theorem z8rb (x y:UInt64):z9b .and (u64 x) (u64 y)=True:=by simp[z9b,u64]
@[simp] theorem z5zb (x y:Int):z9b .and (i64 x) (i64 y)=True:=by simp[z9b,i64]
@[simp] theorem z99b (x y:UInt8):z9b .or (u8 x) (u8 y)=True:=by simp[z9b,u8]
@[simp] theorem z8Rb (x y:UInt32):z9b .or (u32 x) (u32 y)=True:=by simp[z9b,u32]
@[simp] theorem z4Rb (x y:UInt64):z9b .or (u64 x) (u64 y)=True:=by simp[z9b,u64]
@[simp] theorem z8Mb (x y:Int):z9b .or (i64 x) (i64 y)=True:=by simp[z9b,i64]
@[simp] theorem z3Rb (x y:UInt8):z9b .xor (u8 x) (u8 y)=True:=by simp[z9b,u8]
@[simp] theorem z0wb (x y:UInt32):z9b .xor (u32 x) (u32 y)=True:=by simp[z9b,u32]
@[simp] theorem z6yb (x y:UInt64):z9b .xor (u64 x) (u64 y)=True:=by simp[z9b,u64]
@[simp] theorem z3xb (x y:Int):z9b .xor (i64 x) (i64 y)=True:=by simp[z9b,i64]
@[simp] theorem z1Ob (x y:UInt8):z9b .eql (u8 x) (u8 y)=True:=by simp[z9b,u8]
@[simp] theorem z5Bb (x y:UInt32):z9b .eql (u32 x) (u32 y)=True:=by simp[z9b,u32]
@[simp] theorem z7ub (x y:UInt64):z9b .eql (u64 x) (u64 y)=True:=by simp[z9b,u64]
@[simp] theorem z3vb (x y:Int):z9b .eql (i64 x) (i64 y)=True:=by simp[z9b,i64]
@[simp] theorem z6Pb (x y:UInt8):z9b .neq (u8 x) (u8 y)=True:=by simp[z9b,u8]
@[simp] theorem z7Ab (x y:UInt32):z9b .neq (u32 x) (u32 y)=True:=by simp[z9b,u32]
@[simp] theorem z6wb (x y:UInt64):z9b .neq (u64 x) (u64 y)=True:=by simp[z9b,u64]
@[simp] theorem z6zb (x y:Int):z9b .neq (i64 x) (i64 y)=True:=by simp[z9b,i64]
@[simp] theorem z9Jb (x y:UInt8):z9b .lss (u8 x) (u8 y)=True:=by simp[z9b,u8]
@[simp] theorem z0Ib (x y:UInt32):z9b .lss (u32 x) (u32 y)=True:=by simp[z9b,u32]
@[simp] theorem z6Cb (x y:UInt64):z9b .lss (u64 x) (u64 y)=True:=by simp[z9b,u64]
@[simp] theorem z8Fb (x y:Int):z9b .lss (i64 x) (i64 y)=True:=by simp[z9b,i64]
@[simp] theorem z6Lb (x y:UInt8):z9b .leq (u8 x) (u8 y)=True:=by simp[z9b,u8]
@[simp] theorem z9Ib (x y:UInt32):z9b .leq (u32 x) (u32 y)=True:=by simp[z9b,u32]
@[simp] theorem z8Cb (x y:UInt64):z9b .leq (u64 x) (u64 y)=True:=by simp[z9b,u64]
@[simp] theorem z9yb (x y:Int):z9b .leq (i64 x) (i64 y)=True:=by simp[z9b,i64]
@[simp] theorem z9Nb (x y:UInt8):z9b .gtr (u8 x) (u8 y)=True:=by simp[z9b,u8]
@[simp] theorem z1tb (x y:UInt32):z9b .gtr (u32 x) (u32 y)=True:=by simp[z9b,u32]
@[simp] theorem z1wb (x y:UInt64):z9b .gtr (u64 x) (u64 y)=True:=by simp[z9b,u64]
@[simp] theorem z2Db (x y:Int):z9b .gtr (i64 x) (i64 y)=True:=by simp[z9b,i64]
@[simp] theorem z5Rb (x y:UInt8):z9b .geq (u8 x) (u8 y)=True:=by simp[z9b,u8]
@[simp] theorem z7Eb (x y:UInt32):z9b .geq (u32 x) (u32 y)=True:=by simp[z9b,u32]
@[simp] theorem z4Fb (x y:UInt64):z9b .geq (u64 x) (u64 y)=True:=by simp[z9b,u64]
@[simp] theorem z2Bb (x y:Int):z9b .geq (i64 x) (i64 y)=True:=by simp[z9b,i64]
@[simp] theorem z3Mb (x y:List UInt8):z9b .eql (st x) (st y)=True:=rfl
@[simp] theorem z7Rb (x y:List UInt8):z9b .neq (st x) (st y)=True:=rfl
@[simp] theorem z3Qb (x y:List UInt8):z9b .lss (st x) (st y)=True:=rfl
@[simp] theorem z8Nb (x y:List UInt8):z9b .leq (st x) (st y)=True:=rfl
@[simp] theorem z2Kb (x y:List UInt8):z9b .gtr (st x) (st y)=True:=rfl
@[simp] theorem z8Qb (x y:List UInt8):z9b .geq (st x) (st y)=True:=rfl
@[simp] theorem z4Mb (x y:List UInt8):z9b .add (st x) (st y)=(((x.length+y.length:Nat):Int)≤9223372036854775807):=rfl
@[simp] theorem z0kc (x y:List UInt8):z4G .add (st x) (st y)=st (x++y):=by
 show z2a.lit (.string (ByteArray.mk x.toArray++ByteArray.mk y.toArray))=_
 rw[st]
 congr 2
@[simp] theorem z8jc (x y:List UInt8):z4G .eql (st x) (st y)=bo (decide (x=y)):=by
 show z2a.lit (.bool ((ByteArray.mk x.toArray).toList==(ByteArray.mk y.toArray).toList))=_
 rw[bo,ByteArray.toList_eq,ByteArray.toList_eq]
 congr 2
 rw[Bool.eq_iff_iff]
 simp
@[simp] theorem z2dc (x y:List UInt8):z4G .neq (st x) (st y)=bo (!decide (x=y)):=by
 show z2a.lit (.bool (!((ByteArray.mk x.toArray).toList==(ByteArray.mk y.toArray).toList)))=_
 rw[bo,ByteArray.toList_eq,ByteArray.toList_eq]
 congr 2
 rw[Bool.eq_iff_iff]
 simp
@[simp] theorem z0Uc (x:Int):z6xb .neg (i64 x)=True:=rfl
@[simp] theorem z6Uc (x:Bool):z6xb .not (bo x)=True:=rfl
@[simp] theorem z1hc (x:UInt32):z6xb .xor (u32 x)=True:=rfl
@[simp] theorem z1cc (x:UInt64):z6xb .xor (u64 x)=True:=rfl

attribute [simp] lk ASt.get ASt.getB z8q z2oa z94a arg bxc bxl bnd z4M z1d.W AOp.wrS z8L z6B z7g z2na z64 z2h z0c
attribute [simp] z9Za z8Ta z4jc z6ia z3sb
def z2cc (wr:List Nat):Nat→List z2a→List (Nat×z2a)
 |_,[]=>[]
 |i,d::ds=>if wr.contains i then z2cc wr (i+1) ds else(i,d)::z2cc wr (i+1) ds
def z5kc (wr:List Nat):Nat→List z2a→List (Nat×z2a)
 |_,[]=>[]
 |i,d::ds=>if wr.contains i then(i,dem d)::z5kc wr (i+1) ds else z5kc wr (i+1) ds
theorem z9eb (wr:List Nat):∀(ds:List z2a) (i:Nat),z2cc wr i ds=(z8z i ds).filter fun p=> !wr.contains p.1
 |[],i=>rfl
 |d::ds,i=>by
  rw[z2cc,z8z,List.filter_cons,z9eb wr ds]
  show(if wr.contains i=true then _ else _)=if(!wr.contains i)=true then _ else _
  cases wr.contains i<;>rfl
theorem z9nb (wr:List Nat):∀(ds:List z2a) (i:Nat),z5kc wr i ds=((z8z i ds).filter fun p=>wr.contains p.1).map fun p=>(p.1,dem p.2)
 |[],i=>rfl
 |d::ds,i=>by
  rw[z5kc,z8z,List.filter_cons,z9nb wr ds]
  show(if wr.contains i=true then _ else _)=List.map _ (if wr.contains i=true then _ else _)
  cases wr.contains i<;>rfl
@[simp] theorem z5vc (wr:List Nat) (ds:List z2a):z9c wr ds=⟨z2cc wr 0 ds,z5kc wr 0 ds,[]⟩:=by rw[z9eb,z9nb];rfl
attribute [simp] z2cc z5kc

@[simp] theorem z0Sc (E:Env) (Q:z0n→ASt→Prop) (s:ASt):awp E .skip Q s=Q .normal s:=rfl
def z5ic (Q:z0n→ASt→Prop):List z7I→ASt→Prop
 |[],st=>Q .normal st
 |g::gs,st=>z8q g st∧z5ic Q gs (z2b g st)
def z2Qa (E:Env) (keep:List Nat) (gs:List z7I) (Q:z0n→ASt→Prop):List z1d→ASt→Prop
 |[],st=>z5ic Q gs (z19 keep st)
 |o::os,st=>okA E o st∧z2Qa E keep gs Q os (z6g E o st)
theorem z9ob (Q:z0n→ASt→Prop):∀(gs:List z7I) (st:ASt),z5ic Q gs st=(z9qb gs st∧Q .normal (z7xa gs st))
 |[],st=>by simp[z5ic,z9qb,z7xa]
 |g::gs,st=>by simp only[z5ic,z9qb,z7xa,z9ob Q gs];exact propext and_assoc.symm
theorem z1Da (E:Env) (keep:List Nat) (gs:List z7I) (Q:z0n→ASt→Prop):∀(xs:List z1d) (st:ASt),z2Qa E keep gs Q xs st=(z73 E xs st∧z9qb gs (z19 keep (z7ma E xs st))∧Q .normal (z7xa gs (z19 keep (z7ma E xs st))))
 |[],st=>by simp only[z2Qa,z73,z7ma,true_and];exact z9ob Q gs _
 |o::os,st=>by simp only[z2Qa,z73,z7ma,z1Da E keep gs Q os];exact propext and_assoc.symm
@[simp] theorem z5R (E:Env) (keep:List Nat) (gs:List z7I) (xs:List z1d) (Q:z0n→ASt→Prop) (s:ASt):
  awp E (.region keep gs xs) Q s=z2Qa E keep gs Q xs s:=(z1Da E keep gs Q xs s).symm
def z8yc (o e:List (Nat×z2a)) (b:List (Nat×Option (List z2a))) (d:Nat) (x:Eff):ASt:=⟨o,(d,x.val)::(x.sl++e),x.bx++b⟩
def put0 (o e:List (Nat×z2a)) (b:List (Nat×Option (List z2a))) (x:Eff):ASt:=⟨o,x.sl++e,x.bx++b⟩
def z44a (o e:List (Nat×z2a)) (b:List (Nat×Option (List z2a))) (d:Nat) (t:Bool) (x:Eff):ASt:=if t then z8yc o e b d x else⟨o,(d,z47)::e,b⟩
@[simp] theorem z08c (o e:List (Nat×z2a)) (b:List (Nat×Option (List z2a))) (d:Nat) (v:z2a) (sl:List (Nat×z2a)) (bx:List (Nat×Option (List z2a))):z8yc o e b d ⟨v,sl,bx⟩=⟨o,(d,v)::(sl++e),bx++b⟩:=rfl
@[simp] theorem z95c (o e:List (Nat×z2a)) (b:List (Nat×Option (List z2a))) (v:z2a) (sl:List (Nat×z2a)) (bx:List (Nat×Option (List z2a))):put0 o e b ⟨v,sl,bx⟩=⟨o,sl++e,bx++b⟩:=rfl
@[simp] theorem z6Wc (o e:List (Nat×z2a)) (b:List (Nat×Option (List z2a))) (d:Nat) (x:Eff):z44a o e b d true x=z8yc o e b d x:=rfl
@[simp] theorem z8Qc (o e:List (Nat×z2a)) (b:List (Nat×Option (List z2a))) (d:Nat) (x:Eff):z44a o e b d false x=⟨o,(d,z47)::e,b⟩:=rfl
@[simp] theorem z2Cc (E:Env) (d:Nat) (op:AOp) (o e:List (Nat×z2a)) (b:List (Nat×Option (List z2a))):
  z6g E ⟨some d,none,op⟩ ⟨o,e,b⟩=z8yc o e b d (eff E (ASt.get ⟨o,e,b⟩) (ASt.getB ⟨o,e,b⟩) op):=rfl
@[simp] theorem z7Ec (E:Env) (op:AOp) (o e:List (Nat×z2a)) (b:List (Nat×Option (List z2a))):
  z6g E ⟨none,none,op⟩ ⟨o,e,b⟩=put0 o e b (eff E (ASt.get ⟨o,e,b⟩) (ASt.getB ⟨o,e,b⟩) op):=rfl
@[simp] theorem z5gc (E:Env) (d s:Nat) (w:Bool) (op:AOp) (o e:List (Nat×z2a)) (b:List (Nat×Option (List z2a))):
  z6g E ⟨some d,some (s,w),op⟩ ⟨o,e,b⟩=z44a o e b d (z1Va (ASt.get ⟨o,e,b⟩ s) w) (eff E (ASt.get ⟨o,e,b⟩) (ASt.getB ⟨o,e,b⟩) op):=by
 simp only[z6g,z44a,z8yc]
 generalize z1Va (ASt.get ⟨o,e,b⟩ s) w=t
 cases t<;>simp
@[simp] theorem z02b (x w:Bool):z1Va (bo x) w=(x==w):=rfl
@[simp] theorem z8Bc (w:Bool):z1Va z47 w=false:=rfl
@[simp] theorem okG_bo (x:Bool):okG (bo x)=True:=eq_true (.inl trivial)
@[simp] theorem z6Qc:okG z47=True:=eq_true (.inr rfl)
@[simp] theorem z6Tc:dem z47=z47:=rfl
@[simp] theorem z9Gc:z0r z47=[]:=rfl
attribute [simp] z5ic z2Qa
def z5xa (f:Nat→z2a):List Nat→List (Nat×z2a)
 |[]=>[]
 |s::l=>(s,f s)::z5xa f l
def z7fb (f:Nat→Option (List z2a)):List Nat→List (Nat×Option (List z2a))
 |[]=>[]
 |s::l=>(s,f s)::z7fb f l
def z1Ua (ids:List Nat):List (Nat×Option (List z2a))→List (Nat×Option (List z2a))
 |[]=>[]
 |p::l=>if ids.contains p.1 then z1Ua ids l else p::z1Ua ids l
theorem z3Fa (f:Nat→z2a):∀l,z5xa f l=l.map fun s=>(s,f s)
 |[]=>rfl
 |s::l=>by rw[z5xa,z3Fa f l];rfl
theorem z5Za (f:Nat→Option (List z2a)):∀l,z7fb f l=l.map fun s=>(s,f s)
 |[]=>rfl
 |s::l=>by rw[z7fb,z5Za f l];rfl
theorem z0Ga (ids:List Nat):∀l,z1Ua ids l=l.filter fun p=> !ids.contains p.1
 |[]=>rfl
 |p::l=>by
  rw[z1Ua,z0Ga ids l,List.filter_cons]
  cases ids.contains p.1<;>rfl
attribute [simp] z5xa z7fb z1Ua
@[simp] theorem z5Fb (keep:List Nat) (o e:List (Nat×z2a)) (b:List (Nat×Option (List z2a))):z19 keep ⟨o,e,b⟩=⟨o,z5xa (ASt.get ⟨o,e,b⟩) keep,b⟩:=by rw[z3Fa];rfl
@[simp] theorem z07b (ids:List Nat) (o e:List (Nat×z2a)) (b:List (Nat×Option (List z2a))):z2b (.norm ids) ⟨o,e,b⟩=⟨o,e,z7fb (ASt.getB ⟨o,e,b⟩) ids⟩:=by rw[z5Za];rfl
@[simp] theorem z46c (ids:List Nat) (o e:List (Nat×z2a)) (b:List (Nat×Option (List z2a))):z2b (.drop ids) ⟨o,e,b⟩=⟨o,e,z1Ua ids b⟩:=by rw[z0Ga];rfl
def z2Ra (s:Nat):List (Nat×z2a)→List (Nat×z2a)
 |[]=>[]
 |(k,v)::l=>if k=s then z2Ra s l else(k,v)::z2Ra s l
theorem z1Fa (s:Nat):∀l,z2Ra s l=l.filter fun p=>decide (p.1≠s)
 |[]=>rfl
 |(k,v)::l=>by
  rw[z2Ra,z1Fa s l,List.filter_cons]
  by_cases h:k=s<;>simp[h]
attribute [simp] z2Ra
@[simp] theorem z1Wc (s:Nat) (o e:List (Nat×z2a)) (b:List (Nat×Option (List z2a))):z2b (.unorg s) ⟨o,e,b⟩=⟨z2Ra s o,(s,ASt.get ⟨o,e,b⟩ s)::e,b⟩:=by rw[z1Fa];rfl
def z2Zb (b i:Nat) (x:Option (List z2a)) (box:List (Nat×Option (List z2a))):List (Nat×Option (List z2a)):=match x with|some bs=>(b,some (bs.set i .undef))::box|none=>box
@[simp] theorem z2ic (b i:Nat) (bs:List z2a) (box:List (Nat×Option (List z2a))):z2Zb b i (some bs) box=(b,some (bs.set i .undef))::box:=rfl
@[simp] theorem z0Pc (b i:Nat) (o e:List (Nat×z2a)) (box:List (Nat×Option (List z2a))):z2b (.hideB b i) ⟨o,e,box⟩=⟨o,e,z2Zb b i (ASt.getB ⟨o,e,box⟩ b) box⟩:=by
 simp only[z2b,z2Zb]
 split<;>simp_all
def reL (b i:Nat) (r:Option Nat) (x:Option (List z2a)) (box:List (Nat×Option (List z2a))):List (Nat×Option (List z2a)):=match x with|some bs=>(b,some (bs.set i (z86 r (bs.getD i .undef))))::box|none=>box
@[simp] theorem z3Vc (b i:Nat) (r:Option Nat) (bs:List z2a) (box:List (Nat×Option (List z2a))):reL b i r (some bs) box=(b,some (bs.set i (z86 r (bs.getD i .undef))))::box:=rfl
@[simp] theorem reB_mk (b i:Nat) (r:Option Nat) (o e:List (Nat×z2a)) (box:List (Nat×Option (List z2a))):z2b (.reB b i r) ⟨o,e,box⟩=⟨o,e,reL b i r (ASt.getB ⟨o,e,box⟩ b) box⟩:=by
 simp only[z2b,reL]
 split<;>simp_all
@[simp] theorem z9Vb (c:z2a):z86 none c=dem c:=rfl
@[simp] theorem z2ec (e:Nat):z86 (some e) (.sl .plain (some true) 0 [])= .sl (.own e) none 0 []:=rfl
@[simp] theorem z65c (keep:List Nat) (o e:List (Nat×z2a)) (b:List (Nat×Option (List z2a))):z2b (.keep keep) ⟨o,e,b⟩=⟨o,z5xa (ASt.get ⟨o,e,b⟩) keep,b⟩:=z5Fb keep o e b
@[simp] theorem z4zc (ids:List Nat) (o e:List (Nat×z2a)) (b:List (Nat×Option (List z2a))):z2b (.freeze ids) ⟨o,e,b⟩=
  ⟨o,e.map fun p=>(p.1,z2na ids (fun id=>(ASt.getB ⟨o,e,b⟩ id).getD []) p.2),(z1Ua ids b).map fun p=>(p.1,p.2.map (z64 ids fun id=>(ASt.getB ⟨o,e,b⟩ id).getD []))⟩:=by rw[z0Ga];rfl
@[simp] theorem z4ea (E:Env) (a b:z4a) (Q:z0n→ASt→Prop) (s:ASt):awp E (.seq a b) Q s=awp E a (z2oa (awp E b Q) Q) s:=rfl
theorem z7b (E:Env) (c:Arg) (a b:z4a) (Q:z0n→ASt→Prop) (s:ASt):
  awp E (.cond c a b) Q s=(isB (arg E s.get c)∧(asB (arg E s.get c)=true→awp E a Q s)∧(asB (arg E s.get c)=false→awp E b Q s)):=rfl
@[simp] theorem z6zc (E:Env) (id:Nat) (b:z4a) (Q:z0n→ASt→Prop) (s:ASt):awp E (.block id b) Q s=awp E b (z94a id Q) s:=rfl
@[simp] theorem z7xc (E:Env) (b:z4a) (Q:z0n→ASt→Prop) (s:ASt):awp E (.scope b) Q s=awp E b Q s:=rfl
@[simp] theorem z0Kc (E:Env) (id:Nat) (Q:z0n→ASt→Prop) (s:ASt):awp E (.exit id) Q s=Q (.exit id) s:=rfl
@[simp] theorem z72c (E:Env) (Q:z0n→ASt→Prop) (s:ASt):awp E .ret Q s=Q .ret s:=rfl
@[simp] theorem z57 (E:Env) (g:z7I) (c:z4a) (Q:z0n→ASt→Prop) (s:ASt):awp E (.ghost g c) Q s=(z8q g s∧awp E c Q (z2b g s)):=rfl

attribute [simp] okA eff okp okp.okApp z6ra z5Oa

/-! ### Reading arguments -/
def nth (ds:List z2a) (i:Nat):z2a:=ds.getD i .undef
def gU8 (v:z2a):UInt8:=UInt8.ofInt (asI v)
def z8Ob (v:z2a):UInt32:=UInt32.ofInt (asI v)
def z48c (v:z2a):UInt64:=UInt64.ofInt (asI v)
def gS (v:z2a):List UInt8:=(asS v).data.toList
def gCs (v:z2a):List z2a:=match v with| .agg cs=>cs| .sl _ _ _ cs=>cs| .ep cs=>cs| .tup cs=>cs|_=>[]
def gBs (l:List z2a):List UInt8:=l.map gU8
def gWs (l:List z2a):List UInt32:=l.map z8Ob
@[simp] theorem nth_0 (d:z2a) (ds:List z2a):nth (d::ds) 0=d:=rfl
@[simp] theorem nth_s (d:z2a) (ds:List z2a) (i:Nat):nth (d::ds) (i+1)=nth ds i:=rfl
@[simp] theorem z9Mb (x:UInt8):gU8 (u8 x)=x:=by
 apply UInt8.toNat_inj.1
 rw[gU8,z6ma,z4db]
 have:=x.toNat_lt
 omega
@[simp] theorem z61a (x:UInt32):z8Ob (u32 x)=x:=by
 apply UInt32.toNat_inj.1
 rw[z8Ob,z3hb,z84b]
 have:=x.toNat_lt
 omega
@[simp] theorem z71a (x:UInt64):z48c (u64 x)=x:=by
 apply UInt64.toNat_inj.1
 rw[z48c,z6la,z64b]
 have:=x.toNat_lt
 omega
@[simp] theorem z9xc (l:List UInt8):gS (st l)=l:=rfl
@[simp] theorem z5Xc (l:List z2a):gCs (.agg l)=l:=rfl
@[simp] theorem z16c (l:List z2a):gCs (.tup l)=l:=rfl
@[simp] theorem gCs_ep (l:List z2a):gCs (.ep l)=l:=rfl
@[simp] theorem gCs_sl (m:z0ea) (nl:Option Bool) (n:Nat) (l:List z2a):gCs (.sl m nl n l)=l:=rfl
@[simp] theorem z78c:gCs (.lit (.slice none 0 0))=[]:=rfl
@[simp] theorem z8kb (l:List UInt8):gBs (bys l)=l:=by simp[gBs,bys,Function.comp_def]
@[simp] theorem z01a (l:List UInt32):gWs (z2p l)=l:=by simp[gWs,z2p,Function.comp_def]
@[simp] theorem z81c:gBs []=[]:=rfl

@[simp] theorem u8_inj (x y:UInt8):(u8 x=u8 y)=(x=y):=propext ⟨fun h=>by rw[←z9Mb x,h,z9Mb],fun h=>by rw[h]⟩
@[simp] theorem z21c (x y:UInt32):(u32 x=u32 y)=(x=y):=propext ⟨fun h=>by rw[←z61a x,h,z61a],fun h=>by rw[h]⟩
@[simp] theorem z9Zc (x y:UInt64):(u64 x=u64 y)=(x=y):=propext ⟨fun h=>by rw[←z71a x,h,z71a],fun h=>by rw[h]⟩
@[simp] theorem z2ad (x y:Int):(i64 x=i64 y)=(x=y):=propext ⟨fun h=>by rw[←z8mb x,h,z8mb],fun h=>by rw[h]⟩
@[simp] theorem bo_inj (x y:Bool):(bo x=bo y)=(x=y):=propext ⟨fun h=>by rw[←z1Qb x,h,z1Qb],fun h=>by rw[h]⟩
@[simp] theorem st_inj (x y:List UInt8):(st x=st y)=(x=y):=propext ⟨fun h=>by rw[←z9xc x,h,z9xc],fun h=>by rw[h]⟩
@[simp] theorem z55c (x y:List UInt8):(bys x=bys y)=(x=y):=propext ⟨fun h=>by rw[←z8kb x,h,z8kb],fun h=>by rw[h]⟩
@[simp] theorem z1Qc (x y:List UInt32):(z2p x=z2p y)=(x=y):=propext ⟨fun h=>by rw[←z01a x,h,z01a],fun h=>by rw[h]⟩
theorem z1wa (x:UInt32) (l:List UInt32):z2p (x::l)=u32 x::z2p l:=rfl

/-! ### Loops -/
theorem z3a {E:Env} {c:z4a} {Q:z0n→ASt→Prop} {st:ASt} (h:∀Q',Q'=Q→awp E c Q' st):awp E c Q st:=h Q rfl
theorem z4d {E:Env} {b:z4a} {Q:z0n→ASt→Prop} {st:ASt} {α:Type} (S:α→ASt) (μ:α→Nat) (inv:α→Prop) (a0:α) (h0:st=S a0) (hi:inv a0)
  (hr:∀a,inv a→awp E b (z2oa (fun st'=>∃a',μ a'<μ a∧inv a'∧st'=S a') Q) (S a)):awp E (.loop b) Q st:=by
 refine⟨fun m st=>∃a,μ a=m∧inv a∧st=S a,⟨μ a0,a0,rfl,hi,h0⟩,?_⟩
 rintro m _ ⟨a,rfl,hia,rfl⟩
 have e:(z2oa (fun st'=>∃a',μ a'<μ a∧inv a'∧st'=S a') Q)=(z2oa (fun st'=>∃m',m'<μ a∧∃a',μ a'=m'∧inv a'∧st'=S a') Q):=by
  funext e st'
  cases e<;>simp only[z2oa]
  apply propext
  constructor
  ·rintro⟨a',h1,h2,h3⟩;exact⟨_,h1,a',rfl,h2,h3⟩
  ·rintro⟨_,h1,a',rfl,h2,h3⟩;exact⟨a',h1,h2,h3⟩
 rw[←e]
 exact hr a hia

/-! ### Splices -/
@[simp] theorem z7nb (a x:z2a) (l:List z2a):splice (a::l) 0 [x]=x::l:=by simp[splice]
@[simp] theorem z80b (a:z2a) (l:List z2a) (n:Nat) (xs:List z2a):splice (a::l) (n+1) xs=a::splice l n xs:=by
 simp only[splice,List.take_succ_cons,List.cons_append,List.cons.injEq,true_and]
 congr 1
 rw[show n+1+xs.length=(n+xs.length)+1 by omega,List.drop_succ_cons]
theorem z8f {l xs:List z2a} (h:xs.length=l.length):splice l 0 xs=xs:=by simp[splice,h]
theorem z04 {a b xs:List z2a} {n:Nat} (h:n+xs.length≤a.length):splice (a++b) n xs=splice a n xs++b:=by
 simp only[splice,List.append_assoc]
 rw[List.take_append_of_le_length (by omega),List.drop_append_of_le_length h]
theorem z9N {a b xs:List z2a} {n:Nat} (h:a.length≤n):splice (a++b) n xs=a++splice b (n-a.length) xs:=by
 simp only[splice]
 rw[List.take_append,List.take_of_length_le h,List.drop_append,List.drop_of_length_le (by omega)]
 simp only[List.append_assoc,List.nil_append]
 rw[show n+xs.length-a.length=n-a.length+xs.length by omega]
theorem z8ja {l:List UInt8} {n:Nat} {x:UInt8} (h:n<l.length):splice (bys l) n [u8 x]=bys (l.set n x):=by
 simp only[splice,bys,←List.map_take,←List.map_drop,List.length_singleton]
 rw[List.set_eq_take_append_cons_drop,if_pos h]
 simp
theorem z1D {l:List UInt32} {n:Nat} {x:UInt32} (h:n<l.length):splice (z2p l) n [u32 x]=z2p (l.set n x):=by
 simp only[splice,z2p,←List.map_take,←List.map_drop,List.length_singleton]
 rw[List.set_eq_take_append_cons_drop,if_pos h]
 simp
def at8 (l:List UInt8) (i:Nat):UInt8:=l.getD i 0
def z6p (l:List UInt32) (i:Nat):UInt32:=l.getD i 0
theorem z6Db {l:List z2a} {n:Nat}:hdA (l.drop n)=l.getD n .undef:=by
 rw[hdA,List.headD_eq_head?_getD,List.head?_drop]
 rfl
theorem z3Eb {l:List UInt8} {n:Nat} (h:n<l.length):(bys l).getD n .undef=u8 (at8 l n):=by
 simp[at8,bys,List.getD,List.getElem?_eq_getElem h]
theorem z8ua {l:List UInt32} {n:Nat} (h:n<l.length):(z2p l).getD n .undef=u32 (z6p l n):=by
 simp[z6p,z2p,List.getD,List.getElem?_eq_getElem h]
theorem z7ya {l:List UInt8} {n:Nat} (h:n<l.length):hdA (bys (l.drop n))=u8 (at8 l n):=by rw[←z42a,z6Db,z3Eb h]
theorem z8Xa {l:List UInt8} (h:0<l.length):hdA (bys l)=u8 (at8 l 0):=by rw[←z7ya h,List.drop_zero]
@[simp] theorem z9nc (l:List UInt32) (n:Nat):(z2p l).take n=z2p (l.take n):=by simp[z2p]
@[simp] theorem z7ua (l:List UInt32) (n:Nat):(z2p l).drop n=z2p (l.drop n):=by simp[z2p]
theorem z8S {l:List UInt32} {n:Nat} (h:n<l.length):hdA (z2p (l.drop n))=u32 (z6p l n):=by rw[←z7ua,z6Db,z8ua h]
theorem z1xb {l:List UInt32} (h:0<l.length):hdA (z2p l)=u32 (z6p l 0):=by rw[←z8S h,List.drop_zero]
@[simp] theorem z3Nb (l:List UInt32) (i:Nat) (h:i<(z2p l).length):(z2p l)[i]=u32 (z6p l i):=by
 have h':i<l.length:=by simpa using h
 simp[z6p,z2p,List.getElem?_eq_getElem h']
@[simp] theorem z1Vb (l:List UInt8) (i:Nat) (h:i<(bys l).length):(bys l)[i]=u8 (at8 l i):=by
 have h':i<l.length:=by simpa using h
 simp[at8,bys,List.getElem?_eq_getElem h']
@[simp] theorem z1yb (x:UInt32) (l:List UInt32):hdA (z2p (x::l))=u32 x:=rfl
@[simp] theorem z2Mb (x:UInt8) (l:List UInt8):hdA (bys (x::l))=u8 x:=rfl
@[simp] theorem z8Uc (a:z2a) (l:List z2a):hdA (a::l)=a:=rfl
theorem z04a {a b:List UInt32} {i:Nat} (h:i<a.length):z6p (a++b) i=z6p a i:=by simp[z6p,List.getD,List.getElem?_append_left h]
theorem z0jb {a b:List UInt8} {i:Nat} (h:a.length≤i):at8 (a++b) i=at8 b (i-a.length):=by simp[at8,List.getD,List.getElem?_append_right h]
theorem z67a {a b:List UInt32} {i:Nat} (h:a.length≤i):z6p (a++b) i=z6p b (i-a.length):=by simp[z6p,List.getD,List.getElem?_append_right h]
theorem z22a {a:List UInt8} {i n:Nat} (h:i<n):at8 (a.take n) i=at8 a i:=by simp[at8,List.getD,List.getElem?_take,h]
@[simp] theorem z7Jc {a:List UInt8} {i n:Nat}:at8 (a.drop n) i=at8 a (n+i):=by simp[at8,List.getD]
@[simp] theorem z5Gc {a:List UInt32} {i n:Nat}:z6p (a.drop n) i=z6p a (n+i):=by simp[z6p,List.getD]
@[simp] theorem z2sc (x:UInt32) (l:List UInt32):z6p (x::l) 0=x:=rfl
@[simp] theorem z4mc (x:UInt32) (l:List UInt32) (n:Nat):z6p (x::l) (n+1)=z6p l n:=rfl
@[simp] theorem z4sb (x:UInt8) (l:List UInt8):at8 (x::l) 0=x:=rfl
@[simp] theorem z9Tc (x:UInt8) (l:List UInt8) (n:Nat):at8 (x::l) (n+1)=at8 l n:=rfl

def ks8 (n:Nat):List LK:=List.replicate n (.int .u8)
@[simp] theorem z12b (n:Nat) (l:List UInt8):z3A (ks8 n) (bys l)=(l.length=n):=by
 induction n generalizing l with
 |zero=>cases l<;>simp[ks8,z3A,bys]
 |succ n ih=>
  cases l with
  |nil=>simp[ks8,List.replicate_succ,z3A,bys]
  |cons x l=>
   have:=ih l
   simp only[ks8,bys] at this
   simp[ks8,List.replicate_succ,z3A,bys,z6Rc,u8,this]
theorem z1b {n:Nat} {a b:List UInt8} (ha:a.length=n) (hb:b.length=n):z6P (ks8 n) (bys a) (bys b)=decide (a=b):=by
 induction n generalizing a b with
 |zero=>
  have e1:=List.length_eq_zero_iff.1 ha
  have e2:=List.length_eq_zero_iff.1 hb
  subst e1;subst e2
  rfl
 |succ n ih=>
  match a,b,ha,hb with
  |x::a,y::b,ha,hb=>
   have:=ih (a:=a) (b:=b) (by simpa using ha) (by simpa using hb)
   simp only[ks8,bys] at this
   simp only[ks8,List.replicate_succ,bys,List.map_cons,z6P,z5Kc,z4db,this]
   rw[Bool.eq_iff_iff]
   simp only[Bool.and_eq_true,beq_iff_eq,decide_eq_true_eq,List.cons.injEq,←UInt8.toNat_inj,Int.natCast_inj]
@[simp] theorem z04c (l:List UInt8):(ByteArray.mk l.toArray).size=l.length:=by simp[ByteArray.size]
@[simp] theorem mod64 (n:UInt64):((n.toNat:Int)% 64).toNat=n.toNat% 64:=by omega
@[simp] theorem z3fb (n:Int):z2a.lit (.int .i64 n)=i64 n:=rfl
@[simp] theorem lit_bo (b:Bool):z2a.lit (.bool b)=bo b:=rfl
@[simp] theorem z30c (x:UInt8):z2a.lit (.int .u8 (x.toNat:Int))=u8 x:=rfl
@[simp] theorem z2db (l:List UInt8):z2a.lit (.string (z6Y (bys l)))=st l:=by
 simp only[st,z6Y,bys,List.map_map]
 congr 3
 rw[show((fun c=>UInt8.ofNat (asI c).toNat)∘u8)=id from funext fun x=>by simp[z4db]]
 simp
@[simp] theorem z1fc (x:UInt8):z2a.lit (.string (z6Y [u8 x]))=st [x]:=z2db [x]
@[simp] theorem z7ac (l:List UInt8) (a b:Nat):z2a.lit (.string ((ByteArray.mk l.toArray).extract a b))=st ((l.drop a).take (b-a)):=by
 simp only[st]
 congr 2
 apply ByteArray.ext
 rw[ByteArray.data_extract]
 simp[List.extract]
attribute [simp] z1A z9Va z4da z6Xb z2la okM z8qb z1ca z5ub fnd Abs.ren z5na
@[simp] theorem ren_u8 (m:List (Nat×Nat)) (x:UInt8):Abs.ren m (u8 x)=u8 x:=rfl
@[simp] theorem z8Yc (m:List (Nat×Nat)) (x:UInt32):Abs.ren m (u32 x)=u32 x:=rfl
@[simp] theorem z88c (m:List (Nat×Nat)) (x:UInt64):Abs.ren m (u64 x)=u64 x:=rfl
@[simp] theorem z61c (m:List (Nat×Nat)) (x:Int):Abs.ren m (i64 x)=i64 x:=rfl
@[simp] theorem ren_bo (m:List (Nat×Nat)) (x:Bool):Abs.ren m (bo x)=bo x:=rfl
@[simp] theorem ren_st (m:List (Nat×Nat)) (x:List UInt8):Abs.ren m (st x)=st x:=rfl
end Go.Abs
end

section
namespace Go.Abs
def gv (t:Bool) (v:z2a):z2a:=if t then v else z47
def gok (t:Bool) (p:Prop):Prop:=t=true→p
@[simp] theorem gv_t (v:z2a):gv true v=v:=rfl
@[simp] theorem gv_f (v:z2a):gv false v=z47:=rfl
@[simp] theorem gok_f (p:Prop):gok false p=True:=by simp[gok]
@[simp] theorem gok_t (p:Prop):gok true p=p:=by simp[gok]
@[simp] theorem gok_T (t:Bool):gok t True=True:=by simp[gok]
@[simp high] theorem z8Hc (E:Env) (d s:Nat) (w:Bool) (op:AOp) (o e:List (Nat×z2a)) (b:List (Nat×Option (List z2a))):
  okA E ⟨some d,some (s,w),op⟩ ⟨o,e,b⟩=((∀x∈d::op.wrS,lk o x=none)∧okG (ASt.get ⟨o,e,b⟩ s)∧gok (z1Va (ASt.get ⟨o,e,b⟩ s) w) (okp E (ASt.get ⟨o,e,b⟩) (ASt.getB ⟨o,e,b⟩) op)):=rfl
@[simp] theorem z93c (t x w:Bool):z1Va (gv t (bo x)) w=(t&&(x==w)):=by cases t<;>simp
@[simp] theorem okG_gv (t x:Bool):okG (gv t (bo x))=True:=by cases t<;>simp
@[simp] theorem dem_gv (t:Bool) (v:z2a):dem (gv t v)=gv t (dem v):=by cases t<;>rfl
end Go.Abs
end

section
namespace Go.Abs
/-! ### structs that are built, step by step -/
def z42b (get:Nat→z2a) (n:Nat):z2a:=dem (get n)
@[simp] theorem z38c (get:Nat→z2a) (n:Nat):z42b get n=dem (get n):=rfl
@[simp ↓ high] theorem z6Mc (E:Env) (get:Nat→z2a) (getB:Nat→Option (List z2a)) (z:List z2a) (ps:List (Nat×Nat×Arg)):eff E get getB (.build z ps)={val:= .agg (z8L E (z42b get) ps z)}:=rfl
@[simp ↓ high] theorem z9Qc (E:Env) (get:Nat→z2a) (getB:Nat→Option (List z2a)) (z:List z2a) (ps:List (Nat×Nat×Arg)):okp E get getB (.build z ps)=z6B E (z42b get) ps z.length:=rfl
def z57c (d dd:z2a) (cs:List z2a) (i s:Nat):Eff:=match d with| .sl (.own e) nl n c=>{val:= .oagg (cs.take i) e nl n c (cs.drop (i+1)),sl:=[(s,dd)]}|_=>{val:= .undef}
@[simp] theorem z1Uc (e:Nat) (nl:Option Bool) (n:Nat) (c:List z2a) (dd:z2a) (cs:List z2a) (i s:Nat):z57c (.sl (.own e) nl n c) dd cs i s={val:= .oagg (cs.take i) e nl n c (cs.drop (i+1)),sl:=[(s,dd)]}:=rfl
@[simp ↓ high] theorem z1Mc (E:Env) (get:Nat→z2a) (getB:Nat→Option (List z2a)) (z:List z2a) (ps:List (Nat×Nat×Arg)) (i s:Nat):eff E get getB (.buildO z ps i s)=z57c (get s) (dem (get s)) (z8L E (z42b get) (ps++[(i,1,.s s)]) z) i s:=by
 simp only[eff,z57c]
 rfl
@[simp ↓ high] theorem z4Qc (E:Env) (get:Nat→z2a) (getB:Nat→Option (List z2a)) (z:List z2a) (ps:List (Nat×Nat×Arg)) (i s:Nat):okp E get getB (.buildO z ps i s)=(z6B E (z42b get) (ps++[(i,1,.s s)]) z.length∧(match get s with| .sl (.own _) _ _ _=>True|_=>False)):=rfl
@[simp ↓ high] theorem z4Mc (E:Env) (d:Nat) (z:List z2a) (ps:List (Nat×Nat×Arg)) (i s:Nat) (o e:List (Nat×z2a)) (b:List (Nat×Option (List z2a))):okA E ⟨some d,none,.buildO z ps i s⟩ ⟨o,e,b⟩=
  ((lk o d=none∧lk o s=none)∧z6B E (z42b (ASt.get ⟨o,e,b⟩)) (ps++[(i,1,.s s)]) z.length∧(match ASt.get ⟨o,e,b⟩ s with| .sl (.own _) _ _ _=>True|_=>False)):=by
 have h:(∀x∈[d,s],lk o x=none)=(lk o d=none∧lk o s=none):=by simp
 rw[←h];rfl
@[simp ↓ high] theorem z0Nc (E:Env) (d:Nat) (z:List z2a) (ps:List (Nat×Nat×Arg)) (o e:List (Nat×z2a)) (b:List (Nat×Option (List z2a))):okA E ⟨some d,none,.build z ps⟩ ⟨o,e,b⟩=
  (lk o d=none∧z6B E (z42b (ASt.get ⟨o,e,b⟩)) ps z.length):=by
 have h:(∀x∈[d],lk o x=none)=(lk o d=none):=by simp
 rw[←h];rfl
def z5sb (b:Bool):List Nat→List z1d→Option (List Nat)
 |ks,[]=>some ks
 |ks,⟨some d,some (t,w),op⟩::xs=>if ks.contains t&&(w !=b)&&op.wrS.isEmpty then z5sb b (ks.filter (· !=d)) xs else none
 |ks,⟨some d,none,.mv false (.s t)⟩::xs=>if ks.contains t then z5sb b (d::ks) xs else none
 |ks,⟨some d,none,.pick (.s t) (.c (.lit (.bool x))) (.s _)⟩::xs=>if ks.contains t&&b&&x then z5sb b (d::ks) xs else none
 |ks,⟨some d,none,.pick (.s t) (.s _) (.c (.lit (.bool x)))⟩::xs=>if ks.contains t&& !b&& !x then z5sb b (d::ks) xs else none
 |_,_=>none
def wrT (xs:List z1d):List Nat:=xs.flatMap fun o=>o.dst.toList
structure z79b (b:Bool) (ks:List Nat) (ws:List Nat) (st st':ASt):Prop where
 org:st'.org=st.org
 box:st'.box=st.box
 val:∀s∈ks,st'.get s=bo b
 same:∀s,s∉ws→st'.get s=st.get s
theorem z0xb (o:List (Nat×z2a)) (d:Nat) (v:z2a) (e:List (Nat×z2a)) (b:List (Nat×Option (List z2a))) (s:Nat):ASt.get ⟨o,(d,v)::e,b⟩ s=if s=d then v else ASt.get ⟨o,e,b⟩ s:=by
 by_cases h:s=d
 ·simp only[ASt.get,lk,if_pos h]
 ·simp only[ASt.get,lk,if_neg h]
theorem z4Za (E:Env) (b:Bool):∀(xs:List z1d) (ks ks':List Nat) (st:ASt),z5sb b ks xs=some ks'→(∀s∈ks,st.get s=bo b)→(∀s∈wrT xs,lk st.org s=none)→z73 E xs st∧z79b b ks' (wrT xs) st (z7ma E xs st)
 |[],ks,ks',st,hc,hk,_=>by
  simp only[z5sb,Option.some.injEq] at hc
  subst hc
  exact⟨trivial,rfl,rfl,hk,fun _ _=>rfl⟩
 |o::xs,ks,ks',st,hc,hk,ho=>by
  have one:∀(d:Nat) (v:z2a) (ks1:List Nat),o.dst=some d→okA E o st→z6g E o st=⟨st.org,(d,v)::st.env,st.box⟩→z5sb b ks1 xs=some ks'→(∀s∈ks1,s=d→v=bo b)→(∀s∈ks1,s≠d→s∈ks)→z73 E (o::xs) st∧z79b b ks' (wrT (o::xs)) st (z7ma E (o::xs) st):=by
   intro d v ks1 hd hok hst hc1 h1 h2
   have hg:∀s,ASt.get ⟨st.org,(d,v)::st.env,st.box⟩ s=if s=d then v else st.get s:=fun s=>z0xb _ _ _ _ _ _
   obtain⟨k1,k2⟩:=z4Za E b xs ks1 ks' ⟨st.org,(d,v)::st.env,st.box⟩ hc1 (fun s hs=>by
    rw[hg]
    split
    ·rename_i e;exact h1 s hs e
    ·rename_i e;exact hk s (h2 s hs e)) (fun s hs=>ho s (by simp only[wrT,List.flatMap_cons,List.mem_append];exact .inr hs))
   refine⟨⟨hok,by rw[hst];exact k1⟩,?_⟩
   show z79b b ks' (wrT (o::xs)) st (z7ma E xs (z6g E o st))
   rw[hst]
   refine⟨k2.org,k2.box,k2.val,fun s hs=> ?_⟩
   simp only[wrT,List.flatMap_cons,List.mem_append,not_or] at hs
   rw[k2.same s hs.2,hg,if_neg]
   intro e
   apply hs.1
   rw[hd,e]
   simp
  have hW:∀d,o.dst=some d→o.op.wrS=[]→∀s∈o.W,lk st.org s=none:=fun d hd hw s hs=>by
   apply ho
   simp only[z1d.W,hd,hw,List.append_nil,Option.toList_some,List.mem_singleton] at hs
   simp only[wrT,List.flatMap_cons,List.mem_append,hd,hs]
   exact .inl (by simp)
  unfold z5sb at hc
  split at hc
  ·cases xs<;>simp at*
  ·rename_i ks0 d t w op xs0 e
   simp only[List.cons.injEq] at e
   obtain⟨rfl,rfl⟩:=e
   split at hc
   ·rename_i hh
    simp only[Bool.and_eq_true,List.contains_eq_mem,decide_eq_true_eq,bne_iff_ne,List.isEmpty_iff] at hh
    obtain⟨⟨h1,h2⟩,h3⟩:=hh
    have hv:=hk t h1
    have hgate:z1Va (st.get t) w=false:=by rw[hv,z02b];exact beq_eq_false_iff_ne.2 (Ne.symm h2)
    refine one d z47 _ rfl ⟨hW d rfl h3,.inl (by rw[hv];trivial),fun e=>by rw[hgate] at e;cases e⟩ ?_ hc ?_ ?_
    ·simp only[z6g,hgate,Bool.false_eq_true,if_false,Option.toList_some,List.map_cons,List.map_nil,List.cons_append,List.nil_append]
    ·intro s hs e
     simp[e] at hs
    ·intro s hs e
     simp only[List.mem_filter] at hs
     exact hs.1
   ·cases hc
  ·rename_i ks0 d t xs0 e
   simp only[List.cons.injEq] at e
   obtain⟨rfl,rfl⟩:=e
   split at hc
   ·rename_i hh
    simp only[List.contains_eq_mem,decide_eq_true_eq] at hh
    have hv:=hk t hh
    refine one d (bo b) _ rfl ⟨hW d rfl rfl,trivial⟩ ?_ hc (fun _ _ _=>rfl) (fun s hs e=>by simpa[e] using hs)
    simp only[z6g,eff,arg,hv,Option.toList_some,List.map_cons,List.map_nil,List.cons_append,List.nil_append]
    rfl
   ·cases hc
  ·rename_i ks0 d t x y xs0 e
   simp only[List.cons.injEq] at e
   obtain⟨rfl,rfl⟩:=e
   split at hc
   ·rename_i hh
    simp only[Bool.and_eq_true,List.contains_eq_mem,decide_eq_true_eq] at hh
    obtain⟨⟨h1,rfl⟩,rfl⟩:=hh
    have hv:=hk t h1
    refine one d (bo true) _ rfl ⟨hW d rfl rfl,?_⟩ ?_ hc (fun _ _ _=>rfl) (fun s hs e=>by simpa[e] using hs)
    ·simp only[okp,arg,hv];trivial
    ·simp only[z6g,eff,arg,hv,Option.toList_some,List.map_cons,List.map_nil,List.cons_append,List.nil_append]
     rfl
   ·cases hc
  ·rename_i ks0 d t y x xs0 e
   simp only[List.cons.injEq] at e
   obtain⟨rfl,rfl⟩:=e
   split at hc
   ·rename_i hh
    simp only[Bool.and_eq_true,List.contains_eq_mem,decide_eq_true_eq,Bool.not_eq_true'] at hh
    obtain⟨⟨h1,rfl⟩,rfl⟩:=hh
    have hv:=hk t h1
    refine one d (bo false) _ rfl ⟨hW d rfl rfl,?_⟩ ?_ hc (fun _ _ _=>rfl) (fun s hs e=>by simpa[e] using hs)
    ·simp only[okp,arg,hv];trivial
    ·simp only[z6g,eff,arg,hv,Option.toList_some,List.map_cons,List.map_nil,List.cons_append,List.nil_append]
     rfl
   ·cases hc
  ·cases hc
theorem z04b (f:Nat→z2a) (keep:List Nat) (o:List (Nat×z2a)) (bx:List (Nat×Option (List z2a))) {x:Nat} (hx:x∈keep):ASt.get ⟨o,keep.map fun x=>(x,f x),bx⟩ x=f x:=by
 have h:=z6R f x keep
 rw[if_pos hx] at h
 simp only[ASt.get,h]
theorem z6ua {E:Env} {keep:List Nat} {gs:List z7I} {Q:z0n→ASt→Prop} {xs:List z1d} {st:ASt} (n:Nat) (h:∀T,T=xs.drop n→z2Qa E keep gs Q (xs.take n++T) st):z2Qa E keep gs Q xs st:=by
 have:=h _ rfl
 rwa[List.take_append_drop] at this
theorem z2e {E:Env} {keep:List Nat} {gs:List z7I} {Q:z0n→ASt→Prop} {xs ys:List z1d} {st:ASt} (h:∀T,T=ys→z2Qa E keep gs Q (xs++T) st):z2Qa E keep gs Q (xs++ys) st:=h ys rfl
theorem z0X {E:Env} {Q:z0n→ASt→Prop} {s:ASt} {a b:z4a} (h:∀B,B=b→awp E (.seq a B) Q s):awp E (.seq a b) Q s:=h b rfl
def vdG (b:Bool) (d:Nat) (st:ASt) (x:Nat):z2a:=if x=d then bo b else st.get x
@[simp] theorem vdG_eq (b:Bool) (d:Nat) (st:ASt) (x:Nat):vdG b d st x=if x=d then bo b else st.get x:=rfl
theorem z5Na (f:Nat→z2a):∀l:List Nat,z5xa f l=l.map fun s=>(s,f s)
 |[]=>rfl
 |s::l=>by simp only[z5xa,List.map_cons,z5Na f l]
theorem z3m {E:Env} {keep:List Nat} {gs:List z7I} {Q:z0n→ASt→Prop} {xs:List z1d} {o e:List (Nat×z2a)} {bx:List (Nat×Option (List z2a))} (b:Bool) (s d:Nat) (hs:ASt.get ⟨o,e,bx⟩ s=bo b)
  (hc:((z5sb b [s] xs).any fun ks=>ks.contains d&&keep.all fun x=>x==d|| !(wrT xs).contains x)=true) (ho:((wrT xs).all fun x=>(lk o x).isNone)=true)
  (h:z2Qa E keep gs Q [] ⟨o,z5xa (vdG b d ⟨o,e,bx⟩) keep,bx⟩):z2Qa E keep gs Q xs ⟨o,e,bx⟩:=by
 rw[z5Na] at h
 simp only[vdG] at h
 simp only[Option.any_eq_true,Bool.and_eq_true,List.contains_eq_mem,decide_eq_true_eq,List.all_eq_true,Bool.or_eq_true,beq_iff_eq,Bool.not_eq_true',decide_eq_false_iff_not] at hc
 obtain⟨ks,h1,h2,h3⟩:=hc
 simp only[List.all_eq_true,Option.isNone_iff_eq_none] at ho
 obtain⟨k1,k2⟩:=z4Za E b xs [s] ks ⟨o,e,bx⟩ h1 (fun x hx=>by rw[List.mem_singleton.1 hx];exact hs) ho
 rw[z1Da] at h⊢
 simp only[z73,z7ma,true_and] at h
 refine⟨k1,?_⟩
 have:z19 keep (z7ma E xs ⟨o,e,bx⟩)=z19 keep ⟨o,keep.map fun x=>(x,if x=d then bo b else ASt.get ⟨o,e,bx⟩ x),bx⟩:=by
  unfold z19
  rw[k2.org,k2.box]
  simp only[ASt.mk.injEq,true_and,and_true]
  refine List.map_congr_left fun x hx=> ?_
  have hg:ASt.get ⟨o,keep.map fun x=>(x,if x=d then bo b else ASt.get ⟨o,e,bx⟩ x),bx⟩ x=if x=d then bo b else ASt.get ⟨o,e,bx⟩ x:=by
   exact z04b _ keep o bx hx
  rw[hg]
  rcases h3 x hx with rfl|h4
  ·rw[if_pos rfl,k2.val x h2]
  ·split
   ·rename_i e;rw[e,k2.val d h2]
   ·rw[k2.same x h4]
 rw[this]
 exact h
end Go.Abs
end

section
namespace Go.Abs
theorem z6nb (E:Env) (b:Option Nat) (i id:Nat) (c:z4a) (Q:z0n→ASt→Prop) (s:ASt):awp E (.thawc b i id c) Q s=(z8za b i id s∧∀m,awp E c Q (z0ga b i id m s)):=rfl
theorem z4gb (E:Env) (s t:Nat) (c:z4a) (Q:z0n→ASt→Prop) (st:ASt):awp E (.holdc s t c) Q st=∃V,z7cb s t st V∧∀V',z6Fb V'=z6Fb V→awp E c Q (z4Ka s t V' st):=rfl
theorem z4Jb (E:Env) (a b:z4a) (Q:z0n→ASt→Prop) (s:ASt):awp E (.alt a b) Q s=(awp E a Q s∨awp E b Q s):=rfl
theorem z6hb {b i id m:Nat} {o e:List (Nat×z2a)} {box:List (Nat×Option (List z2a))} {bs:List z2a} {k n:Nat} {nl:Option Bool} {cs:List z2a} (h:ASt.getB ⟨o,e,box⟩ b=some bs) (h2:bs.getD i .undef= .sl (.own k) nl n cs):
  z0ga (some b) i id m ⟨o,e,box⟩=⟨o,e,(b,some (bs.set i (.bv id k 0 n (n+m))))::(id,some (cs++List.replicate (m*k) .undef))::box⟩:=by
 simp only[z0ga,h,h2]
theorem z2yb {b i id:Nat} {o e:List (Nat×z2a)} {box:List (Nat×Option (List z2a))} {bs:List z2a} {j k q n c:Nat} {cs:List z2a} (h:ASt.getB ⟨o,e,box⟩ b=some bs) (h2:bs.getD i .undef= .bv j k q n c) (h3:ASt.getB ⟨o,e,box⟩ id=some cs):
  z2b (.coolB b i id) ⟨o,e,box⟩=⟨o,e,(b,some (bs.set i (.sl (.own k) none n (cs.take (n*k)))))::(id,none)::box⟩:=by
 simp only[z2b,h,h2,h3,Option.getD_some]
@[simp] theorem z0lc (ks:List Nat) (o e:List (Nat×z2a)) (b:List (Nat×Option (List z2a))):z2b (.rebase ks) ⟨o,e,b⟩=⟨z5xa (ASt.get ⟨o,e,b⟩) ks++o,e.filter fun p=> !ks.contains p.1,b⟩:=by
 rw[z3Fa];rfl
theorem z3gb (s t:Nat) (V:Value) (o e:List (Nat×z2a)) (b:List (Nat×Option (List z2a))):z4Ka s t V ⟨o,e,b⟩=⟨(t,.lit V)::z2Ra s o,(s,ASt.get ⟨o,e,b⟩ s)::(t,ASt.get ⟨o,e,b⟩ t)::e,b⟩:=by rw[z1Fa];rfl
end Go.Abs
end
