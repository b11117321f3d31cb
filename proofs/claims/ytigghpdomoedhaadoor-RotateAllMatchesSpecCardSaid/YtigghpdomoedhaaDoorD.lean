/- Lemmas: an abstract interpreter, and what the functions compute. -/
import Derived.Test.YtigghpdomoedhaaDoorC
set_option linter.unusedSimpArgs false
set_option linter.unusedVariables false
set_option linter.unusedSectionVars false
section
namespace Go.Abs

def u8 (x:UInt8):z2a:= .lit (.int .u8 x.toNat)
def u32 (x:UInt32):z2a:= .lit (.int .u32 x.toNat)
def u64 (x:UInt64):z2a:= .lit (.int .u64 x.toNat)
def i64 (x:Int):z2a:= .lit (.int .i64 x)
def bo (x:Bool):z2a:= .lit (.bool x)
def st (l:List UInt8):z2a:= .lit (.string ⟨l.toArray⟩)
def bys (l:List UInt8):List z2a:=l.map u8
def z3o (l:List UInt32):List z2a:=l.map u32
def W (n:Int):Int:=IntKind.i64.wrap n

theorem z8a {n:Int} (h0: -9223372036854775808≤n) (h1:n≤9223372036854775807):W n=n:=by
 unfold W IntKind.wrap IntKind.bits IntKind.signed
 simp only[Bool.true_and,decide_eq_true_eq]
 split<;>omega

theorem z8da (n:Nat):IntKind.u8.wrap (n:Int)=((n% 256:Nat):Int):=by
 unfold IntKind.wrap IntKind.bits IntKind.signed
 simp
theorem z04 (n:Nat):IntKind.u32.wrap (n:Int)=((n% 4294967296:Nat):Int):=by
 unfold IntKind.wrap IntKind.bits IntKind.signed
 simp
theorem z3Y (n:Nat):IntKind.u64.wrap (n:Int)=((n% 18446744073709551616:Nat):Int):=by
 unfold IntKind.wrap IntKind.bits IntKind.signed
 simp

section looks
@[simp] theorem z3Gb (x:UInt8):asI (u8 x)=x.toNat:=rfl
@[simp] theorem z4Ob (x:UInt32):asI (u32 x)=x.toNat:=rfl
@[simp] theorem z9Qb (x:UInt64):asI (u64 x)=x.toNat:=rfl
@[simp] theorem z62a (x:Int):asI (i64 x)=x:=rfl
@[simp] theorem z6yb (x:Bool):asB (bo x)=x:=rfl
@[simp] theorem asS_st (l:List UInt8):asS (st l)=⟨l.toArray⟩:=rfl
@[simp] theorem isB_bo (x:Bool):isB (bo x)↔True:=by simp[isB,bo]
@[simp] theorem isI_u8 (x:UInt8):isI (u8 x)↔True:=by simp[isI,u8]
@[simp] theorem z5Fc (x:UInt32):isI (u32 x)↔True:=by simp[isI,u32]
@[simp] theorem z6Hc (x:UInt64):isI (u64 x)↔True:=by simp[isI,u64]
@[simp] theorem z7Qc (x:Int):isI (i64 x)↔True:=by simp[isI,i64]
@[simp] theorem z6Ic (x:UInt8):z06b .u8 (u8 x)↔True:=by simp[z06b,u8]
@[simp] theorem isS_st (l:List UInt8):isS (st l)↔True:=by simp[isS,st]
@[simp] theorem dem_u8 (x:UInt8):dem (u8 x)=u8 x:=rfl
@[simp] theorem z0Oc (x:UInt32):dem (u32 x)=u32 x:=rfl
@[simp] theorem z8Qc (x:UInt64):dem (u64 x)=u64 x:=rfl
@[simp] theorem z3Fc (x:Int):dem (i64 x)=i64 x:=rfl
@[simp] theorem dem_bo (x:Bool):dem (bo x)=bo x:=rfl
@[simp] theorem dem_st (x:List UInt8):dem (st x)=st x:=rfl
@[simp] theorem z6fc (x:UInt8):z9c (u8 x)↔True:=by simp[z9c,u8]
@[simp] theorem z66b (x:UInt32):z9c (u32 x)↔True:=by simp[z9c,u32]
@[simp] theorem z05b (x:UInt64):z9c (u64 x)↔True:=by simp[z9c,u64]
@[simp] theorem z30b (x:Int):z9c (i64 x)↔True:=by simp[z9c,i64]
@[simp] theorem z6kc (x:Bool):z9c (bo x)↔True:=by simp[z9c,bo]
@[simp] theorem z1oc (x:List UInt8):z9c (st x)↔True:=by simp[z9c,st]
@[simp] theorem z4sc (x:UInt8):z1f (u8 x)=true:=rfl
@[simp] theorem z5bc (x:UInt32):z1f (u32 x)=true:=rfl
@[simp] theorem z0nc (x:UInt64):z1f (u64 x)=true:=rfl
@[simp] theorem z1gc (x:Int):z1f (i64 x)=true:=rfl
@[simp] theorem z8zc (x:Bool):z1f (bo x)=true:=rfl
@[simp] theorem z7tc (x:List UInt8):z1f (st x)=true:=rfl
@[simp] theorem z94b (x:UInt8):z2b (u8 x)=true:=rfl
@[simp] theorem z7Vb (x:UInt32):z2b (u32 x)=true:=rfl
@[simp] theorem z8Lb (x:UInt64):z2b (u64 x)=true:=rfl
@[simp] theorem z4Ub (x:Int):z2b (i64 x)=true:=rfl
@[simp] theorem z07b (x:Bool):z2b (bo x)=true:=rfl
@[simp] theorem z92b (x:List UInt8):z2b (st x)=true:=rfl
@[simp] theorem z3Kc (x:UInt8):z2o (u8 x)=[]:=rfl
@[simp] theorem z0wc (x:UInt32):z2o (u32 x)=[]:=rfl
@[simp] theorem z9Cc (x:UInt64):z2o (u64 x)=[]:=rfl
@[simp] theorem z0uc (x:Int):z2o (i64 x)=[]:=rfl
@[simp] theorem z0Jc (x:Bool):z2o (bo x)=[]:=rfl
@[simp] theorem z7Gc (x:List UInt8):z2o (st x)=[]:=rfl
@[simp] theorem z9cc (x:UInt8):z6g (u8 x)=false:=rfl
@[simp] theorem z3Zb (x:UInt32):z6g (u32 x)=false:=rfl
@[simp] theorem z4Zb (x:UInt64):z6g (u64 x)=false:=rfl
@[simp] theorem z26b (x:Int):z6g (i64 x)=false:=rfl
@[simp] theorem z8ac (x:Bool):z6g (bo x)=false:=rfl
@[simp] theorem z9pc (x:List UInt8):z6g (st x)=false:=rfl
@[simp] theorem z6bc (x:UInt8):z6q (u8 x)=[u8 x]:=rfl
@[simp] theorem z9Zb (x:UInt32):z6q (u32 x)=[u32 x]:=rfl
@[simp] theorem z50b (x:UInt64):z6q (u64 x)=[u64 x]:=rfl
@[simp] theorem z22b (x:Int):z6q (i64 x)=[i64 x]:=rfl
@[simp] theorem z8ec (x:Bool):z6q (bo x)=[bo x]:=rfl
@[simp] theorem z1ec (x:List UInt8):z6q (st x)=[st x]:=rfl
@[simp] theorem z5Ec (l:List UInt8):z3v (st l)=l.length:=by simp[z3v,st,ByteArray.size]
@[simp] theorem z7mc (bx:List z2a) (l:List UInt8):z9h bx (st l)=bys l:=by simp[z9h,st,bys,u8]
end looks

section arith
@[simp] theorem z9Ib (x y:Int):z9y .add (i64 x) (i64 y)=i64 (W (x+y)):=rfl
@[simp] theorem z1Vb (x y:Int):z9y .sub (i64 x) (i64 y)=i64 (W (x-y)):=rfl
@[simp] theorem z4Wb (x y:Int):z9y .mul (i64 x) (i64 y)=i64 (W (x*y)):=rfl
@[simp] theorem z6Sb (x y:Int):z9y .quo (i64 x) (i64 y)=i64 (W (x.tdiv y)):=rfl
@[simp] theorem z7Kb (x y:Int):z9y .rem (i64 x) (i64 y)=i64 (x.tmod y):=rfl
@[simp] theorem z5Mb (x y:Int):z9y .eql (i64 x) (i64 y)=bo (x==y):=rfl
@[simp] theorem z7Xb (x y:Int):z9y .neq (i64 x) (i64 y)=bo (x !=y):=rfl
@[simp] theorem z5Ob (x y:Int):z9y .lss (i64 x) (i64 y)=bo (decide (x<y)):=rfl
@[simp] theorem z5Lb (x y:Int):z9y .leq (i64 x) (i64 y)=bo (decide (x≤y)):=rfl
@[simp] theorem z2Ob (x y:Int):z9y .gtr (i64 x) (i64 y)=bo (decide (y<x)):=rfl
@[simp] theorem z7Gb (x y:Int):z9y .geq (i64 x) (i64 y)=bo (decide (y≤x)):=rfl

theorem z3L {n:Int} {x:UInt32} (h:n=x.toNat):z2a.lit (.int .u32 n)=u32 x:=by rw[h];rfl
theorem z43 {n:Int} {x:UInt8} (h:n=x.toNat):z2a.lit (.int .u8 n)=u8 x:=by rw[h];rfl
theorem z7E {n:Int} {x:UInt64} (h:n=x.toNat):z2a.lit (.int .u64 n)=u64 x:=by rw[h];rfl

theorem z6ra (k n:Nat):(BitVec.ofInt k (n:Int)).toNat=n% 2^k:=by
 simp[BitVec.toNat_ofInt]
theorem z1ia (x:UInt32):BitVec.ofInt 32 (x.toNat:Int)=x.toBitVec:=by
 apply BitVec.eq_of_toNat_eq
 rw[z6ra]
 exact Nat.mod_eq_of_lt x.toNat_lt
theorem z1nb (x:UInt8):BitVec.ofInt 8 (x.toNat:Int)=x.toBitVec:=by
 apply BitVec.eq_of_toNat_eq
 rw[z6ra]
 exact Nat.mod_eq_of_lt x.toNat_lt
theorem z6za (x:UInt64):BitVec.ofInt 64 (x.toNat:Int)=x.toBitVec:=by
 apply BitVec.eq_of_toNat_eq
 rw[z6ra]
 exact Nat.mod_eq_of_lt x.toNat_lt
theorem z73 (x:BitVec 32):IntKind.u32.wrap (x.toNat:Int)=(x.toNat:Int):=by rw[z04,Nat.mod_eq_of_lt x.isLt]
theorem z9Ta (x:BitVec 8):IntKind.u8.wrap (x.toNat:Int)=(x.toNat:Int):=by rw[z8da,Nat.mod_eq_of_lt x.isLt]
theorem z1ea (x:BitVec 64):IntKind.u64.wrap (x.toNat:Int)=(x.toNat:Int):=by rw[z3Y,Nat.mod_eq_of_lt x.isLt]

@[simp] theorem z7Wb (x y:UInt32):z9y .add (u32 x) (u32 y)=u32 (x+y):=z3L (by
 show IntKind.u32.wrap ((x.toNat:Int)+y.toNat)=_
 rw[←Int.natCast_add,z04,UInt32.toNat_add])
@[simp] theorem z72b (x y:UInt8):z9y .add (u8 x) (u8 y)=u8 (x+y):=z43 (by
 show IntKind.u8.wrap ((x.toNat:Int)+y.toNat)=_
 rw[←Int.natCast_add,z8da,UInt8.toNat_add])
@[simp] theorem z9Kb (x y:UInt64):z9y .add (u64 x) (u64 y)=u64 (x+y):=z7E (by
 show IntKind.u64.wrap ((x.toNat:Int)+y.toNat)=_
 rw[←Int.natCast_add,z3Y,UInt64.toNat_add])
@[simp] theorem z6Rb (x y:UInt64):z9y .mul (u64 x) (u64 y)=u64 (x*y):=z7E (by
 show IntKind.u64.wrap ((x.toNat:Int)*y.toNat)=_
 rw[←Int.natCast_mul,z3Y,UInt64.toNat_mul])
@[simp] theorem z9Mb (x y:UInt32):z9y .and (u32 x) (u32 y)=u32 (x&&&y):=z3L (by
 show IntKind.u32.wrap ((BitVec.ofInt 32 x.toNat&&&BitVec.ofInt 32 y.toNat).toNat:Int)=_
 rw[z1ia,z1ia,z73]
 rfl)
@[simp] theorem z96b (x y:UInt32):z9y .or (u32 x) (u32 y)=u32 (x|||y):=z3L (by
 show IntKind.u32.wrap ((BitVec.ofInt 32 x.toNat|||BitVec.ofInt 32 y.toNat).toNat:Int)=_
 rw[z1ia,z1ia,z73]
 rfl)
@[simp] theorem z2Jb (x y:UInt32):z9y .xor (u32 x) (u32 y)=u32 (x^^^y):=z3L (by
 show IntKind.u32.wrap ((BitVec.ofInt 32 x.toNat^^^BitVec.ofInt 32 y.toNat).toNat:Int)=_
 rw[z1ia,z1ia,z73]
 rfl)
@[simp] theorem z49b (x y:UInt8):z9y .or (u8 x) (u8 y)=u8 (x|||y):=z43 (by
 show IntKind.u8.wrap ((BitVec.ofInt 8 x.toNat|||BitVec.ofInt 8 y.toNat).toNat:Int)=_
 rw[z1nb,z1nb,z9Ta]
 rfl)
@[simp] theorem z74b (x y:UInt8):z9y .xor (u8 x) (u8 y)=u8 (x^^^y):=z43 (by
 show IntKind.u8.wrap ((BitVec.ofInt 8 x.toNat^^^BitVec.ofInt 8 y.toNat).toNat:Int)=_
 rw[z1nb,z1nb,z9Ta]
 rfl)
@[simp] theorem z84b (x y:UInt64):z9y .or (u64 x) (u64 y)=u64 (x|||y):=z7E (by
 show IntKind.u64.wrap ((BitVec.ofInt 64 x.toNat|||BitVec.ofInt 64 y.toNat).toNat:Int)=_
 rw[z6za,z6za,z1ea]
 rfl)

@[simp] theorem z43b (x y:UInt8):z9y .eql (u8 x) (u8 y)=bo (x==y):=by
 show z2a.lit (.bool ((x.toNat:Int)==y.toNat))= .lit (.bool _)
 congr 2
 rw[Bool.eq_iff_iff]
 simp only[beq_iff_eq,bne_iff_ne,ne_eq,←UInt8.toNat_inj]
 omega
@[simp] theorem z45b (x y:UInt8):z9y .neq (u8 x) (u8 y)=bo (x !=y):=by
 show z2a.lit (.bool ((x.toNat:Int) !=y.toNat))= .lit (.bool _)
 congr 2
 rw[Bool.eq_iff_iff]
 simp only[beq_iff_eq,bne_iff_ne,ne_eq,←UInt8.toNat_inj]
 omega
@[simp] theorem z8Ob (x y:UInt64):z9y .eql (u64 x) (u64 y)=bo (x==y):=by
 show z2a.lit (.bool ((x.toNat:Int)==y.toNat))= .lit (.bool _)
 congr 2
 rw[Bool.eq_iff_iff]
 simp only[beq_iff_eq,bne_iff_ne,ne_eq,←UInt64.toNat_inj]
 omega
@[simp] theorem z0Tb (x y:UInt64):z9y .gtr (u64 x) (u64 y)=bo (decide (y<x)):=by
 show z2a.lit (.bool (decide ((x.toNat:Int)>y.toNat)))= .lit (.bool _)
 congr 2
 simp[UInt64.lt_iff_toNat_lt]
@[simp] theorem z8Vb (x y:UInt64):z9y .lss (u64 x) (u64 y)=bo (decide (x<y)):=by
 show z2a.lit (.bool (decide ((x.toNat:Int)<y.toNat)))= .lit (.bool _)
 congr 2
 simp[UInt64.lt_iff_toNat_lt]
@[simp] theorem z3Lb (x y:UInt64):z9y .rem (u64 x) (u64 y)=u64 (x% y):=z7E (by
 show((x.toNat:Int).tmod y.toNat)=_
 rw[UInt64.toNat_mod]
 rfl)
@[simp] theorem z2Zb (x:UInt32):unV .xor (u32 x)=u32 (~~~x):=z3L (by
 show IntKind.u32.wrap ((BitVec.ofInt 32 4294967295^^^BitVec.ofInt 32 x.toNat).toNat:Int)=_
 rw[z1ia,z73]
 have e:(BitVec.ofInt 32 4294967295)=BitVec.allOnes 32:=by decide
 rw[e,BitVec.allOnes_xor]
 rfl)
@[simp] theorem z76b (x:UInt64):unV .xor (u64 x)=u64 (~~~x):=z7E (by
 show IntKind.u64.wrap ((BitVec.ofInt 64 18446744073709551615^^^BitVec.ofInt 64 x.toNat).toNat:Int)=_
 rw[z6za,z1ea]
 have e:(BitVec.ofInt 64 18446744073709551615)=BitVec.allOnes 64:=by decide
 rw[e,BitVec.allOnes_xor]
 rfl)
@[simp] theorem un_not (x:Bool):unV .not (bo x)=bo (!x):=rfl
@[simp] theorem z83b (x:Int):unV .neg (i64 x)=i64 (W (-x)):=by
 show z2a.lit (.int .i64 (IntKind.i64.wrap (0-x)))=_
 rw[Int.zero_sub];rfl
end arith

/-! ### Shifts and conversions -/
def z3La (x:UInt32) (n:Nat):UInt32:=⟨x.toBitVec>>>n⟩
def z12 (x:UInt32) (n:Nat):UInt32:=⟨x.toBitVec<<<n⟩
def z1ba (x:UInt64) (n:Nat):UInt64:=⟨x.toBitVec>>>n⟩
def z7nc (x:UInt64) (n:Nat):UInt64:=⟨x.toBitVec<<<n⟩

theorem z8ua (b n:Nat) (x:BitVec b):((x.toNat:Int).fdiv (2^min n b))=((x>>>n).toNat:Int):=by
 have h2:((2:Int)^min n b)=((2^min n b:Nat):Int):=by simp
 rw[h2,BitVec.toNat_ushiftRight,Nat.shiftRight_eq_div_pow]
 have:((x.toNat:Int).fdiv ((2^min n b:Nat):Int))=((x.toNat/2^min n b:Nat):Int):=by
  rw[Int.fdiv_eq_ediv_of_nonneg _ (Int.natCast_nonneg _)]
  rfl
 rw[this]
 rcases Nat.le_total n b with h|h
 ·rw[Nat.min_eq_left h]
 ·rw[Nat.min_eq_right h,Nat.div_eq_of_lt x.isLt,Nat.div_eq_of_lt]
  exact Nat.lt_of_lt_of_le x.isLt (Nat.pow_le_pow_right (by decide) h)

theorem z8ta (b n:Nat) (x:BitVec b):(x.toNat*2^min n b)% 2^b=(x<<<n).toNat:=by
 rw[BitVec.toNat_shiftLeft,Nat.shiftLeft_eq]
 rcases Nat.le_total n b with h|h
 ·rw[Nat.min_eq_left h]
 ·rw[Nat.min_eq_right h,Nat.mul_mod_left]
  obtain⟨k,rfl⟩:=Nat.exists_eq_add_of_le h
  rw[Nat.pow_add,←Nat.mul_assoc,Nat.mul_right_comm,Nat.mul_mod_left]

theorem z7ba (x n b:Nat):((x:Int)*2^min n b)=((x*2^min n b:Nat):Int):=by simp

@[simp] theorem z4Jb (x:UInt32) (n:Int):z9y .shr (u32 x) (i64 n)=u32 (z3La x n.toNat):=z3L (z8ua 32 n.toNat x.toBitVec)
@[simp] theorem z4Eb (x:UInt32) (n:UInt64):z9y .shr (u32 x) (u64 n)=u32 (z3La x n.toNat):=z3L (z8ua 32 n.toNat x.toBitVec)
@[simp] theorem z9Sb (x:UInt64) (n:Int):z9y .shr (u64 x) (i64 n)=u64 (z1ba x n.toNat):=z7E (z8ua 64 n.toNat x.toBitVec)
@[simp] theorem z2zb (x:UInt64) (n:UInt64):z9y .shr (u64 x) (u64 n)=u64 (z1ba x n.toNat):=z7E (z8ua 64 n.toNat x.toBitVec)
@[simp] theorem z9Lb (x:UInt32) (n:Int):z9y .shl (u32 x) (i64 n)=u32 (z12 x n.toNat):=z3L (by
 show IntKind.u32.wrap ((x.toNat:Int)*2^min n.toNat 32)=_
 rw[z7ba,z04]
 exact congrArg _ (z8ta 32 n.toNat x.toBitVec))
@[simp] theorem z8yb (x:UInt32) (n:UInt64):z9y .shl (u32 x) (u64 n)=u32 (z12 x n.toNat):=z3L (by
 show IntKind.u32.wrap ((x.toNat:Int)*2^min n.toNat 32)=_
 rw[z7ba,z04]
 exact congrArg _ (z8ta 32 n.toNat x.toBitVec))
@[simp] theorem z5Ub (x:UInt64) (n:Int):z9y .shl (u64 x) (i64 n)=u64 (z7nc x n.toNat):=z7E (by
 show IntKind.u64.wrap ((x.toNat:Int)*2^min n.toNat 64)=_
 rw[z7ba,z3Y]
 exact congrArg _ (z8ta 64 n.toNat x.toBitVec))
@[simp] theorem z5Fb (x:UInt64) (n:UInt64):z9y .shl (u64 x) (u64 n)=u64 (z7nc x n.toNat):=z7E (by
 show IntKind.u64.wrap ((x.toNat:Int)*2^min n.toNat 64)=_
 rw[z7ba,z3Y]
 exact congrArg _ (z8ta 64 n.toNat x.toBitVec))

@[simp] theorem z3Ib (x y:UInt64):z9y .sub (u64 x) (u64 y)=u64 (x-y):=z7E (by
 show IntKind.u64.wrap ((x.toNat:Int)-y.toNat)=_
 rw[UInt64.toNat_sub]
 have:=x.toNat_lt
 have:=y.toNat_lt
 unfold IntKind.wrap IntKind.bits IntKind.signed
 simp only[Bool.false_and,Bool.false_eq_true,if_false]
 omega)
@[simp] theorem z1Rb (x y:UInt64):z9y .and (u64 x) (u64 y)=u64 (x&&&y):=z7E (by
 show IntKind.u64.wrap ((BitVec.ofInt 64 x.toNat&&&BitVec.ofInt 64 y.toNat).toNat:Int)=_
 rw[z6za,z6za,z1ea]
 rfl)

@[simp] theorem z5nc (x:UInt32):cvV .u8 (u32 x)=u8 x.toUInt8:=z43 (by
 show IntKind.u8.wrap (x.toNat:Int)=_
 rw[z8da,UInt32.toNat_toUInt8])
@[simp] theorem z69b (x:UInt64):cvV .u8 (u64 x)=u8 x.toUInt8:=z43 (by
 show IntKind.u8.wrap (x.toNat:Int)=_
 rw[z8da,UInt64.toNat_toUInt8])
@[simp] theorem z1lc (x:UInt8):cvV .u32 (u8 x)=u32 x.toUInt32:=z3L (by
 show IntKind.u32.wrap (x.toNat:Int)=_
 rw[z04,UInt8.toNat_toUInt32,Nat.mod_eq_of_lt (by have:=x.toNat_lt;omega)])
@[simp] theorem z9rc (x:UInt8):cvV .u64 (u8 x)=u64 x.toUInt64:=z7E (by
 show IntKind.u64.wrap (x.toNat:Int)=_
 rw[z3Y,UInt8.toNat_toUInt64,Nat.mod_eq_of_lt (by have:=x.toNat_lt;omega)])
theorem z28 (n:Int) (m:Nat) (hm:0<m):(((n% (m:Int)).toNat:Nat):Int)=n% (m:Int):=Int.toNat_of_nonneg (Int.emod_nonneg _ (by omega))
theorem z4ga (n:Int):(UInt8.ofInt n).toNat=(n% 256).toNat:=by
 unfold UInt8.ofInt
 rw[UInt8.toNat_ofNat',Nat.mod_eq_of_lt (by omega)]
 rfl
theorem z39a (n:Int):(UInt32.ofInt n).toNat=(n% 4294967296).toNat:=by
 unfold UInt32.ofInt
 rw[UInt32.toNat_ofNat',Nat.mod_eq_of_lt (by omega)]
 rfl
theorem z71 (n:Int):(UInt64.ofInt n).toNat=(n% 18446744073709551616).toNat:=by
 unfold UInt64.ofInt
 rw[UInt64.toNat_ofNat',Nat.mod_eq_of_lt (by omega)]
 rfl
@[simp] theorem z6hc (n:Int):cvV .u8 (i64 n)=u8 (UInt8.ofInt n):=z43 (by
 show IntKind.u8.wrap n=_
 rw[show(UInt8.ofInt n).toNat=(n% 256).toNat from z4ga n]
 exact(z28 n 256 (by decide)).symm)
@[simp] theorem z9Yb (n:Int):cvV .u64 (i64 n)=u64 (UInt64.ofInt n):=z7E (by
 show IntKind.u64.wrap n=_
 rw[show(UInt64.ofInt n).toNat=(n% 18446744073709551616).toNat from z71 n]
 exact(z28 n 18446744073709551616 (by decide)).symm)
@[simp] theorem z82b (n:Int):cvV .u32 (i64 n)=u32 (UInt32.ofInt n):=z3L (by
 show IntKind.u32.wrap n=_
 rw[show(UInt32.ofInt n).toNat=(n% 4294967296).toNat from z39a n]
 exact(z28 n 4294967296 (by decide)).symm)
@[simp] theorem z6gc (x:UInt8):cvV .i64 (u8 x)=i64 x.toNat:=by
 show z2a.lit (.int .i64 (W x.toNat))=_
 rw[z8a (by omega) (by have:=x.toNat_lt;omega)]
 rfl
@[simp] theorem z24b (x:UInt32):cvV .i64 (u32 x)=i64 x.toNat:=by
 show z2a.lit (.int .i64 (W x.toNat))=_
 rw[z8a (by omega) (by have:=x.toNat_lt;omega)]
 rfl
@[simp] theorem z16b (x:UInt64):cvV .i64 (u64 x)=i64 (W x.toNat):=rfl
@[simp] theorem z33b (x:Int):cvV .i64 (i64 x)=i64 (W x):=rfl
end Go.Abs
end

section
namespace Go.Abs

def z9m (n:Nat):List UInt8:=List.replicate n 0
def z3k (n:Nat):List UInt32:=List.replicate n 0
@[simp] theorem z8Fb (n:Nat):(z9m n).length=n:=by simp[z9m]
@[simp] theorem z2ib (n:Nat):(z3k n).length=n:=by simp[z3k]

/-! ### Lists of bytes and of words as cells -/
@[simp] theorem z7oa (l:List UInt8):(bys l).length=l.length:=by simp[bys]
@[simp] theorem z6Ma (l:List UInt32):(z3o l).length=l.length:=by simp[z3o]
@[simp] theorem z4Qb:bys []=[]:=rfl
@[simp] theorem z5Dc:z3o []=[]:=rfl
theorem z8E (l m:List UInt8):bys (l++m)=bys l++bys m:=by simp[bys]
theorem z1a (l m:List UInt8):bys l++bys m=bys (l++m):=(z8E l m).symm
theorem z0a (l:List UInt8) (x:UInt8):bys l++[u8 x]=bys (l++[x]):=by simp[bys]
@[simp] theorem z4ib (l:List UInt8) (n:Nat):(bys l).take n=bys (l.take n):=by simp[bys]
@[simp] theorem z4sa (l:List UInt8) (n:Nat):(bys l).drop n=bys (l.drop n):=by simp[bys]
@[simp] theorem z1uc (l:List UInt8):(bys l).tail=bys l.tail:=by cases l<;>rfl
@[simp] theorem z0Hc (l:List UInt8):z5q l=bys l:=rfl
theorem z42 {P:z2a→Prop} {l:List UInt8} (h:∀x,P (u8 x)):∀c∈bys l,P c:=fun c hc=>by
 simp only[bys,List.mem_map] at hc
 obtain⟨x,_,rfl⟩:=hc
 exact h x
theorem z2da {P:z2a→Prop} {l:List UInt32} (h:∀x,P (u32 x)):∀c∈z3o l,P c:=fun c hc=>by
 simp only[z3o,List.mem_map] at hc
 obtain⟨x,_,rfl⟩:=hc
 exact h x
@[simp] theorem z1yc (l:List UInt8):(∀c∈bys l,z9c c)↔True:=iff_true_intro (z42 (by simp))
@[simp] theorem z1Fc (l:List UInt8):(∀c∈bys l,z6g c=false)↔True:=iff_true_intro (z42 (by simp))
@[simp] theorem z9Ac (l:List UInt8):(∀c∈bys l,z1f c=true)↔True:=iff_true_intro (z42 (by simp))
@[simp] theorem z2xb (l:List UInt8):(∀c∈bys l,z1f c=true∧z9c c)↔True:=iff_true_intro (z42 (by simp))
@[simp] theorem z7Db (l:List UInt8):(∀c∈bys l,z9c c∧z6g c=false)↔True:=iff_true_intro (z42 (by simp))
@[simp] theorem z9yc (l:List UInt8):(∀c∈bys l,z06b .u8 c)↔True:=iff_true_intro (z42 (by simp))
@[simp] theorem z0mc (l:List UInt32):(∀c∈z3o l,z9c c)↔True:=iff_true_intro (z2da (by simp))
@[simp] theorem z7Cc (l:List UInt32):(∀c∈z3o l,z6g c=false)↔True:=iff_true_intro (z2da (by simp))
@[simp] theorem z5rc (l:List UInt32):(∀c∈z3o l,z1f c=true)↔True:=iff_true_intro (z2da (by simp))
theorem z05 {l:List z2a} (h:∀c∈l,z1f c=true):z4h l=true:=(z1i l).2 h
@[simp] theorem z9fc (l:List UInt8):z4h (bys l)=true:=z05 (z42 (by simp))
@[simp] theorem z40b (l:List UInt32):z4h (z3o l)=true:=z05 (z2da (by simp))
attribute [simp] z89
@[simp] theorem z2ab (l m:List z2a):z1b (l++m)=(z1b l&&z1b m):=by induction l<;>simp_all [z1b,Bool.and_assoc]
@[simp] theorem z3zb (l:List UInt8):z1b (bys l)=true:=by induction l<;>simp_all [bys,z1b]
@[simp] theorem z4pb (l:List UInt32):z1b (z3o l)=true:=by induction l<;>simp_all [z3o,z1b]
attribute [simp] z1O
@[simp] theorem z6jc (l:List UInt8):z2l (bys l)=[]:=by induction l<;>simp_all [bys,z2l]
@[simp] theorem z27b (l:List UInt32):z2l (z3o l)=[]:=by induction l<;>simp_all [z3o,z2l]

@[simp] theorem z53b (x y:UInt8):z9y .sub (u8 x) (u8 y)=u8 (x-y):=z43 (by
 show IntKind.u8.wrap ((x.toNat:Int)-y.toNat)=_
 rw[UInt8.toNat_sub]
 have:=x.toNat_lt
 have:=y.toNat_lt
 unfold IntKind.wrap IntKind.bits IntKind.signed
 simp only[Bool.false_and,Bool.false_eq_true,if_false]
 omega)
@[simp] theorem z44b (x y:UInt8):z9y .quo (u8 x) (u8 y)=u8 (x/y):=z43 (by
 show IntKind.u8.wrap ((x.toNat:Int).tdiv y.toNat)=_
 rw[Int.tdiv_eq_ediv_of_nonneg (by omega),←Int.natCast_ediv,z8da,UInt8.toNat_div,Nat.mod_eq_of_lt]
 exact Nat.lt_of_le_of_lt (Nat.div_le_self _ _) x.toNat_lt)
@[simp] theorem z57b (x y:UInt8):z9y .rem (u8 x) (u8 y)=u8 (x% y):=z43 (by
 show((x.toNat:Int).tmod y.toNat)=_
 rw[UInt8.toNat_mod]
 rfl)
@[simp] theorem z0Cb (x y:UInt8):z8b .quo (u8 x) (u8 y)=(y≠0):=by
 simp only[z8b,u8,true_and,ne_eq,Int.natCast_eq_zero,←UInt8.toNat_inj]
 rfl
@[simp] theorem z5zb (x y:UInt8):z8b .rem (u8 x) (u8 y)=(y≠0):=by
 simp only[z8b,u8,true_and,ne_eq,Int.natCast_eq_zero,←UInt8.toNat_inj]
 rfl
@[simp] theorem z1Zb (x y:UInt8):z9y .lss (u8 x) (u8 y)=bo (decide (x<y)):=by
 show z2a.lit (.bool (decide ((x.toNat:Int)<y.toNat)))= .lit (.bool _)
 congr 2
 simp[UInt8.lt_iff_toNat_lt]
@[simp] theorem z52b (x y:UInt8):z9y .gtr (u8 x) (u8 y)=bo (decide (y<x)):=by
 show z2a.lit (.bool (decide ((x.toNat:Int)>y.toNat)))= .lit (.bool _)
 congr 2
 simp[UInt8.lt_iff_toNat_lt]
@[simp] theorem z4Lb (x y:UInt64):z9y .neq (u64 x) (u64 y)=bo (x !=y):=by
 show z2a.lit (.bool ((x.toNat:Int) !=y.toNat))= .lit (.bool _)
 congr 2
 rw[Bool.eq_iff_iff]
 simp only[beq_iff_eq,bne_iff_ne,ne_eq,←UInt64.toNat_inj]
 omega
def z9va (x y:Int):Int:=W (BitVec.ofInt 64 x&&&BitVec.ofInt 64 y).toNat
@[simp] theorem z4Xb (x y:Int):z9y .and (i64 x) (i64 y)=i64 (z9va x y):=rfl

theorem dT {p:Prop} [Decidable p] (h:p):decide p=true:=decide_eq_true h
theorem dF {p:Prop} [Decidable p] (h:¬p):decide p=false:=decide_eq_false h

/-! ### What values are -/
@[simp] theorem z8gc:dem .undef= .undef:=rfl
@[simp] theorem z2Hc (cs:List z2a):dem (.agg cs)= .agg cs:=rfl
@[simp] theorem z5Sc (cs:List z2a):dem (.tup cs)= .tup cs:=rfl
@[simp] theorem z6Ac (e:Nat) (nl:Option Bool) (n:Nat) (cs rest:List z2a):dem (.otup e nl n cs rest)= .tup (.sl .plain nl n cs::rest):=rfl
@[simp] theorem z36b (e:Nat) (nl:Option Bool) (n:Nat) (cs rest:List z2a):z1f (.otup e nl n cs rest)=z4h rest:=rfl
@[simp] theorem z7Bc (p:List z2a) (e:Nat) (nl:Option Bool) (n:Nat) (cs rest:List z2a):dem (.oagg p e nl n cs rest)= .agg (p++ .sl .plain nl n cs::rest):=rfl
@[simp] theorem z47b (p:List z2a) (e:Nat) (nl:Option Bool) (n:Nat) (cs rest:List z2a):z1f (.oagg p e nl n cs rest)=(z4h p&&z4h rest):=rfl
@[simp] theorem z2rc (p:List z2a) (e:Nat) (nl:Option Bool) (n:Nat) (cs rest:List z2a):z2o (.oagg p e nl n cs rest)=z2l p++z2l rest:=rfl
@[simp] theorem z7gc (e:Nat) (nl:Option Bool) (n:Nat) (cs rest:List z2a):z2o (.otup e nl n cs rest)=z2l rest:=rfl
@[simp] theorem dem_bp (i o:Nat):dem (.bp i o)= .bp i o:=rfl
@[simp] theorem dem_bv (i e o n c:Nat):dem (.bv i e o n c)= .bv i e o n c:=rfl
@[simp] theorem dem_ep (cs:List z2a):dem (.ep cs)= .ep cs:=rfl
@[simp] theorem dem_fn (f:Nat) (x y:List z2a):dem (.fn f x y)= .fn f x y:=rfl
@[simp] theorem z3Lc (v:Value):dem (.lit v)= .lit v:=rfl
@[simp] theorem z9Dc (e:Nat) (nl:Option Bool) (n:Nat) (cs:List z2a):dem (.sl (.own e) nl n cs)= .sl .plain nl n cs:=rfl
@[simp] theorem z3gc (nl:Option Bool) (n:Nat) (cs:List z2a):dem (.sl .plain nl n cs)= .sl .plain nl n cs:=rfl
@[simp] theorem z6tc (nl:Option Bool) (n:Nat) (cs:List z2a):dem (.sl .clip nl n cs)= .sl .clip nl n cs:=rfl
@[simp] theorem z04b (cs:List z2a):z9c (.agg cs)=False:=rfl
@[simp] theorem z3dc (m:z33) (nl:Option Bool) (n:Nat) (cs:List z2a):z9c (.sl m nl n cs)=True:=rfl
@[simp] theorem z7ec (i o:Nat):z9c (.bp i o)=True:=rfl
@[simp] theorem z79b (i e o n c:Nat):z9c (.bv i e o n c)=True:=rfl
@[simp] theorem z2oc (f:Nat) (x y:List z2a):z9c (.fn f x y)=True:=rfl
@[simp] theorem z1ac (cs:List z2a):z9c (.ep cs)=True:=rfl
@[simp] theorem z62b:z9c (.lit (.slice none 0 0))=True:=rfl
@[simp] theorem z1rc (cs:List z2a):z1f (.agg cs)=z4h cs:=rfl
@[simp] theorem z3lc (cs:List z2a):z1f (.tup cs)=z4h cs:=rfl
@[simp] theorem z5Ac (m:z33) (nl:Option Bool) (n:Nat) (cs:List z2a):z1f (.sl m nl n cs)=true:=by cases m<;>rfl
@[simp] theorem z4Bc (cs:List z2a):z1f (.ep cs)=true:=rfl
@[simp] theorem z4Dc (i o:Nat):z1f (.bp i o)=false:=rfl
@[simp] theorem z9uc (i e o n c:Nat):z1f (.bv i e o n c)=false:=rfl
@[simp] theorem z1tc (f:Nat) (x y:List z2a):z1f (.fn f x y)=(z4h x&&z4h y):=rfl
@[simp] theorem z6cc:z1f (.lit (.slice none 0 0))=true:=rfl
@[simp] theorem z0Hb (cs:List z2a):z2b (.agg cs)=z1b cs:=rfl
@[simp] theorem z6Qb (cs:List z2a):z2b (.tup cs)=z1b cs:=rfl
@[simp] theorem z0Yb:z2b (.lit (.slice none 0 0))=true:=rfl
@[simp] theorem z90b (m:z33) (nl:Option Bool) (n:Nat) (cs:List z2a):z2b (.sl m nl n cs)=false:=by cases m<;>rfl
@[simp] theorem z0yc (cs:List z2a):z2o (.agg cs)=z2l cs:=rfl
@[simp] theorem z2xc (cs:List z2a):z2o (.tup cs)=z2l cs:=rfl
@[simp] theorem z4Hc (m:z33) (nl:Option Bool) (n:Nat) (cs:List z2a):z2o (.sl m nl n cs)=[]:=by cases m<;>rfl
@[simp] theorem z9Jc (i o:Nat):z2o (.bp i o)=[i]:=rfl
@[simp] theorem z4Kc (i e o n c:Nat):z2o (.bv i e o n c)=[i]:=rfl
@[simp] theorem z1Oc (cs:List z2a):z2o (.ep cs)=[]:=rfl
@[simp] theorem z2Pc (f:Nat) (x y:List z2a):z2o (.fn f x y)=z2l x++z2l y:=rfl
@[simp] theorem z63b:z2o .undef=[]:=rfl
@[simp] theorem z2Ac (v:Value):z2o (.lit v)=[]:=rfl
@[simp] theorem z77b (e:Nat) (nl:Option Bool) (n:Nat) (cs:List z2a):z6g (.sl (.own e) nl n cs)=true:=rfl
@[simp] theorem z9Bb (nl:Option Bool) (n:Nat) (cs:List z2a):z6g (.sl .plain nl n cs)=false:=rfl
@[simp] theorem z4Ib (nl:Option Bool) (n:Nat) (cs:List z2a):z6g (.sl .clip nl n cs)=false:=rfl
@[simp] theorem z59b (i o:Nat):z6g (.bp i o)=false:=rfl
@[simp] theorem z1jc (i e o n c:Nat):z6g (.bv i e o n c)=false:=rfl
@[simp] theorem z13b (cs:List z2a):z6q (.agg cs)=cs:=rfl
@[simp] theorem z8kc (m:z33) (nl:Option Bool) (n:Nat) (cs:List z2a):z6q (.sl m nl n cs)=[.sl m nl n cs]:=rfl
@[simp] theorem z5Yb:z6q (.lit (.slice none 0 0))=[.lit (.slice none 0 0)]:=rfl
@[simp] theorem z1qc (i o:Nat):z6q (.bp i o)=[.bp i o]:=rfl
@[simp] theorem z97b (f:Nat) (x y:List z2a):z6q (.fn f x y)=[.fn f x y]:=rfl
@[simp] theorem z8Mc (m:z33) (nl:Option Bool) (n:Nat) (cs:List z2a):z3v (.sl m nl n cs)=n:=rfl
@[simp] theorem z6Rc (i e o n c:Nat):z3v (.bv i e o n c)=n:=rfl
@[simp] theorem z5Cc:z3v (.lit (.slice none 0 0))=0:=rfl
@[simp] theorem z9ic (bx:List z2a) (m:z33) (nl:Option Bool) (n:Nat) (cs:List z2a):z9h bx (.sl m nl n cs)=cs:=rfl
@[simp] theorem z0kc (bx:List z2a) (i e o n c:Nat):z9h bx (.bv i e o n c)=(bx.drop o).take (n*e):=rfl
@[simp] theorem z12b (bx:List z2a):z9h bx (.lit (.slice none 0 0))=[]:=rfl
@[simp] theorem z2Rc (m:z33) (nl:Option Bool) (n:Nat) (cs:List z2a):z75b (.sl m nl n cs)=True:=rfl
@[simp] theorem z0Kc (i e o n c:Nat):z75b (.bv i e o n c)=True:=rfl
@[simp] theorem z0sc:z75b (.lit (.slice none 0 0))=True:=rfl
@[simp] theorem okS_sl (esz:Nat) (b:Option Nat) (bx:Option (List z2a)) (m:z33) (nl:Option Bool) (n:Nat) (cs:List z2a):okS esz b bx (.sl m nl n cs)=(cs.length=n*esz):=rfl
@[simp] theorem okS_bv (esz:Nat) (b:Option Nat) (bx:Option (List z2a)) (i e o n c:Nat):okS esz b bx (.bv i e o n c)=(b=some i∧e=esz∧(∃cs,bx=some cs∧o+n*e≤cs.length)):=rfl
@[simp] theorem z2Oc (esz:Nat) (b:Option Nat) (bx:Option (List z2a)):okS esz b bx (.lit (.slice none 0 0))=True:=rfl
@[simp] theorem z3yc (f:Nat→Option (List z2a)) (b:Option Nat) (n i o:Nat):z4ka f b n (.bp i o)=(b=some i∧∃cs,f i=some cs∧o+n≤cs.length):=rfl
@[simp] theorem z5yc (f:Nat→Option (List z2a)) (b:Option Nat) (n:Nat) (cs:List z2a):z4ka f b n (.ep cs)=(b=none∧n≤cs.length):=rfl
@[simp] theorem z3Tb (f:Nat→Option (List z2a)) (b:Option Nat) (i o:Nat):z9s f b (.bp i o)=(bxl f b).drop o:=rfl
@[simp] theorem z7Ob (f:Nat→Option (List z2a)) (b:Option Nat) (cs:List z2a):z9s f b (.ep cs)=cs:=rfl
@[simp] theorem z3Ub (v:z2a):z9N none v=[dem v]:=rfl
@[simp] theorem z6Wb (n:Nat) (v:z2a):z9N (some n) v=z6q v:=rfl
@[simp] theorem z4Cc (v:z2a):isK none v=z9c v:=rfl
@[simp] theorem z3Dc (n:Nat) (cs:List z2a):isK (some n) (.agg cs)=(cs.length=n∧(∀c∈cs,z9c c)∧(∀c∈cs,z6g c=false)):=rfl
@[simp] theorem z5pc (f:Nat) (x y as:List z2a):z9M (.fn f x y) as=x++as++y:=rfl
@[simp] theorem z5cc (f:Nat→List z2a) (x:UInt8):z7L f (u8 x)=u8 x:=rfl
@[simp] theorem z0vc (f:Nat→List z2a) (x:UInt8):z5L f (u8 x)=u8 x:=rfl
@[simp] theorem z7kc (f:Nat→List z2a) (x:UInt32):z5L f (u32 x)=u32 x:=rfl
@[simp] theorem z7cc (f:Nat→List z2a) (x:UInt64):z5L f (u64 x)=u64 x:=rfl
@[simp] theorem z4hc (f:Nat→List z2a) (x:Int):z5L f (i64 x)=i64 x:=rfl
@[simp] theorem z0Dc (f:Nat→List z2a) (x:Bool):z5L f (bo x)=bo x:=rfl
@[simp] theorem z3Bc (f:Nat→List z2a) (x:List UInt8):z5L f (st x)=st x:=rfl
@[simp] theorem z2dc (f:Nat→List z2a) (x:List z2a):z5L f (.agg x)= .agg x:=rfl
@[simp] theorem z3bc (f:Nat→List z2a):z5L f (.lit (.slice none 0 0))= .sl .plain (some true) 0 []:=rfl
@[simp] theorem z2pc (f:Nat→List z2a) (e:Nat) (nl:Option Bool) (n:Nat) (cs:List z2a):z5L f (.sl (.own e) nl n cs)= .sl .plain nl n cs:=rfl
@[simp] theorem z5Rb (f:Nat→List z2a) (nl:Option Bool) (n:Nat) (cs:List z2a):z5L f (.sl .plain nl n cs)= .sl .plain nl n cs:=rfl
@[simp] theorem z5Zb (f:Nat→List z2a) (nl:Option Bool) (n:Nat) (cs:List z2a):z5L f (.sl .clip nl n cs)= .sl .plain nl n cs:=rfl
@[simp] theorem z6yc (f:Nat→List z2a) (i o:Nat):z5L f (.bp i o)= .ep ((f i).drop o):=rfl
@[simp] theorem z8yc (f:Nat→List z2a) (i e o n c:Nat):z5L f (.bv i e o n c)= .sl .plain (some false) n (((f i).drop o).take (n*e)):=rfl
@[simp] theorem z4wc (f:Nat→List z2a) (cs:List z2a):z5L f (.ep cs)= .ep cs:=rfl
@[simp] theorem z9tc (f:Nat→List z2a) (g:Nat) (x y:List z2a):z5L f (.fn g x y)= .fn g (x.map (z7L f)) (y.map (z7L f)):=rfl
@[simp] theorem z7sc (bs:List Nat) (f:Nat→Option (List z2a)) (x:UInt8):z6B bs f (u8 x)=True:=by simp[z6B,z0K,u8,z1f]
@[simp] theorem z7bc (bs:List Nat) (f:Nat→Option (List z2a)) (x:UInt32):z6B bs f (u32 x)=True:=by simp[z6B,z0K,u32,z1f]
@[simp] theorem z2cc (bs:List Nat) (f:Nat→Option (List z2a)) (x:UInt64):z6B bs f (u64 x)=True:=by simp[z6B,z0K,u64,z1f]
@[simp] theorem z0ec (bs:List Nat) (f:Nat→Option (List z2a)) (x:Int):z6B bs f (i64 x)=True:=by simp[z6B,z0K,i64,z1f]
@[simp] theorem z2wc (bs:List Nat) (f:Nat→Option (List z2a)) (x:Bool):z6B bs f (bo x)=True:=by simp[z6B,z0K,bo,z1f]
@[simp] theorem z5sc (bs:List Nat) (f:Nat→Option (List z2a)) (x:List UInt8):z6B bs f (st x)=True:=by simp[z6B,z0K,st,z1f]
@[simp] theorem z3mc (bs:List Nat) (f:Nat→Option (List z2a)) (x:List z2a):z6B bs f (.agg x)=(z4h x=true):=rfl
@[simp] theorem z3zc (bs:List Nat) (f:Nat→Option (List z2a)) (m:z33) (nl:Option Bool) (n:Nat) (cs:List z2a):z6B bs f (.sl m nl n cs)=True:=by simp[z6B,z0K]
@[simp] theorem z7ac (bs:List Nat) (f:Nat→Option (List z2a)):z6B bs f (.lit (.slice none 0 0))=True:=by simp[z6B,z0K]
@[simp] theorem z2Dc (bs:List Nat) (f:Nat→Option (List z2a)) (i o:Nat):z6B bs f (.bp i o)=(i∈bs∧∃cs,f i=some cs∧o≤cs.length):=rfl
@[simp] theorem z2vc (bs:List Nat) (f:Nat→Option (List z2a)) (i e o n c:Nat):z6B bs f (.bv i e o n c)=(i∈bs∧∃cs,f i=some cs∧o+n*e≤cs.length):=rfl
@[simp] theorem z2Cc (bs:List Nat) (f:Nat→Option (List z2a)) (cs:List z2a):z6B bs f (.ep cs)=True:=by simp[z6B,z0K]

/-! ### Whether operations may go ahead -/
@[simp] theorem z0Mb (x:UInt32) (n:Int):z8b .shr (u32 x) (i64 n)=(0≤n):=rfl
@[simp] theorem z5Pb (x:UInt32) (n:Int):z8b .shl (u32 x) (i64 n)=(0≤n):=rfl
@[simp] theorem z4Mb (x:UInt64) (n:Int):z8b .shr (u64 x) (i64 n)=(0≤n):=rfl
@[simp] theorem z3Jb (x:UInt64) (n:Int):z8b .shl (u64 x) (i64 n)=(0≤n):=rfl
@[simp] theorem z6Ab (x:UInt32) (n:UInt64):z8b .shr (u32 x) (u64 n)=True:=by simp[z8b,u32,u64]
@[simp] theorem z4Bb (x:UInt32) (n:UInt64):z8b .shl (u32 x) (u64 n)=True:=by simp[z8b,u32,u64]
@[simp] theorem z0Gb (x:UInt64) (n:UInt64):z8b .shr (u64 x) (u64 n)=True:=by simp[z8b,u64]
@[simp] theorem z4Db (x:UInt64) (n:UInt64):z8b .shl (u64 x) (u64 n)=True:=by simp[z8b,u64]
@[simp] theorem z6pc (x y:Int):z8b .quo (i64 x) (i64 y)=(y≠0):=by simp[z8b,i64]
@[simp] theorem z7oc (x y:Int):z8b .rem (i64 x) (i64 y)=(y≠0):=by simp[z8b,i64]
@[simp] theorem z6Hb (x y:UInt64):z8b .rem (u64 x) (u64 y)=(y≠0):=by
 simp only[z8b,u64,true_and,ne_eq,Int.natCast_eq_zero,←UInt64.toNat_inj]
 rfl
@[simp] theorem z7Bb (x y:UInt8):z8b .add (u8 x) (u8 y)=True:=by simp[z8b,u8]
@[simp] theorem z7jb (x y:UInt32):z8b .add (u32 x) (u32 y)=True:=by simp[z8b,u32]
@[simp] theorem z2qb (x y:UInt64):z8b .add (u64 x) (u64 y)=True:=by simp[z8b,u64]
@[simp] theorem z8pb (x y:Int):z8b .add (i64 x) (i64 y)=True:=by simp[z8b,i64]
@[simp] theorem z2Cb (x y:UInt8):z8b .sub (u8 x) (u8 y)=True:=by simp[z8b,u8]
@[simp] theorem z2nb (x y:UInt32):z8b .sub (u32 x) (u32 y)=True:=by simp[z8b,u32]
@[simp] theorem z4vb (x y:UInt64):z8b .sub (u64 x) (u64 y)=True:=by simp[z8b,u64]
@[simp] theorem z3rb (x y:Int):z8b .sub (i64 x) (i64 y)=True:=by simp[z8b,i64]
@[simp] theorem z3Bb (x y:UInt8):z8b .mul (u8 x) (u8 y)=True:=by simp[z8b,u8]
@[simp] theorem z8jb (x y:UInt32):z8b .mul (u32 x) (u32 y)=True:=by simp[z8b,u32]
@[simp] theorem z4tb (x y:UInt64):z8b .mul (u64 x) (u64 y)=True:=by simp[z8b,u64]
@[simp] theorem z6kb (x y:Int):z8b .mul (i64 x) (i64 y)=True:=by simp[z8b,i64]
@[simp] theorem z0Fb (x y:UInt8):z8b .and (u8 x) (u8 y)=True:=by simp[z8b,u8]
@[simp] theorem z3pb (x y:UInt32):z8b .and (u32 x) (u32 y)=True:=by simp[z8b,u32]
@[simp] theorem z5ub (x y:UInt64):z8b .and (u64 x) (u64 y)=True:=by simp[z8b,u64]
@[simp] theorem z7xb (x y:Int):z8b .and (i64 x) (i64 y)=True:=by simp[z8b,i64]
@[simp] theorem z0Sb (x y:UInt8):z8b .or (u8 x) (u8 y)=True:=by simp[z8b,u8]
@[simp] theorem z2Ab (x y:UInt32):z8b .or (u32 x) (u32 y)=True:=by simp[z8b,u32]
@[simp] theorem z1zb (x y:UInt64):z8b .or (u64 x) (u64 y)=True:=by simp[z8b,u64]
@[simp] theorem z0Eb (x y:Int):z8b .or (i64 x) (i64 y)=True:=by simp[z8b,i64]
@[simp] theorem z6Gb (x y:UInt8):z8b .xor (u8 x) (u8 y)=True:=by simp[z8b,u8]
@[simp] theorem z4wb (x y:UInt32):z8b .xor (u32 x) (u32 y)=True:=by simp[z8b,u32]
@[simp] theorem z4mb (x y:UInt64):z8b .xor (u64 x) (u64 y)=True:=by simp[z8b,u64]
@[simp] theorem z3mb (x y:Int):z8b .xor (i64 x) (i64 y)=True:=by simp[z8b,i64]
@[simp] theorem z8zb (x y:UInt8):z8b .eql (u8 x) (u8 y)=True:=by simp[z8b,u8]
@[simp] theorem z8lb (x y:UInt32):z8b .eql (u32 x) (u32 y)=True:=by simp[z8b,u32]
@[simp] theorem z2wb (x y:UInt64):z8b .eql (u64 x) (u64 y)=True:=by simp[z8b,u64]
@[simp] theorem z7tb (x y:Int):z8b .eql (i64 x) (i64 y)=True:=by simp[z8b,i64]
@[simp] theorem z9Fb (x y:UInt8):z8b .neq (u8 x) (u8 y)=True:=by simp[z8b,u8]
@[simp] theorem z9jb (x y:UInt32):z8b .neq (u32 x) (u32 y)=True:=by simp[z8b,u32]
@[simp] theorem z7vb (x y:UInt64):z8b .neq (u64 x) (u64 y)=True:=by simp[z8b,u64]
@[simp] theorem z2jb (x y:Int):z8b .neq (i64 x) (i64 y)=True:=by simp[z8b,i64]
@[simp] theorem z3Cb (x y:UInt8):z8b .lss (u8 x) (u8 y)=True:=by simp[z8b,u8]
@[simp] theorem z1kb (x y:UInt32):z8b .lss (u32 x) (u32 y)=True:=by simp[z8b,u32]
@[simp] theorem z9ub (x y:UInt64):z8b .lss (u64 x) (u64 y)=True:=by simp[z8b,u64]
@[simp] theorem z7ib (x y:Int):z8b .lss (i64 x) (i64 y)=True:=by simp[z8b,i64]
@[simp] theorem z2Db (x y:UInt8):z8b .leq (u8 x) (u8 y)=True:=by simp[z8b,u8]
@[simp] theorem z9nb (x y:UInt32):z8b .leq (u32 x) (u32 y)=True:=by simp[z8b,u32]
@[simp] theorem z3ub (x y:UInt64):z8b .leq (u64 x) (u64 y)=True:=by simp[z8b,u64]
@[simp] theorem z0ub (x y:Int):z8b .leq (i64 x) (i64 y)=True:=by simp[z8b,i64]
@[simp] theorem z7Eb (x y:UInt8):z8b .gtr (u8 x) (u8 y)=True:=by simp[z8b,u8]
@[simp] theorem z6rb (x y:UInt32):z8b .gtr (u32 x) (u32 y)=True:=by simp[z8b,u32]
@[simp] theorem z0lb (x y:UInt64):z8b .gtr (u64 x) (u64 y)=True:=by simp[z8b,u64]
@[simp] theorem z5ib (x y:Int):z8b .gtr (i64 x) (i64 y)=True:=by simp[z8b,i64]
@[simp] theorem z5Bb (x y:UInt8):z8b .geq (u8 x) (u8 y)=True:=by simp[z8b,u8]
@[simp] theorem z6nb (x y:UInt32):z8b .geq (u32 x) (u32 y)=True:=by simp[z8b,u32]
@[simp] theorem z4xb (x y:UInt64):z8b .geq (u64 x) (u64 y)=True:=by simp[z8b,u64]
@[simp] theorem z8xb (x y:Int):z8b .geq (i64 x) (i64 y)=True:=by simp[z8b,i64]
@[simp] theorem z5Eb (x y:List UInt8):z8b .eql (st x) (st y)=True:=rfl
@[simp] theorem z6Fb (x y:List UInt8):z8b .neq (st x) (st y)=True:=rfl
@[simp] theorem z6Eb (x y:List UInt8):z8b .lss (st x) (st y)=True:=rfl
@[simp] theorem z4Gb (x y:List UInt8):z8b .leq (st x) (st y)=True:=rfl
@[simp] theorem z3Db (x y:List UInt8):z8b .gtr (st x) (st y)=True:=rfl
@[simp] theorem z6zb (x y:List UInt8):z8b .geq (st x) (st y)=True:=rfl
@[simp] theorem z8Ab (x y:List UInt8):z8b .add (st x) (st y)=(((x.length+y.length:Nat):Int)≤9223372036854775807):=rfl
@[simp] theorem z7Zb (x y:List UInt8):z9y .add (st x) (st y)=st (x++y):=by
 show z2a.lit (.string (ByteArray.mk x.toArray++ByteArray.mk y.toArray))=_
 rw[st]
 congr 2
@[simp] theorem z70b (x y:List UInt8):z9y .eql (st x) (st y)=bo (decide (x=y)):=by
 show z2a.lit (.bool ((ByteArray.mk x.toArray).toList==(ByteArray.mk y.toArray).toList))=_
 rw[bo,ByteArray.toList_eq,ByteArray.toList_eq]
 congr 2
 rw[Bool.eq_iff_iff]
 simp
@[simp] theorem z21b (x y:List UInt8):z9y .neq (st x) (st y)=bo (!decide (x=y)):=by
 show z2a.lit (.bool (!((ByteArray.mk x.toArray).toList==(ByteArray.mk y.toArray).toList)))=_
 rw[bo,ByteArray.toList_eq,ByteArray.toList_eq]
 congr 2
 rw[Bool.eq_iff_iff]
 simp
@[simp] theorem z7xc (x:Int):z7wb .neg (i64 x)=True:=rfl
@[simp] theorem z6wc (x:Bool):z7wb .not (bo x)=True:=rfl
@[simp] theorem z15b (x:UInt32):z7wb .xor (u32 x)=True:=rfl
@[simp] theorem z01b (x:UInt64):z7wb .xor (u64 x)=True:=rfl

attribute [simp] lk ASt.get ASt.getB z1x z92 z7za arg bxc bxl bnd z5H z7i.W AOp.wrS z5E z4x z2l z49 z5D z4h z1b
attribute [simp] z2Ra z0Ia z02b z19 z6ub
def z03b (wr:List Nat):Nat→List z2a→List (Nat×z2a)
 |_,[]=>[]
 |i,d::ds=>if wr.contains i then z03b wr (i+1) ds else(i,d)::z03b wr (i+1) ds
def z25b (wr:List Nat):Nat→List z2a→List (Nat×z2a)
 |_,[]=>[]
 |i,d::ds=>if wr.contains i then(i,dem d)::z25b wr (i+1) ds else z25b wr (i+1) ds
theorem z2fb (wr:List Nat):∀(ds:List z2a) (i:Nat),z03b wr i ds=(z1s i ds).filter fun p=> !wr.contains p.1
 |[],i=>rfl
 |d::ds,i=>by
  rw[z03b,z1s,List.filter_cons,z2fb wr ds]
  show(if wr.contains i=true then _ else _)=if(!wr.contains i)=true then _ else _
  cases wr.contains i<;>rfl
theorem z4fb (wr:List Nat):∀(ds:List z2a) (i:Nat),z25b wr i ds=((z1s i ds).filter fun p=>wr.contains p.1).map fun p=>(p.1,dem p.2)
 |[],i=>rfl
 |d::ds,i=>by
  rw[z25b,z1s,List.filter_cons,z4fb wr ds]
  show(if wr.contains i=true then _ else _)=List.map _ (if wr.contains i=true then _ else _)
  cases wr.contains i<;>rfl
@[simp] theorem z4mc (wr:List Nat) (ds:List z2a):z9b wr ds=⟨z03b wr 0 ds,z25b wr 0 ds,[]⟩:=by rw[z2fb,z4fb];rfl
attribute [simp] z03b z25b

@[simp] theorem z8vc (E:Env) (Q:z4m→ASt→Prop) (s:ASt):awp E .skip Q s=Q .normal s:=rfl
def z0Zb (Q:z4m→ASt→Prop):List z2y→ASt→Prop
 |[],st=>Q .normal st
 |g::gs,st=>z1x g st∧z0Zb Q gs (z5b g st)
def z70a (E:Env) (keep:List Nat) (gs:List z2y) (Q:z4m→ASt→Prop):List z7i→ASt→Prop
 |[],st=>z0Zb Q gs (z94 keep st)
 |o::os,st=>okA E o st∧z70a E keep gs Q os (z7h E o st)
theorem z99a (Q:z4m→ASt→Prop):∀(gs:List z2y) (st:ASt),z0Zb Q gs st=(z6hb gs st∧Q .normal (z9ka gs st))
 |[],st=>by simp[z0Zb,z6hb,z9ka]
 |g::gs,st=>by simp only[z0Zb,z6hb,z9ka,z99a Q gs];exact propext and_assoc.symm
theorem z8pa (E:Env) (keep:List Nat) (gs:List z2y) (Q:z4m→ASt→Prop):∀(xs:List z7i) (st:ASt),z70a E keep gs Q xs st=(z2T E xs st∧z6hb gs (z94 keep (z62 E xs st))∧Q .normal (z9ka gs (z94 keep (z62 E xs st))))
 |[],st=>by simp only[z70a,z2T,z62,true_and];exact z99a Q gs _
 |o::os,st=>by simp only[z70a,z2T,z62,z8pa E keep gs Q os];exact propext and_assoc.symm
@[simp] theorem z9Wa (E:Env) (keep:List Nat) (gs:List z2y) (xs:List z7i) (Q:z4m→ASt→Prop) (s:ASt):
  awp E (.region keep gs xs) Q s=z70a E keep gs Q xs s:=(z8pa E keep gs Q xs s).symm
def z3hc (o e:List (Nat×z2a)) (b:List (Nat×Option (List z2a))) (d:Nat) (x:Eff):ASt:=⟨o,(d,x.val)::(x.sl++e),x.bx++b⟩
def put0 (o e:List (Nat×z2a)) (b:List (Nat×Option (List z2a))) (x:Eff):ASt:=⟨o,x.sl++e,x.bx++b⟩
def z1Qa (o e:List (Nat×z2a)) (b:List (Nat×Option (List z2a))) (d:Nat) (t:Bool) (x:Eff):ASt:=if t then z3hc o e b d x else⟨o,(d,z5T)::e,b⟩
@[simp] theorem z2Ic (o e:List (Nat×z2a)) (b:List (Nat×Option (List z2a))) (d:Nat) (v:z2a) (sl:List (Nat×z2a)) (bx:List (Nat×Option (List z2a))):z3hc o e b d ⟨v,sl,bx⟩=⟨o,(d,v)::(sl++e),bx++b⟩:=rfl
@[simp] theorem z1Ic (o e:List (Nat×z2a)) (b:List (Nat×Option (List z2a))) (v:z2a) (sl:List (Nat×z2a)) (bx:List (Nat×Option (List z2a))):put0 o e b ⟨v,sl,bx⟩=⟨o,sl++e,bx++b⟩:=rfl
@[simp] theorem z8Ac (o e:List (Nat×z2a)) (b:List (Nat×Option (List z2a))) (d:Nat) (x:Eff):z1Qa o e b d true x=z3hc o e b d x:=rfl
@[simp] theorem z6xc (o e:List (Nat×z2a)) (b:List (Nat×Option (List z2a))) (d:Nat) (x:Eff):z1Qa o e b d false x=⟨o,(d,z5T)::e,b⟩:=rfl
@[simp] theorem z3pc (E:Env) (d:Nat) (op:AOp) (o e:List (Nat×z2a)) (b:List (Nat×Option (List z2a))):
  z7h E ⟨some d,none,op⟩ ⟨o,e,b⟩=z3hc o e b d (eff E (ASt.get ⟨o,e,b⟩) (ASt.getB ⟨o,e,b⟩) op):=rfl
@[simp] theorem z1fb (E:Env) (op:AOp) (o e:List (Nat×z2a)) (b:List (Nat×Option (List z2a))):
  z7h E ⟨none,none,op⟩ ⟨o,e,b⟩=put0 o e b (eff E (ASt.get ⟨o,e,b⟩) (ASt.getB ⟨o,e,b⟩) op):=rfl
@[simp] theorem z7Yb (E:Env) (d s:Nat) (w:Bool) (op:AOp) (o e:List (Nat×z2a)) (b:List (Nat×Option (List z2a))):
  z7h E ⟨some d,some (s,w),op⟩ ⟨o,e,b⟩=z1Qa o e b d (z7Ga (ASt.get ⟨o,e,b⟩ s) w) (eff E (ASt.get ⟨o,e,b⟩) (ASt.getB ⟨o,e,b⟩) op):=by
 simp only[z7h,z1Qa,z3hc]
 generalize z7Ga (ASt.get ⟨o,e,b⟩ s) w=t
 cases t<;>simp
@[simp] theorem z9Pc (x w:Bool):z7Ga (bo x) w=(x==w):=rfl
@[simp] theorem z5kc (w:Bool):z7Ga z5T w=false:=rfl
@[simp] theorem okG_bo (x:Bool):okG (bo x)=True:=eq_true (.inl trivial)
@[simp] theorem z4Ac:okG z5T=True:=eq_true (.inr rfl)
@[simp] theorem z3tc:dem z5T=z5T:=rfl
@[simp] theorem z0dc:z2o z5T=[]:=rfl
attribute [simp] z0Zb z70a
def z8Va (f:Nat→z2a):List Nat→List (Nat×z2a)
 |[]=>[]
 |s::l=>(s,f s)::z8Va f l
def z1db (f:Nat→Option (List z2a)):List Nat→List (Nat×Option (List z2a))
 |[]=>[]
 |s::l=>(s,f s)::z1db f l
def z4Ka (ids:List Nat):List (Nat×Option (List z2a))→List (Nat×Option (List z2a))
 |[]=>[]
 |p::l=>if ids.contains p.1 then z4Ka ids l else p::z4Ka ids l
theorem z5Qa (f:Nat→z2a):∀l,z8Va f l=l.map fun s=>(s,f s)
 |[]=>rfl
 |s::l=>by rw[z8Va,z5Qa f l];rfl
theorem z3Ra (f:Nat→Option (List z2a)):∀l,z1db f l=l.map fun s=>(s,f s)
 |[]=>rfl
 |s::l=>by rw[z1db,z3Ra f l];rfl
theorem z8sa (ids:List Nat):∀l,z4Ka ids l=l.filter fun p=> !ids.contains p.1
 |[]=>rfl
 |p::l=>by
  rw[z4Ka,z8sa ids l,List.filter_cons]
  cases ids.contains p.1<;>rfl
attribute [simp] z8Va z1db z4Ka
@[simp] theorem z5qb (keep:List Nat) (o e:List (Nat×z2a)) (b:List (Nat×Option (List z2a))):z94 keep ⟨o,e,b⟩=⟨o,z8Va (ASt.get ⟨o,e,b⟩) keep,b⟩:=by rw[z5Qa];rfl
@[simp] theorem z0Lc (ids:List Nat) (o e:List (Nat×z2a)) (b:List (Nat×Option (List z2a))):z5b (.norm ids) ⟨o,e,b⟩=⟨o,e,z1db (ASt.getB ⟨o,e,b⟩) ids⟩:=by rw[z3Ra];rfl
@[simp] theorem z6Jc (ids:List Nat) (o e:List (Nat×z2a)) (b:List (Nat×Option (List z2a))):z5b (.drop ids) ⟨o,e,b⟩=⟨o,e,z4Ka ids b⟩:=by rw[z8sa];rfl
def z6Za (s:Nat):List (Nat×z2a)→List (Nat×z2a)
 |[]=>[]
 |(k,v)::l=>if k=s then z6Za s l else(k,v)::z6Za s l
theorem z0Ra (s:Nat):∀l,z6Za s l=l.filter fun p=>decide (p.1≠s)
 |[]=>rfl
 |(k,v)::l=>by
  rw[z6Za,z0Ra s l,List.filter_cons]
  by_cases h:k=s<;>simp[h]
attribute [simp] z6Za
@[simp] theorem z3vc (s:Nat) (o e:List (Nat×z2a)) (b:List (Nat×Option (List z2a))):z5b (.unorg s) ⟨o,e,b⟩=⟨z6Za s o,(s,ASt.get ⟨o,e,b⟩ s)::e,b⟩:=by rw[z0Ra];rfl
def z4Rb (b i:Nat) (x:Option (List z2a)) (box:List (Nat×Option (List z2a))):List (Nat×Option (List z2a)):=match x with|some bs=>(b,some (bs.set i .undef))::box|none=>box
@[simp] theorem z54b (b i:Nat) (bs:List z2a) (box:List (Nat×Option (List z2a))):z4Rb b i (some bs) box=(b,some (bs.set i .undef))::box:=rfl
@[simp] theorem z8Bc (b i:Nat) (o e:List (Nat×z2a)) (box:List (Nat×Option (List z2a))):z5b (.hideB b i) ⟨o,e,box⟩=⟨o,e,z4Rb b i (ASt.getB ⟨o,e,box⟩ b) box⟩:=by
 simp only[z5b,z4Rb]
 split<;>simp_all
def reL (b i:Nat) (r:Option Nat) (x:Option (List z2a)) (box:List (Nat×Option (List z2a))):List (Nat×Option (List z2a)):=match x with|some bs=>(b,some (bs.set i (z9V r (bs.getD i .undef))))::box|none=>box
@[simp] theorem z6zc (b i:Nat) (r:Option Nat) (bs:List z2a) (box:List (Nat×Option (List z2a))):reL b i r (some bs) box=(b,some (bs.set i (z9V r (bs.getD i .undef))))::box:=rfl
@[simp] theorem reB_mk (b i:Nat) (r:Option Nat) (o e:List (Nat×z2a)) (box:List (Nat×Option (List z2a))):z5b (.reB b i r) ⟨o,e,box⟩=⟨o,e,reL b i r (ASt.getB ⟨o,e,box⟩ b) box⟩:=by
 simp only[z5b,reL]
 split<;>simp_all
@[simp] theorem z3Ob (c:z2a):z9V none c=dem c:=rfl
@[simp] theorem z51b (e:Nat):z9V (some e) (.sl .plain (some true) 0 [])= .sl (.own e) none 0 []:=rfl
@[simp] theorem z7Mc (keep:List Nat) (o e:List (Nat×z2a)) (b:List (Nat×Option (List z2a))):z5b (.keep keep) ⟨o,e,b⟩=⟨o,z8Va (ASt.get ⟨o,e,b⟩) keep,b⟩:=z5qb keep o e b
@[simp] theorem z7lc (ids:List Nat) (o e:List (Nat×z2a)) (b:List (Nat×Option (List z2a))):z5b (.freeze ids) ⟨o,e,b⟩=
  ⟨o,e.map fun p=>(p.1,z49 ids (fun id=>(ASt.getB ⟨o,e,b⟩ id).getD []) p.2),(z4Ka ids b).map fun p=>(p.1,p.2.map (z5D ids fun id=>(ASt.getB ⟨o,e,b⟩ id).getD []))⟩:=by rw[z8sa];rfl
@[simp] theorem z9Mc (E:Env) (a b:z9a) (Q:z4m→ASt→Prop) (s:ASt):awp E (.seq a b) Q s=awp E a (z92 (awp E b Q) Q) s:=rfl
theorem z3e (E:Env) (c:Arg) (a b:z9a) (Q:z4m→ASt→Prop) (s:ASt):
  awp E (.cond c a b) Q s=(isB (arg E s.get c)∧(asB (arg E s.get c)=true→awp E a Q s)∧(asB (arg E s.get c)=false→awp E b Q s)):=rfl
@[simp] theorem z9jc (E:Env) (id:Nat) (b:z9a) (Q:z4m→ASt→Prop) (s:ASt):awp E (.block id b) Q s=awp E b (z7za id Q) s:=rfl
@[simp] theorem z8pc (E:Env) (b:z9a) (Q:z4m→ASt→Prop) (s:ASt):awp E (.scope b) Q s=awp E b Q s:=rfl
@[simp] theorem z6uc (E:Env) (id:Nat) (Q:z4m→ASt→Prop) (s:ASt):awp E (.exit id) Q s=Q (.exit id) s:=rfl
@[simp] theorem z7Fc (E:Env) (Q:z4m→ASt→Prop) (s:ASt):awp E .ret Q s=Q .ret s:=rfl
@[simp] theorem z0lc (E:Env) (g:z2y) (c:z9a) (Q:z4m→ASt→Prop) (s:ASt):awp E (.ghost g c) Q s=(z1x g s∧awp E c Q (z5b g s)):=rfl

attribute [simp] okA eff okp okp.okApp z1ka z7Ba

/-! ### Reading arguments -/
def nth (ds:List z2a) (i:Nat):z2a:=ds.getD i .undef
def gU8 (v:z2a):UInt8:=UInt8.ofInt (asI v)
def z2Fb (v:z2a):UInt32:=UInt32.ofInt (asI v)
def z6Ec (v:z2a):UInt64:=UInt64.ofInt (asI v)
def gS (v:z2a):List UInt8:=(asS v).data.toList
def gCs (v:z2a):List z2a:=match v with| .agg cs=>cs| .sl _ _ _ cs=>cs| .ep cs=>cs| .tup cs=>cs|_=>[]
def gBs (l:List z2a):List UInt8:=l.map gU8
def gWs (l:List z2a):List UInt32:=l.map z2Fb
@[simp] theorem nth_0 (d:z2a) (ds:List z2a):nth (d::ds) 0=d:=rfl
@[simp] theorem nth_s (d:z2a) (ds:List z2a) (i:Nat):nth (d::ds) (i+1)=nth ds i:=rfl
@[simp] theorem z6Cb (x:UInt8):gU8 (u8 x)=x:=by
 apply UInt8.toNat_inj.1
 rw[gU8,z4ga,z3Gb]
 have:=x.toNat_lt
 omega
@[simp] theorem z9Oa (x:UInt32):z2Fb (u32 x)=x:=by
 apply UInt32.toNat_inj.1
 rw[z2Fb,z39a,z4Ob]
 have:=x.toNat_lt
 omega
@[simp] theorem z3Pa (x:UInt64):z6Ec (u64 x)=x:=by
 apply UInt64.toNat_inj.1
 rw[z6Ec,z71,z9Qb]
 have:=x.toNat_lt
 omega
@[simp] theorem z3ic (l:List UInt8):gS (st l)=l:=rfl
@[simp] theorem z6Kc (l:List z2a):gCs (.agg l)=l:=rfl
@[simp] theorem z8Ic (l:List z2a):gCs (.tup l)=l:=rfl
@[simp] theorem gCs_ep (l:List z2a):gCs (.ep l)=l:=rfl
@[simp] theorem gCs_sl (m:z33) (nl:Option Bool) (n:Nat) (l:List z2a):gCs (.sl m nl n l)=l:=rfl
@[simp] theorem z1Nc:gCs (.lit (.slice none 0 0))=[]:=rfl
@[simp] theorem z53a (l:List UInt8):gBs (bys l)=l:=by simp[gBs,bys,Function.comp_def]
@[simp] theorem z6Pa (l:List UInt32):gWs (z3o l)=l:=by simp[gWs,z3o,Function.comp_def]
@[simp] theorem z8Gc:gBs []=[]:=rfl

@[simp] theorem u8_inj (x y:UInt8):(u8 x=u8 y)=(x=y):=propext ⟨fun h=>by rw[←z6Cb x,h,z6Cb],fun h=>by rw[h]⟩
@[simp] theorem z4Ec (x y:UInt32):(u32 x=u32 y)=(x=y):=propext ⟨fun h=>by rw[←z9Oa x,h,z9Oa],fun h=>by rw[h]⟩
@[simp] theorem z9Lc (x y:UInt64):(u64 x=u64 y)=(x=y):=propext ⟨fun h=>by rw[←z3Pa x,h,z3Pa],fun h=>by rw[h]⟩
@[simp] theorem z2Kc (x y:Int):(i64 x=i64 y)=(x=y):=propext ⟨fun h=>by rw[←z62a x,h,z62a],fun h=>by rw[h]⟩
@[simp] theorem bo_inj (x y:Bool):(bo x=bo y)=(x=y):=propext ⟨fun h=>by rw[←z6yb x,h,z6yb],fun h=>by rw[h]⟩
@[simp] theorem st_inj (x y:List UInt8):(st x=st y)=(x=y):=propext ⟨fun h=>by rw[←z3ic x,h,z3ic],fun h=>by rw[h]⟩
@[simp] theorem z9Rc (x y:List UInt8):(bys x=bys y)=(x=y):=propext ⟨fun h=>by rw[←z53a x,h,z53a],fun h=>by rw[h]⟩
@[simp] theorem z2uc (x y:List UInt32):(z3o x=z3o y)=(x=y):=propext ⟨fun h=>by rw[←z6Pa x,h,z6Pa],fun h=>by rw[h]⟩
theorem z8ha (x:UInt32) (l:List UInt32):z3o (x::l)=u32 x::z3o l:=rfl

/-! ### Loops -/
theorem z7a {E:Env} {c:z9a} {Q:z4m→ASt→Prop} {st:ASt} (h:∀Q',Q'=Q→awp E c Q' st):awp E c Q st:=h Q rfl
theorem z4f {E:Env} {b:z9a} {Q:z4m→ASt→Prop} {st:ASt} {α:Type} (S:α→ASt) (μ:α→Nat) (inv:α→Prop) (a0:α) (h0:st=S a0) (hi:inv a0)
  (hr:∀a,inv a→awp E b (z92 (fun st'=>∃a',μ a'<μ a∧inv a'∧st'=S a') Q) (S a)):awp E (.loop b) Q st:=by
 refine⟨fun m st=>∃a,μ a=m∧inv a∧st=S a,⟨μ a0,a0,rfl,hi,h0⟩,?_⟩
 rintro m _ ⟨a,rfl,hia,rfl⟩
 have e:(z92 (fun st'=>∃a',μ a'<μ a∧inv a'∧st'=S a') Q)=(z92 (fun st'=>∃m',m'<μ a∧∃a',μ a'=m'∧inv a'∧st'=S a') Q):=by
  funext e st'
  cases e<;>simp only[z92]
  apply propext
  constructor
  ·rintro⟨a',h1,h2,h3⟩;exact⟨_,h1,a',rfl,h2,h3⟩
  ·rintro⟨_,h1,a',rfl,h2,h3⟩;exact⟨a',h1,h2,h3⟩
 rw[←e]
 exact hr a hia

/-! ### Splices -/
@[simp] theorem z11a (a x:z2a) (l:List z2a):splice (a::l) 0 [x]=x::l:=by simp[splice]
@[simp] theorem z7Nb (a:z2a) (l:List z2a) (n:Nat) (xs:List z2a):splice (a::l) (n+1) xs=a::splice l n xs:=by
 simp only[splice,List.take_succ_cons,List.cons_append,List.cons.injEq,true_and]
 congr 1
 rw[show n+1+xs.length=(n+xs.length)+1 by omega,List.drop_succ_cons]
theorem z0j {l xs:List z2a} (h:xs.length=l.length):splice l 0 xs=xs:=by simp[splice,h]
theorem z22 {a b xs:List z2a} {n:Nat} (h:n+xs.length≤a.length):splice (a++b) n xs=splice a n xs++b:=by
 simp only[splice,List.append_assoc]
 rw[List.take_append_of_le_length (by omega),List.drop_append_of_le_length h]
theorem z5X {a b xs:List z2a} {n:Nat} (h:a.length≤n):splice (a++b) n xs=a++splice b (n-a.length) xs:=by
 simp only[splice]
 rw[List.take_append,List.take_of_length_le h,List.drop_append,List.drop_of_length_le (by omega)]
 simp only[List.append_assoc,List.nil_append]
 rw[show n+xs.length-a.length=n-a.length+xs.length by omega]
theorem z07 {l:List UInt8} {n:Nat} {x:UInt8} (h:n<l.length):splice (bys l) n [u8 x]=bys (l.set n x):=by
 simp only[splice,bys,←List.map_take,←List.map_drop,List.length_singleton]
 rw[List.set_eq_take_append_cons_drop,if_pos h]
 simp
theorem z3y {l:List UInt32} {n:Nat} {x:UInt32} (h:n<l.length):splice (z3o l) n [u32 x]=z3o (l.set n x):=by
 simp only[splice,z3o,←List.map_take,←List.map_drop,List.length_singleton]
 rw[List.set_eq_take_append_cons_drop,if_pos h]
 simp
def at8 (l:List UInt8) (i:Nat):UInt8:=l.getD i 0
def z3s (l:List UInt32) (i:Nat):UInt32:=l.getD i 0
theorem z1lb {l:List z2a} {n:Nat}:hdA (l.drop n)=l.getD n .undef:=by
 rw[hdA,List.headD_eq_head?_getD,List.head?_drop]
 rfl
theorem z8ub {l:List UInt8} {n:Nat} (h:n<l.length):(bys l).getD n .undef=u8 (at8 l n):=by
 simp[at8,bys,List.getD,List.getElem?_eq_getElem h]
theorem z9ha {l:List UInt32} {n:Nat} (h:n<l.length):(z3o l).getD n .undef=u32 (z3s l n):=by
 simp[z3s,z3o,List.getD,List.getElem?_eq_getElem h]
theorem z1Da {l:List UInt8} {n:Nat} (h:n<l.length):hdA (bys (l.drop n))=u8 (at8 l n):=by rw[←z4sa,z1lb,z8ub h]
@[simp] theorem z6ec (l:List UInt32) (n:Nat):(z3o l).take n=z3o (l.take n):=by simp[z3o]
@[simp] theorem z2ia (l:List UInt32) (n:Nat):(z3o l).drop n=z3o (l.drop n):=by simp[z3o]
theorem z4L {l:List UInt32} {n:Nat} (h:n<l.length):hdA (z3o (l.drop n))=u32 (z3s l n):=by rw[←z2ia,z1lb,z9ha h]
theorem z5rb {l:List UInt32} (h:0<l.length):hdA (z3o l)=u32 (z3s l 0):=by rw[←z4L h,List.drop_zero]
@[simp] theorem z9Ab (l:List UInt32) (i:Nat) (h:i<(z3o l).length):(z3o l)[i]=u32 (z3s l i):=by
 have h':i<l.length:=by simpa using h
 simp[z3s,z3o,List.getElem?_eq_getElem h']
@[simp] theorem z7Ub (l:List UInt8) (i:Nat) (h:i<(bys l).length):(bys l)[i]=u8 (at8 l i):=by
 have h':i<l.length:=by simpa using h
 simp[at8,bys,List.getElem?_eq_getElem h']
@[simp] theorem z9wb (x:UInt32) (l:List UInt32):hdA (z3o (x::l))=u32 x:=rfl
@[simp] theorem z2Bb (x:UInt8) (l:List UInt8):hdA (bys (x::l))=u8 x:=rfl
@[simp] theorem z7zc (a:z2a) (l:List z2a):hdA (a::l)=a:=rfl
theorem z9Pb {a b:List UInt8} {i:Nat} (h:i<a.length):at8 (a++b) i=at8 a i:=by simp[at8,List.getD,List.getElem?_append_left h]
theorem z9Na {a b:List UInt32} {i:Nat} (h:i<a.length):z3s (a++b) i=z3s a i:=by simp[z3s,List.getD,List.getElem?_append_left h]
theorem z3ea {a b:List UInt8} {i:Nat} (h:a.length≤i):at8 (a++b) i=at8 b (i-a.length):=by simp[at8,List.getD,List.getElem?_append_right h]
theorem z6Va {a b:List UInt32} {i:Nat} (h:a.length≤i):z3s (a++b) i=z3s b (i-a.length):=by simp[z3s,List.getD,List.getElem?_append_right h]
theorem z6Ra {a:List UInt8} {i n:Nat} (h:i<n):at8 (a.take n) i=at8 a i:=by simp[at8,List.getD,List.getElem?_take,h]
@[simp] theorem z3Cc {a:List UInt8} {i n:Nat}:at8 (a.drop n) i=at8 a (n+i):=by simp[at8,List.getD]
@[simp] theorem z9lc {a:List UInt32} {i n:Nat}:z3s (a.drop n) i=z3s a (n+i):=by simp[z3s,List.getD]
@[simp] theorem z1pc (x:UInt32) (l:List UInt32):z3s (x::l) 0=x:=rfl
@[simp] theorem z9qc (x:UInt32) (l:List UInt32) (n:Nat):z3s (x::l) (n+1)=z3s l n:=rfl
@[simp] theorem z0tc (x:UInt8) (l:List UInt8):at8 (x::l) 0=x:=rfl
@[simp] theorem z8uc (x:UInt8) (l:List UInt8) (n:Nat):at8 (x::l) (n+1)=at8 l n:=rfl

def ks8 (n:Nat):List LK:=List.replicate n (.int .u8)
@[simp] theorem z2Rb (n:Nat) (l:List UInt8):z7v (ks8 n) (bys l)=(l.length=n):=by
 induction n generalizing l with
 |zero=>cases l<;>simp[ks8,z7v,bys]
 |succ n ih=>
  cases l with
  |nil=>simp[ks8,List.replicate_succ,z7v,bys]
  |cons x l=>
   have:=ih l
   simp only[ks8,bys] at this
   simp[ks8,List.replicate_succ,z7v,bys,z4yc,u8,this]
@[simp] theorem z1Gc (l:List UInt8):(ByteArray.mk l.toArray).size=l.length:=by simp[ByteArray.size]
@[simp] theorem mod64 (n:UInt64):((n.toNat:Int)% 64).toNat=n.toNat% 64:=by omega
@[simp] theorem z41a (n:Int):z2a.lit (.int .i64 n)=i64 n:=rfl
@[simp] theorem lit_bo (b:Bool):z2a.lit (.bool b)=bo b:=rfl
@[simp] theorem z8Hc (x:UInt8):z2a.lit (.int .u8 (x.toNat:Int))=u8 x:=rfl
@[simp] theorem z03a (l:List UInt8):z2a.lit (.string (z4P (bys l)))=st l:=by
 simp only[st,z4P,bys,List.map_map]
 congr 3
 rw[show((fun c=>UInt8.ofNat (asI c).toNat)∘u8)=id from funext fun x=>by simp[z3Gb]]
 simp
@[simp] theorem z46b (x:UInt8):z2a.lit (.string (z4P [u8 x]))=st [x]:=z03a [x]
@[simp] theorem z5Qb (l:List UInt8) (a b:Nat):z2a.lit (.string ((ByteArray.mk l.toArray).extract a b))=st ((l.drop a).take (b-a)):=by
 simp only[st]
 congr 2
 apply ByteArray.ext
 rw[ByteArray.data_extract]
 simp[List.extract]
attribute [simp] z2q z3Ab z6fa z2Ub z4M okM z9hb z10 z9ob fnd Abs.ren z4pa
@[simp] theorem ren_u8 (m:List (Nat×Nat)) (x:UInt8):Abs.ren m (u8 x)=u8 x:=rfl
@[simp] theorem z7Ec (m:List (Nat×Nat)) (x:UInt32):Abs.ren m (u32 x)=u32 x:=rfl
@[simp] theorem z2Jc (m:List (Nat×Nat)) (x:UInt64):Abs.ren m (u64 x)=u64 x:=rfl
@[simp] theorem z6Gc (m:List (Nat×Nat)) (x:Int):Abs.ren m (i64 x)=i64 x:=rfl
@[simp] theorem ren_bo (m:List (Nat×Nat)) (x:Bool):Abs.ren m (bo x)=bo x:=rfl
@[simp] theorem ren_st (m:List (Nat×Nat)) (x:List UInt8):Abs.ren m (st x)=st x:=rfl
end Go.Abs
end

section
namespace Go.Abs
def gv (t:Bool) (v:z2a):z2a:=if t then v else z5T
def gok (t:Bool) (p:Prop):Prop:=t=true→p
@[simp] theorem gv_t (v:z2a):gv true v=v:=rfl
@[simp] theorem gv_f (v:z2a):gv false v=z5T:=rfl
@[simp] theorem gok_f (p:Prop):gok false p=True:=by simp[gok]
@[simp] theorem gok_t (p:Prop):gok true p=p:=by simp[gok]
@[simp] theorem gok_T (t:Bool):gok t True=True:=by simp[gok]
@[simp high] theorem z3ac (E:Env) (d s:Nat) (w:Bool) (op:AOp) (o e:List (Nat×z2a)) (b:List (Nat×Option (List z2a))):
  okA E ⟨some d,some (s,w),op⟩ ⟨o,e,b⟩=((∀x∈d::op.wrS,lk o x=none)∧okG (ASt.get ⟨o,e,b⟩ s)∧gok (z7Ga (ASt.get ⟨o,e,b⟩ s) w) (okp E (ASt.get ⟨o,e,b⟩) (ASt.getB ⟨o,e,b⟩) op)):=rfl
@[simp] theorem z0Mc (t x w:Bool):z7Ga (gv t (bo x)) w=(t&&(x==w)):=by cases t<;>simp
@[simp] theorem okG_gv (t x:Bool):okG (gv t (bo x))=True:=by cases t<;>simp
@[simp] theorem dem_gv (t:Bool) (v:z2a):dem (gv t v)=gv t (dem v):=by cases t<;>rfl
end Go.Abs
end

section
namespace Go.Abs
/-! ### structs that are built, step by step -/
def z6Jb (get:Nat→z2a) (n:Nat):z2a:=dem (get n)
@[simp] theorem z3Jc (get:Nat→z2a) (n:Nat):z6Jb get n=dem (get n):=rfl
@[simp ↓ high] theorem z6sc (E:Env) (get:Nat→z2a) (getB:Nat→Option (List z2a)) (z:List z2a) (ps:List (Nat×Nat×Arg)):eff E get getB (.build z ps)={val:= .agg (z5E E (z6Jb get) ps z)}:=rfl
@[simp ↓ high] theorem z7vc (E:Env) (get:Nat→z2a) (getB:Nat→Option (List z2a)) (z:List z2a) (ps:List (Nat×Nat×Arg)):okp E get getB (.build z ps)=z4x E (z6Jb get) ps z.length:=rfl
def z4Nc (d dd:z2a) (cs:List z2a) (i s:Nat):Eff:=match d with| .sl (.own e) nl n c=>{val:= .oagg (cs.take i) e nl n c (cs.drop (i+1)),sl:=[(s,dd)]}|_=>{val:= .undef}
@[simp] theorem z9xc (e:Nat) (nl:Option Bool) (n:Nat) (c:List z2a) (dd:z2a) (cs:List z2a) (i s:Nat):z4Nc (.sl (.own e) nl n c) dd cs i s={val:= .oagg (cs.take i) e nl n c (cs.drop (i+1)),sl:=[(s,dd)]}:=rfl
@[simp ↓ high] theorem z1Bc (E:Env) (get:Nat→z2a) (getB:Nat→Option (List z2a)) (z:List z2a) (ps:List (Nat×Nat×Arg)) (i s:Nat):eff E get getB (.buildO z ps i s)=z4Nc (get s) (dem (get s)) (z5E E (z6Jb get) (ps++[(i,1,.s s)]) z) i s:=by
 simp only[eff,z4Nc]
 rfl
@[simp ↓ high] theorem z9Bc (E:Env) (get:Nat→z2a) (getB:Nat→Option (List z2a)) (z:List z2a) (ps:List (Nat×Nat×Arg)) (i s:Nat):okp E get getB (.buildO z ps i s)=(z4x E (z6Jb get) (ps++[(i,1,.s s)]) z.length∧(match get s with| .sl (.own _) _ _ _=>True|_=>False)):=rfl
@[simp ↓ high] theorem z1xc (E:Env) (d:Nat) (z:List z2a) (ps:List (Nat×Nat×Arg)) (i s:Nat) (o e:List (Nat×z2a)) (b:List (Nat×Option (List z2a))):okA E ⟨some d,none,.buildO z ps i s⟩ ⟨o,e,b⟩=
  ((lk o d=none∧lk o s=none)∧z4x E (z6Jb (ASt.get ⟨o,e,b⟩)) (ps++[(i,1,.s s)]) z.length∧(match ASt.get ⟨o,e,b⟩ s with| .sl (.own _) _ _ _=>True|_=>False)):=by
 have h:(∀x∈[d,s],lk o x=none)=(lk o d=none∧lk o s=none):=by simp
 rw[←h];rfl
@[simp ↓ high] theorem z5zc (E:Env) (d:Nat) (z:List z2a) (ps:List (Nat×Nat×Arg)) (o e:List (Nat×z2a)) (b:List (Nat×Option (List z2a))):okA E ⟨some d,none,.build z ps⟩ ⟨o,e,b⟩=
  (lk o d=none∧z4x E (z6Jb (ASt.get ⟨o,e,b⟩)) ps z.length):=by
 have h:(∀x∈[d],lk o x=none)=(lk o d=none):=by simp
 rw[←h];rfl
theorem z0ha {E:Env} {keep:List Nat} {gs:List z2y} {Q:z4m→ASt→Prop} {xs:List z7i} {st:ASt} (n:Nat) (h:∀T,T=xs.drop n→z70a E keep gs Q (xs.take n++T) st):z70a E keep gs Q xs st:=by
 have:=h _ rfl
 rwa[List.take_append_drop] at this
def vdG (b:Bool) (d:Nat) (st:ASt) (x:Nat):z2a:=if x=d then bo b else st.get x
@[simp] theorem vdG_eq (b:Bool) (d:Nat) (st:ASt) (x:Nat):vdG b d st x=if x=d then bo b else st.get x:=rfl
end Go.Abs
end
