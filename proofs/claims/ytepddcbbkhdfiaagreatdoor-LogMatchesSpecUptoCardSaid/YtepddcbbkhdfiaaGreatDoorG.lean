/- Lemmas: an abstract interpreter, and what the functions compute. -/
import Derived.Test.YtepddcbbkhdfiaaGreatDoorF
set_option linter.unusedSimpArgs false
set_option linter.unusedVariables false
set_option linter.unusedSectionVars false
section
namespace Go.Abs

def z5j (n:Nat):List UInt8:=List.replicate n 0
def z8wa (n:Nat):List UInt32:=List.replicate n 0
@[simp] theorem z1E (n:Nat):(z5j n).length=n:=by simp[z5j]
@[simp] theorem z46c (n:Nat):(z8wa n).length=n:=by simp[z8wa]

/-! ### Lists of bytes and of words as cells -/
@[simp] theorem z1Q (l:List UInt8):(bys l).length=l.length:=by simp[bys]
@[simp] theorem z5O (l:List UInt32):(z7g l).length=l.length:=by simp[z7g]
@[simp] theorem z8oa:bys []=[]:=rfl
@[simp] theorem z4ca:z7g []=[]:=rfl
theorem z3Oa (l m:List UInt8):bys (l++m)=bys l++bys m:=by simp[bys]
theorem z8pa (l m:List UInt8):bys l++bys m=bys (l++m):=(z3Oa l m).symm
theorem z7pa (l:List UInt8) (x:UInt8):bys l++[u8 x]=bys (l++[x]):=by simp[bys]
@[simp] theorem z0ea (l:List UInt8) (n:Nat):(bys l).take n=bys (l.take n):=by simp[bys]
@[simp] theorem z5ea (l:List UInt8) (n:Nat):(bys l).drop n=bys (l.drop n):=by simp[bys]
@[simp] theorem z79 (l:List UInt8):(bys l).tail=bys l.tail:=by cases l<;>rfl
@[simp] theorem z1la (l:List UInt8):z3i l=bys l:=rfl
theorem z6f {P:z0a→Prop} {l:List UInt8} (h:∀x,P (u8 x)):∀c∈bys l,P c:=fun c hc=>by
 simp only[bys,List.mem_map] at hc
 obtain⟨x,_,rfl⟩:=hc
 exact h x
theorem z5h {P:z0a→Prop} {l:List UInt32} (h:∀x,P (u32 x)):∀c∈z7g l,P c:=fun c hc=>by
 simp only[z7g,List.mem_map] at hc
 obtain⟨x,_,rfl⟩:=hc
 exact h x
@[simp] theorem z49 (l:List UInt8):(∀c∈bys l,z8a c)↔True:=iff_true_intro (z6f (by simp))
@[simp] theorem z0na (l:List UInt8):(∀c∈bys l,z5b c=false)↔True:=iff_true_intro (z6f (by simp))
@[simp] theorem z1ea (l:List UInt8):(∀c∈bys l,z0b c=true)↔True:=iff_true_intro (z6f (by simp))
@[simp] theorem z9w (l:List UInt8):(∀c∈bys l,z0b c=true∧z8a c)↔True:=iff_true_intro (z6f (by simp))
@[simp] theorem z0D (l:List UInt8):(∀c∈bys l,z8a c∧z5b c=false)↔True:=iff_true_intro (z6f (by simp))
@[simp] theorem z8da (l:List UInt8):(∀c∈bys l,z28 .u8 c)↔True:=iff_true_intro (z6f (by simp))
@[simp] theorem z61 (l:List UInt32):(∀c∈z7g l,z8a c)↔True:=iff_true_intro (z5h (by simp))
@[simp] theorem z2ba (l:List UInt32):(∀c∈z7g l,z5b c=false)↔True:=iff_true_intro (z5h (by simp))
@[simp] theorem z81 (l:List UInt32):(∀c∈z7g l,z0b c=true)↔True:=iff_true_intro (z5h (by simp))
theorem z2j {l:List z0a} (h:∀c∈l,z0b c=true):z8b l=true:=(z4i l).2 h
@[simp] theorem z71 (l:List UInt8):z8b (bys l)=true:=z2j (z6f (by simp))
@[simp] theorem z3T (l:List UInt32):z8b (z7g l)=true:=z2j (z5h (by simp))
attribute [simp] z8m
@[simp] theorem z0t (l m:List z0a):z7a (l++m)=(z7a l&&z7a m):=by induction l<;>simp_all [z7a,Bool.and_assoc]
@[simp] theorem z3F (l:List UInt8):z7a (bys l)=true:=by induction l<;>simp_all [bys,z7a]
@[simp] theorem z7B (l:List UInt32):z7a (z7g l)=true:=by induction l<;>simp_all [z7g,z7a]
attribute [simp] z2h
@[simp] theorem z22 (l:List UInt8):z6b (bys l)=[]:=by induction l<;>simp_all [bys,z6b]
@[simp] theorem z1T (l:List UInt32):z6b (z7g l)=[]:=by induction l<;>simp_all [z7g,z6b]

@[simp] theorem z6U (x y:UInt8):z9c .sub (u8 x) (u8 y)=u8 (x-y):=z6g (by
 show IntKind.u8.wrap ((x.toNat:Int)-y.toNat)=_
 rw[UInt8.toNat_sub]
 have:=x.toNat_lt
 have:=y.toNat_lt
 unfold IntKind.wrap IntKind.bits IntKind.signed
 simp only[Bool.false_and,Bool.false_eq_true,if_false]
 omega)
@[simp] theorem z8Q (x y:UInt8):z9c .quo (u8 x) (u8 y)=u8 (x/y):=z6g (by
 show IntKind.u8.wrap ((x.toNat:Int).tdiv y.toNat)=_
 rw[Int.tdiv_eq_ediv_of_nonneg (by omega),←Int.natCast_ediv,z9h,UInt8.toNat_div,Nat.mod_eq_of_lt]
 exact Nat.lt_of_le_of_lt (Nat.div_le_self _ _) x.toNat_lt)
@[simp] theorem z5R (x y:UInt8):z9c .rem (u8 x) (u8 y)=u8 (x% y):=z6g (by
 show((x.toNat:Int).tmod y.toNat)=_
 rw[UInt8.toNat_mod]
 rfl)
@[simp] theorem z1G (x y:UInt8):z3a .quo (u8 x) (u8 y)=(y≠0):=by
 simp only[z3a,u8,true_and,ne_eq,Int.natCast_eq_zero,←UInt8.toNat_inj]
 rfl
@[simp] theorem z5F (x y:UInt8):z3a .rem (u8 x) (u8 y)=(y≠0):=by
 simp only[z3a,u8,true_and,ne_eq,Int.natCast_eq_zero,←UInt8.toNat_inj]
 rfl
@[simp] theorem z0W (x y:UInt8):z9c .lss (u8 x) (u8 y)=bo (decide (x<y)):=by
 show z0a.lit (.bool (decide ((x.toNat:Int)<y.toNat)))= .lit (.bool _)
 congr 2
 simp[UInt8.lt_iff_toNat_lt]
@[simp] theorem z2T (x y:UInt8):z9c .gtr (u8 x) (u8 y)=bo (decide (y<x)):=by
 show z0a.lit (.bool (decide ((x.toNat:Int)>y.toNat)))= .lit (.bool _)
 congr 2
 simp[UInt8.lt_iff_toNat_lt]
@[simp] theorem z4O (x y:UInt64):z9c .neq (u64 x) (u64 y)=bo (x !=y):=by
 show z0a.lit (.bool ((x.toNat:Int) !=y.toNat))= .lit (.bool _)
 congr 2
 rw[Bool.eq_iff_iff]
 simp only[beq_iff_eq,bne_iff_ne,ne_eq,←UInt64.toNat_inj]
 omega
def z2md (x y:Int):Int:=W (BitVec.ofInt 64 x&&&BitVec.ofInt 64 y).toNat
@[simp] theorem z9O (x y:Int):z9c .and (i64 x) (i64 y)=i64 (z2md x y):=rfl

theorem dT {p:Prop} [Decidable p] (h:p):decide p=true:=decide_eq_true h
theorem dF {p:Prop} [Decidable p] (h:¬p):decide p=false:=decide_eq_false h

/-! ### What values are -/
@[simp] theorem z7Z:dem .undef= .undef:=rfl
@[simp] theorem z8ma (cs:List z0a):dem (.agg cs)= .agg cs:=rfl
@[simp] theorem z9ka (cs:List z0a):dem (.tup cs)= .tup cs:=rfl
@[simp] theorem z2aa (e:Nat) (nl:Option Bool) (n:Nat) (cs rest:List z0a):dem (.otup e nl n cs rest)= .tup (.sl .plain nl n cs::rest):=rfl
@[simp] theorem z5T (e:Nat) (nl:Option Bool) (n:Nat) (cs rest:List z0a):z0b (.otup e nl n cs rest)=z8b rest:=rfl
@[simp] theorem z0da (p:List z0a) (e:Nat) (nl:Option Bool) (n:Nat) (cs rest:List z0a):dem (.oagg p e nl n cs rest)= .agg (p++ .sl .plain nl n cs::rest):=rfl
@[simp] theorem z8S (p:List z0a) (e:Nat) (nl:Option Bool) (n:Nat) (cs rest:List z0a):z0b (.oagg p e nl n cs rest)=(z8b p&&z8b rest):=rfl
@[simp] theorem z7Y (p:List z0a) (e:Nat) (nl:Option Bool) (n:Nat) (cs rest:List z0a):z3d (.oagg p e nl n cs rest)=z6b p++z6b rest:=rfl
@[simp] theorem z45 (e:Nat) (nl:Option Bool) (n:Nat) (cs rest:List z0a):z3d (.otup e nl n cs rest)=z6b rest:=rfl
@[simp] theorem dem_bp (i o:Nat):dem (.bp i o)= .bp i o:=rfl
@[simp] theorem dem_bv (i e o n c:Nat):dem (.bv i e o n c)= .bv i e o n c:=rfl
@[simp] theorem dem_ep (cs:List z0a):dem (.ep cs)= .ep cs:=rfl
@[simp] theorem dem_fn (f:Nat) (x y:List z0a):dem (.fn f x y)= .fn f x y:=rfl
@[simp] theorem z5ga (v:Value):dem (.lit v)= .lit v:=rfl
@[simp] theorem z1ha (e:Nat) (nl:Option Bool) (n:Nat) (cs:List z0a):dem (.sl (.own e) nl n cs)= .sl .plain nl n cs:=rfl
@[simp] theorem z70 (nl:Option Bool) (n:Nat) (cs:List z0a):dem (.sl .plain nl n cs)= .sl .plain nl n cs:=rfl
@[simp] theorem z8ea (nl:Option Bool) (n:Nat) (cs:List z0a):dem (.sl .clip nl n cs)= .sl .clip nl n cs:=rfl
@[simp] theorem z9T (cs:List z0a):z8a (.agg cs)=False:=rfl
@[simp] theorem z76 (m:z5r) (nl:Option Bool) (n:Nat) (cs:List z0a):z8a (.sl m nl n cs)=True:=rfl
@[simp] theorem z64 (i o:Nat):z8a (.bp i o)=True:=rfl
@[simp] theorem z75 (i e o n c:Nat):z8a (.bv i e o n c)=True:=rfl
@[simp] theorem z16 (f:Nat) (x y:List z0a):z8a (.fn f x y)=True:=rfl
@[simp] theorem z92 (cs:List z0a):z8a (.ep cs)=True:=rfl
@[simp] theorem z8V:z8a (.lit (.slice none 0 0))=True:=rfl
@[simp] theorem z52 (cs:List z0a):z0b (.agg cs)=z8b cs:=rfl
@[simp] theorem z0Y (cs:List z0a):z0b (.tup cs)=z8b cs:=rfl
@[simp] theorem z19 (m:z5r) (nl:Option Bool) (n:Nat) (cs:List z0a):z0b (.sl m nl n cs)=true:=by cases m<;>rfl
@[simp] theorem z1fa (cs:List z0a):z0b (.ep cs)=true:=rfl
@[simp] theorem z0ba (i o:Nat):z0b (.bp i o)=false:=rfl
@[simp] theorem z2da (i e o n c:Nat):z0b (.bv i e o n c)=false:=rfl
@[simp] theorem z3ea (f:Nat) (x y:List z0a):z0b (.fn f x y)=(z8b x&&z8b y):=rfl
@[simp] theorem z50:z0b (.lit (.slice none 0 0))=true:=rfl
@[simp] theorem z8H (cs:List z0a):z6c (.agg cs)=z7a cs:=rfl
@[simp] theorem z2P (cs:List z0a):z6c (.tup cs)=z7a cs:=rfl
@[simp] theorem z3N:z6c (.lit (.slice none 0 0))=true:=rfl
@[simp] theorem z7S (m:z5r) (nl:Option Bool) (n:Nat) (cs:List z0a):z6c (.sl m nl n cs)=false:=by cases m<;>rfl
@[simp] theorem z8aa (cs:List z0a):z3d (.agg cs)=z6b cs:=rfl
@[simp] theorem z99 (cs:List z0a):z3d (.tup cs)=z6b cs:=rfl
@[simp] theorem z9ha (m:z5r) (nl:Option Bool) (n:Nat) (cs:List z0a):z3d (.sl m nl n cs)=[]:=by cases m<;>rfl
@[simp] theorem z1oa (i o:Nat):z3d (.bp i o)=[i]:=rfl
@[simp] theorem z1ja (i e o n c:Nat):z3d (.bv i e o n c)=[i]:=rfl
@[simp] theorem z8ia (cs:List z0a):z3d (.ep cs)=[]:=rfl
@[simp] theorem z6ia (f:Nat) (x y:List z0a):z3d (.fn f x y)=z6b x++z6b y:=rfl
@[simp] theorem z6R:z3d .undef=[]:=rfl
@[simp] theorem z0ca (v:Value):z3d (.lit v)=[]:=rfl
@[simp] theorem z6P (e:Nat) (nl:Option Bool) (n:Nat) (cs:List z0a):z5b (.sl (.own e) nl n cs)=true:=rfl
@[simp] theorem z3G (nl:Option Bool) (n:Nat) (cs:List z0a):z5b (.sl .plain nl n cs)=false:=rfl
@[simp] theorem z7N (nl:Option Bool) (n:Nat) (cs:List z0a):z5b (.sl .clip nl n cs)=false:=rfl
@[simp] theorem z26 (i o:Nat):z5b (.bp i o)=false:=rfl
@[simp] theorem z11 (i e o n c:Nat):z5b (.bv i e o n c)=false:=rfl
@[simp] theorem z3Q (cs:List z0a):z4c (.agg cs)=cs:=rfl
@[simp] theorem z5X (m:z5r) (nl:Option Bool) (n:Nat) (cs:List z0a):z4c (.sl m nl n cs)=[.sl m nl n cs]:=rfl
@[simp] theorem z7R:z4c (.lit (.slice none 0 0))=[.lit (.slice none 0 0)]:=rfl
@[simp] theorem z10 (i o:Nat):z4c (.bp i o)=[.bp i o]:=rfl
@[simp] theorem z7X (f:Nat) (x y:List z0a):z4c (.fn f x y)=[.fn f x y]:=rfl
@[simp] theorem z6ka (m:z5r) (nl:Option Bool) (n:Nat) (cs:List z0a):z7e (.sl m nl n cs)=n:=rfl
@[simp] theorem z5ka (i e o n c:Nat):z7e (.bv i e o n c)=n:=rfl
@[simp] theorem z18:z7e (.lit (.slice none 0 0))=0:=rfl
@[simp] theorem z30 (bx:List z0a) (m:z5r) (nl:Option Bool) (n:Nat) (cs:List z0a):z0c bx (.sl m nl n cs)=cs:=rfl
@[simp] theorem z24 (bx:List z0a) (i e o n c:Nat):z0c bx (.bv i e o n c)=(bx.drop o).take (n*e):=rfl
@[simp] theorem z2Q (bx:List z0a):z0c bx (.lit (.slice none 0 0))=[]:=rfl
@[simp] theorem z2oa (m:z5r) (nl:Option Bool) (n:Nat) (cs:List z0a):z4aa (.sl m nl n cs)=True:=rfl
@[simp] theorem z9ma (i e o n c:Nat):z4aa (.bv i e o n c)=True:=rfl
@[simp] theorem z29:z4aa (.lit (.slice none 0 0))=True:=rfl
@[simp] theorem okS_sl (esz:Nat) (b:Option Nat) (bx:Option (List z0a)) (m:z5r) (nl:Option Bool) (n:Nat) (cs:List z0a):okS esz b bx (.sl m nl n cs)=(cs.length=n*esz):=rfl
@[simp] theorem okS_bv (esz:Nat) (b:Option Nat) (bx:Option (List z0a)) (i e o n c:Nat):okS esz b bx (.bv i e o n c)=(b=some i∧e=esz∧(∃cs,bx=some cs∧o+n*e≤cs.length)):=rfl
@[simp] theorem z8ka (esz:Nat) (b:Option Nat) (bx:Option (List z0a)):okS esz b bx (.lit (.slice none 0 0))=True:=rfl
@[simp] theorem z3fa (f:Nat→Option (List z0a)) (b:Option Nat) (n i o:Nat):z1o f b n (.bp i o)=(b=some i∧∃cs,f i=some cs∧o+n≤cs.length):=rfl
@[simp] theorem z58 (f:Nat→Option (List z0a)) (b:Option Nat) (n:Nat) (cs:List z0a):z1o f b n (.ep cs)=(b=none∧n≤cs.length):=rfl
@[simp] theorem z6J (f:Nat→Option (List z0a)) (b:Option Nat) (i o:Nat):z6d f b (.bp i o)=(bxl f b).drop o:=rfl
@[simp] theorem z8N (f:Nat→Option (List z0a)) (b:Option Nat) (cs:List z0a):z6d f b (.ep cs)=cs:=rfl
@[simp] theorem z2O (v:z0a):z7p none v=[dem v]:=rfl
@[simp] theorem z1J (n:Nat) (v:z0a):z7p (some n) v=z4c v:=rfl
@[simp] theorem z48 (v:z0a):isK none v=z8a v:=rfl
@[simp] theorem z9ea (n:Nat) (cs:List z0a):isK (some n) (.agg cs)=(cs.length=n∧(∀c∈cs,z8a c)∧(∀c∈cs,z5b c=false)):=rfl
@[simp] theorem z4X (f:Nat) (x y as:List z0a):z9f (.fn f x y) as=x++as++y:=rfl
@[simp] theorem z43 (f:Nat→List z0a) (x:UInt8):z1k f (u8 x)=u8 x:=rfl
@[simp] theorem z88 (f:Nat→List z0a) (x:UInt8):z5e f (u8 x)=u8 x:=rfl
@[simp] theorem z66 (f:Nat→List z0a) (x:UInt32):z5e f (u32 x)=u32 x:=rfl
@[simp] theorem z34 (f:Nat→List z0a) (x:UInt64):z5e f (u64 x)=u64 x:=rfl
@[simp] theorem z20 (f:Nat→List z0a) (x:Int):z5e f (i64 x)=i64 x:=rfl
@[simp] theorem z69 (f:Nat→List z0a) (x:Bool):z5e f (bo x)=bo x:=rfl
@[simp] theorem z0fa (f:Nat→List z0a) (x:List UInt8):z5e f (st x)=st x:=rfl
@[simp] theorem z13 (f:Nat→List z0a) (x:List z0a):z5e f (.agg x)= .agg x:=rfl
@[simp] theorem z21 (f:Nat→List z0a):z5e f (.lit (.slice none 0 0))= .sl .plain (some true) 0 []:=rfl
@[simp] theorem z44 (f:Nat→List z0a) (e:Nat) (nl:Option Bool) (n:Nat) (cs:List z0a):z5e f (.sl (.own e) nl n cs)= .sl .plain nl n cs:=rfl
@[simp] theorem z5I (f:Nat→List z0a) (nl:Option Bool) (n:Nat) (cs:List z0a):z5e f (.sl .plain nl n cs)= .sl .plain nl n cs:=rfl
@[simp] theorem z3R (f:Nat→List z0a) (nl:Option Bool) (n:Nat) (cs:List z0a):z5e f (.sl .clip nl n cs)= .sl .plain nl n cs:=rfl
@[simp] theorem z5fa (f:Nat→List z0a) (i o:Nat):z5e f (.bp i o)= .ep ((f i).drop o):=rfl
@[simp] theorem z3ca (f:Nat→List z0a) (i e o n c:Nat):z5e f (.bv i e o n c)= .sl .plain (some false) n (((f i).drop o).take (n*e)):=rfl
@[simp] theorem z77 (f:Nat→List z0a) (cs:List z0a):z5e f (.ep cs)= .ep cs:=rfl
@[simp] theorem z89 (f:Nat→List z0a) (g:Nat) (x y:List z0a):z5e f (.fn g x y)= .fn g (x.map (z1k f)) (y.map (z1k f)):=rfl
@[simp] theorem z67 (bs:List Nat) (f:Nat→Option (List z0a)) (x:UInt8):z0d bs f (u8 x)=True:=by simp[z0d,z8e,u8,z0b]
@[simp] theorem z8Y (bs:List Nat) (f:Nat→Option (List z0a)) (x:UInt32):z0d bs f (u32 x)=True:=by simp[z0d,z8e,u32,z0b]
@[simp] theorem z3Y (bs:List Nat) (f:Nat→Option (List z0a)) (x:UInt64):z0d bs f (u64 x)=True:=by simp[z0d,z8e,u64,z0b]
@[simp] theorem z04 (bs:List Nat) (f:Nat→Option (List z0a)) (x:Int):z0d bs f (i64 x)=True:=by simp[z0d,z8e,i64,z0b]
@[simp] theorem z4fa (bs:List Nat) (f:Nat→Option (List z0a)) (x:Bool):z0d bs f (bo x)=True:=by simp[z0d,z8e,bo,z0b]
@[simp] theorem z98 (bs:List Nat) (f:Nat→Option (List z0a)) (x:List UInt8):z0d bs f (st x)=True:=by simp[z0d,z8e,st,z0b]
@[simp] theorem z84 (bs:List Nat) (f:Nat→Option (List z0a)) (x:List z0a):z0d bs f (.agg x)=(z8b x=true):=rfl
@[simp] theorem z5aa (bs:List Nat) (f:Nat→Option (List z0a)) (m:z5r) (nl:Option Bool) (n:Nat) (cs:List z0a):z0d bs f (.sl m nl n cs)=True:=by simp[z0d,z8e]
@[simp] theorem z1X (bs:List Nat) (f:Nat→Option (List z0a)):z0d bs f (.lit (.slice none 0 0))=True:=by simp[z0d,z8e]
@[simp] theorem z59 (bs:List Nat) (f:Nat→Option (List z0a)) (i o:Nat):z0d bs f (.bp i o)=(i∈bs∧∃cs,f i=some cs∧o≤cs.length):=rfl
@[simp] theorem z6ea (bs:List Nat) (f:Nat→Option (List z0a)) (i e o n c:Nat):z0d bs f (.bv i e o n c)=(i∈bs∧∃cs,f i=some cs∧o+n*e≤cs.length):=rfl
@[simp] theorem z6aa (bs:List Nat) (f:Nat→Option (List z0a)) (cs:List z0a):z0d bs f (.ep cs)=True:=by simp[z0d,z8e]

/-! ### Whether operations may go ahead -/
@[simp] theorem z9N (x:UInt32) (n:Int):z3a .shr (u32 x) (i64 n)=(0≤n):=rfl
@[simp] theorem z1I (x:UInt32) (n:Int):z3a .shl (u32 x) (i64 n)=(0≤n):=rfl
@[simp] theorem z0K (x:UInt64) (n:Int):z3a .shr (u64 x) (i64 n)=(0≤n):=rfl
@[simp] theorem z0P (x:UInt64) (n:Int):z3a .shl (u64 x) (i64 n)=(0≤n):=rfl
@[simp] theorem z3D (x:UInt32) (n:UInt64):z3a .shr (u32 x) (u64 n)=True:=by simp[z3a,u32,u64]
@[simp] theorem z4D (x:UInt32) (n:UInt64):z3a .shl (u32 x) (u64 n)=True:=by simp[z3a,u32,u64]
@[simp] theorem z4E (x:UInt64) (n:UInt64):z3a .shr (u64 x) (u64 n)=True:=by simp[z3a,u64]
@[simp] theorem z0H (x:UInt64) (n:UInt64):z3a .shl (u64 x) (u64 n)=True:=by simp[z3a,u64]
@[simp] theorem z89d (x y:Int):z3a .quo (i64 x) (i64 y)=(y≠0):=by simp[z3a,i64]
@[simp] theorem z6Z (x y:Int):z3a .rem (i64 x) (i64 y)=(y≠0):=by simp[z3a,i64]
@[simp] theorem z6I (x y:UInt64):z3a .rem (u64 x) (u64 y)=(y≠0):=by
 simp only[z3a,u64,true_and,ne_eq,Int.natCast_eq_zero,←UInt64.toNat_inj]
 rfl
@[simp] theorem z0G (x y:UInt8):z3a .add (u8 x) (u8 y)=True:=by simp[z3a,u8]
@[simp] theorem z9z (x y:UInt32):z3a .add (u32 x) (u32 y)=True:=by simp[z3a,u32]
@[simp] theorem z6x (x y:UInt64):z3a .add (u64 x) (u64 y)=True:=by simp[z3a,u64]
@[simp] theorem z8x (x y:Int):z3a .add (i64 x) (i64 y)=True:=by simp[z3a,i64]
@[simp] theorem z3H (x y:UInt8):z3a .sub (u8 x) (u8 y)=True:=by simp[z3a,u8]
@[simp] theorem z8z (x y:UInt32):z3a .sub (u32 x) (u32 y)=True:=by simp[z3a,u32]
@[simp] theorem z5x (x y:UInt64):z3a .sub (u64 x) (u64 y)=True:=by simp[z3a,u64]
@[simp] theorem z4B (x y:Int):z3a .sub (i64 x) (i64 y)=True:=by simp[z3a,i64]
@[simp] theorem z9E (x y:UInt8):z3a .mul (u8 x) (u8 y)=True:=by simp[z3a,u8]
@[simp] theorem z6w (x y:UInt32):z3a .mul (u32 x) (u32 y)=True:=by simp[z3a,u32]
@[simp] theorem z9A (x y:UInt64):z3a .mul (u64 x) (u64 y)=True:=by simp[z3a,u64]
@[simp] theorem z0C (x y:Int):z3a .mul (i64 x) (i64 y)=True:=by simp[z3a,i64]
@[simp] theorem z4F (x y:UInt8):z3a .and (u8 x) (u8 y)=True:=by simp[z3a,u8]
@[simp] theorem z4x (x y:UInt32):z3a .and (u32 x) (u32 y)=True:=by simp[z3a,u32]
@[simp] theorem z9x (x y:UInt64):z3a .and (u64 x) (u64 y)=True:=by simp[z3a,u64]
@[simp] theorem z3x (x y:Int):z3a .and (i64 x) (i64 y)=True:=by simp[z3a,i64]
@[simp] theorem z7H (x y:UInt8):z3a .or (u8 x) (u8 y)=True:=by simp[z3a,u8]
@[simp] theorem z8C (x y:UInt32):z3a .or (u32 x) (u32 y)=True:=by simp[z3a,u32]
@[simp] theorem z8D (x y:UInt64):z3a .or (u64 x) (u64 y)=True:=by simp[z3a,u64]
@[simp] theorem z1D (x y:Int):z3a .or (i64 x) (i64 y)=True:=by simp[z3a,i64]
@[simp] theorem z1F (x y:UInt8):z3a .xor (u8 x) (u8 y)=True:=by simp[z3a,u8]
@[simp] theorem z0x (x y:UInt32):z3a .xor (u32 x) (u32 y)=True:=by simp[z3a,u32]
@[simp] theorem z1z (x y:UInt64):z3a .xor (u64 x) (u64 y)=True:=by simp[z3a,u64]
@[simp] theorem z1x (x y:Int):z3a .xor (i64 x) (i64 y)=True:=by simp[z3a,i64]
@[simp] theorem z6G (x y:UInt8):z3a .eql (u8 x) (u8 y)=True:=by simp[z3a,u8]
@[simp] theorem z4y (x y:UInt32):z3a .eql (u32 x) (u32 y)=True:=by simp[z3a,u32]
@[simp] theorem z4A (x y:UInt64):z3a .eql (u64 x) (u64 y)=True:=by simp[z3a,u64]
@[simp] theorem z8w (x y:Int):z3a .eql (i64 x) (i64 y)=True:=by simp[z3a,i64]
@[simp] theorem z9C (x y:UInt8):z3a .neq (u8 x) (u8 y)=True:=by simp[z3a,u8]
@[simp] theorem z8y (x y:UInt32):z3a .neq (u32 x) (u32 y)=True:=by simp[z3a,u32]
@[simp] theorem z7A (x y:UInt64):z3a .neq (u64 x) (u64 y)=True:=by simp[z3a,u64]
@[simp] theorem z3C (x y:Int):z3a .neq (i64 x) (i64 y)=True:=by simp[z3a,i64]
@[simp] theorem z6C (x y:UInt8):z3a .lss (u8 x) (u8 y)=True:=by simp[z3a,u8]
@[simp] theorem z5B (x y:UInt32):z3a .lss (u32 x) (u32 y)=True:=by simp[z3a,u32]
@[simp] theorem z7w (x y:UInt64):z3a .lss (u64 x) (u64 y)=True:=by simp[z3a,u64]
@[simp] theorem z9B (x y:Int):z3a .lss (i64 x) (i64 y)=True:=by simp[z3a,i64]
@[simp] theorem z2G (x y:UInt8):z3a .leq (u8 x) (u8 y)=True:=by simp[z3a,u8]
@[simp] theorem z6A (x y:UInt32):z3a .leq (u32 x) (u32 y)=True:=by simp[z3a,u32]
@[simp] theorem z7y (x y:UInt64):z3a .leq (u64 x) (u64 y)=True:=by simp[z3a,u64]
@[simp] theorem z6B (x y:Int):z3a .leq (i64 x) (i64 y)=True:=by simp[z3a,i64]
@[simp] theorem z5E (x y:UInt8):z3a .gtr (u8 x) (u8 y)=True:=by simp[z3a,u8]
@[simp] theorem z2y (x y:UInt32):z3a .gtr (u32 x) (u32 y)=True:=by simp[z3a,u32]
@[simp] theorem z7x (x y:UInt64):z3a .gtr (u64 x) (u64 y)=True:=by simp[z3a,u64]
@[simp] theorem z8B (x y:Int):z3a .gtr (i64 x) (i64 y)=True:=by simp[z3a,i64]
@[simp] theorem z2H (x y:UInt8):z3a .geq (u8 x) (u8 y)=True:=by simp[z3a,u8]
@[simp] theorem z2z (x y:UInt32):z3a .geq (u32 x) (u32 y)=True:=by simp[z3a,u32]
@[simp] theorem z5w (x y:UInt64):z3a .geq (u64 x) (u64 y)=True:=by simp[z3a,u64]
@[simp] theorem z7z (x y:Int):z3a .geq (i64 x) (i64 y)=True:=by simp[z3a,i64]
@[simp] theorem z9D (x y:List UInt8):z3a .eql (st x) (st y)=True:=rfl
@[simp] theorem z7D (x y:List UInt8):z3a .neq (st x) (st y)=True:=rfl
@[simp] theorem z8E (x y:List UInt8):z3a .lss (st x) (st y)=True:=rfl
@[simp] theorem z0E (x y:List UInt8):z3a .leq (st x) (st y)=True:=rfl
@[simp] theorem z2E (x y:List UInt8):z3a .gtr (st x) (st y)=True:=rfl
@[simp] theorem z3E (x y:List UInt8):z3a .geq (st x) (st y)=True:=rfl
@[simp] theorem z9G (x y:List UInt8):z3a .add (st x) (st y)=(((x.length+y.length:Nat):Int)≤9223372036854775807):=rfl
@[simp] theorem z3V (x y:List UInt8):z9c .add (st x) (st y)=st (x++y):=by
 show z0a.lit (.string (ByteArray.mk x.toArray++ByteArray.mk y.toArray))=_
 rw[st]
 congr 2
@[simp] theorem z8T (x y:List UInt8):z9c .eql (st x) (st y)=bo (decide (x=y)):=by
 show z0a.lit (.bool ((ByteArray.mk x.toArray).toList==(ByteArray.mk y.toArray).toList))=_
 rw[bo,ByteArray.toList_eq,ByteArray.toList_eq]
 congr 2
 rw[Bool.eq_iff_iff]
 simp
@[simp] theorem z9Q (x y:List UInt8):z9c .neq (st x) (st y)=bo (!decide (x=y)):=by
 show z0a.lit (.bool (!((ByteArray.mk x.toArray).toList==(ByteArray.mk y.toArray).toList)))=_
 rw[bo,ByteArray.toList_eq,ByteArray.toList_eq]
 congr 2
 rw[Bool.eq_iff_iff]
 simp
@[simp] theorem z8ba (x:Int):z5S .neg (i64 x)=True:=rfl
@[simp] theorem z9ba (x:Bool):z5S .not (bo x)=True:=rfl
@[simp] theorem z9U (x:UInt32):z5S .xor (u32 x)=True:=rfl
@[simp] theorem z4T (x:UInt64):z5S .xor (u64 x)=True:=rfl

attribute [simp] lk ASt.get ASt.getB z9i z2l z9v arg bxc bxl bnd z2g z6a.W AOp.wrS z5g z1e z6b z9F z6j z8b z7a
attribute [simp] z97 z6K z8Bc z1K z0X
def z5P (wr:List Nat):Nat→List z0a→List (Nat×z0a)
 |_,[]=>[]
 |i,d::ds=>if wr.contains i then z5P wr (i+1) ds else(i,d)::z5P wr (i+1) ds
def z1V (wr:List Nat):Nat→List z0a→List (Nat×z0a)
 |_,[]=>[]
 |i,d::ds=>if wr.contains i then(i,dem d)::z1V wr (i+1) ds else z1V wr (i+1) ds
theorem z7s (wr:List Nat):∀(ds:List z0a) (i:Nat),z5P wr i ds=(z4e i ds).filter fun p=> !wr.contains p.1
 |[],i=>rfl
 |d::ds,i=>by
  rw[z5P,z4e,List.filter_cons,z7s wr ds]
  show(if wr.contains i=true then _ else _)=if(!wr.contains i)=true then _ else _
  cases wr.contains i<;>rfl
theorem z8t (wr:List Nat):∀(ds:List z0a) (i:Nat),z1V wr i ds=((z4e i ds).filter fun p=>wr.contains p.1).map fun p=>(p.1,dem p.2)
 |[],i=>rfl
 |d::ds,i=>by
  rw[z1V,z4e,List.filter_cons,z8t wr ds]
  show(if wr.contains i=true then _ else _)=List.map _ (if wr.contains i=true then _ else _)
  cases wr.contains i<;>rfl
@[simp] theorem z93 (wr:List Nat) (ds:List z0a):z4H wr ds=⟨z5P wr 0 ds,z1V wr 0 ds,[]⟩:=by rw[z7s,z8t];rfl
attribute [simp] z5P z1V

@[simp] theorem z1da (E:Env) (Q:z5c→ASt→Prop) (s:ASt):awp E .skip Q s=Q .normal s:=rfl
def z1R (Q:z5c→ASt→Prop):List z0h→ASt→Prop
 |[],st=>Q .normal st
 |g::gs,st=>z9i g st∧z1R Q gs (z1b g st)
def z0R (E:Env) (keep:List Nat) (gs:List z0h) (Q:z5c→ASt→Prop):List z6a→ASt→Prop
 |[],st=>z1R Q gs (z2o keep st)
 |o::os,st=>okA E o st∧z0R E keep gs Q os (z9a E o st)
theorem z1t (Q:z5c→ASt→Prop):∀(gs:List z0h) (st:ASt),z1R Q gs st=(z6S gs st∧Q .normal (z7q gs st))
 |[],st=>by simp[z1R,z6S,z7q]
 |g::gs,st=>by simp only[z1R,z6S,z7q,z1t Q gs];exact propext and_assoc.symm
theorem z7v (E:Env) (keep:List Nat) (gs:List z0h) (Q:z5c→ASt→Prop):∀(xs:List z6a) (st:ASt),z0R E keep gs Q xs st=(z5t E xs st∧z6S gs (z2o keep (z8I E xs st))∧Q .normal (z7q gs (z2o keep (z8I E xs st))))
 |[],st=>by simp only[z0R,z5t,z8I,true_and];exact z1t Q gs _
 |o::os,st=>by simp only[z0R,z5t,z8I,z7v E keep gs Q os];exact propext and_assoc.symm
@[simp] theorem z1W (E:Env) (keep:List Nat) (gs:List z0h) (xs:List z6a) (Q:z5c→ASt→Prop) (s:ASt):
  awp E (.region keep gs xs) Q s=z0R E keep gs Q xs s:=(z7v E keep gs Q xs s).symm
def z56 (o e:List (Nat×z0a)) (b:List (Nat×Option (List z0a))) (d:Nat) (x:Eff):ASt:=⟨o,(d,x.val)::(x.sl++e),x.bx++b⟩
def put0 (o e:List (Nat×z0a)) (b:List (Nat×Option (List z0a))) (x:Eff):ASt:=⟨o,x.sl++e,x.bx++b⟩
def z6o (o e:List (Nat×z0a)) (b:List (Nat×Option (List z0a))) (d:Nat) (t:Bool) (x:Eff):ASt:=if t then z56 o e b d x else⟨o,(d,z7j)::e,b⟩
@[simp] theorem z4oa (o e:List (Nat×z0a)) (b:List (Nat×Option (List z0a))) (d:Nat) (v:z0a) (sl:List (Nat×z0a)) (bx:List (Nat×Option (List z0a))):z56 o e b d ⟨v,sl,bx⟩=⟨o,(d,v)::(sl++e),bx++b⟩:=rfl
@[simp] theorem z0ia (o e:List (Nat×z0a)) (b:List (Nat×Option (List z0a))) (v:z0a) (sl:List (Nat×z0a)) (bx:List (Nat×Option (List z0a))):put0 o e b ⟨v,sl,bx⟩=⟨o,sl++e,bx++b⟩:=rfl
@[simp] theorem z2fa (o e:List (Nat×z0a)) (b:List (Nat×Option (List z0a))) (d:Nat) (x:Eff):z6o o e b d true x=z56 o e b d x:=rfl
@[simp] theorem z5da (o e:List (Nat×z0a)) (b:List (Nat×Option (List z0a))) (d:Nat) (x:Eff):z6o o e b d false x=⟨o,(d,z7j)::e,b⟩:=rfl
@[simp] theorem z73 (E:Env) (d:Nat) (op:AOp) (o e:List (Nat×z0a)) (b:List (Nat×Option (List z0a))):
  z9a E ⟨some d,none,op⟩ ⟨o,e,b⟩=z56 o e b d (eff E (ASt.get ⟨o,e,b⟩) (ASt.getB ⟨o,e,b⟩) op):=rfl
@[simp] theorem z74 (E:Env) (op:AOp) (o e:List (Nat×z0a)) (b:List (Nat×Option (List z0a))):
  z9a E ⟨none,none,op⟩ ⟨o,e,b⟩=put0 o e b (eff E (ASt.get ⟨o,e,b⟩) (ASt.getB ⟨o,e,b⟩) op):=rfl
@[simp] theorem z8U (E:Env) (d s:Nat) (w:Bool) (op:AOp) (o e:List (Nat×z0a)) (b:List (Nat×Option (List z0a))):
  z9a E ⟨some d,some (s,w),op⟩ ⟨o,e,b⟩=z6o o e b d (z4G (ASt.get ⟨o,e,b⟩ s) w) (eff E (ASt.get ⟨o,e,b⟩) (ASt.getB ⟨o,e,b⟩) op):=by
 simp only[z9a,z6o,z56]
 generalize z4G (ASt.get ⟨o,e,b⟩ s) w=t
 cases t<;>simp
@[simp] theorem z3na (x w:Bool):z4G (bo x) w=(x==w):=rfl
@[simp] theorem z3Ud (w:Bool):z4G z7j w=false:=rfl
@[simp] theorem okG_bo (x:Bool):okG (bo x)=True:=eq_true (.inl trivial)
@[simp] theorem z3ba:okG z7j=True:=eq_true (.inr rfl)
@[simp] theorem z7ca:dem z7j=z7j:=rfl
@[simp] theorem z91:z3d z7j=[]:=rfl
attribute [simp] z1R z0R
def z3n (f:Nat→z0a):List Nat→List (Nat×z0a)
 |[]=>[]
 |s::l=>(s,f s)::z3n f l
def z0v (f:Nat→Option (List z0a)):List Nat→List (Nat×Option (List z0a))
 |[]=>[]
 |s::l=>(s,f s)::z0v f l
def z8n (ids:List Nat):List (Nat×Option (List z0a))→List (Nat×Option (List z0a))
 |[]=>[]
 |p::l=>if ids.contains p.1 then z8n ids l else p::z8n ids l
theorem z4l (f:Nat→z0a):∀l,z3n f l=l.map fun s=>(s,f s)
 |[]=>rfl
 |s::l=>by rw[z3n,z4l f l];rfl
theorem z6p (f:Nat→Option (List z0a)):∀l,z0v f l=l.map fun s=>(s,f s)
 |[]=>rfl
 |s::l=>by rw[z0v,z6p f l];rfl
theorem z1l (ids:List Nat):∀l,z8n ids l=l.filter fun p=> !ids.contains p.1
 |[]=>rfl
 |p::l=>by
  rw[z8n,z1l ids l,List.filter_cons]
  cases ids.contains p.1<;>rfl
attribute [simp] z3n z0v z8n
@[simp] theorem z5C (keep:List Nat) (o e:List (Nat×z0a)) (b:List (Nat×Option (List z0a))):z2o keep ⟨o,e,b⟩=⟨o,z3n (ASt.get ⟨o,e,b⟩) keep,b⟩:=by rw[z4l];rfl
@[simp] theorem z7ga (ids:List Nat) (o e:List (Nat×z0a)) (b:List (Nat×Option (List z0a))):z1b (.norm ids) ⟨o,e,b⟩=⟨o,e,z0v (ASt.getB ⟨o,e,b⟩) ids⟩:=by rw[z6p];rfl
@[simp] theorem z5na (ids:List Nat) (o e:List (Nat×z0a)) (b:List (Nat×Option (List z0a))):z1b (.drop ids) ⟨o,e,b⟩=⟨o,e,z8n ids b⟩:=by rw[z1l];rfl
def z1r (s:Nat):List (Nat×z0a)→List (Nat×z0a)
 |[]=>[]
 |(k,v)::l=>if k=s then z1r s l else(k,v)::z1r s l
theorem z4p (s:Nat):∀l,z1r s l=l.filter fun p=>decide (p.1≠s)
 |[]=>rfl
 |(k,v)::l=>by
  rw[z1r,z4p s l,List.filter_cons]
  by_cases h:k=s<;>simp[h]
attribute [simp] z1r
@[simp] theorem z38 (s:Nat) (o e:List (Nat×z0a)) (b:List (Nat×Option (List z0a))):z1b (.unorg s) ⟨o,e,b⟩=⟨z1r s o,(s,ASt.get ⟨o,e,b⟩ s)::e,b⟩:=by rw[z4p];rfl
def z3L (b i:Nat) (x:Option (List z0a)) (box:List (Nat×Option (List z0a))):List (Nat×Option (List z0a)):=match x with|some bs=>(b,some (bs.set i .undef))::box|none=>box
@[simp] theorem z6T (b i:Nat) (bs:List z0a) (box:List (Nat×Option (List z0a))):z3L b i (some bs) box=(b,some (bs.set i .undef))::box:=rfl
@[simp] theorem z8ca (b i:Nat) (o e:List (Nat×z0a)) (box:List (Nat×Option (List z0a))):z1b (.hideB b i) ⟨o,e,box⟩=⟨o,e,z3L b i (ASt.getB ⟨o,e,box⟩ b) box⟩:=by
 simp only[z1b,z3L]
 split<;>simp_all
def reL (b i:Nat) (r:Option Nat) (x:Option (List z0a)) (box:List (Nat×Option (List z0a))):List (Nat×Option (List z0a)):=match x with|some bs=>(b,some (bs.set i (z1m r (bs.getD i .undef))))::box|none=>box
@[simp] theorem z68 (b i:Nat) (r:Option Nat) (bs:List z0a) (box:List (Nat×Option (List z0a))):reL b i r (some bs) box=(b,some (bs.set i (z1m r (bs.getD i .undef))))::box:=rfl
@[simp] theorem reB_mk (b i:Nat) (r:Option Nat) (o e:List (Nat×z0a)) (box:List (Nat×Option (List z0a))):z1b (.reB b i r) ⟨o,e,box⟩=⟨o,e,reL b i r (ASt.getB ⟨o,e,box⟩ b) box⟩:=by
 simp only[z1b,reL]
 split<;>simp_all
@[simp] theorem z9I (c:z0a):z1m none c=dem c:=rfl
@[simp] theorem z2W (e:Nat):z1m (some e) (.sl .plain (some true) 0 [])= .sl (.own e) none 0 []:=rfl
@[simp] theorem z9ga (keep:List Nat) (o e:List (Nat×z0a)) (b:List (Nat×Option (List z0a))):z1b (.keep keep) ⟨o,e,b⟩=⟨o,z3n (ASt.get ⟨o,e,b⟩) keep,b⟩:=z5C keep o e b
@[simp] theorem z4Z (ids:List Nat) (o e:List (Nat×z0a)) (b:List (Nat×Option (List z0a))):z1b (.freeze ids) ⟨o,e,b⟩=
  ⟨o,e.map fun p=>(p.1,z9F ids (fun id=>(ASt.getB ⟨o,e,b⟩ id).getD []) p.2),(z8n ids b).map fun p=>(p.1,p.2.map (z6j ids fun id=>(ASt.getB ⟨o,e,b⟩ id).getD []))⟩:=by rw[z1l];rfl
@[simp] theorem z4ia (E:Env) (a b:z1c) (Q:z5c→ASt→Prop) (s:ASt):awp E (.seq a b) Q s=awp E a (z2l (awp E b Q) Q) s:=rfl
theorem z4h (E:Env) (c:Arg) (a b:z1c) (Q:z5c→ASt→Prop) (s:ASt):
  awp E (.cond c a b) Q s=(isB (arg E s.get c)∧(asB (arg E s.get c)=true→awp E a Q s)∧(asB (arg E s.get c)=false→awp E b Q s)):=rfl
@[simp] theorem z02 (E:Env) (id:Nat) (b:z1c) (Q:z5c→ASt→Prop) (s:ASt):awp E (.block id b) Q s=awp E b (z9v id Q) s:=rfl
@[simp] theorem z9Z (E:Env) (b:z1c) (Q:z5c→ASt→Prop) (s:ASt):awp E (.scope b) Q s=awp E b Q s:=rfl
@[simp] theorem z39 (E:Env) (id:Nat) (Q:z5c→ASt→Prop) (s:ASt):awp E (.exit id) Q s=Q (.exit id) s:=rfl
@[simp] theorem z9na (E:Env) (Q:z5c→ASt→Prop) (s:ASt):awp E .ret Q s=Q .ret s:=rfl
@[simp] theorem z80 (E:Env) (g:z0h) (c:z1c) (Q:z5c→ASt→Prop) (s:ASt):awp E (.ghost g c) Q s=(z9i g s∧awp E c Q (z1b g s)):=rfl

attribute [simp] okA eff okp okp.okApp z3k z6q

/-! ### Reading arguments -/
def nth (ds:List z0a) (i:Nat):z0a:=ds.getD i .undef
def gU8 (v:z0a):UInt8:=UInt8.ofInt (asI v)
def z3ka (v:z0a):UInt32:=UInt32.ofInt (asI v)
def z2ha (v:z0a):UInt64:=UInt64.ofInt (asI v)
def gS (v:z0a):List UInt8:=(asS v).data.toList
def gCs (v:z0a):List z0a:=match v with| .agg cs=>cs| .sl _ _ _ cs=>cs| .ep cs=>cs| .tup cs=>cs|_=>[]
def gBs (l:List z0a):List UInt8:=l.map gU8
def gWs (l:List z0a):List UInt32:=l.map z3ka
@[simp] theorem nth_0 (d:z0a) (ds:List z0a):nth (d::ds) 0=d:=rfl
@[simp] theorem nth_s (d:z0a) (ds:List z0a) (i:Nat):nth (d::ds) (i+1)=nth ds i:=rfl
@[simp] theorem z0F (x:UInt8):gU8 (u8 x)=x:=by
 apply UInt8.toNat_inj.1
 rw[gU8,z6t,z7C]
 have:=x.toNat_lt
 omega
@[simp] theorem z9p (x:UInt32):z3ka (u32 x)=x:=by
 apply UInt32.toNat_inj.1
 rw[z3ka,z7t,z0M]
 have:=x.toNat_lt
 omega
@[simp] theorem z8p (x:UInt64):z2ha (u64 x)=x:=by
 apply UInt64.toNat_inj.1
 rw[z2ha,z3l,z6M]
 have:=x.toNat_lt
 omega
@[simp] theorem z51 (l:List UInt8):gS (st l)=l:=rfl
@[simp] theorem z5ha (l:List z0a):gCs (.agg l)=l:=rfl
@[simp] theorem z8ga (l:List z0a):gCs (.tup l)=l:=rfl
@[simp] theorem gCs_ep (l:List z0a):gCs (.ep l)=l:=rfl
@[simp] theorem gCs_sl (m:z5r) (nl:Option Bool) (n:Nat) (l:List z0a):gCs (.sl m nl n l)=l:=rfl
@[simp] theorem z4la:gCs (.lit (.slice none 0 0))=[]:=rfl
@[simp] theorem z8v (l:List UInt8):gBs (bys l)=l:=by simp[gBs,bys,Function.comp_def]
@[simp] theorem z0p (l:List UInt32):gWs (z7g l)=l:=by simp[gWs,z7g,Function.comp_def]
@[simp] theorem z7na:gBs []=[]:=rfl

@[simp] theorem u8_inj (x y:UInt8):(u8 x=u8 y)=(x=y):=propext ⟨fun h=>by rw[←z0F x,h,z0F],fun h=>by rw[h]⟩
@[simp] theorem z0ha (x y:UInt32):(u32 x=u32 y)=(x=y):=propext ⟨fun h=>by rw[←z9p x,h,z9p],fun h=>by rw[h]⟩
@[simp] theorem z9la (x y:UInt64):(u64 x=u64 y)=(x=y):=propext ⟨fun h=>by rw[←z8p x,h,z8p],fun h=>by rw[h]⟩
@[simp] theorem z0pa (x y:Int):(i64 x=i64 y)=(x=y):=propext ⟨fun h=>by rw[←z2t x,h,z2t],fun h=>by rw[h]⟩
@[simp] theorem bo_inj (x y:Bool):(bo x=bo y)=(x=y):=propext ⟨fun h=>by rw[←z5D x,h,z5D],fun h=>by rw[h]⟩
@[simp] theorem st_inj (x y:List UInt8):(st x=st y)=(x=y):=propext ⟨fun h=>by rw[←z51 x,h,z51],fun h=>by rw[h]⟩
@[simp] theorem z6oa (x y:List UInt8):(bys x=bys y)=(x=y):=propext ⟨fun h=>by rw[←z8v x,h,z8v],fun h=>by rw[h]⟩
@[simp] theorem z4ea (x y:List UInt32):(z7g x=z7g y)=(x=y):=propext ⟨fun h=>by rw[←z0p x,h,z0p],fun h=>by rw[h]⟩
theorem z60b (x:UInt32) (l:List UInt32):z7g (x::l)=u32 x::z7g l:=rfl

/-! ### Loops -/
theorem z1g {E:Env} {c:z1c} {Q:z5c→ASt→Prop} {st:ASt} (h:∀Q',Q'=Q→awp E c Q' st):awp E c Q st:=h Q rfl
theorem z2v {E:Env} {b:z1c} {Q:z5c→ASt→Prop} {st:ASt} {α:Type} (S:α→ASt) (μ:α→Nat) (inv:α→Prop) (a0:α) (h0:st=S a0) (hi:inv a0)
  (hr:∀a,inv a→awp E b (z2l (fun st'=>∃a',μ a'<μ a∧inv a'∧st'=S a') Q) (S a)):awp E (.loop b) Q st:=by
 refine⟨fun m st=>∃a,μ a=m∧inv a∧st=S a,⟨μ a0,a0,rfl,hi,h0⟩,?_⟩
 rintro m _ ⟨a,rfl,hia,rfl⟩
 have e:(z2l (fun st'=>∃a',μ a'<μ a∧inv a'∧st'=S a') Q)=(z2l (fun st'=>∃m',m'<μ a∧∃a',μ a'=m'∧inv a'∧st'=S a') Q):=by
  funext e st'
  cases e<;>simp only[z2l]
  apply propext
  constructor
  ·rintro⟨a',h1,h2,h3⟩;exact⟨_,h1,a',rfl,h2,h3⟩
  ·rintro⟨_,h1,a',rfl,h2,h3⟩;exact⟨a',h1,h2,h3⟩
 rw[←e]
 exact hr a hia

/-! ### Splices -/
@[simp] theorem z6s (a x:z0a) (l:List z0a):splice (a::l) 0 [x]=x::l:=by simp[splice]
@[simp] theorem z9K (a:z0a) (l:List z0a) (n:Nat) (xs:List z0a):splice (a::l) (n+1) xs=a::splice l n xs:=by
 simp only[splice,List.take_succ_cons,List.cons_append,List.cons.injEq,true_and]
 congr 1
 rw[show n+1+xs.length=(n+xs.length)+1 by omega,List.drop_succ_cons]
theorem z9pa {l xs:List z0a} (h:xs.length=l.length):splice l 0 xs=xs:=by simp[splice,h]
theorem z5Eb {a b xs:List z0a} {n:Nat} (h:n+xs.length≤a.length):splice (a++b) n xs=splice a n xs++b:=by
 simp only[splice,List.append_assoc]
 rw[List.take_append_of_le_length (by omega),List.drop_append_of_le_length h]
theorem z1yb {a b xs:List z0a} {n:Nat} (h:a.length≤n):splice (a++b) n xs=a++splice b (n-a.length) xs:=by
 simp only[splice]
 rw[List.take_append,List.take_of_length_le h,List.drop_append,List.drop_of_length_le (by omega)]
 simp only[List.append_assoc,List.nil_append]
 rw[show n+xs.length-a.length=n-a.length+xs.length by omega]
theorem z4Lb {l:List UInt8} {n:Nat} {x:UInt8} (h:n<l.length):splice (bys l) n [u8 x]=bys (l.set n x):=by
 simp only[splice,bys,←List.map_take,←List.map_drop,List.length_singleton]
 rw[List.set_eq_take_append_cons_drop,if_pos h]
 simp
theorem z7Qa {l:List UInt32} {n:Nat} {x:UInt32} (h:n<l.length):splice (z7g l) n [u32 x]=z7g (l.set n x):=by
 simp only[splice,z7g,←List.map_take,←List.map_drop,List.length_singleton]
 rw[List.set_eq_take_append_cons_drop,if_pos h]
 simp
def at8 (l:List UInt8) (i:Nat):UInt8:=l.getD i 0
def z8i (l:List UInt32) (i:Nat):UInt32:=l.getD i 0
theorem z2cd {l:List z0a} {n:Nat}:hdA (l.drop n)=l.getD n .undef:=by
 rw[hdA,List.headD_eq_head?_getD,List.head?_drop]
 rfl
theorem z5ld {l:List UInt8} {n:Nat} (h:n<l.length):(bys l).getD n .undef=u8 (at8 l n):=by
 simp[at8,bys,List.getD,List.getElem?_eq_getElem h]
theorem z43b {l:List UInt32} {n:Nat} (h:n<l.length):(z7g l).getD n .undef=u32 (z8i l n):=by
 simp[z8i,z7g,List.getD,List.getElem?_eq_getElem h]
theorem z08b {l:List UInt8} {n:Nat} (h:n<l.length):hdA (bys (l.drop n))=u8 (at8 l n):=by rw[←z5ea,z2cd,z5ld h]
@[simp] theorem z01 (l:List UInt32) (n:Nat):(z7g l).take n=z7g (l.take n):=by simp[z7g]
@[simp] theorem z90 (l:List UInt32) (n:Nat):(z7g l).drop n=z7g (l.drop n):=by simp[z7g]
theorem z3cb {l:List UInt32} {n:Nat} (h:n<l.length):hdA (z7g (l.drop n))=u32 (z8i l n):=by rw[←z90,z2cd,z43b h]
theorem z7gd {l:List UInt32} (h:0<l.length):hdA (z7g l)=u32 (z8i l 0):=by rw[←z3cb h,List.drop_zero]
@[simp] theorem z2F (l:List UInt32) (i:Nat) (h:i<(z7g l).length):(z7g l)[i]=u32 (z8i l i):=by
 have h':i<l.length:=by simpa using h
 simp[z8i,z7g,List.getElem?_eq_getElem h']
@[simp] theorem z3O (l:List UInt8) (i:Nat) (h:i<(bys l).length):(bys l)[i]=u8 (at8 l i):=by
 have h':i<l.length:=by simpa using h
 simp[at8,bys,List.getElem?_eq_getElem h']
@[simp] theorem z1y (x:UInt32) (l:List UInt32):hdA (z7g (x::l))=u32 x:=rfl
@[simp] theorem z7E (x:UInt8) (l:List UInt8):hdA (bys (x::l))=u8 x:=rfl
@[simp] theorem z4ba (a:z0a) (l:List z0a):hdA (a::l)=a:=rfl
theorem z0Dc {a b:List UInt32} {i:Nat} (h:i<a.length):z8i (a++b) i=z8i a i:=by simp[z8i,List.getD,List.getElem?_append_left h]
theorem z05c {a b:List UInt8} {i:Nat} (h:a.length≤i):at8 (a++b) i=at8 b (i-a.length):=by simp[at8,List.getD,List.getElem?_append_right h]
theorem z2Lc {a b:List UInt32} {i:Nat} (h:a.length≤i):z8i (a++b) i=z8i b (i-a.length):=by simp[z8i,List.getD,List.getElem?_append_right h]
theorem z0cd {a:List UInt8} {i n:Nat} (h:i<n):at8 (a.take n) i=at8 a i:=by simp[at8,List.getD,List.getElem?_take,h]
@[simp] theorem z4da {a:List UInt8} {i n:Nat}:at8 (a.drop n) i=at8 a (n+i):=by simp[at8,List.getD]
@[simp] theorem z8W {a:List UInt32} {i n:Nat}:z8i (a.drop n) i=z8i a (n+i):=by simp[z8i,List.getD]
@[simp] theorem z62 (x:UInt32) (l:List UInt32):z8i (x::l) 0=x:=rfl
@[simp] theorem z6W (x:UInt32) (l:List UInt32) (n:Nat):z8i (x::l) (n+1)=z8i l n:=rfl
@[simp] theorem z7ea (x:UInt8) (l:List UInt8):at8 (x::l) 0=x:=rfl
@[simp] theorem z1ca (x:UInt8) (l:List UInt8) (n:Nat):at8 (x::l) (n+1)=at8 l n:=rfl

def ks8 (n:Nat):List LK:=List.replicate n (.int .u8)
@[simp] theorem z2td (n:Nat) (l:List UInt8):z6n (ks8 n) (bys l)=(l.length=n):=by
 induction n generalizing l with
 |zero=>cases l<;>simp[ks8,z6n,bys]
 |succ n ih=>
  cases l with
  |nil=>simp[ks8,List.replicate_succ,z6n,bys]
  |cons x l=>
   have:=ih l
   simp only[ks8,bys] at this
   simp[ks8,List.replicate_succ,z6n,bys,z2be,u8,this]
theorem z23a {n:Nat} {a b:List UInt8} (ha:a.length=n) (hb:b.length=n):z8s (ks8 n) (bys a) (bys b)=decide (a=b):=by
 induction n generalizing a b with
 |zero=>
  have e1:=List.length_eq_zero_iff.1 ha
  have e2:=List.length_eq_zero_iff.1 hb
  subst e1;subst e2
  rfl
 |succ n ih=>
  match a,b,ha,hb with
  |x::a,y::b,ha,hb=>
   have:=ih (a:=a) (b:=b) (by simpa using ha) (by simpa using hb)
   simp only[ks8,bys] at this
   simp only[ks8,List.replicate_succ,bys,List.map_cons,z8s,z3ee,z7C,this]
   rw[Bool.eq_iff_iff]
   simp only[Bool.and_eq_true,beq_iff_eq,decide_eq_true_eq,List.cons.injEq,←UInt8.toNat_inj,Int.natCast_inj]
@[simp] theorem z6ga (l:List UInt8):(ByteArray.mk l.toArray).size=l.length:=by simp[ByteArray.size]
@[simp] theorem mod64 (n:UInt64):((n.toNat:Int)% 64).toNat=n.toNat% 64:=by omega
@[simp] theorem z9s (n:Int):z0a.lit (.int .i64 n)=i64 n:=rfl
@[simp] theorem z3Yd (b:Bool):z0a.lit (.bool b)=bo b:=rfl
@[simp] theorem z7oa (x:UInt8):z0a.lit (.int .u8 (x.toNat:Int))=u8 x:=rfl
@[simp] theorem z5s (l:List UInt8):z0a.lit (.string (z9e (bys l)))=st l:=by
 simp only[st,z9e,bys,List.map_map]
 congr 3
 rw[show((fun c=>UInt8.ofNat (asI c).toNat)∘u8)=id from funext fun x=>by simp[z7C]]
 simp
@[simp] theorem z2V (x:UInt8):z0a.lit (.string (z9e [u8 x]))=st [x]:=z5s [x]
@[simp] theorem z6N (l:List UInt8) (a b:Nat):z0a.lit (.string ((ByteArray.mk l.toArray).extract a b))=st ((l.drop a).take (b-a)):=by
 simp only[st]
 congr 2
 apply ByteArray.ext
 rw[ByteArray.data_extract]
 simp[List.extract]
attribute [simp] z6va z8Bd z7la z2ga z4s okM z6H z7n z9S fnd Abs.ren renL
@[simp] theorem ren_u8 (m:List (Nat×Nat)) (x:UInt8):Abs.ren m (u8 x)=u8 x:=rfl
@[simp] theorem z6na (m:List (Nat×Nat)) (x:UInt32):Abs.ren m (u32 x)=u32 x:=rfl
@[simp] theorem z7ma (m:List (Nat×Nat)) (x:UInt64):Abs.ren m (u64 x)=u64 x:=rfl
@[simp] theorem z6ma (m:List (Nat×Nat)) (x:Int):Abs.ren m (i64 x)=i64 x:=rfl
@[simp] theorem ren_bo (m:List (Nat×Nat)) (x:Bool):Abs.ren m (bo x)=bo x:=rfl
@[simp] theorem ren_st (m:List (Nat×Nat)) (x:List UInt8):Abs.ren m (st x)=st x:=rfl
/-! ### Short forms of abstract code (what tools/pack.py prints) -/
@[simp] abbrev Ym (d s:Nat):z6a:=⟨some d,none,.mv false (.s s)⟩
@[simp] abbrev YM (d s:Nat):z6a:=⟨some d,none,.mv true (.s s)⟩
@[simp] abbrev Yc (d:Nat) (n:Int):z6a:=⟨some d,none,.mv false (.c (i64 n))⟩
@[simp] abbrev Yw (d:Nat) (b:Bool):z6a:=⟨some d,none,.mv false (.c (bo b))⟩
@[simp] abbrev Yl (d b a:Nat):z6a:=⟨some d,none,.load none (some b) false (.s a)⟩
@[simp] abbrev YL (d k b a:Nat):z6a:=⟨some d,none,.load (some k) (some b) false (.s a)⟩
@[simp] abbrev Yj (d a:Nat):z6a:=⟨some d,none,.load none none false (.s a)⟩
@[simp] abbrev YJ (d k a:Nat):z6a:=⟨some d,none,.load (some k) none false (.s a)⟩
@[simp] abbrev Yf (d n a:Nat):z6a:=⟨some d,none,.fieldAddr n (.s a)⟩
@[simp] abbrev Yn (d a:Nat):z6a:=⟨some d,none,.len false (.s a)⟩
@[simp] abbrev Yb (d:Nat) (o:BinOp) (x y:Nat):z6a:=⟨some d,none,.bin o (.s x) (.s y)⟩
@[simp] abbrev YB (d:Nat) (o:BinOp) (x:Nat) (n:Int):z6a:=⟨some d,none,.bin o (.s x) (.c (i64 n))⟩
@[simp] abbrev Yp (d x y:Nat):z6a:=⟨some d,none,.pick (.s x) (.s y) (.c (bo false))⟩
@[simp] abbrev YP (d x y:Nat):z6a:=⟨some d,none,.pick (.s x) (.c (bo true)) (.s y)⟩
@[simp] abbrev Yk (d f x:Nat):z6a:=⟨some d,none,.call f [.s x] []⟩
@[simp] abbrev YK (d f x y:Nat):z6a:=⟨some d,none,.call f [.s x,.s y] []⟩
@[simp] abbrev Yt (d f x y z:Nat):z6a:=⟨some d,none,.call f [.s x,.s y,.s z] []⟩
@[simp] abbrev YT (d f:Nat) (l:List Nat):z6a:=⟨some d,none,.call f (l.map .s) []⟩
@[simp] abbrev Yx (d i k a:Nat):z6a:=⟨some d,none,.box i (some k) false (.s a)⟩
@[simp] abbrev Yi (d e x y:Nat):z6a:=⟨some d,none,.idxSl e (.s x) (.s y)⟩
@[simp] abbrev Ye (d i x:Nat):z6a:=⟨some d,none,.extract i (.s x)⟩
@[simp] abbrev Ya (d n e x y:Nat):z6a:=⟨some d,none,.idxArr n e (.s x) (.s y)⟩
@[simp] abbrev YA (d n e x:Nat) (y:Int):z6a:=⟨some d,none,.idxArr n e (.s x) (.c (i64 y))⟩
@[simp] abbrev Yz (d i n:Nat):z6a:=⟨some d,none,.alloc i (bys (z5j n))⟩
@[simp] abbrev Yo (d:Nat) (o:AOp):z6a:=⟨some d,none,o⟩
@[simp] abbrev YO (o:AOp):z6a:=⟨none,none,o⟩
@[simp] abbrev Ys (k b a v:Nat):z6a:=⟨none,none,.store (some k) b false (.s a) (.s v)⟩
@[simp] abbrev YS (b a v:Nat):z6a:=⟨none,none,.store none b false (.s a) (.s v)⟩
@[simp] abbrev Yv (d n:Nat):z6a:=⟨some d,none,.mv true (.c (.sl (.own n) none 0 []))⟩
@[simp] abbrev Yh (d i:Nat):z6a:=⟨some d,none,.alloc i [i64 0,.sl .plain none 0 [],.sl .plain none 0 []]⟩
@[simp] abbrev YH (d i:Nat):z6a:=⟨some d,none,.alloc i [i64 0,.sl .plain none 0 []]⟩
@[simp] abbrev YN (d e b x y:Nat):z6a:=⟨some d,none,.append e b false none none x (.s y)⟩
@[simp] abbrev YU (d:Nat) (o:UnOp) (x:Nat):z6a:=⟨some d,none,.un o (.s x)⟩
@[simp] abbrev YI (d e x:Nat) (n:Int):z6a:=⟨some d,none,.idxSl e (.s x) (.c (i64 n))⟩
@[simp] abbrev YC (d f x:Nat) (n:Int):z6a:=⟨some d,none,.call f [.s x,.c (i64 n)] []⟩
@[simp] abbrev YD (d f x:Nat) (n m:Int):z6a:=⟨some d,none,.call f [.s x,.c (i64 n),.c (i64 m)] []⟩
@[simp] abbrev YV (d x:Nat):z6a:=⟨some d,none,.nilchk (.s x)⟩
@[simp] abbrev YE (d:Nat) (k:IntKind) (x:Nat):z6a:=⟨some d,none,.toInt k (.s x)⟩
@[simp] abbrev YF (d e x y:Nat):z6a:=⟨some d,none,.slSl e (.s x) (some (.s y)) none none⟩
@[simp] abbrev YX (d e x y:Nat):z6a:=⟨some d,none,.slSl e (.s x) none (some (.s y)) none⟩
@[simp] abbrev YQ (d x:Nat):z6a:=⟨some d,none,.buildSl 16 1 (bys (z5j 16)) [(0,16,.s x)]⟩
@[simp] abbrev YW (d:Nat) (o:BinOp) (x:Nat) (v:z0a):z6a:=⟨some d,none,.bin o (.s x) (.c v)⟩
@[simp] abbrev YG (g:Nat) (o:z6a):z6a:=⟨o.dst,some (g,true),o.op⟩
@[simp] abbrev Yg (g:Nat) (o:z6a):z6a:=⟨o.dst,some (g,false),o.op⟩
@[simp] abbrev Yr (k:List Nat) (l:List z6a) (r:z1c):z1c:= .seq (.region k [] l) r
@[simp] abbrev YR (k:List Nat) (g:List z0h) (l:List z6a) (r:z1c):z1c:= .seq (.region k g l) r
@[simp] abbrev Yq (a b:z1c):z1c:= .seq a b
@[simp] abbrev Yy (k:List Nat):z1c:= .ghost (.keep k) .skip
@[simp] abbrev YY (k:List Nat):z1c:= .ghost (.keep k) (.exit 0)
@[simp] abbrev Yu (k:List Nat) (l:List z6a):z1c:= .region k [] l
@[simp] abbrev Yd (s:Nat) (a b:z1c):z1c:= .cond (.s s) a b
end Go.Abs
end

section
namespace Go.Abs
set_option maxRecDepth 100000
def z5bb:z1ka:=
 {n:=1,wr:=[],res:=[.cell 2 (some 32) 2],body:=YR [2] [.norm [2]] [Yz 2 2 32] (YR [2] [.norm [2]] [YT 3 0 [],Ym 4 0,Yo 5 (.toStr none (.s 4)),YK 6 1 3 5,Yk 7 2 6,Ys 32 2 2 7] .ret)}
def z7Ta:z1ka:=
 {n:=0,wr:=[],res:=[.cell 0 (some 73) 0],body:=YR [0] [.norm [0]] [Yo 0 (.alloc 0 (z7g (z8wa 8)++bys (z5j 64)++[u64 0]))] (YR [0] [.norm [0]] [Yo 1 (.build [u32 0,u32 0,u32 0,u32 0,u32 0,u32 0,u32 0,u32 0] [(0,1,.c (u32 1779033703)),(1,1,.c (u32 3144134277)),(2,1,.c (u32 1013904242)),(3,1,.c (u32 2773480762)),(4,1,.c (u32 1359893119)),(5,1,.c (u32 2600822924)),(6,1,.c (u32 528734635)),(7,1,.c (u32 1541459225))]),Yo 2 (.build (z7g (z8wa 8)++bys (z5j 64)++[u64 0]) [(0,8,.s 1)]),Ys 73 0 0 2] .ret)}
def z8Ca:z1ka:=
 {n:=2,wr:=[1],res:=[.cell 4 (some 73) 4],body:=YR [1,2,4] [.norm [2,4]] [Yx 2 2 73 0,Yo 4 (.alloc 4 (z7g (z8wa 8)++bys (z5j 64)++[u64 0]))] (Yq (.block 0 (.loop (Yq (Yr [1,2,4,8] [Ym 7 1,YW 8 .neq 7 (st [])] (Yd 8 (Yy [1,2,4]) (YY [2,4]))) (.block 1 (YR [1,2,4,5] [.norm [2,4]] [Yf 9 72 2,Yl 10 2 9,YW 11 .rem 10 (u64 64),YE 12 .i64 11,Ym 5 12] (YR [1,2,4,5,6] [.norm [2,4]] [Yf 13 8 2,Ym 14 5,Yo 15 (.slArr 64 1 (.s 13) (some (.s 14)) none none),Ym 16 1,Yo 17 (.copy 1 true 2 none (.s 15) (.s 16)),Ym 6 17] (Yr [1,2,4,5,6] [Ym 18 1,Ym 19 6,Yo 20 (.slStr (.s 18) (some (.s 19)) none),Ym 1 20] (YR [1,2,4,5,6] [.norm [2,4]] [Yf 21 72 2,Yl 22 2 21,Ym 23 6,YE 24 .u64 23,Yb 25 .add 22 24,Yf 26 72 2,YS 2 26 25] (Yr [1,2,4,30] [Ym 27 5,Ym 28 6,Yb 29 .add 27 28,YB 30 .eql 29 64] (Yd 30 (.region [1,2,4] [.norm [2,4]] [Yf 31 0 2,YL 32 8 2 31,Yf 33 8 2,Yo 34 (.slArr 64 1 (.s 33) none none none),Yo 35 (.call 4 [.s 32,.s 34] [2]),Yf 36 0 2,Ys 8 2 36 35]) (Yy [1,2,4]))))))))))) (YR [4] [.norm [2,4]] [YL 37 73 2 2,Ys 73 4 4 37] .ret))}
def z6Ca:z1ka:=
 {n:=1,wr:=[],res:=[.cell 2 (some 32) 2],body:=YR [1,2] [.norm [1,2]] [Yx 1 1 73 0,Yz 2 2 32] (YR [1,2,3] [.norm [1,2]] [Yf 8 72 1,Yl 9 1 8,Yo 10 (.bin .mul (.c (u64 8)) (.s 9)),Ym 3 10] (Yr [1,2,3,4] [Yo 11 (.buildSl 1 1 [u8 0] [(0,1,.c (u8 128))]),YM 4 11] (Yq (.block 0 (.loop (Yq (YR [1,2,3,4,19] [.norm [1,2]] [Yf 12 72 1,Yl 13 1 12,YE 14 .i64 13,Ym 15 4,Yn 16 15,Yb 17 .add 14 16,YB 18 .rem 17 64,YB 19 .neq 18 56] (Yd 19 (Yy [1,2,3,4]) (YY [1,2,3,4]))) (.block 1 (Yu [1,2,3,4] [YM 20 4,Yo 21 (.buildSl 1 1 [u8 0] [(0,1,.c (u8 0))]),Yo 22 (.append 1 1 false (some false) none 20 (.s 21)),YM 4 22]))))) (Yq (Yr [1,2,3,4,23] [Yc 23 0] (.block 2 (.loop (Yr [1,2,3,4,23,24] [YB 24 .lss 23 8] (Yq (Yd 24 (Yy [1,2,3,4,23]) (.ghost (.keep [1,2,4]) (.exit 2))) (Yq (.block 3 (Yr [1,2,3,4,5,23] [Ym 25 23,Ym 5 25] (Yu [1,2,3,4,23] [YM 26 4,Ym 27 3,Ym 28 5,Yo 29 (.bin .mul (.c (i64 8)) (.s 28)),Yo 30 (.bin .sub (.c (i64 56)) (.s 29)),Yb 31 .shr 27 30,YE 32 .u8 31,Yo 33 (.buildSl 1 1 [u8 0] [(0,1,.s 32)]),Yo 34 (.append 1 1 false (some false) none 26 (.s 33)),YM 4 34]))) (Yu [1,2,3,4,23] [YB 35 .add 23 1,Ym 23 35]))))))) (YR [1,2] [.norm [1,2]] [YL 36 73 1 1,YM 37 4,Yo 38 (.toStr none (.s 37)),YK 39 1 36 38,Ys 73 1 1 39] (YR [1,2,6] [.norm [1,2,6]] [Yz 6 6 32] (Yq (Yr [1,2,6,40] [Yc 40 0] (.block 4 (.loop (Yr [1,2,6,40,41] [YB 41 .lss 40 32] (Yq (Yd 41 (Yy [1,2,6,40]) (.ghost (.keep [2,6]) (.exit 4))) (Yq (.block 5 (Yr [1,2,6,7,40] [Ym 42 40,Ym 7 42] (.region [1,2,6,40] [.norm [1,2,6]] [Ym 43 7,Ym 44 7,YB 45 .quo 44 4,Yf 46 0 1,Ya 47 8 1 46 45,Yl 48 1 47,Ym 49 7,YB 50 .rem 49 4,Yo 51 (.bin .mul (.c (i64 8)) (.s 50)),Yo 52 (.bin .sub (.c (i64 24)) (.s 51)),Yb 53 .shr 48 52,YE 54 .u8 53,Ya 55 32 1 6 43,YS 6 55 54]))) (Yu [1,2,6,40] [YB 56 .add 40 1,Ym 40 56]))))))) (YR [2] [.norm [1,2,6]] [YL 57 32 6 6,Ys 32 2 2 57] .ret))))))))}
def z2ob:z1ka:=
 {n:=2,wr:=[],res:=[.cell 4 (some 16) 4],body:=YR [4] [.norm [4]] [Yz 4 4 16] (YR [4,5] [.norm [4,5]] [YT 9 0 [],Ym 10 0,YE 11 .u8 10,Yo 12 (.buildSl 1 1 [u8 0] [(0,1,.s 11)]),Yo 13 (.toStr none (.s 12)),YK 14 1 9 13,Yo 5 (.alloc 5 (z7g (z8wa 8)++bys (z5j 64)++[u64 0])),Ys 73 5 5 14] (Yq (Yr [4,5,15,16,17] [Ym 15 1,Yn 16 15,Yc 17 0] (.block 0 (.loop (Yr [4,5,15,16,17,18] [Yb 18 .lss 17 16] (Yq (Yd 18 (Yy [4,5,15,16,17]) (YY [4,5])) (Yq (.block 1 (YR [4,5,7,15,16,17] [.norm [4,5]] [Yi 19 1 15 17,Yj 20 19,Ym 7 20] (.region [4,5,15,16,17] [.norm [4,5]] [YL 21 73 5 5,Ym 22 7,Yk 23 7 22,Yo 24 (.toStr none (.s 23)),YK 25 1 21 24,Ys 73 5 5 25]))) (Yu [4,5,15,16,17] [YB 26 .add 17 1,Ym 17 26]))))))) (YR [4,8] [.norm [4,5,8]] [YL 27 73 5 5,Yk 28 2 27,Yz 8 8 32,Ys 32 8 8 28] (YR [4] [.norm [4,5,8]] [Yo 29 (.slArr 32 1 (.s 8) none (some (.c (i64 16))) none),Yo 30 (.s2ap 16 (.s 29)),YL 31 16 8 30,Ys 16 4 4 31] .ret))))}
def z8Ga:z1ka:=
 {n:=2,wr:=[],res:=[.cell 4 (some 8) 4],body:=YR [2,4] [.norm [2,4]] [Yx 2 2 8 0,Yo 4 (.alloc 4 (z7g (z8wa 8)))] (YR [2,4,5] [.norm [2,4,5]] [Ym 13 1,Yk 14 10 13,Yo 5 (.alloc 5 (z7g (z8wa 64))),Ys 64 5 5 14] (YR [2,4,5,6,7] [.norm [2,4,5,6,7]] [Yo 15 (.slArr 8 1 (.s 2) none (some (.c (i64 4))) none),Yo 16 (.s2ap 4 (.s 15)),YL 17 4 2 16,Yo 18 (.slArr 8 1 (.s 2) (some (.c (i64 4))) none none),Yo 19 (.s2ap 4 (.s 18)),YL 20 4 2 19,Yo 6 (.alloc 6 [u32 0,u32 0,u32 0,u32 0]),Yo 7 (.alloc 7 [u32 0,u32 0,u32 0,u32 0]),Ys 4 6 6 17,Ys 4 7 7 20] (Yq (YR [2,4,5,6,7,21,22] [.norm [2,4,5,6,7]] [Yo 21 (.load (some 64) none false (.g 0)),Yc 22 0] (.block 0 (.loop (Yr [2,4,5,6,7,21,22,23] [YB 23 .lss 22 64] (Yq (Yd 23 (Yy [2,4,5,6,7,21,22]) (YY [2,4,6,7])) (Yq (.block 1 (Yr [2,4,5,6,7,8,9,21,22] [Ym 24 22,Yo 25 (.idxA none 1 64 (.s 21) (.s 22)),Ym 8 24,Ym 9 25] (YR [2,4,5,6,7,10,21,22] [.norm [2,4,5,6,7]] [YA 26 4 1 7 3,Yl 27 7 26,YA 28 4 1 7 0,Yl 29 7 28,Yo 30 (.call 11 [.s 29,.c (i64 6),.c (i64 11),.c (i64 25)] []),Yb 31 .add 27 30,YA 32 4 1 7 0,Yl 33 7 32,YA 34 4 1 7 1,Yl 35 7 34,Yb 36 .and 33 35,YA 37 4 1 7 0,Yl 38 7 37,YU 39 .xor 38,YA 40 4 1 7 2,Yl 41 7 40,Yb 42 .and 39 41,Yb 43 .xor 36 42,Yb 44 .add 31 43,Ym 45 9,Yb 46 .add 44 45,Ym 47 8,Ya 48 64 1 5 47,Yl 49 5 48,Yb 50 .add 46 49,Ym 10 50] (YR [2,4,5,6,7,10,11,21,22] [.norm [2,4,5,6,7]] [YA 51 4 1 6 0,Yl 52 6 51,Yo 53 (.call 11 [.s 52,.c (i64 2),.c (i64 13),.c (i64 22)] []),YA 54 4 1 6 0,Yl 55 6 54,YA 56 4 1 6 1,Yl 57 6 56,Yb 58 .and 55 57,YA 59 4 1 6 0,Yl 60 6 59,YA 61 4 1 6 2,Yl 62 6 61,Yb 63 .and 60 62,Yb 64 .xor 58 63,YA 65 4 1 6 1,Yl 66 6 65,YA 67 4 1 6 2,Yl 68 6 67,Yb 69 .and 66 68,Yb 70 .xor 64 69,Yb 71 .add 53 70,Ym 11 71] (YR [2,4,5,6,7,10,11,21,22] [.norm [2,4,5,6,7]] [YA 72 4 1 6 3,Yl 73 6 72,Ym 74 10,Yb 75 .add 73 74,YA 76 4 1 7 0,Yl 77 7 76,YA 78 4 1 7 1,Yl 79 7 78,YA 80 4 1 7 2,Yl 81 7 80,Yo 82 (.build [u32 0,u32 0,u32 0,u32 0] [(0,1,.s 75),(1,1,.s 77),(2,1,.s 79),(3,1,.s 81)]),Ys 4 7 7 82] (.region [2,4,5,6,7,21,22] [.norm [2,4,5,6,7]] [Ym 83 10,Ym 84 11,Yb 85 .add 83 84,YA 86 4 1 6 0,Yl 87 6 86,YA 88 4 1 6 1,Yl 89 6 88,YA 90 4 1 6 2,Yl 91 6 90,Yo 92 (.build [u32 0,u32 0,u32 0,u32 0] [(0,1,.s 85),(1,1,.s 87),(2,1,.s 89),(3,1,.s 91)]),Ys 4 6 6 92])))))) (Yu [2,4,5,6,7,21,22] [YB 93 .add 22 1,Ym 22 93]))))))) (Yq (Yr [2,4,6,7,94] [Yc 94 0] (.block 2 (.loop (Yr [2,4,6,7,94,95] [YB 95 .lss 94 4] (Yq (Yd 95 (Yy [2,4,6,7,94]) (.ghost (.keep [2,4]) (.exit 2))) (Yq (.block 3 (Yr [2,4,6,7,12,94] [Ym 96 94,Ym 12 96] (YR [2,4,6,7,12,94] [.norm [2,4,5,6,7]] [Ym 97 12,Ya 98 8 1 2 97,Yl 99 2 98,Ym 100 12,Ya 101 4 1 6 100,Yl 102 6 101,Yb 103 .add 99 102,Ya 104 8 1 2 97,YS 2 104 103] (.region [2,4,6,7,94] [.norm [2,4,5,6,7]] [Ym 105 12,YB 106 .add 105 4,Ya 107 8 1 2 106,Yl 108 2 107,Ym 109 12,Ya 110 4 1 7 109,Yl 111 7 110,Yb 112 .add 108 111,Ya 113 8 1 2 106,YS 2 113 112])))) (Yu [2,4,6,7,94] [YB 114 .add 94 1,Ym 94 114]))))))) (YR [4] [.norm [2,4,5,6,7]] [YL 115 8 2 2,Ys 8 4 4 115] .ret)))))}
def z0Oa:z1ka:=
 {n:=1,wr:=[],res:=[.t 2],body:=Yr [] [Yv 2 1] (Yr [2] [Ym 3 0,Yo 4 (.len true (.s 3)),Yk 5 12 4,Ym 6 0,Yo 7 (.append 1 1 true (some false) none 5 (.s 6)),YM 2 7] .ret)}
def z0Ha:z1ka:=
 {n:=1,wr:=[],res:=[.cell 2 (some 64) 2],body:=YR [2] [.norm [2]] [Yo 2 (.alloc 2 (z7g (z8wa 64)))] (YR [2,3] [.norm [2,3]] [Yo 3 (.alloc 3 (z7g (z8wa 64)))] (Yq (Yr [2,3,11] [Yc 11 0] (.block 0 (.loop (Yr [2,3,11,12] [YB 12 .lss 11 64] (Yq (Yd 12 (Yy [2,3,11]) (YY [2,3])) (Yq (.block 1 (Yr [2,3,4,11] [Ym 13 11,Ym 4 13] (Yq (Yr [2,3,4,11,15] [Ym 14 4,YB 15 .lss 14 16] (Yd 15 (Yq (Yr [2,3,4,11,22,23,24] [Ym 16 0,Ym 17 4,Yo 18 (.bin .mul (.c (i64 4)) (.s 17)),Ym 19 4,Yo 20 (.bin .mul (.c (i64 4)) (.s 19)),YB 21 .add 20 4,Yo 22 (.slSl 1 (.s 16) (some (.s 18)) (some (.s 21)) none),Yn 23 22,Yc 24 0] (.block 2 (.loop (Yr [2,3,4,11,22,23,24,25] [Yb 25 .lss 24 23] (Yq (Yd 25 (Yy [2,3,4,11,22,23,24]) (.ghost (.keep [2,3,11]) (.exit 2))) (Yq (.block 3 (YR [2,3,4,6,11,22,23,24] [.norm [2,3]] [Yi 26 1 22 24,Yj 27 26,Ym 6 27] (.region [2,3,4,11,22,23,24] [.norm [2,3]] [Ym 28 4,Ym 29 4,Ya 30 64 1 3 29,Yl 31 3 30,YW 32 .shl 31 (u64 8),Ym 33 6,YE 34 .u32 33,Yb 35 .or 32 34,Ya 36 64 1 3 28,YS 3 36 35]))) (Yu [2,3,4,11,22,23,24] [YB 37 .add 24 1,Ym 24 37]))))))) (.ghost (.keep [2,3,11]) (.exit 1))) (Yy [2,3,4,11]))) (YR [2,3,4,7,8,11] [.norm [2,3]] [Ym 38 4,YB 39 .sub 38 15,Ya 40 64 1 3 39,Yl 41 3 40,Ym 42 4,YB 43 .sub 42 2,Ya 44 64 1 3 43,Yl 45 3 44,Ym 7 41,Ym 8 45] (Yr [2,3,4,8,9,11] [Ym 46 7,YC 47 13 46 (-7),Ym 48 7,YC 49 13 48 (-18),Yb 50 .xor 47 49,Ym 51 7,YW 52 .shr 51 (u64 3),Yb 53 .xor 50 52,Ym 9 53] (Yr [2,3,4,9,10,11] [Ym 54 8,YC 55 13 54 (-17),Ym 56 8,YC 57 13 56 (-19),Yb 58 .xor 55 57,Ym 59 8,YW 60 .shr 59 (u64 10),Yb 61 .xor 58 60,Ym 10 61] (.region [2,3,11] [.norm [2,3]] [Ym 62 4,Ym 63 4,YB 64 .sub 63 16,Ya 65 64 1 3 64,Yl 66 3 65,Ym 67 9,Yb 68 .add 66 67,Ym 69 4,YB 70 .sub 69 7,Ya 71 64 1 3 70,Yl 72 3 71,Yb 73 .add 68 72,Ym 74 10,Yb 75 .add 73 74,Ya 76 64 1 3 62,YS 3 76 75]))))))) (Yu [2,3,11] [YB 77 .add 11 1,Ym 11 77]))))))) (YR [2] [.norm [2,3]] [YL 78 64 3 3,Ys 64 2 2 78] .ret)))}
def z2cb:z1ka:=
 {n:=4,wr:=[],res:=[.t 8],body:=Yr [] [Yo 8 (.mv false (.c (u32 0)))] (Yr [8] [Ym 9 0,Ym 10 1,YU 11 .neg 10,YK 12 13 9 11,Ym 13 0,Ym 14 2,YU 15 .neg 14,YK 16 13 13 15,Yb 17 .xor 12 16,Ym 18 0,Ym 19 3,YU 20 .neg 19,YK 21 13 18 20,Yb 22 .xor 17 21,Ym 8 22] .ret)}
def z1d:z1ka:=
 {n:=1,wr:=[],res:=[.t 2],body:=Yr [] [Yv 2 1] (.scope (Yr [3,4] [Ym 8 0,YE 9 .u64 8,Ym 3 9,Yo 4 (.mv false (.c (u8 0)))] (Yq (Yr [3,4,11] [Ym 10 0,YB 11 .lss 10 0] (Yd 11 (Yu [3,4] [Ym 12 3,YU 13 .xor 12,Ym 3 13,Yo 4 (.mv false (.c (u8 255)))]) (Yy [3,4]))) (Yr [3,4,5] [Yc 5 8] (Yq (Yy [3,4,5]) (Yq (.block 0 (.loop (Yq (Yr [3,4,5,15] [Ym 14 5,YB 15 .gtr 14 0] (Yd 15 (Yy [3,4,5]) (YY [3,4,5]))) (.block 1 (Yq (Yr [3,4,5,21] [Ym 16 3,Ym 17 5,YB 18 .sub 17 1,Yo 19 (.bin .mul (.c (i64 8)) (.s 18)),Yb 20 .shr 16 19,YW 21 .gtr 20 (u64 0)] (Yd 21 (YY [3,4,5]) (Yy [3,4,5]))) (Yu [3,4,5] [Ym 22 5,YB 23 .sub 22 1,Ym 5 23])))))) (Yr [3,4,5,6] [Ym 24 5,Yo 25 (.bin .add (.c (i64 128)) (.s 24)),YE 26 .u8 25,Ym 27 4,Yb 28 .xor 26 27,Yo 29 (.buildSl 1 1 [u8 0] [(0,1,.s 28)]),YM 6 29] (Yq (Yr [3,4,6,7] [Ym 30 5,YB 31 .sub 30 1,Ym 7 31] (.block 2 (.loop (Yq (Yr [3,4,6,7,33] [Ym 32 7,YB 33 .geq 32 0] (Yd 33 (Yy [3,4,6,7]) (.ghost (.keep [6]) (.exit 2)))) (Yq (.block 3 (Yu [3,4,6,7] [YM 36 6,Ym 37 3,Ym 38 7,Yo 39 (.bin .mul (.c (i64 8)) (.s 38)),Yb 40 .shr 37 39,YE 41 .u8 40,Ym 42 4,Yb 43 .xor 41 42,Yo 44 (.buildSl 1 1 [u8 0] [(0,1,.s 43)]),Yo 45 (.append 1 1 false (some false) none 36 (.s 44)),YM 6 45])) (Yu [3,4,6,7] [Ym 34 7,YB 35 .sub 34 1,Ym 7 35])))))) (Yr [2] [YM 46 6,YM 2 46] .ret)))))))))}
def z0Aa:z1ka:=
 {n:=2,wr:=[],res:=[.t 4],body:=Yr [] [Yo 4 (.mv false (.c (u32 0)))] (Yr [5] [Ym 6 1,YE 7 .u64 6,YW 8 .and 7 (u64 31),Ym 5 8] (Yr [4] [Ym 9 0,Ym 10 5,Yb 11 .shl 9 10,Ym 12 0,Ym 13 5,Yo 14 (.bin .sub (.c (u64 32)) (.s 13)),Yb 15 .shr 12 14,Yb 16 .or 11 15,Ym 4 16] .ret))}
end Go.Abs
end

section
namespace Go.Abs
def z2k (n:Nat):List UInt8:=if h:n=0 then [] else UInt8.ofNat n::z2k (n/256)
termination_by n
decreasing_by omega
theorem z0g:z2k 0=[]:=by rw[z2k];simp
theorem z6h {n:Nat} (h:n≠0):z2k n=UInt8.ofNat n::z2k (n/256):=by rw[z2k];simp[h]
def mag (n:Int):Nat:=(if n<0 then-1-n else n).toNat
def flp (n:Int) (c:UInt8):UInt8:=if n<0 then 255-c else c
def z4r (n:Int):List UInt8:=
 flp n (UInt8.ofNat (128+(z2k (mag n)).length))::(z2k (mag n)).reverse.map (flp n)
theorem z1h:∀(i n:Nat) (h:i<(z2k n).length),(z2k n)[i]=UInt8.ofNat (n/256^i)
 |0,n,h=>by
  by_cases hn:n=0
  ·subst hn;simp[z0g] at h
  ·simp[z6h hn]
 |i+1,n,h=>by
  by_cases hn:n=0
  ·subst hn;simp[z0g] at h
  ·simp only[z6h hn,List.length_cons,Nat.add_lt_add_iff_right] at h⊢
   rw[List.getElem_cons_succ,z1h i (n/256) h,Nat.div_div_eq_div_mul,Nat.pow_succ,Nat.mul_comm]
theorem z8h:∀(k n:Nat),(z2k n).length≤k↔n<256^k
 |0,n=>by
  by_cases hn:n=0
  ·subst hn;simp[z0g]
  ·simp[z6h hn];omega
 |k+1,n=>by
  by_cases hn:n=0
  ·subst hn;simp[z0g,Nat.pow_pos]
  ·rw[z6h hn,List.length_cons,Nat.add_le_add_iff_right,z8h k,Nat.div_lt_iff_lt_mul (by decide),Nat.pow_succ]
end Go.Abs
namespace Go.Abs
theorem z9l {x:UInt64} {N m:Nat} (hx:x.toNat=N):(0<z5n x m)↔2^m≤N:=by
 rw[UInt64.lt_iff_toNat_lt]
 show 0<(x.toBitVec>>>m).toNat↔_
 rw[BitVec.toNat_ushiftRight,Nat.shiftRight_eq_div_pow]
 show 0<x.toNat/2^m↔_
 rw[hx,Nat.div_pos_iff]
 have:=Nat.two_pow_pos m
 omega
theorem z5o (k:Nat):2^(8*k)=256^k:=by rw[Nat.pow_mul]
theorem z5q {x:UInt64} {N m:Nat} (hx:x.toNat=N):(z5n x m).toUInt8=UInt8.ofNat (N/2^m):=by
 apply UInt8.toNat_inj.1
 rw[UInt64.toNat_toUInt8,UInt8.toNat_ofNat']
 show(x.toBitVec>>>m).toNat% 256=_
 rw[BitVec.toNat_ushiftRight,Nat.shiftRight_eq_div_pow]
 show x.toNat/2^m% 256=_
 rw[hx]
end Go.Abs
end

section
namespace Go.Abs
def z2e (n:Int):Prop:= -9223372036854775808≤n∧n≤9223372036854775807
def z2L:z1f:=⟨fun ds=>∃n,z2e n∧ds=[i64 n],fun ds=> .sl (.own 1) (some false) (z4r (asI (nth ds 0))).length (bys (z4r (asI (nth ds 0))))⟩
set_option maxRecDepth 100000 in
theorem z0L (c:UInt8):c^^^255=255-c:=by
 have h:∀k:Fin 256,UInt8.ofNat k.val^^^255=255-UInt8.ofNat k.val:=by decide+kernel
 have:=h ⟨c.toNat,c.toNat_lt⟩
 simpa using this
theorem z8X (E:Env):∀ds,z2L.pre ds→ds.length=z1d.n∧awp E z1d.body (z6va z1d.res (z2L.post ds)) (z4H z1d.wr ds):=by
 rintro _ ⟨n,⟨hn0,hn1⟩,rfl⟩
 simp(disch:=first|omega|(simp;omega)) [z1d,z2L]
 refine z1g fun Q0 hQ0=> ?_
 have key:∀(x:UInt64) (f:UInt8),x.toNat=mag n→(∀c,c^^^f=flp n c)→Q0 .normal ⟨[(0,i64 n)],[(3,u64 x),(4,u8 f)],[]⟩:=by
  intro x f hx hf
  simp(disch:=first|omega|(simp;omega)) [hQ0]
  refine z1g fun Q1 hQ1=> ?_
  have key2:∀k:Nat,k≤8→(z2k (mag n)).length=k→Q1 (.exit 0) ⟨[(0,i64 n)],[(3,u64 x),(4,u8 f),(5,i64 k)],[]⟩:=by
   intro k hk8 hk
   simp(disch:=first|omega|(simp;omega)) [hQ1,z7G]
   refine z1g fun Q2 hQ2=> ?_
   have ehd:(UInt8.ofInt 128+UInt8.ofInt (k:Int))^^^f=flp n (UInt8.ofNat (128+k)):=by
    rw[←hf]
    congr 1
    apply UInt8.toNat_inj.1
    simp[z6t]
    omega
   rw[ehd]
   refine z2v (fun j:Nat=>⟨[(0,i64 n)],[(3,u64 x),(4,u8 f),(6,.sl (.own 1) (some false) (1+j) (bys (flp n (UInt8.ofNat (128+k))::((z2k (mag n)).reverse.take j).map (flp n)))),(7,i64 ((k:Int)-1-j))],[]⟩)
    (fun j=>k-j) (· ≤k) 0 (by simp;rfl) (by simp) fun j hj=> ?_
   refine z1g fun Q3 hQ3=> ?_
   simp(disch:=first|omega|(simp;omega)) [z7G]
   rw[z4h]
   refine⟨by simp,fun h=> ?_,fun h=> ?_⟩<;>simp at h
   ·simp(disch:=first|omega|(simp;omega)) [z7G]
    refine⟨by omega,by omega,?_⟩
    have hjk:j<k:=by omega
    have e8:(8*((k:Int)-1-(j:Int))).toNat=8*(k-1-j):=by omega
    have hel:(z5n x (8*(k-1-j))).toUInt8^^^f=flp n ((z2k (mag n))[k-1-j]'(by omega)):=by
     rw[hf,z1h,z5q hx,z5o]
    have htk:((z2k (mag n)).map (flp n)).reverse.take (j+1)=((z2k (mag n)).map (flp n)).reverse.take j++[flp n ((z2k (mag n))[k-1-j]'(by omega))]:=by
     rw[List.take_succ_eq_append_getElem (by simp;omega)]
     simp[hk]
    rw[hQ3,e8,hel]
    simp
    refine⟨j+1,by omega,by omega,⟨by omega,?_⟩,by omega⟩
    rw[htk]
    simp[bys]
   ·have e:j=k:=by omega
    subst e
    simp[hQ3,hQ2,z4r,hk,List.take_of_length_le]
    omega
  refine z2v (fun k:Nat=>⟨[(0,i64 n)],[(3,u64 x),(4,u8 f),(5,i64 k)],[]⟩) (fun k=>k) (fun k=>k≤8∧(z2k (mag n)).length≤k) 8 rfl ?_ fun k hk=> ?_
  ·refine⟨by decide,(z8h 8 _).2 ?_⟩
   rw[←hx]
   exact x.toNat_lt
  ·obtain⟨hk8,hkl⟩:=hk
   refine z1g fun Q2 hQ2=> ?_
   simp(disch:=first|omega|(simp;omega)) [z7G]
   rw[z4h]
   refine⟨by simp,fun h=> ?_,fun h=> ?_⟩<;>simp at h
   ·obtain⟨j,rfl⟩:∃j,k=j+1:=⟨k-1,by omega⟩
    have e1:((8:Int)*(((j+1:Nat):Int)-1)).toNat=8*j:=by omega
    simp(disch:=first|omega|(simp;omega)) [z7G]
    refine⟨by omega,?_⟩
    rw[z4h]
    refine⟨by simp,fun h2=> ?_,fun h2=> ?_⟩<;>simp at h2
    ·simp[hQ2]
     refine key2 (j+1) hk8 ?_
     have h3:¬(z2k (mag n)).length≤j:=by
      rw[z8h,←z5o,Nat.not_lt,←z9l hx,←e1]
      simpa using h2
     omega
    ·simp(disch:=first|omega|(simp;omega)) [hQ2,z7G]
     have h3:¬0<z5n x (8*j):=by rw[←e1];simpa using h2
     have h4:(z2k (mag n)).length≤j:=by rw[z8h,←z5o,←Nat.not_le,←z9l hx];exact h3
     exact⟨j,by omega,⟨by omega,h4⟩,by omega⟩
   ·simp[hQ2]
    subst h
    exact key2 0 (by decide) (by omega)
 rw[z4h]
 have hge:∀m:Int,0≤m→m<18446744073709551616→(UInt64.ofInt m).toNat=m.toNat:=fun m h0 h1=>by rw[z3l,Int.emod_eq_of_lt h0 h1]
 refine⟨by simp,fun h=> ?_,fun h=> ?_⟩<;>simp at h
 ·simp
  refine key _ 255 ?_ ?_
  ·rw[mag,if_pos h,UInt64.toNat_not,z3l]
   have:UInt64.size=18446744073709551616:=rfl
   omega
  ·intro c
   rw[flp,if_pos h]
   exact z0L c
 ·simp
  refine key _ 0 ?_ ?_
  ·rw[hge n h (by omega),mag,if_neg (by omega)]
  ·intro c
   rw[flp,if_neg (by omega)]
   simp
end Go.Abs
end

section
namespace Go.Abs
def z2X (s:List UInt8):List UInt8:=z4r s.length++s
def z4tb:z1f:=⟨fun ds=>∃s:List UInt8,s.length≤1099511000000∧ds=[st s],fun ds=> .sl (.own 1) (some false) (z2X (gS (nth ds 0))).length (bys (z2X (gS (nth ds 0))))⟩
theorem z6Qc {n:Int} (h:z2e n):(z2k (mag n)).length≤8:=by
 rw[z8h,mag]
 obtain⟨h1,h2⟩:=h
 split<;>omega
theorem z7Aa {n:Int} (h:z2e n):(z4r n).length≤9:=by
 have:=z6Qc h
 simp[z4r];omega
theorem z4id (E:Env) (h12:E.G 12=z2L):∀ds,z4tb.pre ds→ds.length=z0Oa.n∧awp E z0Oa.body (z6va z0Oa.res (z4tb.post ds)) (z4H z0Oa.wr ds):=by
 rintro _ ⟨s,hs,rfl⟩
 have hi:z2e (s.length:Int):=⟨by omega,by omega⟩
 have hl:=z7Aa hi
 simp(disch:=first|omega|(simp;omega)) [z0Oa,z4tb,h12,z2L,z2X,hi,z3Oa]
 omega
end Go.Abs
end

section
namespace Go.Abs
end Go.Abs
end

section
namespace Go.Abs
def fl (h c:UInt8):UInt8:=if h<128 then 255-c else c
def kOf (h:UInt8):Nat:=(fl h h).toNat-128
def z8la (l:List UInt8):Nat:=l.foldl (fun a c=>256*a+c.toNat) 0
def z6m:List UInt8→Int×Nat×Nat
 |[]=>(0,0,5)
 |h::t=>
  if 8<kOf h then(0,0,6) else if t.length<kOf h then(0,0,5)
  else if 0<kOf h∧fl h (at8 t 0)=0 then(0,0,6)
  else if 2^63≤z8la ((t.take (kOf h)).map (fl h)) then(0,0,6)
  else(if h<128 then-1-(z8la ((t.take (kOf h)).map (fl h)):Int) else z8la ((t.take (kOf h)).map (fl h)),kOf h+1,0)

end Go.Abs
end
