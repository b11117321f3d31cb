/- Lemmas: an abstract interpreter, and what the functions compute. -/
import Derived.Test.YtkccmbjmlpnejaaDoorC
import Derived.Test.YtkccmbjmlpnejaaDoorT
import Derived.Test.YtkccmbjmlpnejaaDoorQ
import Derived.Test.YtkccmbjmlpnejaaDoorP
import Derived.Test.YtkccmbjmlpnejaaDoorD
set_option linter.unusedSimpArgs false
set_option linter.unusedVariables false
set_option linter.unusedSectionVars false
section
namespace Go.Abs
set_option maxRecDepth 100000
def z2n : z4a :=
 .seq (
 .region [5, 6, 7, 8, 10, 61] [] [
 ⟨some 60, none, .mv false (.s 9)⟩,
 ⟨some 61, none, .bin .eql (.s 60) (.c (i64 0))⟩]) (
 .cond (.s 61) (
 .seq (
 .region [5, 6, 7, 10] [.norm [5, 6, 8, 10]] [
 ⟨some 62, none, .load (some 5) (some 8) false (.s 8)⟩,
 ⟨none, none, .store (some 5) 5 false (.s 5) (.s 62)⟩]) (
 .region [5, 6, 7] [.norm [5, 6, 8, 10]] [
 ⟨some 63, none, .load (some 5) (some 10) false (.s 10)⟩,
 ⟨none, none, .store (some 5) 6 false (.s 6) (.s 63)⟩])) (
 .ghost (.keep [5, 6, 7]) .skip))
def z8m : z4a :=
 .seq (
 .region [5, 6, 7, 8, 9] [.norm [5, 6, 8]] [
 ⟨some 33, none, .load (some 5) (some 5) false (.s 5)⟩,
 ⟨some 34, none, .mv false (.s 0)⟩,
 ⟨some 35, none, .mv false (.s 7)⟩,
 ⟨some 36, none, .idxSl 30 (.s 34) (.s 35)⟩,
 ⟨some 37, none, .load (some 30) none false (.s 36)⟩,
 ⟨some 38, none, .call 310 [(.s 33), (.s 37)] []⟩,
 ⟨some 32, none, .mv false (.s 38)⟩,
 ⟨some 39, none, .extract 0 (.s 32)⟩,
 ⟨some 40, none, .extract 1 (.s 32)⟩,
 ⟨some 8, none, .alloc 8 ([i64 0, i64 0, i64 0, i64 0] ++ [.sl (.own 24) none 0 []])⟩,
 ⟨none, none, .store (some 5) 8 false (.s 8) (.s 39)⟩,
 ⟨some 9, none, .mv false (.s 40)⟩]) (
 .seq (
 .region [5, 6, 7, 8, 9, 10, 11] [.norm [5, 6, 8, 10]] [
 ⟨some 42, none, .load (some 5) (some 6) false (.s 6)⟩,
 ⟨some 43, none, .mv false (.s 0)⟩,
 ⟨some 44, none, .mv false (.s 7)⟩,
 ⟨some 45, none, .idxSl 30 (.s 43) (.s 44)⟩,
 ⟨some 46, none, .load (some 30) none false (.s 45)⟩,
 ⟨some 47, none, .call 337 [(.s 42), (.s 46)] []⟩,
 ⟨some 41, none, .mv false (.s 47)⟩,
 ⟨some 48, none, .extract 0 (.s 41)⟩,
 ⟨some 49, none, .extract 1 (.s 41)⟩,
 ⟨some 10, none, .alloc 10 ([i64 0, i64 0, i64 0, i64 0] ++ [.sl (.own 24) none 0 []])⟩,
 ⟨none, none, .store (some 5) 10 false (.s 10) (.s 48)⟩,
 ⟨some 11, none, .mv false (.s 49)⟩]) (
 .seq (
 .region [5, 6, 7, 8, 9, 10, 11, 12] [.norm [5, 6, 8, 10]] [
 ⟨some 50, none, .load (some 5) (some 8) false (.s 8)⟩,
 ⟨some 51, none, .load (some 5) (some 10) false (.s 10)⟩,
 ⟨some 52, none, .call 339 [(.s 50), (.s 51)] []⟩,
 ⟨some 12, none, .mv false (.s 52)⟩]) (
 .seq (
 .seq (
 .region [5, 6, 7, 8, 9, 10, 59] [] [
 ⟨some 53, none, .mv false (.s 12)⟩,
 ⟨some 54, none, .un .not (.s 53)⟩,
 ⟨some 55, none, .mv false (.s 54)⟩,
 ⟨some 56, (some (55, false)), .mv false (.s 9)⟩,
 ⟨some 57, (some (55, false)), .mv false (.s 11)⟩,
 ⟨some 58, (some (55, false)), .bin .neq (.s 56) (.s 57)⟩,
 ⟨some 59, none, .pick (.s 55) (.c (bo true)) (.s 58)⟩]) (
 .cond (.s 59) (
 .seq (
 .region [4] [] [
 ⟨some 4, none, .mv false (.c (bo false))⟩]) (
 .ret)) (
 .ghost (.keep [5, 6, 7, 8, 9, 10]) .skip))) (
 z2n))))
def z3j : z4a :=
 .seq (
 .block 1 (
 .seq (
 .seq (
 .region [5, 6, 7, 30] [.norm [5, 6]] [
 ⟨some 25, none, .mv false (.s 0)⟩,
 ⟨some 26, none, .mv false (.s 7)⟩,
 ⟨some 27, none, .idxSl 30 (.s 25) (.s 26)⟩,
 ⟨some 28, none, .load (some 30) none false (.s 27)⟩,
 ⟨some 29, none, .call 341 [(.s 28)] []⟩,
 ⟨some 30, none, .un .not (.s 29)⟩]) (
 .cond (.s 30) (
 .seq (
 .region [4] [] [
 ⟨some 31, none, .call 342 [] []⟩,
 ⟨some 4, none, .mv false (.s 31)⟩]) (
 .ret)) (
 .ghost (.keep [5, 6, 7]) .skip))) (
 z8m))) (
 .region [5, 6, 7] [.drop [8, 10]] [
 ⟨some 23, none, .mv false (.s 7)⟩,
 ⟨some 24, none, .bin .add (.s 23) (.c (i64 1))⟩,
 ⟨some 7, none, .mv false (.s 24)⟩])
def z7g : z4a :=
 .seq (
 .seq (
 .region [5, 6, 7, 22] [] [
 ⟨some 19, none, .mv false (.s 7)⟩,
 ⟨some 20, none, .mv false (.s 0)⟩,
 ⟨some 21, none, .len false (.s 20)⟩,
 ⟨some 22, none, .bin .lss (.s 19) (.s 21)⟩]) (
 .cond (.s 22) (
 .ghost (.keep [5, 6, 7]) .skip) (
 .ghost (.keep [5, 6]) (.exit 0)))) (
 z3j)
def z7u : z4a :=
 .seq (
 .region [4] [.norm [5, 6, 8, 10]] [
 ⟨some 64, none, .call 342 [] []⟩,
 ⟨some 65, none, .mv false (.s 64)⟩,
 ⟨some 66, (some (65, true)), .load (some 5) (some 5) false (.s 5)⟩,
 ⟨some 67, (some (65, true)), .load (some 5) (some 6) false (.s 6)⟩,
 ⟨some 68, (some (65, true)), .call 339 [(.s 66), (.s 67)] []⟩,
 ⟨some 69, none, .pick (.s 65) (.s 68) (.c (bo false))⟩,
 ⟨some 70, none, .mv false (.s 69)⟩,
 ⟨some 71, (some (70, true)), .load (some 5) (some 5) false (.s 5)⟩,
 ⟨some 72, (some (70, true)), .mv false (.s 1)⟩,
 ⟨some 73, (some (70, true)), .call 311 [(.s 71), (.s 72)] []⟩,
 ⟨some 74, (some (70, true)), .load (some 5) (some 6) false (.s 6)⟩,
 ⟨some 75, (some (70, true)), .mv false (.s 1)⟩,
 ⟨some 76, (some (70, true)), .call 340 [(.s 74), (.s 75)] []⟩,
 ⟨some 77, (some (70, true)), .call 338 [(.s 73), (.s 76)] []⟩,
 ⟨some 78, none, .pick (.s 70) (.s 77) (.c (bo false))⟩,
 ⟨some 4, none, .mv false (.s 78)⟩]) (
 .ret)
def z1u : z4a :=
 .seq (
 .region [5] [.norm [5]] [
 ⟨some 17, none, .call 304 [] []⟩,
 ⟨some 5, none, .alloc 5 ([i64 0, i64 0, i64 0, i64 0] ++ [.sl (.own 24) none 0 []])⟩,
 ⟨none, none, .store (some 5) 5 false (.s 5) (.s 17)⟩]) (
 .seq (
 .region [5, 6] [.norm [5, 6]] [
 ⟨some 18, none, .call 335 [] []⟩,
 ⟨some 6, none, .alloc 6 ([i64 0, i64 0, i64 0, i64 0] ++ [.sl (.own 24) none 0 []])⟩,
 ⟨none, none, .store (some 5) 6 false (.s 6) (.s 18)⟩]) (
 .seq (
 .seq (
 .region [5, 6, 7] [] [
 ⟨some 7, none, .mv false (.c (i64 0))⟩]) (
 .block 0 (
 .loop z7g))) (
 z7u)))
def z1d : z2r :=
 { n := 2, wr := [], res := [.t 4], body :=
 .seq (
 .region [] [] [
 ⟨some 4, none, .mv false (.c (bo false))⟩]) (
 .seq (
 .seq (
 .region [15] [] [
 ⟨some 13, none, .mv false (.s 0)⟩,
 ⟨some 14, none, .len false (.s 13)⟩,
 ⟨some 15, none, .bin .gtr (.s 14) (.c (i64 30))⟩]) (
 .cond (.s 15) (
 .seq (
 .region [4] [] [
 ⟨some 16, none, .call 342 [] []⟩,
 ⟨some 4, none, .mv false (.s 16)⟩]) (
 .ret)) (
 .ghost (.keep []) .skip))) (
 z1u)) }

def z0e : z2r :=
 { n := 1, wr := [], res := [.t 2], body :=
 .seq (
 .region [1] [.norm [1]] [
 ⟨some 1, none, .box 1 (some 30) false (.s 0)⟩,
 ⟨some 2, none, .mv false (.c (bo false))⟩]) (
 .seq (
 .region [2] [.norm [1]] [
 ⟨some 3, none, .fieldAddr 28 (.s 1)⟩,
 ⟨some 4, none, .load none (some 1) false (.s 3)⟩,
 ⟨some 5, none, .len false (.s 4)⟩,
 ⟨some 6, none, .bin .leq (.s 5) (.c (i64 40))⟩,
 ⟨some 7, none, .mv false (.s 6)⟩,
 ⟨some 8, (some (7, true)), .fieldAddr 29 (.s 1)⟩,
 ⟨some 9, (some (7, true)), .load none (some 1) false (.s 8)⟩,
 ⟨some 10, (some (7, true)), .len false (.s 9)⟩,
 ⟨some 11, (some (7, true)), .bin .leq (.s 10) (.c (i64 40))⟩,
 ⟨some 12, none, .pick (.s 7) (.s 11) (.c (bo false))⟩,
 ⟨some 13, none, .mv false (.s 12)⟩,
 ⟨some 14, (some (13, true)), .fieldAddr 4 (.s 1)⟩,
 ⟨some 15, (some (13, true)), .fieldAddr 7 (.s 14)⟩,
 ⟨some 16, (some (13, true)), .load none (some 1) false (.s 15)⟩,
 ⟨some 17, (some (13, true)), .len false (.s 16)⟩,
 ⟨some 18, (some (13, true)), .bin .leq (.s 17) (.c (i64 40))⟩,
 ⟨some 19, none, .pick (.s 13) (.s 18) (.c (bo false))⟩,
 ⟨some 20, none, .mv false (.s 19)⟩,
 ⟨some 21, (some (20, true)), .fieldAddr 4 (.s 1)⟩,
 ⟨some 22, (some (20, true)), .fieldAddr 6 (.s 21)⟩,
 ⟨some 23, (some (20, true)), .load none (some 1) false (.s 22)⟩,
 ⟨some 24, (some (20, true)), .len true (.s 23)⟩,
 ⟨some 25, (some (20, true)), .bin .leq (.s 24) (.c (i64 500))⟩,
 ⟨some 26, none, .pick (.s 20) (.s 25) (.c (bo false))⟩,
 ⟨some 2, none, .mv false (.s 26)⟩]) (
 .ret)) }

end Go.Abs
end

section
namespace Go.Abs
set_option maxRecDepth 100000
def z38a (x : z3s) : Bool := decide (x.made.length ≤ 40) && decide (x.gone.length ≤ 40) && decide (x.cmd.list.length ≤ 40) && decide (x.cmd.data.length ≤ 500)
def z82a : z5a := ⟨fun ds => ∃ (nc nm ng : Option Bool) (x : z3s), x.ok ∧ ds = [.agg (z7k nc nm ng x)], fun ds => bo (z38a (z5Ua (gCs (nth ds 0))))⟩
theorem z3Qb {nc nm ng : Option Bool} {x : z3s} (h : x.ok) : z82a.pre [.agg (z7k nc nm ng x)] = True := eq_true ⟨nc, nm, ng, x, h, rfl⟩
theorem z4Ra {nc nm ng : Option Bool} {x : z3s} (h : x.ok) : z82a.post [.agg (z7k nc nm ng x)] = bo (z38a x) := by
 show bo (z38a (z5Ua (z7k nc nm ng x))) = _
 rw [z4Xa h.2.2.2.2.2.1 (z6b h.2.2.2.2.2.2.1)]
theorem z4ib {x : z3s} (h : x.ok) (hf : z38a x = true) : x.small := by
 simp only [z38a, Bool.and_eq_true, decide_eq_true_eq] at hf
 obtain ⟨⟨⟨h1, h2⟩, h3⟩, h4⟩ := hf
 exact ⟨h, ⟨h.2.2.2.2.1, by omega, by omega⟩, by omega, by omega⟩
theorem z5ec (E : Env) : ∀ ds, z82a.pre ds → ds.length = z0e.n ∧ awp E z0e.body (z9u z0e.res (z82a.post ds)) (z8c z0e.wr ds) := by
 rintro _ ⟨nc, nm, ng, x, hx, rfl⟩
 rw [z4Ra hx]
 have hd := hx.2.2.2.2.2.1
 have hlen := z6d (nc := nc) (nm := nm) (ng := ng) hd
 have a7 : hdA ((z7k nc nm ng x).drop 11) = .sl .plain nc x.cmd.list.length (z6j x.cmd.list) := rfl
 have a6 : hdA ((z7k nc nm ng x).drop 10) = st x.cmd.data := rfl
 have a28 : hdA ((z7k nc nm ng x).drop 28) = .sl .plain nm x.made.length (z0b x.made) := z2ka hd
 have a29 : hdA ((z7k nc nm ng x).drop 29) = .sl .plain ng x.gone.length (z6j x.gone) := z9sa hd
 by_cases h1 : x.made.length ≤ 40
 ·have i1 : (x.made.length : Int) ≤ 40 := by omega
  by_cases h2 : x.gone.length ≤ 40
  ·have i2 : (x.gone.length : Int) ≤ 40 := by omega
   by_cases h3 : x.cmd.list.length ≤ 40
   ·have i3 : (x.cmd.list.length : Int) ≤ 40 := by omega
    by_cases h4 : x.cmd.data.length ≤ 500
    ·have i4 : (x.cmd.data.length : Int) ≤ 500 := by omega
     simp (maxSteps := 1000000) (disch := first | omega | (simp; done) | (simp; omega)) [z7a, z1a, z0a, z0e, hlen, a6, a7, a28, a29, h1, h2, h3, h4, i1, i2, i3, i4, z38a]
    ·have i4 : ¬ (x.cmd.data.length : Int) ≤ 500 := by omega
     simp (maxSteps := 1000000) (disch := first | omega | (simp; done) | (simp; omega)) [z7a, z1a, z0a, z0e, hlen, a6, a7, a28, a29, h1, h2, h3, h4, i1, i2, i3, i4, z38a]
   ·have i3 : ¬ (x.cmd.list.length : Int) ≤ 40 := by omega
    simp (maxSteps := 1000000) (disch := first | omega | (simp; done) | (simp; omega)) [z7a, z1a, z0a, z0e, hlen, a6, a7, a28, a29, h1, h2, h3, i1, i2, i3, z38a]
  ·have i2 : ¬ (x.gone.length : Int) ≤ 40 := by omega
   simp (maxSteps := 1000000) (disch := first | omega | (simp; done) | (simp; omega)) [z7a, z1a, z0a, z0e, hlen, a6, a7, a28, a29, h1, h2, i1, i2, z38a]
 ·have i1 : ¬ (x.made.length : Int) ≤ 40 := by omega
  simp (maxSteps := 1000000) (disch := first | omega | (simp; done) | (simp; omega)) [z7a, z1a, z0a, z0e, hlen, a6, a7, a28, a29, h1, i1, z38a]
end Go.Abs
end

section
namespace Go.Abs
set_option maxRecDepth 100000
def z8J : List z1c :=
 [
  ⟨(some 50), none, .load (some 8) (some 1) false (.s 1)⟩,
  ⟨(some 51), none, .call 289 [(.s 50)] []⟩,
  ⟨(some 52), none, .field none 6 (.s 51)⟩,
  ⟨(some 53), none, .bin .eql (.s 52) (.c (st []))⟩,
  ⟨(some 54), none, .mv false (.s 53)⟩]
def z0H : List z1c :=
 [
  ⟨(some 55), (some (54, true)), .build [i64 0, i64 0, i64 0, i64 0, i64 0, i64 0, st [], .sl .plain none 0 []] [(0, 1, (.c (i64 17))), (6, 1, (.c (st [120])))]⟩,
  ⟨(some 56), (some (54, true)), .call 289 [(.s 55)] []⟩,
  ⟨(some 57), (some (54, true)), .field none 6 (.s 56)⟩,
  ⟨(some 58), (some (54, true)), .bin .eql (.s 57) (.c (st [120]))⟩,
  ⟨(some 59), none, .pick (.s 54) (.s 58) (.c (bo false))⟩,
  ⟨(some 60), none, .mv false (.s 59)⟩]
def z3I : List z1c :=
 [
  ⟨(some 61), (some (60, true)), .load (some 30) (some 3) false (.s 3)⟩,
  ⟨(some 62), (some (60, true)), .call 300 [(.s 61)] []⟩,
  ⟨(some 63), none, .pick (.s 60) (.s 62) (.c (bo false))⟩,
  ⟨(some 64), none, .mv false (.s 63)⟩]
def z0K : List z1c :=
 [
  ⟨(some 65), (some (64, true)), .fieldAddr 12 (.s 3)⟩,
  ⟨(some 66), (some (64, true)), .load (some 16) (some 3) false (.s 65)⟩,
  ⟨(some 67), (some (64, true)), .load (some 8) (some 2) false (.s 2)⟩,
  ⟨(some 68), (some (64, true)), .call 148 [(.s 67)] []⟩,
  ⟨(some 69), (some (64, true)), .eqF (ks8 16) false (.s 66) (.s 68)⟩,
  ⟨(some 70), none, .pick (.s 64) (.s 69) (.c (bo false))⟩,
  ⟨(some 71), none, .mv false (.s 70)⟩]
def z5K : List z1c :=
 [
  ⟨(some 72), (some (71, true)), .mv false (.s 5)⟩,
  ⟨(some 73), (some (71, true)), .bin .eql (.s 72) (.c (i64 0))⟩,
  ⟨(some 74), none, .pick (.s 71) (.s 73) (.c (bo false))⟩,
  ⟨(some 75), none, .mv false (.s 74)⟩]
def z2I : List z1c :=
 [
  ⟨(some 76), (some (75, true)), .fieldAddr 3 (.s 4)⟩,
  ⟨(some 77), (some (75, true)), .load none (some 4) false (.s 76)⟩,
  ⟨(some 78), (some (75, true)), .bin .eql (.s 77) (.c (i64 2))⟩,
  ⟨(some 79), none, .pick (.s 75) (.s 78) (.c (bo false))⟩,
  ⟨(some 80), none, .mv false (.s 79)⟩]
def z4L : List z1c :=
 [
  ⟨(some 81), (some (80, true)), .fieldAddr 0 (.s 4)⟩,
  ⟨(some 82), (some (80, true)), .load none (some 4) false (.s 81)⟩,
  ⟨(some 83), (some (80, true)), .bin .eql (.s 82) (.c (i64 5))⟩,
  ⟨(some 84), none, .pick (.s 80) (.s 83) (.c (bo false))⟩,
  ⟨(some 85), none, .mv false (.s 84)⟩]
def z5H : List z1c :=
 [
  ⟨(some 86), (some (85, true)), .fieldAddr 2 (.s 4)⟩,
  ⟨(some 87), (some (85, true)), .load none (some 4) false (.s 86)⟩,
  ⟨(some 88), (some (85, true)), .bin .eql (.s 87) (.c (i64 1))⟩,
  ⟨(some 89), none, .pick (.s 85) (.s 88) (.c (bo false))⟩,
  ⟨(some 90), none, .mv false (.s 89)⟩]
def z0I : List z1c :=
 [
  ⟨(some 91), (some (90, true)), .fieldAddr 4 (.s 4)⟩,
  ⟨(some 92), (some (90, true)), .load none (some 4) false (.s 91)⟩,
  ⟨(some 93), (some (90, true)), .len false (.s 92)⟩,
  ⟨(some 94), (some (90, true)), .bin .eql (.s 93) (.c (i64 1))⟩,
  ⟨(some 95), none, .pick (.s 90) (.s 94) (.c (bo false))⟩,
  ⟨(some 96), none, .mv false (.s 95)⟩]
def z7J : List z1c :=
 [
  ⟨(some 97), (some (96, true)), .mv false (.s 7)⟩,
  ⟨(some 98), (some (96, true)), .bin .eql (.s 97) (.c (i64 7))⟩,
  ⟨(some 99), none, .pick (.s 96) (.s 98) (.c (bo false))⟩,
  ⟨(some 100), none, .mv false (.s 99)⟩]
def z2E : List z1c :=
 [
  ⟨(some 101), (some (100, true)), .mv false (.s 9)⟩,
  ⟨(some 102), (some (100, true)), .bin .eql (.s 101) (.c (i64 20))⟩,
  ⟨(some 103), none, .pick (.s 100) (.s 102) (.c (bo false))⟩,
  ⟨(some 104), none, .mv false (.s 103)⟩]
def z4E : List z1c :=
 [
  ⟨(some 105), (some (104, true)), .mv false (.s 11)⟩,
  ⟨(some 106), (some (104, true)), .bin .eql (.s 105) (.c (i64 0))⟩,
  ⟨(some 107), none, .pick (.s 104) (.s 106) (.c (bo false))⟩,
  ⟨(some 108), none, .mv false (.s 107)⟩]
def z5E : List z1c :=
 [
  ⟨(some 109), (some (108, true)), .fieldAddr 1 (.s 10)⟩,
  ⟨(some 110), (some (108, true)), .load none (some 10) false (.s 109)⟩,
  ⟨(some 111), (some (108, true)), .bin .eql (.s 110) (.c (i64 3))⟩,
  ⟨(some 112), none, .pick (.s 108) (.s 111) (.c (bo false))⟩,
  ⟨(some 113), none, .mv false (.s 112)⟩]
def z3D : List z1c :=
 [
  ⟨(some 114), (some (113, true)), .fieldAddr 2 (.s 10)⟩,
  ⟨(some 115), (some (113, true)), .load none (some 10) false (.s 114)⟩,
  ⟨(some 116), (some (113, true)), .bin .eql (.s 115) (.c (i64 2))⟩,
  ⟨(some 117), none, .pick (.s 113) (.s 116) (.c (bo false))⟩,
  ⟨(some 118), none, .mv false (.s 117)⟩]
def z1E : List z1c :=
 [
  ⟨(some 119), (some (118, true)), .mv false (.s 13)⟩,
  ⟨(some 120), (some (118, true)), .bin .eql (.s 119) (.c (i64 0))⟩,
  ⟨(some 121), none, .pick (.s 118) (.s 120) (.c (bo false))⟩,
  ⟨(some 122), none, .mv false (.s 121)⟩]
def z0D : List z1c :=
 [
  ⟨(some 123), (some (122, true)), .load (some 30) (some 3) false (.s 3)⟩,
  ⟨(some 124), (some (122, true)), .load (some 30) (some 12) false (.s 12)⟩,
  ⟨(some 125), (some (122, true)), .call 299 [(.s 123), (.s 124)] []⟩,
  ⟨(some 126), none, .pick (.s 122) (.s 125) (.c (bo false))⟩,
  ⟨(some 127), none, .mv false (.s 126)⟩]
def z6D : List z1c :=
 [
  ⟨(some 128), (some (127, true)), .load (some 5) (some 4) false (.s 4)⟩,
  ⟨(some 129), (some (127, true)), .call 311 [(.s 128), (.c (i64 8))] []⟩,
  ⟨(some 130), (some (127, true)), .len false (.s 129)⟩,
  ⟨(some 131), (some (127, true)), .bin .eql (.s 130) (.c (i64 1))⟩,
  ⟨(some 132), none, .pick (.s 127) (.s 131) (.c (bo false))⟩,
  ⟨(some 133), none, .mv false (.s 132)⟩]
def z7E : List z1c :=
 [
  ⟨(some 134), (some (133, true)), .load (some 5) (some 4) false (.s 4)⟩,
  ⟨(some 135), (some (133, true)), .call 311 [(.s 134), (.c (i64 9))] []⟩,
  ⟨(some 136), (some (133, true)), .len false (.s 135)⟩,
  ⟨(some 137), (some (133, true)), .bin .eql (.s 136) (.c (i64 0))⟩,
  ⟨(some 138), none, .pick (.s 133) (.s 137) (.c (bo false))⟩,
  ⟨(some 139), none, .mv false (.s 138)⟩]
def z6E : List z1c :=
 [
  ⟨(some 140), (some (139, true)), .load (some 30) (some 3) false (.s 3)⟩,
  ⟨(some 141), (some (139, true)), .call 303 [(.s 140)] []⟩,
  ⟨(some 142), (some (139, true)), .call 294 [(.c (i64 5)), (.c (i64 1))] []⟩,
  ⟨(some 143), (some (139, true)), .call 303 [(.s 142)] []⟩,
  ⟨(some 144), (some (139, true)), .eqF (ks8 16) true (.s 141) (.s 143)⟩,
  ⟨(some 145), none, .pick (.s 139) (.s 144) (.c (bo false))⟩,
  ⟨(some 0), none, .mv false (.s 145)⟩]
def z3H : z4a :=
 .seq (
  .region [0] [.norm [1, 2, 3, 4, 6, 8, 10, 12]] (z8J ++ (z0H ++ (z3I ++ (z0K ++ (z5K ++ (z2I ++ (z4L ++ (z5H ++ (z0I ++ (z7J ++ (z2E ++ (z4E ++ (z5E ++ (z3D ++ (z1E ++ (z0D ++ (z6D ++ (z7E ++ (z6E)))))))))))))))))))) (
 .ret)
def z2K : z4a :=
 .seq (
  .region [1, 2, 3, 4, 5, 7, 9, 10, 11, 12, 13] [.norm [1, 2, 3, 4, 6, 8, 10, 12]] [
   ⟨(some 45), none, .load (some 30) (some 3) false (.s 3)⟩,
   ⟨(some 46), none, .call 302 [(.s 45)] []⟩,
   ⟨(some 47), none, .call 322 [(.s 46)] []⟩,
   ⟨(some 44), none, .mv false (.s 47)⟩,
   ⟨(some 48), none, .extract 0 (.s 44)⟩,
   ⟨(some 49), none, .extract 1 (.s 44)⟩,
   ⟨(some 12), none, .alloc 12 (List.replicate 10 (i64 0) ++ [st []] ++ [.sl .plain none 0 []] ++ bys (z9c 16) ++ [.sl (.own 24) none 0 []] ++ [.sl (.own 1) none 0 []])⟩,
   ⟨none, none, .store (some 30) 12 false (.s 12) (.s 48)⟩,
   ⟨(some 13), none, .mv false (.s 49)⟩]) (
 z3H)
def z6K : z4a :=
 .seq (
  .region [1, 2, 3, 4, 5, 7, 9, 10, 11] [.norm [1, 2, 3, 4, 6, 8, 10]] [
   ⟨(some 39), none, .load (some 5) (some 4) false (.s 4)⟩,
   ⟨(some 40), none, .call 294 [(.c (i64 6)), (.c (i64 3))] []⟩,
   ⟨(some 41), none, .call 310 [(.s 39), (.s 40)] []⟩,
   ⟨(some 38), none, .mv false (.s 41)⟩,
   ⟨(some 42), none, .extract 0 (.s 38)⟩,
   ⟨(some 43), none, .extract 1 (.s 38)⟩,
   ⟨(some 10), none, .alloc 10 ([i64 0, i64 0, i64 0, i64 0] ++ [.sl (.own 24) none 0 []])⟩,
   ⟨none, none, .store (some 5) 10 false (.s 10) (.s 42)⟩,
   ⟨(some 11), none, .mv false (.s 43)⟩]) (
 z2K)
def z2H : z4a :=
 .seq (
  .region [1, 2, 3, 4, 5, 7, 9] [.norm [1, 2, 3, 4, 6, 8]] [
   ⟨(some 33), none, .load (some 5) (some 4) false (.s 4)⟩,
   ⟨(some 34), none, .call 294 [(.c (i64 4)), (.c (i64 3))] []⟩,
   ⟨(some 35), none, .call 310 [(.s 33), (.s 34)] []⟩,
   ⟨(some 32), none, .mv false (.s 35)⟩,
   ⟨(some 36), none, .extract 0 (.s 32)⟩,
   ⟨(some 37), none, .extract 1 (.s 32)⟩,
   ⟨(some 8), none, .alloc 8 ([i64 0, i64 0, i64 0, i64 0] ++ [.sl (.own 24) none 0 []])⟩,
   ⟨none, none, .store (some 5) 8 false (.s 8) (.s 36)⟩,
   ⟨(some 9), none, .mv false (.s 37)⟩]) (
 z6K)
def z3J : z4a :=
 .seq (
  .region [1, 2, 3, 4, 5, 7] [.norm [1, 2, 3, 4, 6]] [
   ⟨(some 27), none, .load (some 5) (some 4) false (.s 4)⟩,
   ⟨(some 28), none, .load (some 30) (some 3) false (.s 3)⟩,
   ⟨(some 29), none, .call 310 [(.s 27), (.s 28)] []⟩,
   ⟨(some 26), none, .mv false (.s 29)⟩,
   ⟨(some 30), none, .extract 0 (.s 26)⟩,
   ⟨(some 31), none, .extract 1 (.s 26)⟩,
   ⟨(some 6), none, .alloc 6 ([i64 0, i64 0, i64 0, i64 0] ++ [.sl (.own 24) none 0 []])⟩,
   ⟨none, none, .store (some 5) 6 false (.s 6) (.s 30)⟩,
   ⟨(some 7), none, .mv false (.s 31)⟩]) (
 z2H)
def z2J : z4a :=
 .seq (
  .region [1, 2, 3, 4, 5] [.norm [1, 2, 3, 4]] [
   ⟨(some 21), none, .call 304 [] []⟩,
   ⟨(some 22), none, .load (some 30) (some 3) false (.s 3)⟩,
   ⟨(some 23), none, .call 310 [(.s 21), (.s 22)] []⟩,
   ⟨(some 20), none, .mv false (.s 23)⟩,
   ⟨(some 24), none, .extract 0 (.s 20)⟩,
   ⟨(some 25), none, .extract 1 (.s 20)⟩,
   ⟨(some 4), none, .alloc 4 ([i64 0, i64 0, i64 0, i64 0] ++ [.sl (.own 24) none 0 []])⟩,
   ⟨none, none, .store (some 5) 4 false (.s 4) (.s 24)⟩,
   ⟨(some 5), none, .mv false (.s 25)⟩]) (
 z3J)
def z9K : z4a :=
 .seq (
  .region [1, 2, 3] [.norm [1, 2, 3]] [
   ⟨(some 16), none, .load (some 8) (some 2) false (.s 2)⟩,
   ⟨(some 17), none, .build (List.replicate 7 (i64 0) ++ [bo false] ++ bys (z9c 16)) [(0, 1, (.c (i64 1))), (1, 1, (.c (i64 2))), (4, 1, (.c (i64 9))), (5, 1, (.c (i64 1)))]⟩,
   ⟨(some 18), none, .buildSl 24 1 [i64 0, i64 0, i64 0, i64 0, i64 0, i64 0, i64 0, bo false, u8 0, u8 0, u8 0, u8 0, u8 0, u8 0, u8 0, u8 0, u8 0, u8 0, u8 0, u8 0, u8 0, u8 0, u8 0, u8 0] [(0, 24, (.s 17))]⟩,
   ⟨(some 19), none, .call 292 [(.c (i64 5)), (.s 16), (.c (i64 0)), (.c (i64 1)), (.s 18), (.c (.lit (.slice none 0 0)))] []⟩,
   ⟨(some 3), none, .alloc 3 (List.replicate 10 (i64 0) ++ [st []] ++ [.sl .plain none 0 []] ++ bys (z9c 16) ++ [.sl (.own 24) none 0 []] ++ [.sl (.own 1) none 0 []])⟩,
   ⟨none, none, .store (some 30) 3 false (.s 3) (.s 19)⟩]) (
 z2J)
def z7I : z4a :=
 .seq (
  .region [1, 2] [.norm [1, 2]] [
   ⟨(some 15), none, .build [i64 0, i64 0, i64 0, i64 0, i64 0, i64 0, st [], .sl .plain none 0 []] [(0, 1, (.c (i64 1))), (3, 1, (.c (i64 2)))]⟩,
   ⟨(some 2), none, .alloc 2 (List.replicate 6 (i64 0) ++ [st []] ++ [.sl .plain none 0 []])⟩,
   ⟨none, none, .store (some 8) 2 false (.s 2) (.s 15)⟩]) (
 z9K)
def z7K : z4a :=
 .seq (
  .region [1] [.norm [1]] [
   ⟨(some 14), none, .build [i64 0, i64 0, i64 0, i64 0, i64 0, i64 0, st [], .sl .plain none 0 []] [(0, 1, (.c (i64 2))), (6, 1, (.c (st [115, 101, 99, 114, 101, 116])))]⟩,
   ⟨(some 1), none, .alloc 1 (List.replicate 6 (i64 0) ++ [st []] ++ [.sl .plain none 0 []])⟩,
   ⟨none, none, .store (some 8) 1 false (.s 1) (.s 14)⟩]) (
 z7I)
def z6g : z2r :=
 { n := 0, wr := [], res := [.t 0], body :=
  .seq (
   .region [] [] [
    ⟨(some 0), none, .mv false (.c (bo false))⟩]) (
  z7K) }

end Go.Abs
end

section
namespace Go.Abs
set_option maxRecDepth 100000
def sEx : Cmd := ⟨2, 0, 0, 0, 0, 0, [115, 101, 99, 114, 101, 116], []⟩
theorem z5Sa : dEx.small := by
 refine ⟨⟨?_, ?_, ?_, ?_, ?_, ?_, ?_⟩, ?_, ?_⟩
 all_goals first | (constructor <;> decide) | (simp [dEx]; done)
theorem z9qb : sEx.small := by
 refine ⟨⟨?_, ?_, ?_, ?_, ?_, ?_, ?_⟩, ?_, ?_⟩
 all_goals first | (constructor <;> decide) | (simp [sEx]; done)
theorem dExL (nl : Option Bool) : [i64 1, i64 0, i64 0, i64 2, i64 0, i64 0, st [], .sl .plain nl 0 []] = z2o dEx nl := rfl
theorem sExL (nl : Option Bool) : [i64 2, i64 0, i64 0, i64 0, i64 0, i64 0, st [115, 101, 99, 114, 101, 116], .sl .plain nl 0 []] = z2o sEx nl := rfl
def tEx : Cmd := ⟨17, 0, 0, 0, 0, 0, [120], []⟩
theorem z9tb : tEx.small := by
 refine ⟨⟨?_, ?_, ?_, ?_, ?_, ?_, ?_⟩, ?_, ?_⟩
 all_goals first | (constructor <;> decide) | (simp [tEx]; done)
theorem z5Oa (nl : Option Bool) : [i64 17, i64 0, i64 0, i64 0, i64 0, i64 0, st [120], .sl .plain nl 0 []] = z2o tEx nl := rfl
theorem z48c : splice ([i64 0, i64 0, i64 0, i64 0, i64 0, i64 0, i64 0, bo false, u8 0, u8 0, u8 0, u8 0, u8 0, u8 0, u8 0, u8 0, u8 0, u8 0, u8 0, u8 0, u8 0, u8 0, u8 0, u8 0] : List z2a) 0 (i64 1 :: i64 2 :: i64 0 :: i64 0 :: i64 9 :: i64 1 :: i64 0 :: bo false :: bys (z9c 16)) = z0b [mEx] := rfl
set_option maxHeartbeats 16000000 in
theorem z04b (E : Env) (h289 : E.G 289 = z1oa) (h292 : E.G 292 = z2Mb) (h294 : E.G 294 = z4Xb) (h299 : E.G 299 = z6Va) (h300 : E.G 300 = z47a) (h302 : E.G 302 = z1Ra) (h303 : E.G 303 = z00a) (h304 : E.G 304 = z5ib) (h310 : E.G 310 = z6ib) (h311 : E.G 311 = z6fb) (h322 : E.G 322 = z8Qa) (h148 : E.G 148 = z0la) : ∀ ds, z6hc.pre ds → ds.length = z6g.n ∧ awp E z6g.body (z9u z6g.res (z6hc.post ds)) (z8c z6g.wr ds) := by
 rintro _ rfl
 simp (maxSteps := 1000000) (disch := first | omega | (simp; done) | (simp; omega)) [z7a, z1a, z0a, z6g, z7K, dExL, sExL, z6Ha]
 simp (maxSteps := 1000000) (disch := first | omega | (simp; done) | (simp; omega)) [z7a, z1a, z0a, z7I, dExL, sExL, z6Ha]
 have hX : (xEx DEx).small := z2Ya rfl
 have m1 : z0b [mEx] = z0b [mEx] := rfl
 have pm : z2Mb.pre [i64 5, .agg (z2o dEx none), i64 0, i64 1, .sl .plain (some false) 1 (z0b [mEx]), .sl .plain (some true) 0 []] = True := z3cc (made := [mEx]) (gone := []) z5Sa (by intro m hm; simp only [List.mem_singleton] at hm; subst hm; exact hX.1.2.2.2.2.2.2.1 _ (List.mem_singleton.2 rfl)) (by decide) (by decide)
 have qm : z2Mb.post [i64 5, .agg (z2o dEx none), i64 0, i64 1, .sl .plain (some false) 1 (z0b [mEx]), .sl .plain (some true) 0 []] = .agg (z7k none none none (xEx DEx)) := by
  have := z56a (now := 5) (req := 0) (mode := 1) (c := dEx) (nc := none) (nm := some false) (ng := some true) (made := [mEx]) (gone := []) (by intro m hm; simp only [List.mem_singleton] at hm; subst hm; exact hX.1.2.2.2.2.2.2.1 _ (List.mem_singleton.2 rfl)) 0
  rw [mkE, z6Ub] at this
  exact this
 simp (maxSteps := 1000000) (disch := first | omega | (simp; done) | (simp; omega)) [z7a, z1a, z0a, z9K, h292, z48c, pm, qm, z0o (x := xEx DEx) rfl]
 have vs (nk : Option Bool) (v : z4q) (a b c d e : z2a) : splice [a, b, c, d, e] 0 (z2g nk v) = z2g nk v := rfl
 have v0 : vOk z5Ea := by simp [vOk, z5Ea, z6k, z9la, z4d]
 have vE : vOk vEx := ⟨by intro m hm; simp only [vEx, List.mem_singleton] at hm; subst hm; exact hX.1.2.2.2.2.2.2.1 _ (List.mem_singleton.2 rfl), by decide, by constructor <;> decide, by decide, by decide⟩
 have pa := z0Ca (nk := none) (nc := none) (nm := none) (ng := none) v0 hX
 have qa := z0ba (nk := none) (nc := none) (nm := none) (ng := none) v0 hX
 have pb := z0Ca (nk := none) (nc := none) (nm := none) (ng := none) vE hX
 have qb := z0ba (nk := none) (nc := none) (nm := none) (ng := none) vE hX
 rw [z67c] at qa
 rw [z9uc] at qb
 have vp (nk : Option Bool) (v : z4q) : z7h (z2g nk v) = true := by simp [z2g]
 have vl (nk : Option Bool) (v : z4q) : (z2g nk v).length = 5 := rfl
 have view_tk (nk : Option Bool) (v : z4q) : (z2g nk v).take 5 = z2g nk v := rfl
 have vc (nk : Option Bool) (v : z4q) : (∀ c ∈ z2g nk v, z5d c) = True := eq_true (by intro c hc; simp only [z2g, List.mem_cons, List.not_mem_nil, or_false] at hc; rcases hc with rfl | rfl | rfl | rfl | rfl <;> trivial)
 have vt (nk : Option Bool) (v : z4q) : (∀ c ∈ z2g nk v, z2f c = false) = True := eq_true (by intro c hc; simp only [z2g, List.mem_cons, List.not_mem_nil, or_false] at hc; rcases hc with rfl | rfl | rfl | rfl | rfl <;> rfl)
 have s4 : (z1wa 4 3).small := z6ha (by constructor <;> decide) (by constructor <;> decide)
 have s6 : (z1wa 6 3).small := z6ha (by constructor <;> decide) (by constructor <;> decide)
 have s5 : (z1wa 5 1).small := z6ha (by constructor <;> decide) (by constructor <;> decide)
 have pc := z0Ca (nk := none) (nc := none) (nm := none) (ng := none) vE s4
 have qc := z0ba (nk := none) (nc := none) (nm := none) (ng := none) vE s4
 have pd := z0Ca (nk := none) (nc := none) (nm := none) (ng := none) vE s6
 have qd := z0ba (nk := none) (nc := none) (nm := none) (ng := none) vE s6
 rw [z59b] at qc
 rw [z7Lc] at qd
 have hle : (z5Fa (xEx DEx)).length = 70 := by kernel_rfl
 have pe := z4cb (nc := none) (nm := none) (ng := none) hX
 have qe := z9ya (nc := none) (nm := none) (ng := none) hX
 have pf : z8Qa.pre [st (z5Fa (xEx DEx))] = True := eq_true rfl
 have qf : z8Qa.post [st (z5Fa (xEx DEx))] = .tup [.agg (z7k none none none (xEx DEx)), i64 0] := rfl
 simp (maxSteps := 1000000) (disch := first | omega | (simp; done) | (simp; omega)) [z7a, z1a, z0a, z2J, h304, pa, qa, h310, vs, vp, vl, vc, vt, z0o (x := xEx DEx) rfl, z8q (x := xEx DEx) rfl, z6d (x := xEx DEx) rfl, view_tk]
 simp (maxSteps := 1000000) (disch := first | omega | (simp; done) | (simp; omega)) [z7a, z1a, z0a, z3J, pb, qb, h310, vs, vp, vl, vc, vt, z0o (x := xEx DEx) rfl, z8q (x := xEx DEx) rfl, z6d (x := xEx DEx) rfl, view_tk]
 simp (maxSteps := 1000000) (disch := first | omega | (simp; done) | (simp; omega)) [z7a, z1a, z0a, z2H, h294, pc, qc, h310, vs, vp, vl, vc, vt, z0o (x := xEx DEx) rfl, z8q (x := xEx DEx) rfl, z6d (x := xEx DEx) rfl, view_tk]
 simp (maxSteps := 1000000) (disch := first | omega | (simp; done) | (simp; omega)) [z7a, z1a, z0a, z6K, h294, pd, qd, h310, vs, vp, vl, vc, vt, z0o (x := xEx DEx) rfl, z8q (x := xEx DEx) rfl, z6d (x := xEx DEx) rfl, view_tk]
 simp (maxSteps := 1000000) (disch := first | omega | (simp; done) | (simp; omega)) [z7a, z1a, z0a, z2K, h302, h322, pe, qe, pf, qf, h310, vs, vp, vl, vc, vt, z0o (x := xEx DEx) rfl, z8q (x := xEx DEx) rfl, z6d (x := xEx DEx) rfl, view_tk]
 clear pa qa pb qb pc qc pd qd pe qe pf qf pm qm
 have c1 : z1oa.post [.agg (z2o sEx none)] = .agg [i64 2, i64 0, i64 0, i64 0, i64 0, i64 0, st [], .sl .plain none 0 []] := by rw [z0wa]; rfl
 have c2 : z1oa.post [.agg (z2o tEx none)] = .agg [i64 17, i64 0, i64 0, i64 0, i64 0, i64 0, st [120], .sl .plain none 0 []] := by rw [z0wa]; rfl
 have d1 : z1oa.pre [.agg (z2o sEx none)] = True := z3Ja z9qb
 have d2 : z1oa.pre [.agg (z2o tEx none)] = True := z3Ja z9tb
 have e1 := z8Oa (nc := none) (nm := none) (ng := none) hX
 have e2 := z2ha (nc := none) (nm := none) (ng := none) hX
 rw [okEx] at e2
 have f1 : ((z7k none none none (xEx DEx)).drop 12).take 16 = bys DEx := z5za rfl
 have f2 : z0la.pre [.agg (z2o dEx none)] = True := z0cb z5Sa
 have f3 : z0la.post [.agg (z2o dEx none)] = .agg (bys DEx) := by rw [z4oa, z6Ub]
 have v1 : hdA (z2g none vEx) = i64 5 := rfl
 have v2 : hdA ((z2g none vEx).drop 2) = i64 1 := rfl
 have v3 : hdA ((z2g none vEx).drop 3) = i64 2 := rfl
 have v4 : hdA ((z2g none vEx).drop 4) = .sl .plain none 1 (z0b [mEx]) := rfl
 have v5 : hdA ((z2g none ⟨6, 3, 2, 2, [mEx]⟩).drop 1) = i64 3 := rfl
 have v5t : hdA (z2g none ⟨6, 3, 2, 2, [mEx]⟩).tail = i64 3 := rfl
 have v6 : hdA ((z2g none ⟨6, 3, 2, 2, [mEx]⟩).drop 2) = i64 2 := rfl
 have s1 := z67a (nc := none) (nm := none) (ng := none) (nc' := none) (nm' := none) (ng' := none) hX hX
 have s2 := z1Aa (nc := none) (nm := none) (ng := none) (nc' := none) (nm' := none) (ng' := none) hX hX
 have s3 : z80 (xEx DEx) (xEx DEx) = true := by kernel_rfl
 rw [s3] at s2
 have l1 := z90a (nk := none) (v := vEx) 8 vE.1 vE.2.1
 have l2 := z7ma (nk := none) (v := vEx) 8 vE.1
 have l3 := z90a (nk := none) (v := vEx) 9 vE.1 vE.2.1
 have l4 := z7ma (nk := none) (v := vEx) 9 vE.1
 rw [z9bc] at l2
 rw [z4cc] at l4
 have g1 := z88a (nc := none) (nm := none) (ng := none) hX
 have g2 := z2ya (nc := none) (nm := none) (ng := none) hX
 have g3 := z88a (nc := none) (nm := none) (ng := none) s5
 have g4 := z2ya (nc := none) (nm := none) (ng := none) s5
 obtain ⟨z1, hz1, n1⟩ : ∃ z, z7L 8 [z5Fa (xEx DEx)] = z ∧ z.length = 16 := ⟨_, rfl, z3E _ _⟩
 obtain ⟨z2, hz2, n2⟩ : ∃ z, z7L 8 [z5Fa (z1wa 5 1)] = z ∧ z.length = 16 := ⟨_, rfl, z3E _ _⟩
 have ne : ¬ z1 = z2 := by rw [← hz1, ← hz2, z7Ac, z4Kc]; decide
 rw [hz1] at g2
 rw [hz2] at g4
 have nD : DEx.length = 16 := rfl
 have t6 : (z2o tEx none)[6]?.getD z2a.undef = st [120] := rfl
 have t7 : dem (st [120]) = st [120] := rfl
 unfold z3H
 rw [z9F]
 refine z3a fun Q2 hQ2 => ?_
 rw [z0x]
 refine z4b fun T hT => ?_
 simp (maxSteps := 1000000) (disch := first | omega | (simp; done) | (simp; omega)) [z7a, z1a, z0a, t6, t7, z8J, h289, c1, c2, d1, d2, z5Oa, h300, e1, e2, f1, f2, f3, h148, z2b nD nD, v1, v2, v3, v4, v5, v5t, v6, h299, s1, s2, h311, l1, l2, l3, l4, h303, g1, g2, g3, g4, h294, z2b n1 n2, ne, nD, n1, n2, vs, vp, vl, vc, vt, view_tk, z0o (x := xEx DEx) rfl, z8q (x := xEx DEx) rfl, z6d (x := xEx DEx) rfl]
 rw [hT]; clear hT
 refine z4b fun T hT => ?_
 simp (maxSteps := 1000000) (disch := first | omega | (simp; done) | (simp; omega)) [z7a, z1a, z0a, t6, t7, z0H, h289, c1, c2, d1, d2, z5Oa, h300, e1, e2, f1, f2, f3, h148, z2b nD nD, v1, v2, v3, v4, v5, v5t, v6, h299, s1, s2, h311, l1, l2, l3, l4, h303, g1, g2, g3, g4, h294, z2b n1 n2, ne, nD, n1, n2, vs, vp, vl, vc, vt, view_tk, z0o (x := xEx DEx) rfl, z8q (x := xEx DEx) rfl, z6d (x := xEx DEx) rfl]
 rw [hT]; clear hT
 refine z4b fun T hT => ?_
 simp (maxSteps := 1000000) (disch := first | omega | (simp; done) | (simp; omega)) [z7a, z1a, z0a, t6, t7, z3I, h289, c1, c2, d1, d2, z5Oa, h300, e1, e2, f1, f2, f3, h148, z2b nD nD, v1, v2, v3, v4, v5, v5t, v6, h299, s1, s2, h311, l1, l2, l3, l4, h303, g1, g2, g3, g4, h294, z2b n1 n2, ne, nD, n1, n2, vs, vp, vl, vc, vt, view_tk, z0o (x := xEx DEx) rfl, z8q (x := xEx DEx) rfl, z6d (x := xEx DEx) rfl]
 rw [hT]; clear hT
 refine z4b fun T hT => ?_
 simp (maxSteps := 1000000) (disch := first | omega | (simp; done) | (simp; omega)) [z7a, z1a, z0a, t6, t7, z0K, h289, c1, c2, d1, d2, z5Oa, h300, e1, e2, f1, f2, f3, h148, z2b nD nD, v1, v2, v3, v4, v5, v5t, v6, h299, s1, s2, h311, l1, l2, l3, l4, h303, g1, g2, g3, g4, h294, z2b n1 n2, ne, nD, n1, n2, vs, vp, vl, vc, vt, view_tk, z0o (x := xEx DEx) rfl, z8q (x := xEx DEx) rfl, z6d (x := xEx DEx) rfl]
 rw [hT]; clear hT
 refine z4b fun T hT => ?_
 simp (maxSteps := 1000000) (disch := first | omega | (simp; done) | (simp; omega)) [z7a, z1a, z0a, t6, t7, z5K, h289, c1, c2, d1, d2, z5Oa, h300, e1, e2, f1, f2, f3, h148, z2b nD nD, v1, v2, v3, v4, v5, v5t, v6, h299, s1, s2, h311, l1, l2, l3, l4, h303, g1, g2, g3, g4, h294, z2b n1 n2, ne, nD, n1, n2, vs, vp, vl, vc, vt, view_tk, z0o (x := xEx DEx) rfl, z8q (x := xEx DEx) rfl, z6d (x := xEx DEx) rfl]
 rw [hT]; clear hT
 refine z4b fun T hT => ?_
 simp (maxSteps := 1000000) (disch := first | omega | (simp; done) | (simp; omega)) [z7a, z1a, z0a, t6, t7, z2I, h289, c1, c2, d1, d2, z5Oa, h300, e1, e2, f1, f2, f3, h148, z2b nD nD, v1, v2, v3, v4, v5, v5t, v6, h299, s1, s2, h311, l1, l2, l3, l4, h303, g1, g2, g3, g4, h294, z2b n1 n2, ne, nD, n1, n2, vs, vp, vl, vc, vt, view_tk, z0o (x := xEx DEx) rfl, z8q (x := xEx DEx) rfl, z6d (x := xEx DEx) rfl]
 rw [hT]; clear hT
 refine z4b fun T hT => ?_
 simp (maxSteps := 1000000) (disch := first | omega | (simp; done) | (simp; omega)) [z7a, z1a, z0a, t6, t7, z4L, h289, c1, c2, d1, d2, z5Oa, h300, e1, e2, f1, f2, f3, h148, z2b nD nD, v1, v2, v3, v4, v5, v5t, v6, h299, s1, s2, h311, l1, l2, l3, l4, h303, g1, g2, g3, g4, h294, z2b n1 n2, ne, nD, n1, n2, vs, vp, vl, vc, vt, view_tk, z0o (x := xEx DEx) rfl, z8q (x := xEx DEx) rfl, z6d (x := xEx DEx) rfl]
 rw [hT]; clear hT
 refine z4b fun T hT => ?_
 simp (maxSteps := 1000000) (disch := first | omega | (simp; done) | (simp; omega)) [z7a, z1a, z0a, t6, t7, z5H, h289, c1, c2, d1, d2, z5Oa, h300, e1, e2, f1, f2, f3, h148, z2b nD nD, v1, v2, v3, v4, v5, v5t, v6, h299, s1, s2, h311, l1, l2, l3, l4, h303, g1, g2, g3, g4, h294, z2b n1 n2, ne, nD, n1, n2, vs, vp, vl, vc, vt, view_tk, z0o (x := xEx DEx) rfl, z8q (x := xEx DEx) rfl, z6d (x := xEx DEx) rfl]
 rw [hT]; clear hT
 refine z4b fun T hT => ?_
 simp (maxSteps := 1000000) (disch := first | omega | (simp; done) | (simp; omega)) [z7a, z1a, z0a, t6, t7, z0I, h289, c1, c2, d1, d2, z5Oa, h300, e1, e2, f1, f2, f3, h148, z2b nD nD, v1, v2, v3, v4, v5, v5t, v6, h299, s1, s2, h311, l1, l2, l3, l4, h303, g1, g2, g3, g4, h294, z2b n1 n2, ne, nD, n1, n2, vs, vp, vl, vc, vt, view_tk, z0o (x := xEx DEx) rfl, z8q (x := xEx DEx) rfl, z6d (x := xEx DEx) rfl]
 rw [hT]; clear hT
 refine z4b fun T hT => ?_
 simp (maxSteps := 1000000) (disch := first | omega | (simp; done) | (simp; omega)) [z7a, z1a, z0a, t6, t7, z7J, h289, c1, c2, d1, d2, z5Oa, h300, e1, e2, f1, f2, f3, h148, z2b nD nD, v1, v2, v3, v4, v5, v5t, v6, h299, s1, s2, h311, l1, l2, l3, l4, h303, g1, g2, g3, g4, h294, z2b n1 n2, ne, nD, n1, n2, vs, vp, vl, vc, vt, view_tk, z0o (x := xEx DEx) rfl, z8q (x := xEx DEx) rfl, z6d (x := xEx DEx) rfl]
 rw [hT]; clear hT
 refine z4b fun T hT => ?_
 simp (maxSteps := 1000000) (disch := first | omega | (simp; done) | (simp; omega)) [z7a, z1a, z0a, t6, t7, z2E, h289, c1, c2, d1, d2, z5Oa, h300, e1, e2, f1, f2, f3, h148, z2b nD nD, v1, v2, v3, v4, v5, v5t, v6, h299, s1, s2, h311, l1, l2, l3, l4, h303, g1, g2, g3, g4, h294, z2b n1 n2, ne, nD, n1, n2, vs, vp, vl, vc, vt, view_tk, z0o (x := xEx DEx) rfl, z8q (x := xEx DEx) rfl, z6d (x := xEx DEx) rfl]
 rw [hT]; clear hT
 refine z4b fun T hT => ?_
 simp (maxSteps := 1000000) (disch := first | omega | (simp; done) | (simp; omega)) [z7a, z1a, z0a, t6, t7, z4E, h289, c1, c2, d1, d2, z5Oa, h300, e1, e2, f1, f2, f3, h148, z2b nD nD, v1, v2, v3, v4, v5, v5t, v6, h299, s1, s2, h311, l1, l2, l3, l4, h303, g1, g2, g3, g4, h294, z2b n1 n2, ne, nD, n1, n2, vs, vp, vl, vc, vt, view_tk, z0o (x := xEx DEx) rfl, z8q (x := xEx DEx) rfl, z6d (x := xEx DEx) rfl]
 rw [hT]; clear hT
 refine z4b fun T hT => ?_
 simp (maxSteps := 1000000) (disch := first | omega | (simp; done) | (simp; omega)) [z7a, z1a, z0a, t6, t7, z5E, h289, c1, c2, d1, d2, z5Oa, h300, e1, e2, f1, f2, f3, h148, z2b nD nD, v1, v2, v3, v4, v5, v5t, v6, h299, s1, s2, h311, l1, l2, l3, l4, h303, g1, g2, g3, g4, h294, z2b n1 n2, ne, nD, n1, n2, vs, vp, vl, vc, vt, view_tk, z0o (x := xEx DEx) rfl, z8q (x := xEx DEx) rfl, z6d (x := xEx DEx) rfl]
 rw [hT]; clear hT
 refine z4b fun T hT => ?_
 simp (maxSteps := 1000000) (disch := first | omega | (simp; done) | (simp; omega)) [z7a, z1a, z0a, t6, t7, z3D, h289, c1, c2, d1, d2, z5Oa, h300, e1, e2, f1, f2, f3, h148, z2b nD nD, v1, v2, v3, v4, v5, v5t, v6, h299, s1, s2, h311, l1, l2, l3, l4, h303, g1, g2, g3, g4, h294, z2b n1 n2, ne, nD, n1, n2, vs, vp, vl, vc, vt, view_tk, z0o (x := xEx DEx) rfl, z8q (x := xEx DEx) rfl, z6d (x := xEx DEx) rfl]
 rw [hT]; clear hT
 refine z4b fun T hT => ?_
 simp (maxSteps := 1000000) (disch := first | omega | (simp; done) | (simp; omega)) [z7a, z1a, z0a, t6, t7, z1E, h289, c1, c2, d1, d2, z5Oa, h300, e1, e2, f1, f2, f3, h148, z2b nD nD, v1, v2, v3, v4, v5, v5t, v6, h299, s1, s2, h311, l1, l2, l3, l4, h303, g1, g2, g3, g4, h294, z2b n1 n2, ne, nD, n1, n2, vs, vp, vl, vc, vt, view_tk, z0o (x := xEx DEx) rfl, z8q (x := xEx DEx) rfl, z6d (x := xEx DEx) rfl]
 rw [hT]; clear hT
 refine z4b fun T hT => ?_
 simp (maxSteps := 1000000) (disch := first | omega | (simp; done) | (simp; omega)) [z7a, z1a, z0a, t6, t7, z0D, h289, c1, c2, d1, d2, z5Oa, h300, e1, e2, f1, f2, f3, h148, z2b nD nD, v1, v2, v3, v4, v5, v5t, v6, h299, s1, s2, h311, l1, l2, l3, l4, h303, g1, g2, g3, g4, h294, z2b n1 n2, ne, nD, n1, n2, vs, vp, vl, vc, vt, view_tk, z0o (x := xEx DEx) rfl, z8q (x := xEx DEx) rfl, z6d (x := xEx DEx) rfl]
 rw [hT]; clear hT
 refine z4b fun T hT => ?_
 simp (maxSteps := 1000000) (disch := first | omega | (simp; done) | (simp; omega)) [z7a, z1a, z0a, t6, t7, z6D, h289, c1, c2, d1, d2, z5Oa, h300, e1, e2, f1, f2, f3, h148, z2b nD nD, v1, v2, v3, v4, v5, v5t, v6, h299, s1, s2, h311, l1, l2, l3, l4, h303, g1, g2, g3, g4, h294, z2b n1 n2, ne, nD, n1, n2, vs, vp, vl, vc, vt, view_tk, z0o (x := xEx DEx) rfl, z8q (x := xEx DEx) rfl, z6d (x := xEx DEx) rfl]
 rw [hT]; clear hT
 refine z4b fun T hT => ?_
 simp (maxSteps := 1000000) (disch := first | omega | (simp; done) | (simp; omega)) [z7a, z1a, z0a, t6, t7, z7E, h289, c1, c2, d1, d2, z5Oa, h300, e1, e2, f1, f2, f3, h148, z2b nD nD, v1, v2, v3, v4, v5, v5t, v6, h299, s1, s2, h311, l1, l2, l3, l4, h303, g1, g2, g3, g4, h294, z2b n1 n2, ne, nD, n1, n2, vs, vp, vl, vc, vt, view_tk, z0o (x := xEx DEx) rfl, z8q (x := xEx DEx) rfl, z6d (x := xEx DEx) rfl]
 rw [hT]; clear hT
 simp (maxSteps := 1000000) (disch := first | omega | (simp; done) | (simp; omega)) [z7a, z1a, z0a, t6, t7, z6E, h289, c1, c2, d1, d2, z5Oa, h300, e1, e2, f1, f2, f3, h148, z2b nD nD, v1, v2, v3, v4, v5, v5t, v6, h299, s1, s2, h311, l1, l2, l3, l4, h303, g1, g2, g3, g4, h294, z2b n1 n2, ne, nD, n1, n2, vs, vp, vl, vc, vt, view_tk, z0o (x := xEx DEx) rfl, z8q (x := xEx DEx) rfl, z6d (x := xEx DEx) rfl, hQ2]
end Go.Abs
end
