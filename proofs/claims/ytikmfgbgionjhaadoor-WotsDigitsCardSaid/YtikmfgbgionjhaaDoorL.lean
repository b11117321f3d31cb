/- Lemmas: an abstract interpreter, and what the functions compute. -/
import Derived.Test.YtikmfgbgionjhaaDoorD
import Derived.Test.YtikmfgbgionjhaaDoorH
import Derived.Test.YtikmfgbgionjhaaDoorK
import Derived.Test.YtikmfgbgionjhaaDoorE
set_option linter.unusedSimpArgs false
set_option linter.unusedVariables false
set_option linter.unusedSectionVars false
section
namespace Go.Abs
set_option maxRecDepth 100000
/-- custody custodylaw09.WotsMatchesSpec = 115; calls custodylaw09.sanity = 114, custodyref09.Digits = 97, custodyref09.Public = 103, custodyref09.Recover = 95, custodyref09.Same = 96, custodyref09.Sign = 107, custodyref09.Verify = 109, wots.Digits = 90, wots.Public = 100, wots.Recover = 93, wots.Sign = 106, wots.Verify = 108 -/
def f_custodylaw09_WotsMatchesSpec_r1 : ACode :=
  .cond (.s 20) (
    .seq (
      .region [8] [] [
        ⟨(some 21), none, .call 114 [] []⟩,
        ⟨(some 8), none, .mv false (.s 21)⟩]) (
    .ret)) (
    .ghost (.keep [5, 7]) .skip)
def f_custodylaw09_WotsMatchesSpec_r4 : ACode :=
  .seq (
    .region [8] [.norm [5, 7, 9, 11]] [
      ⟨(some 34), none, .call 114 [] []⟩,
      ⟨(some 35), none, .mv false (.s 34)⟩,
      ⟨(some 36), (some (35, true)), .load (some 16) (some 5) false (.s 5)⟩,
      ⟨(some 37), (some (35, true)), .call 90 [(.s 36)] []⟩,
      ⟨(some 38), (some (35, true)), .load (some 16) (some 5) false (.s 5)⟩,
      ⟨(some 39), (some (35, true)), .call 97 [(.s 38)] []⟩,
      ⟨(some 40), (some (35, true)), .call 96 [(.s 37), (.s 39)] []⟩,
      ⟨(some 41), none, .pick (.s 35) (.s 40) (.c (bo false))⟩,
      ⟨(some 42), none, .mv false (.s 41)⟩,
      ⟨(some 43), (some (42, true)), .mv false (.s 0)⟩,
      ⟨(some 44), (some (42, true)), .call 100 [(.s 43)] []⟩,
      ⟨(some 45), (some (42, true)), .mv false (.s 0)⟩,
      ⟨(some 46), (some (42, true)), .call 103 [(.s 45)] []⟩,
      ⟨(some 47), (some (42, true)), .eqF (ks8 16) false (.s 44) (.s 46)⟩,
      ⟨(some 48), none, .pick (.s 42) (.s 47) (.c (bo false))⟩,
      ⟨(some 49), none, .mv false (.s 48)⟩,
      ⟨(some 50), (some (49, true)), .mv false (.s 0)⟩,
      ⟨(some 51), (some (49, true)), .load (some 16) (some 5) false (.s 5)⟩,
      ⟨(some 52), (some (49, true)), .call 106 [(.s 50), (.s 51)] []⟩,
      ⟨(some 53), (some (49, true)), .mv false (.s 0)⟩,
      ⟨(some 54), (some (49, true)), .load (some 16) (some 5) false (.s 5)⟩,
      ⟨(some 55), (some (49, true)), .call 107 [(.s 53), (.s 54)] []⟩,
      ⟨(some 56), (some (49, true)), .bin .eql (.s 52) (.s 55)⟩,
      ⟨(some 57), none, .pick (.s 49) (.s 56) (.c (bo false))⟩,
      ⟨(some 58), none, .mv false (.s 57)⟩,
      ⟨(some 59), (some (58, true)), .load (some 16) (some 9) false (.s 9)⟩,
      ⟨(some 60), (some (58, true)), .load (some 16) (some 11) false (.s 11)⟩,
      ⟨(some 61), (some (58, true)), .eqF (ks8 16) false (.s 59) (.s 60)⟩,
      ⟨(some 62), none, .pick (.s 58) (.s 61) (.c (bo false))⟩,
      ⟨(some 63), none, .mv false (.s 62)⟩,
      ⟨(some 64), (some (63, true)), .mv false (.s 10)⟩,
      ⟨(some 65), (some (63, true)), .mv false (.s 12)⟩,
      ⟨(some 66), (some (63, true)), .bin .eql (.s 64) (.s 65)⟩,
      ⟨(some 67), none, .pick (.s 63) (.s 66) (.c (bo false))⟩,
      ⟨(some 68), none, .mv false (.s 67)⟩,
      ⟨(some 69), (some (68, true)), .load (some 16) (some 7) false (.s 7)⟩,
      ⟨(some 70), (some (68, true)), .load (some 16) (some 5) false (.s 5)⟩,
      ⟨(some 71), (some (68, true)), .mv false (.s 2)⟩,
      ⟨(some 72), (some (68, true)), .call 108 [(.s 69), (.s 70), (.s 71)] []⟩,
      ⟨(some 73), (some (68, true)), .load (some 16) (some 7) false (.s 7)⟩,
      ⟨(some 74), (some (68, true)), .load (some 16) (some 5) false (.s 5)⟩,
      ⟨(some 75), (some (68, true)), .mv false (.s 2)⟩,
      ⟨(some 76), (some (68, true)), .call 109 [(.s 73), (.s 74), (.s 75)] []⟩,
      ⟨(some 77), (some (68, true)), .eqb false (.s 72) (.s 76)⟩,
      ⟨(some 78), none, .pick (.s 68) (.s 77) (.c (bo false))⟩,
      ⟨(some 8), none, .mv false (.s 78)⟩]) (
  .ret)
def f_custodylaw09_WotsMatchesSpec_r3 : ACode :=
  .seq (
    .region [5, 7, 9, 10, 11, 12] [.norm [5, 7, 9, 11]] [
      ⟨(some 29), none, .load (some 16) (some 5) false (.s 5)⟩,
      ⟨(some 30), none, .mv false (.s 2)⟩,
      ⟨(some 31), none, .call 95 [(.s 29), (.s 30)] []⟩,
      ⟨(some 28), none, .mv false (.s 31)⟩,
      ⟨(some 32), none, .extract 0 (.s 28)⟩,
      ⟨(some 33), none, .extract 1 (.s 28)⟩,
      ⟨(some 11), none, .alloc 11 (bys (zeros 16))⟩,
      ⟨none, none, .store (some 16) 11 false (.s 11) (.s 32)⟩,
      ⟨(some 12), none, .mv false (.s 33)⟩]) (
  f_custodylaw09_WotsMatchesSpec_r4)
def f_custodylaw09_WotsMatchesSpec_r2 : ACode :=
  .seq (
    .region [5, 7, 9, 10] [.norm [5, 7, 9]] [
      ⟨(some 23), none, .load (some 16) (some 5) false (.s 5)⟩,
      ⟨(some 24), none, .mv false (.s 2)⟩,
      ⟨(some 25), none, .call 93 [(.s 23), (.s 24)] []⟩,
      ⟨(some 22), none, .mv false (.s 25)⟩,
      ⟨(some 26), none, .extract 0 (.s 22)⟩,
      ⟨(some 27), none, .extract 1 (.s 22)⟩,
      ⟨(some 9), none, .alloc 9 (bys (zeros 16))⟩,
      ⟨none, none, .store (some 16) 9 false (.s 9) (.s 26)⟩,
      ⟨(some 10), none, .mv false (.s 27)⟩]) (
  f_custodylaw09_WotsMatchesSpec_r3)
def f_custodylaw09_WotsMatchesSpec_r0 : ACode :=
  .seq (
    .seq (
      .region [5, 7, 20] [] [
        ⟨(some 13), none, .mv false (.s 0)⟩,
        ⟨(some 14), none, .len true (.s 13)⟩,
        ⟨(some 15), none, .bin .gtr (.s 14) (.c (i64 200))⟩,
        ⟨(some 16), none, .mv false (.s 15)⟩,
        ⟨(some 17), (some (16, false)), .mv false (.s 2)⟩,
        ⟨(some 18), (some (16, false)), .len true (.s 17)⟩,
        ⟨(some 19), (some (16, false)), .bin .gtr (.s 18) (.c (i64 600))⟩,
        ⟨(some 20), none, .pick (.s 16) (.c (bo true)) (.s 19)⟩]) (
    f_custodylaw09_WotsMatchesSpec_r1)) (
  f_custodylaw09_WotsMatchesSpec_r2)
def f_custodylaw09_WotsMatchesSpec : AFun :=
 { n := 4, wr := [], res := [.t 8], body :=
    .seq (
      .region [5, 7] [.norm [5, 7]] [
        ⟨(some 5), none, .box 5 (some 16) false (.s 1)⟩,
        ⟨(some 7), none, .box 7 (some 16) false (.s 3)⟩,
        ⟨(some 8), none, .mv false (.c (bo false))⟩]) (
    f_custodylaw09_WotsMatchesSpec_r0) }

/-- custody custodylaw09.WotsAdvance = 116; calls custodylaw09.sanity = 114, custodyref09.Advance = 102, wots.Advance = 111 -/
def f_custodylaw09_WotsAdvance_r3 : ACode :=
  .cond (.s 33) (
    .seq (
      .region [10] [] [
        ⟨(some 10), none, .mv false (.c (bo false))⟩]) (
    .ret)) (
    .ghost (.keep [11, 12]) .skip)
def f_custodylaw09_WotsAdvance_r5 : ACode :=
  .cond (.s 57) (
    .seq (
      .region [10] [] [
        ⟨(some 58), none, .call 114 [] []⟩,
        ⟨(some 10), none, .mv false (.s 58)⟩]) (
    .ret)) (
    .ghost (.keep [11, 12]) .skip)
def f_custodylaw09_WotsAdvance_r6 : ACode :=
  .seq (
    .region [10] [.norm [9, 11, 12]] [
      ⟨(some 59), none, .call 114 [] []⟩,
      ⟨(some 60), none, .mv false (.s 59)⟩,
      ⟨(some 61), (some (60, true)), .load (some 16) (some 11) false (.s 11)⟩,
      ⟨(some 62), (some (60, true)), .load (some 16) (some 12) false (.s 12)⟩,
      ⟨(some 63), (some (60, true)), .eqF (ks8 16) false (.s 61) (.s 62)⟩,
      ⟨(some 64), none, .pick (.s 60) (.s 63) (.c (bo false))⟩,
      ⟨(some 10), none, .mv false (.s 64)⟩]) (
  .ret)
def f_custodylaw09_WotsAdvance_r4 : ACode :=
  .seq (
    .seq (
      .region [11, 12, 57] [] [
        ⟨(some 34), none, .mv false (.s 0)⟩,
        ⟨(some 35), none, .bin .lss (.s 34) (.c (i64 0))⟩,
        ⟨(some 36), none, .mv false (.s 35)⟩,
        ⟨(some 37), (some (36, false)), .mv false (.s 0)⟩,
        ⟨(some 38), (some (36, false)), .bin .gtr (.s 37) (.c (i64 34))⟩,
        ⟨(some 39), none, .pick (.s 36) (.c (bo true)) (.s 38)⟩,
        ⟨(some 40), none, .mv false (.s 39)⟩,
        ⟨(some 41), (some (40, false)), .mv false (.s 1)⟩,
        ⟨(some 42), (some (40, false)), .bin .lss (.s 41) (.c (i64 0))⟩,
        ⟨(some 43), none, .pick (.s 40) (.c (bo true)) (.s 42)⟩,
        ⟨(some 44), none, .mv false (.s 43)⟩,
        ⟨(some 45), (some (44, false)), .mv false (.s 2)⟩,
        ⟨(some 46), (some (44, false)), .mv false (.s 1)⟩,
        ⟨(some 47), (some (44, false)), .bin .lss (.s 45) (.s 46)⟩,
        ⟨(some 48), none, .pick (.s 44) (.c (bo true)) (.s 47)⟩,
        ⟨(some 49), none, .mv false (.s 48)⟩,
        ⟨(some 50), (some (49, false)), .mv false (.s 3)⟩,
        ⟨(some 51), (some (49, false)), .mv false (.s 2)⟩,
        ⟨(some 52), (some (49, false)), .bin .lss (.s 50) (.s 51)⟩,
        ⟨(some 53), none, .pick (.s 49) (.c (bo true)) (.s 52)⟩,
        ⟨(some 54), none, .mv false (.s 53)⟩,
        ⟨(some 55), (some (54, false)), .mv false (.s 3)⟩,
        ⟨(some 56), (some (54, false)), .bin .gtr (.s 55) (.c (i64 15))⟩,
        ⟨(some 57), none, .pick (.s 54) (.c (bo true)) (.s 56)⟩]) (
    f_custodylaw09_WotsAdvance_r5)) (
  f_custodylaw09_WotsAdvance_r6)
def f_custodylaw09_WotsAdvance_r2 : ACode :=
  .seq (
    .seq (
      .region [11, 12, 33] [.norm [9, 11, 12]] [
        ⟨(some 27), none, .load (some 16) (some 11) false (.s 11)⟩,
        ⟨(some 28), none, .mv false (.s 0)⟩,
        ⟨(some 29), none, .mv false (.s 1)⟩,
        ⟨(some 30), none, .mv false (.s 3)⟩,
        ⟨(some 31), none, .load (some 16) (some 9) false (.s 9)⟩,
        ⟨(some 32), none, .call 102 [(.s 28), (.s 29), (.s 30), (.s 31)] []⟩,
        ⟨(some 33), none, .eqF (ks8 16) true (.s 27) (.s 32)⟩]) (
    f_custodylaw09_WotsAdvance_r3)) (
  f_custodylaw09_WotsAdvance_r4)
def f_custodylaw09_WotsAdvance_r1 : ACode :=
  .seq (
    .region [9, 11, 12] [.norm [9, 11, 12]] [
      ⟨(some 18), none, .mv false (.s 0)⟩,
      ⟨(some 19), none, .mv false (.s 2)⟩,
      ⟨(some 20), none, .mv false (.s 3)⟩,
      ⟨(some 21), none, .mv false (.s 0)⟩,
      ⟨(some 22), none, .mv false (.s 1)⟩,
      ⟨(some 23), none, .mv false (.s 2)⟩,
      ⟨(some 24), none, .load (some 16) (some 9) false (.s 9)⟩,
      ⟨(some 25), none, .call 111 [(.s 21), (.s 22), (.s 23), (.s 24)] []⟩,
      ⟨(some 26), none, .call 111 [(.s 18), (.s 19), (.s 20), (.s 25)] []⟩,
      ⟨(some 12), none, .alloc 12 (bys (zeros 16))⟩,
      ⟨none, none, .store (some 16) 12 false (.s 12) (.s 26)⟩]) (
  f_custodylaw09_WotsAdvance_r2)
def f_custodylaw09_WotsAdvance_r0 : ACode :=
  .seq (
    .region [9, 11] [.norm [9, 11]] [
      ⟨(some 13), none, .mv false (.s 0)⟩,
      ⟨(some 14), none, .mv false (.s 1)⟩,
      ⟨(some 15), none, .mv false (.s 3)⟩,
      ⟨(some 16), none, .load (some 16) (some 9) false (.s 9)⟩,
      ⟨(some 17), none, .call 111 [(.s 13), (.s 14), (.s 15), (.s 16)] []⟩,
      ⟨(some 11), none, .alloc 11 (bys (zeros 16))⟩,
      ⟨none, none, .store (some 16) 11 false (.s 11) (.s 17)⟩]) (
  f_custodylaw09_WotsAdvance_r1)
def f_custodylaw09_WotsAdvance : AFun :=
 { n := 5, wr := [], res := [.t 10], body :=
    .seq (
      .region [9] [.norm [9]] [
        ⟨(some 9), none, .box 9 (some 16) false (.s 4)⟩,
        ⟨(some 10), none, .mv false (.c (bo false))⟩]) (
    f_custodylaw09_WotsAdvance_r0) }

/-- custody custodylaw09.WotsVerifies = 117; calls custodylaw09.sanity = 114, custodyref09.Verify = 109, wots.Public = 100, wots.Sign = 106, wots.Verify = 108 -/
def f_custodylaw09_WotsVerifies_r1 : ACode :=
  .cond (.s 12) (
    .seq (
      .region [6] [] [
        ⟨(some 13), none, .call 114 [] []⟩,
        ⟨(some 6), none, .mv false (.s 13)⟩]) (
    .ret)) (
    .ghost (.keep [4, 5]) .skip)
def f_custodylaw09_WotsVerifies_r6 : ACode :=
  .cond (.s 29) (
    .seq (
      .region [6] [] [
        ⟨(some 30), none, .mv false (.s 9)⟩,
        ⟨(some 31), none, .mv false (.s 30)⟩,
        ⟨(some 32), (some (31, true)), .call 114 [] []⟩,
        ⟨(some 33), none, .pick (.s 31) (.s 32) (.c (bo false))⟩,
        ⟨(some 6), none, .mv false (.s 33)⟩]) (
    .ret)) (
    .ghost (.keep [5, 7, 8]) .skip)
def f_custodylaw09_WotsVerifies_r7 : ACode :=
  .seq (
    .region [6] [.norm [4, 5, 8]] [
      ⟨(some 34), none, .call 114 [] []⟩,
      ⟨(some 35), none, .mv false (.s 34)⟩,
      ⟨(some 36), (some (35, true)), .load (some 16) (some 8) false (.s 8)⟩,
      ⟨(some 37), (some (35, true)), .load (some 16) (some 5) false (.s 5)⟩,
      ⟨(some 38), (some (35, true)), .mv false (.s 7)⟩,
      ⟨(some 39), (some (35, true)), .call 108 [(.s 36), (.s 37), (.s 38)] []⟩,
      ⟨(some 40), (some (35, true)), .load (some 16) (some 8) false (.s 8)⟩,
      ⟨(some 41), (some (35, true)), .load (some 16) (some 5) false (.s 5)⟩,
      ⟨(some 42), (some (35, true)), .mv false (.s 7)⟩,
      ⟨(some 43), (some (35, true)), .call 109 [(.s 40), (.s 41), (.s 42)] []⟩,
      ⟨(some 44), (some (35, true)), .eqb false (.s 39) (.s 43)⟩,
      ⟨(some 45), none, .pick (.s 35) (.s 44) (.c (bo false))⟩,
      ⟨(some 6), none, .mv false (.s 45)⟩]) (
  .ret)
def f_custodylaw09_WotsVerifies_r5 : ACode :=
  .seq (
    .seq (
      .region [5, 7, 8, 9, 29] [.norm [4, 5, 8]] [
        ⟨(some 23), none, .mv false (.s 9)⟩,
        ⟨(some 24), none, .un .not (.s 23)⟩,
        ⟨(some 25), none, .mv false (.s 24)⟩,
        ⟨(some 26), (some (25, false)), .load (some 16) (some 4) false (.s 4)⟩,
        ⟨(some 27), (some (25, false)), .load (some 16) (some 5) false (.s 5)⟩,
        ⟨(some 28), (some (25, false)), .eqF (ks8 16) false (.s 26) (.s 27)⟩,
        ⟨(some 29), none, .pick (.s 25) (.c (bo true)) (.s 28)⟩]) (
    f_custodylaw09_WotsVerifies_r6)) (
  f_custodylaw09_WotsVerifies_r7)
def f_custodylaw09_WotsVerifies_r4 : ACode :=
  .seq (
    .region [4, 5, 7, 8, 9] [.norm [4, 5, 8]] [
      ⟨(some 19), none, .load (some 16) (some 8) false (.s 8)⟩,
      ⟨(some 20), none, .load (some 16) (some 4) false (.s 4)⟩,
      ⟨(some 21), none, .mv false (.s 7)⟩,
      ⟨(some 22), none, .call 108 [(.s 19), (.s 20), (.s 21)] []⟩,
      ⟨(some 9), none, .mv false (.s 22)⟩]) (
  f_custodylaw09_WotsVerifies_r5)
def f_custodylaw09_WotsVerifies_r3 : ACode :=
  .seq (
    .region [4, 5, 7, 8] [.norm [4, 5, 8]] [
      ⟨(some 17), none, .mv false (.s 0)⟩,
      ⟨(some 18), none, .call 100 [(.s 17)] []⟩,
      ⟨(some 8), none, .alloc 8 (bys (zeros 16))⟩,
      ⟨none, none, .store (some 16) 8 false (.s 8) (.s 18)⟩]) (
  f_custodylaw09_WotsVerifies_r4)
def f_custodylaw09_WotsVerifies_r2 : ACode :=
  .seq (
    .region [4, 5, 7] [.norm [4, 5]] [
      ⟨(some 14), none, .mv false (.s 0)⟩,
      ⟨(some 15), none, .load (some 16) (some 4) false (.s 4)⟩,
      ⟨(some 16), none, .call 106 [(.s 14), (.s 15)] []⟩,
      ⟨(some 7), none, .mv false (.s 16)⟩]) (
  f_custodylaw09_WotsVerifies_r3)
def f_custodylaw09_WotsVerifies_r0 : ACode :=
  .seq (
    .seq (
      .region [4, 5, 12] [] [
        ⟨(some 10), none, .mv false (.s 0)⟩,
        ⟨(some 11), none, .len true (.s 10)⟩,
        ⟨(some 12), none, .bin .gtr (.s 11) (.c (i64 200))⟩]) (
    f_custodylaw09_WotsVerifies_r1)) (
  f_custodylaw09_WotsVerifies_r2)
def f_custodylaw09_WotsVerifies : AFun :=
 { n := 3, wr := [], res := [.t 6], body :=
    .seq (
      .region [4, 5] [.norm [4, 5]] [
        ⟨(some 4), none, .box 4 (some 16) false (.s 1)⟩,
        ⟨(some 5), none, .box 5 (some 16) false (.s 2)⟩,
        ⟨(some 6), none, .mv false (.c (bo false))⟩]) (
    f_custodylaw09_WotsVerifies_r0) }

/-- custody custodylaw09.WotsDigits = 118; calls custodylaw09.sanity = 114, wots.Digits = 90 -/
def f_custodylaw09_WotsDigits_r3 : ACode :=
  .cond (.s 22) (
    .seq (
      .region [4] [] [
        ⟨(some 4), none, .mv false (.c (bo false))⟩]) (
    .ret)) (
    .ghost (.keep [2, 3, 5, 6]) .skip)
def f_custodylaw09_WotsDigits_r9 : ACode :=
  .cond (.s 24) (
    .ghost (.keep [2, 3, 5, 6, 7, 8, 9, 10]) .skip) (
    .ghost (.keep [2, 3, 5, 7, 8, 9]) (.exit 0))
def f_custodylaw09_WotsDigits_r11 : ACode :=
  .cond (.s 38) (
    .seq (
      .region [4] [] [
        ⟨(some 4), none, .mv false (.c (bo false))⟩]) (
    .ret)) (
    .ghost (.keep [2, 3, 5, 6, 7, 8, 9, 10]) .skip)
def f_custodylaw09_WotsDigits_r15 : ACode :=
  .cond (.s 64) (
    .region [2, 3, 5, 6, 7, 8, 9, 10] [.norm [2, 3]] [
      ⟨(some 65), none, .mv false (.s 9)⟩,
      ⟨(some 66), none, .bin .add (.s 65) (.c (i64 15))⟩,
      ⟨(some 67), none, .mv false (.s 5)⟩,
      ⟨(some 68), none, .mv false (.s 10)⟩,
      ⟨(some 69), none, .idxSl 1 (.s 67) (.s 68)⟩,
      ⟨(some 70), none, .load none none false (.s 69)⟩,
      ⟨(some 71), none, .bin .sub (.s 66) (.s 70)⟩,
      ⟨(some 9), none, .mv false (.s 71)⟩]) (
    .ghost (.keep [2, 3, 5, 6, 7, 8, 9, 10]) .skip)
def f_custodylaw09_WotsDigits_r14 : ACode :=
  .seq (
    .region [2, 3, 5, 6, 7, 8, 9, 10, 64] [] [
      ⟨(some 63), none, .mv false (.s 10)⟩,
      ⟨(some 64), none, .bin .lss (.s 63) (.c (i64 32))⟩]) (
  f_custodylaw09_WotsDigits_r15)
def f_custodylaw09_WotsDigits_r13 : ACode :=
  .seq (
    .region [2, 3, 5, 6, 7, 8, 9, 10] [.norm [2, 3]] [
      ⟨(some 51), none, .mv false (.s 8)⟩,
      ⟨(some 52), none, .mv false (.s 51)⟩,
      ⟨(some 53), (some (52, false)), .mv false (.s 5)⟩,
      ⟨(some 54), (some (52, false)), .mv false (.s 10)⟩,
      ⟨(some 55), (some (52, false)), .idxSl 1 (.s 53) (.s 54)⟩,
      ⟨(some 56), (some (52, false)), .load none none false (.s 55)⟩,
      ⟨(some 57), (some (52, false)), .mv false (.s 6)⟩,
      ⟨(some 58), (some (52, false)), .mv false (.s 10)⟩,
      ⟨(some 59), (some (52, false)), .idxSl 1 (.s 57) (.s 58)⟩,
      ⟨(some 60), (some (52, false)), .load none none false (.s 59)⟩,
      ⟨(some 61), (some (52, false)), .bin .gtr (.s 56) (.s 60)⟩,
      ⟨(some 62), none, .pick (.s 52) (.c (bo true)) (.s 61)⟩,
      ⟨(some 8), none, .mv false (.s 62)⟩]) (
  f_custodylaw09_WotsDigits_r14)
def f_custodylaw09_WotsDigits_r12 : ACode :=
  .seq (
    .region [2, 3, 5, 6, 7, 8, 9, 10] [.norm [2, 3]] [
      ⟨(some 39), none, .mv false (.s 7)⟩,
      ⟨(some 40), none, .mv false (.s 39)⟩,
      ⟨(some 41), (some (40, false)), .mv false (.s 5)⟩,
      ⟨(some 42), (some (40, false)), .mv false (.s 10)⟩,
      ⟨(some 43), (some (40, false)), .idxSl 1 (.s 41) (.s 42)⟩,
      ⟨(some 44), (some (40, false)), .load none none false (.s 43)⟩,
      ⟨(some 45), (some (40, false)), .mv false (.s 6)⟩,
      ⟨(some 46), (some (40, false)), .mv false (.s 10)⟩,
      ⟨(some 47), (some (40, false)), .idxSl 1 (.s 45) (.s 46)⟩,
      ⟨(some 48), (some (40, false)), .load none none false (.s 47)⟩,
      ⟨(some 49), (some (40, false)), .bin .lss (.s 44) (.s 48)⟩,
      ⟨(some 50), none, .pick (.s 40) (.c (bo true)) (.s 49)⟩,
      ⟨(some 7), none, .mv false (.s 50)⟩]) (
  f_custodylaw09_WotsDigits_r13)
def f_custodylaw09_WotsDigits_r10 : ACode :=
  .seq (
    .block 1 (
      .seq (
        .seq (
          .region [2, 3, 5, 6, 7, 8, 9, 10, 38] [.norm [2, 3]] [
            ⟨(some 27), none, .mv false (.s 5)⟩,
            ⟨(some 28), none, .mv false (.s 10)⟩,
            ⟨(some 29), none, .idxSl 1 (.s 27) (.s 28)⟩,
            ⟨(some 30), none, .load none none false (.s 29)⟩,
            ⟨(some 31), none, .bin .lss (.s 30) (.c (i64 0))⟩,
            ⟨(some 32), none, .mv false (.s 31)⟩,
            ⟨(some 33), (some (32, false)), .mv false (.s 5)⟩,
            ⟨(some 34), (some (32, false)), .mv false (.s 10)⟩,
            ⟨(some 35), (some (32, false)), .idxSl 1 (.s 33) (.s 34)⟩,
            ⟨(some 36), (some (32, false)), .load none none false (.s 35)⟩,
            ⟨(some 37), (some (32, false)), .bin .gtr (.s 36) (.c (i64 15))⟩,
            ⟨(some 38), none, .pick (.s 32) (.c (bo true)) (.s 37)⟩]) (
        f_custodylaw09_WotsDigits_r11)) (
      f_custodylaw09_WotsDigits_r12))) (
  .region [2, 3, 5, 6, 7, 8, 9, 10] [] [
    ⟨(some 25), none, .mv false (.s 10)⟩,
    ⟨(some 26), none, .bin .add (.s 25) (.c (i64 1))⟩,
    ⟨(some 10), none, .mv false (.s 26)⟩])
def f_custodylaw09_WotsDigits_l0 : ACode :=
  .seq (
    .seq (
      .region [2, 3, 5, 6, 7, 8, 9, 10, 24] [] [
        ⟨(some 23), none, .mv false (.s 10)⟩,
        ⟨(some 24), none, .bin .lss (.s 23) (.c (i64 35))⟩]) (
    f_custodylaw09_WotsDigits_r9)) (
  f_custodylaw09_WotsDigits_r10)
def f_custodylaw09_WotsDigits_r8 : ACode :=
  .block 0 (
    .loop f_custodylaw09_WotsDigits_l0)
def f_custodylaw09_WotsDigits_r16 : ACode :=
  .seq (
    .region [4] [.norm [2, 3]] [
      ⟨(some 72), none, .call 114 [] []⟩,
      ⟨(some 73), none, .mv false (.s 72)⟩,
      ⟨(some 74), (some (73, true)), .mv false (.s 9)⟩,
      ⟨(some 75), (some (73, true)), .mv false (.s 5)⟩,
      ⟨(some 76), (some (73, true)), .idxSl 1 (.s 75) (.c (i64 32))⟩,
      ⟨(some 77), (some (73, true)), .load none none false (.s 76)⟩,
      ⟨(some 78), (some (73, true)), .bin .mul (.c (i64 256)) (.s 77)⟩,
      ⟨(some 79), (some (73, true)), .mv false (.s 5)⟩,
      ⟨(some 80), (some (73, true)), .idxSl 1 (.s 79) (.c (i64 33))⟩,
      ⟨(some 81), (some (73, true)), .load none none false (.s 80)⟩,
      ⟨(some 82), (some (73, true)), .bin .mul (.c (i64 16)) (.s 81)⟩,
      ⟨(some 83), (some (73, true)), .bin .add (.s 78) (.s 82)⟩,
      ⟨(some 84), (some (73, true)), .mv false (.s 5)⟩,
      ⟨(some 85), (some (73, true)), .idxSl 1 (.s 84) (.c (i64 34))⟩,
      ⟨(some 86), (some (73, true)), .load none none false (.s 85)⟩,
      ⟨(some 87), (some (73, true)), .bin .add (.s 83) (.s 86)⟩,
      ⟨(some 88), (some (73, true)), .bin .eql (.s 74) (.s 87)⟩,
      ⟨(some 89), none, .pick (.s 73) (.s 88) (.c (bo false))⟩,
      ⟨(some 90), none, .mv false (.s 89)⟩,
      ⟨(some 91), (some (90, true)), .mv false (.s 7)⟩,
      ⟨(some 92), (some (90, true)), .load (some 16) (some 2) false (.s 2)⟩,
      ⟨(some 93), (some (90, true)), .load (some 16) (some 3) false (.s 3)⟩,
      ⟨(some 94), (some (90, true)), .eqF (ks8 16) true (.s 92) (.s 93)⟩,
      ⟨(some 95), (some (90, true)), .eqb false (.s 91) (.s 94)⟩,
      ⟨(some 96), none, .pick (.s 90) (.s 95) (.c (bo false))⟩,
      ⟨(some 97), none, .mv false (.s 96)⟩,
      ⟨(some 98), (some (97, true)), .mv false (.s 8)⟩,
      ⟨(some 99), (some (97, true)), .load (some 16) (some 2) false (.s 2)⟩,
      ⟨(some 100), (some (97, true)), .load (some 16) (some 3) false (.s 3)⟩,
      ⟨(some 101), (some (97, true)), .eqF (ks8 16) true (.s 99) (.s 100)⟩,
      ⟨(some 102), (some (97, true)), .eqb false (.s 98) (.s 101)⟩,
      ⟨(some 103), none, .pick (.s 97) (.s 102) (.c (bo false))⟩,
      ⟨(some 4), none, .mv false (.s 103)⟩]) (
  .ret)
def f_custodylaw09_WotsDigits_r7 : ACode :=
  .seq (
    .seq (
      .region [2, 3, 5, 6, 7, 8, 9, 10] [] [
        ⟨(some 10), none, .mv false (.c (i64 0))⟩]) (
    f_custodylaw09_WotsDigits_r8)) (
  f_custodylaw09_WotsDigits_r16)
def f_custodylaw09_WotsDigits_r6 : ACode :=
  .seq (
    .region [2, 3, 5, 6, 7, 8, 9] [] [
      ⟨(some 9), none, .mv false (.c (i64 0))⟩]) (
  f_custodylaw09_WotsDigits_r7)
def f_custodylaw09_WotsDigits_r5 : ACode :=
  .seq (
    .region [2, 3, 5, 6, 7, 8] [] [
      ⟨(some 8), none, .mv false (.c (bo false))⟩]) (
  f_custodylaw09_WotsDigits_r6)
def f_custodylaw09_WotsDigits_r4 : ACode :=
  .seq (
    .region [2, 3, 5, 6, 7] [] [
      ⟨(some 7), none, .mv false (.c (bo false))⟩]) (
  f_custodylaw09_WotsDigits_r5)
def f_custodylaw09_WotsDigits_r2 : ACode :=
  .seq (
    .seq (
      .region [2, 3, 5, 6, 22] [] [
        ⟨(some 15), none, .mv false (.s 5)⟩,
        ⟨(some 16), none, .len false (.s 15)⟩,
        ⟨(some 17), none, .bin .neq (.s 16) (.c (i64 35))⟩,
        ⟨(some 18), none, .mv false (.s 17)⟩,
        ⟨(some 19), (some (18, false)), .mv false (.s 6)⟩,
        ⟨(some 20), (some (18, false)), .len false (.s 19)⟩,
        ⟨(some 21), (some (18, false)), .bin .neq (.s 20) (.c (i64 35))⟩,
        ⟨(some 22), none, .pick (.s 18) (.c (bo true)) (.s 21)⟩]) (
    f_custodylaw09_WotsDigits_r3)) (
  f_custodylaw09_WotsDigits_r4)
def f_custodylaw09_WotsDigits_r1 : ACode :=
  .seq (
    .region [2, 3, 5, 6] [.norm [2, 3]] [
      ⟨(some 13), none, .load (some 16) (some 3) false (.s 3)⟩,
      ⟨(some 14), none, .call 90 [(.s 13)] []⟩,
      ⟨(some 6), none, .mv true (.s 14)⟩]) (
  f_custodylaw09_WotsDigits_r2)
def f_custodylaw09_WotsDigits_r0 : ACode :=
  .seq (
    .region [2, 3, 5] [.norm [2, 3]] [
      ⟨(some 11), none, .load (some 16) (some 2) false (.s 2)⟩,
      ⟨(some 12), none, .call 90 [(.s 11)] []⟩,
      ⟨(some 5), none, .mv true (.s 12)⟩]) (
  f_custodylaw09_WotsDigits_r1)
def f_custodylaw09_WotsDigits : AFun :=
 { n := 2, wr := [], res := [.t 4], body :=
    .seq (
      .region [2, 3] [.norm [2, 3]] [
        ⟨(some 2), none, .box 2 (some 16) false (.s 0)⟩,
        ⟨(some 3), none, .box 3 (some 16) false (.s 1)⟩,
        ⟨(some 4), none, .mv false (.c (bo false))⟩]) (
    f_custodylaw09_WotsDigits_r0) }

/-- custody custodylaw09.WotsBinds = 119; calls custodylaw09.sanity = 114, custodyref02.Of = 20, custodyref09.Ends = 94, wots.Recover = 93 -/
def f_custodylaw09_WotsBinds_r3 : ACode :=
  .cond (.s 32) (
    .seq (
      .region [8] [] [
        ⟨(some 33), none, .call 114 [] []⟩,
        ⟨(some 34), none, .mv false (.s 33)⟩,
        ⟨(some 35), (some (34, true)), .mv false (.s 10)⟩,
        ⟨(some 36), (some (34, true)), .bin .eql (.s 35) (.c (i64 0))⟩,
        ⟨(some 37), (some (34, true)), .mv false (.s 1)⟩,
        ⟨(some 38), (some (34, true)), .len true (.s 37)⟩,
        ⟨(some 39), (some (34, true)), .bin .eql (.s 38) (.c (i64 560))⟩,
        ⟨(some 40), (some (34, true)), .eqb false (.s 36) (.s 39)⟩,
        ⟨(some 41), none, .pick (.s 34) (.s 40) (.c (bo false))⟩,
        ⟨(some 42), none, .mv false (.s 41)⟩,
        ⟨(some 43), (some (42, true)), .mv false (.s 12)⟩,
        ⟨(some 44), (some (42, true)), .bin .eql (.s 43) (.c (i64 0))⟩,
        ⟨(some 45), (some (42, true)), .mv false (.s 3)⟩,
        ⟨(some 46), (some (42, true)), .len true (.s 45)⟩,
        ⟨(some 47), (some (42, true)), .bin .eql (.s 46) (.c (i64 560))⟩,
        ⟨(some 48), (some (42, true)), .eqb false (.s 44) (.s 47)⟩,
        ⟨(some 49), none, .pick (.s 42) (.s 48) (.c (bo false))⟩,
        ⟨(some 8), none, .mv false (.s 49)⟩]) (
    .ret)) (
    .ghost (.keep [4, 6, 9, 11]) .skip)
def f_custodylaw09_WotsBinds_r7 : ACode :=
  .cond (.s 58) (
    .seq (
      .region [8] [] [
        ⟨(some 59), none, .call 114 [] []⟩,
        ⟨(some 60), none, .mv false (.s 59)⟩,
        ⟨(some 61), (some (60, true)), .mv false (.s 13)⟩,
        ⟨(some 62), (some (60, true)), .mv false (.s 14)⟩,
        ⟨(some 63), (some (60, true)), .bin .neq (.s 61) (.s 62)⟩,
        ⟨(some 64), none, .pick (.s 60) (.s 63) (.c (bo false))⟩,
        ⟨(some 8), none, .mv false (.s 64)⟩]) (
    .ret)) (
    .ghost (.keep [13, 14]) .skip)
def f_custodylaw09_WotsBinds_r8 : ACode :=
  .seq (
    .region [8] [] [
      ⟨(some 65), none, .call 114 [] []⟩,
      ⟨(some 66), none, .mv false (.s 65)⟩,
      ⟨(some 67), (some (66, true)), .mv false (.s 13)⟩,
      ⟨(some 68), (some (66, true)), .mv false (.s 14)⟩,
      ⟨(some 69), (some (66, true)), .bin .eql (.s 67) (.s 68)⟩,
      ⟨(some 70), (some (66, true)), .mv false (.s 69)⟩,
      ⟨(some 71), (some (70, false)), .mv false (.s 13)⟩,
      ⟨(some 72), (some (70, false)), .buildSl 1 1 [st []] [(0, 1, (.s 71))]⟩,
      ⟨(some 73), (some (70, false)), .call 20 [(.c (i64 5)), (.s 72)] []⟩,
      ⟨(some 74), (some (70, false)), .mv false (.s 14)⟩,
      ⟨(some 75), (some (70, false)), .buildSl 1 1 [st []] [(0, 1, (.s 74))]⟩,
      ⟨(some 76), (some (70, false)), .call 20 [(.c (i64 5)), (.s 75)] []⟩,
      ⟨(some 77), (some (70, false)), .eqF (ks8 16) false (.s 73) (.s 76)⟩,
      ⟨(some 78), (some (66, true)), .pick (.s 70) (.c (bo true)) (.s 77)⟩,
      ⟨(some 79), none, .pick (.s 66) (.s 78) (.c (bo false))⟩,
      ⟨(some 8), none, .mv false (.s 79)⟩]) (
  .ret)
def f_custodylaw09_WotsBinds_r6 : ACode :=
  .seq (
    .seq (
      .region [13, 14, 58] [.norm [4, 6, 9, 11]] [
        ⟨(some 56), none, .load (some 16) (some 9) false (.s 9)⟩,
        ⟨(some 57), none, .load (some 16) (some 11) false (.s 11)⟩,
        ⟨(some 58), none, .eqF (ks8 16) true (.s 56) (.s 57)⟩]) (
    f_custodylaw09_WotsBinds_r7)) (
  f_custodylaw09_WotsBinds_r8)
def f_custodylaw09_WotsBinds_r5 : ACode :=
  .seq (
    .region [9, 11, 13, 14] [.norm [4, 6, 9, 11]] [
      ⟨(some 53), none, .load (some 16) (some 6) false (.s 6)⟩,
      ⟨(some 54), none, .mv false (.s 3)⟩,
      ⟨(some 55), none, .call 94 [(.s 53), (.s 54)] []⟩,
      ⟨(some 14), none, .mv false (.s 55)⟩]) (
  f_custodylaw09_WotsBinds_r6)
def f_custodylaw09_WotsBinds_r4 : ACode :=
  .seq (
    .region [6, 9, 11, 13] [.norm [4, 6, 9, 11]] [
      ⟨(some 50), none, .load (some 16) (some 4) false (.s 4)⟩,
      ⟨(some 51), none, .mv false (.s 1)⟩,
      ⟨(some 52), none, .call 94 [(.s 50), (.s 51)] []⟩,
      ⟨(some 13), none, .mv false (.s 52)⟩]) (
  f_custodylaw09_WotsBinds_r5)
def f_custodylaw09_WotsBinds_r2 : ACode :=
  .seq (
    .seq (
      .region [4, 6, 9, 10, 11, 12, 32] [] [
        ⟨(some 27), none, .mv false (.s 10)⟩,
        ⟨(some 28), none, .bin .neq (.s 27) (.c (i64 0))⟩,
        ⟨(some 29), none, .mv false (.s 28)⟩,
        ⟨(some 30), (some (29, false)), .mv false (.s 12)⟩,
        ⟨(some 31), (some (29, false)), .bin .neq (.s 30) (.c (i64 0))⟩,
        ⟨(some 32), none, .pick (.s 29) (.c (bo true)) (.s 31)⟩]) (
    f_custodylaw09_WotsBinds_r3)) (
  f_custodylaw09_WotsBinds_r4)
def f_custodylaw09_WotsBinds_r1 : ACode :=
  .seq (
    .region [4, 6, 9, 10, 11, 12] [.norm [4, 6, 9, 11]] [
      ⟨(some 22), none, .load (some 16) (some 6) false (.s 6)⟩,
      ⟨(some 23), none, .mv false (.s 3)⟩,
      ⟨(some 24), none, .call 93 [(.s 22), (.s 23)] []⟩,
      ⟨(some 21), none, .mv false (.s 24)⟩,
      ⟨(some 25), none, .extract 0 (.s 21)⟩,
      ⟨(some 26), none, .extract 1 (.s 21)⟩,
      ⟨(some 11), none, .alloc 11 (bys (zeros 16))⟩,
      ⟨none, none, .store (some 16) 11 false (.s 11) (.s 25)⟩,
      ⟨(some 12), none, .mv false (.s 26)⟩]) (
  f_custodylaw09_WotsBinds_r2)
def f_custodylaw09_WotsBinds_r0 : ACode :=
  .seq (
    .region [4, 6, 9, 10] [.norm [4, 6, 9]] [
      ⟨(some 16), none, .load (some 16) (some 4) false (.s 4)⟩,
      ⟨(some 17), none, .mv false (.s 1)⟩,
      ⟨(some 18), none, .call 93 [(.s 16), (.s 17)] []⟩,
      ⟨(some 15), none, .mv false (.s 18)⟩,
      ⟨(some 19), none, .extract 0 (.s 15)⟩,
      ⟨(some 20), none, .extract 1 (.s 15)⟩,
      ⟨(some 9), none, .alloc 9 (bys (zeros 16))⟩,
      ⟨none, none, .store (some 16) 9 false (.s 9) (.s 19)⟩,
      ⟨(some 10), none, .mv false (.s 20)⟩]) (
  f_custodylaw09_WotsBinds_r1)
def f_custodylaw09_WotsBinds : AFun :=
 { n := 4, wr := [], res := [.t 8], body :=
    .seq (
      .region [4, 6] [.norm [4, 6]] [
        ⟨(some 4), none, .box 4 (some 16) false (.s 0)⟩,
        ⟨(some 6), none, .box 6 (some 16) false (.s 2)⟩,
        ⟨(some 8), none, .mv false (.c (bo false))⟩]) (
    f_custodylaw09_WotsBinds_r0) }

/-- custody custodylaw09.WotsReveals = 120; calls custodylaw09.sanity = 114, wots.Advance = 111, wots.Digits = 90, wots.Sign = 106 -/
def f_custodylaw09_WotsReveals_r1 : ACode :=
  .cond (.s 18) (
    .seq (
      .region [6] [] [
        ⟨(some 19), none, .call 114 [] []⟩,
        ⟨(some 6), none, .mv false (.s 19)⟩]) (
    .ret)) (
    .ghost (.keep [4, 5]) .skip)
def f_custodylaw09_WotsReveals_r7 : ACode :=
  .cond (.s 47) (
    .seq (
      .region [6] [] [
        ⟨(some 6), none, .mv false (.c (bo false))⟩]) (
    .ret)) (
    .ghost (.keep [4, 5, 7, 8, 9, 10]) .skip)
def f_custodylaw09_WotsReveals_r11 : ACode :=
  .cond (.s 49) (
    .ghost (.keep [4, 5, 7, 8, 9, 10, 11, 12]) .skip) (
    .ghost (.keep [4, 5, 11]) (.exit 0))
def f_custodylaw09_WotsReveals_r13 : ACode :=
  .cond (.s 60) (
    .seq (
      .region [4, 5, 7, 8, 9, 10, 11, 12] [] [
        ⟨(some 11), none, .mv false (.c (bo true))⟩]) (
    .ghost (.keep [4, 5, 7, 8, 9, 10, 11, 12]) (.exit 1))) (
    .ghost (.keep [4, 5, 7, 8, 9, 10, 11, 12]) .skip)
def f_custodylaw09_WotsReveals_r17 : ACode :=
  .cond (.s 62) (
    .ghost (.keep [4, 5, 7, 8, 9, 10, 11, 12, 13, 14, 15]) .skip) (
    .ghost (.keep [4, 5, 7, 8, 9, 10, 11, 12, 13, 14]) (.exit 2))
def f_custodylaw09_WotsReveals_r19 : ACode :=
  .region [4, 5, 7, 8, 9, 10, 11, 12, 13, 14, 15] [.norm [4, 5, 13, 14]] [
    ⟨(some 73), none, .mv false (.s 15)⟩,
    ⟨(some 74), none, .mv false (.s 8)⟩,
    ⟨(some 75), none, .mv false (.s 12)⟩,
    ⟨(some 76), none, .bin .mul (.c (i64 16)) (.s 75)⟩,
    ⟨(some 77), none, .mv false (.s 15)⟩,
    ⟨(some 78), none, .bin .add (.s 76) (.s 77)⟩,
    ⟨(some 79), none, .idxStr (.s 74) (.s 78)⟩,
    ⟨(some 80), none, .idxArr 16 1 (.s 14) (.s 73)⟩,
    ⟨none, none, .store none 14 false (.s 80) (.s 79)⟩]
def f_custodylaw09_WotsReveals_r18 : ACode :=
  .seq (
    .block 3 (
      .seq (
        .region [4, 5, 7, 8, 9, 10, 11, 12, 13, 14, 15] [.norm [4, 5, 13, 14]] [
          ⟨(some 65), none, .mv false (.s 15)⟩,
          ⟨(some 66), none, .mv false (.s 7)⟩,
          ⟨(some 67), none, .mv false (.s 12)⟩,
          ⟨(some 68), none, .bin .mul (.c (i64 16)) (.s 67)⟩,
          ⟨(some 69), none, .mv false (.s 15)⟩,
          ⟨(some 70), none, .bin .add (.s 68) (.s 69)⟩,
          ⟨(some 71), none, .idxStr (.s 66) (.s 70)⟩,
          ⟨(some 72), none, .idxArr 16 1 (.s 13) (.s 65)⟩,
          ⟨none, none, .store none 13 false (.s 72) (.s 71)⟩]) (
      f_custodylaw09_WotsReveals_r19))) (
  .region [4, 5, 7, 8, 9, 10, 11, 12, 13, 14, 15] [] [
    ⟨(some 63), none, .mv false (.s 15)⟩,
    ⟨(some 64), none, .bin .add (.s 63) (.c (i64 1))⟩,
    ⟨(some 15), none, .mv false (.s 64)⟩])
def f_custodylaw09_WotsReveals_l1 : ACode :=
  .seq (
    .seq (
      .region [4, 5, 7, 8, 9, 10, 11, 12, 13, 14, 15, 62] [] [
        ⟨(some 61), none, .mv false (.s 15)⟩,
        ⟨(some 62), none, .bin .lss (.s 61) (.c (i64 16))⟩]) (
    f_custodylaw09_WotsReveals_r17)) (
  f_custodylaw09_WotsReveals_r18)
def f_custodylaw09_WotsReveals_r16 : ACode :=
  .block 2 (
    .loop f_custodylaw09_WotsReveals_l1)
def f_custodylaw09_WotsReveals_r21 : ACode :=
  .cond (.s 93) (
    .seq (
      .region [6] [] [
        ⟨(some 6), none, .mv false (.c (bo false))⟩]) (
    .ret)) (
    .ghost (.keep [4, 5, 7, 8, 9, 10, 11, 12]) .skip)
def f_custodylaw09_WotsReveals_r20 : ACode :=
  .seq (
    .region [4, 5, 7, 8, 9, 10, 11, 12, 93] [.norm [4, 5, 13, 14]] [
      ⟨(some 81), none, .mv false (.s 12)⟩,
      ⟨(some 82), none, .mv false (.s 9)⟩,
      ⟨(some 83), none, .mv false (.s 12)⟩,
      ⟨(some 84), none, .idxSl 1 (.s 82) (.s 83)⟩,
      ⟨(some 85), none, .load none none false (.s 84)⟩,
      ⟨(some 86), none, .mv false (.s 10)⟩,
      ⟨(some 87), none, .mv false (.s 12)⟩,
      ⟨(some 88), none, .idxSl 1 (.s 86) (.s 87)⟩,
      ⟨(some 89), none, .load none none false (.s 88)⟩,
      ⟨(some 90), none, .load (some 16) (some 13) false (.s 13)⟩,
      ⟨(some 91), none, .call 111 [(.s 81), (.s 85), (.s 89), (.s 90)] []⟩,
      ⟨(some 92), none, .load (some 16) (some 14) false (.s 14)⟩,
      ⟨(some 93), none, .eqF (ks8 16) true (.s 91) (.s 92)⟩]) (
  f_custodylaw09_WotsReveals_r21)
def f_custodylaw09_WotsReveals_r15 : ACode :=
  .seq (
    .seq (
      .region [4, 5, 7, 8, 9, 10, 11, 12, 13, 14, 15] [] [
        ⟨(some 15), none, .mv false (.c (i64 0))⟩]) (
    f_custodylaw09_WotsReveals_r16)) (
  f_custodylaw09_WotsReveals_r20)
def f_custodylaw09_WotsReveals_r14 : ACode :=
  .seq (
    .region [4, 5, 7, 8, 9, 10, 11, 12, 13, 14] [.norm [4, 5, 13, 14]] [
      ⟨(some 13), none, .alloc 13 (bys (zeros 16))⟩,
      ⟨(some 14), none, .alloc 14 (bys (zeros 16))⟩]) (
  f_custodylaw09_WotsReveals_r15)
def f_custodylaw09_WotsReveals_r12 : ACode :=
  .seq (
    .block 1 (
      .seq (
        .seq (
          .region [4, 5, 7, 8, 9, 10, 11, 12, 60] [.norm [4, 5]] [
            ⟨(some 52), none, .mv false (.s 10)⟩,
            ⟨(some 53), none, .mv false (.s 12)⟩,
            ⟨(some 54), none, .idxSl 1 (.s 52) (.s 53)⟩,
            ⟨(some 55), none, .load none none false (.s 54)⟩,
            ⟨(some 56), none, .mv false (.s 9)⟩,
            ⟨(some 57), none, .mv false (.s 12)⟩,
            ⟨(some 58), none, .idxSl 1 (.s 56) (.s 57)⟩,
            ⟨(some 59), none, .load none none false (.s 58)⟩,
            ⟨(some 60), none, .bin .lss (.s 55) (.s 59)⟩]) (
        f_custodylaw09_WotsReveals_r13)) (
      f_custodylaw09_WotsReveals_r14))) (
  .region [4, 5, 7, 8, 9, 10, 11, 12] [.drop [13, 14]] [
    ⟨(some 50), none, .mv false (.s 12)⟩,
    ⟨(some 51), none, .bin .add (.s 50) (.c (i64 1))⟩,
    ⟨(some 12), none, .mv false (.s 51)⟩])
def f_custodylaw09_WotsReveals_l0 : ACode :=
  .seq (
    .seq (
      .region [4, 5, 7, 8, 9, 10, 11, 12, 49] [] [
        ⟨(some 48), none, .mv false (.s 12)⟩,
        ⟨(some 49), none, .bin .lss (.s 48) (.c (i64 35))⟩]) (
    f_custodylaw09_WotsReveals_r11)) (
  f_custodylaw09_WotsReveals_r12)
def f_custodylaw09_WotsReveals_r10 : ACode :=
  .block 0 (
    .loop f_custodylaw09_WotsReveals_l0)
def f_custodylaw09_WotsReveals_r22 : ACode :=
  .seq (
    .region [6] [.norm [4, 5, 13, 14]] [
      ⟨(some 94), none, .call 114 [] []⟩,
      ⟨(some 95), none, .mv false (.s 94)⟩,
      ⟨(some 96), (some (95, true)), .mv false (.s 11)⟩,
      ⟨(some 97), (some (95, true)), .load (some 16) (some 4) false (.s 4)⟩,
      ⟨(some 98), (some (95, true)), .load (some 16) (some 5) false (.s 5)⟩,
      ⟨(some 99), (some (95, true)), .eqF (ks8 16) true (.s 97) (.s 98)⟩,
      ⟨(some 100), (some (95, true)), .eqb false (.s 96) (.s 99)⟩,
      ⟨(some 101), none, .pick (.s 95) (.s 100) (.c (bo false))⟩,
      ⟨(some 6), none, .mv false (.s 101)⟩]) (
  .ret)
def f_custodylaw09_WotsReveals_r9 : ACode :=
  .seq (
    .seq (
      .region [4, 5, 7, 8, 9, 10, 11, 12] [] [
        ⟨(some 12), none, .mv false (.c (i64 0))⟩]) (
    f_custodylaw09_WotsReveals_r10)) (
  f_custodylaw09_WotsReveals_r22)
def f_custodylaw09_WotsReveals_r8 : ACode :=
  .seq (
    .region [4, 5, 7, 8, 9, 10, 11] [] [
      ⟨(some 11), none, .mv false (.c (bo false))⟩]) (
  f_custodylaw09_WotsReveals_r9)
def f_custodylaw09_WotsReveals_r6 : ACode :=
  .seq (
    .seq (
      .region [4, 5, 7, 8, 9, 10, 47] [] [
        ⟨(some 30), none, .mv false (.s 7)⟩,
        ⟨(some 31), none, .len true (.s 30)⟩,
        ⟨(some 32), none, .bin .neq (.s 31) (.c (i64 560))⟩,
        ⟨(some 33), none, .mv false (.s 32)⟩,
        ⟨(some 34), (some (33, false)), .mv false (.s 8)⟩,
        ⟨(some 35), (some (33, false)), .len true (.s 34)⟩,
        ⟨(some 36), (some (33, false)), .bin .neq (.s 35) (.c (i64 560))⟩,
        ⟨(some 37), none, .pick (.s 33) (.c (bo true)) (.s 36)⟩,
        ⟨(some 38), none, .mv false (.s 37)⟩,
        ⟨(some 39), (some (38, false)), .mv false (.s 9)⟩,
        ⟨(some 40), (some (38, false)), .len false (.s 39)⟩,
        ⟨(some 41), (some (38, false)), .bin .neq (.s 40) (.c (i64 35))⟩,
        ⟨(some 42), none, .pick (.s 38) (.c (bo true)) (.s 41)⟩,
        ⟨(some 43), none, .mv false (.s 42)⟩,
        ⟨(some 44), (some (43, false)), .mv false (.s 10)⟩,
        ⟨(some 45), (some (43, false)), .len false (.s 44)⟩,
        ⟨(some 46), (some (43, false)), .bin .neq (.s 45) (.c (i64 35))⟩,
        ⟨(some 47), none, .pick (.s 43) (.c (bo true)) (.s 46)⟩]) (
    f_custodylaw09_WotsReveals_r7)) (
  f_custodylaw09_WotsReveals_r8)
def f_custodylaw09_WotsReveals_r5 : ACode :=
  .seq (
    .region [4, 5, 7, 8, 9, 10] [.norm [4, 5]] [
      ⟨(some 28), none, .load (some 16) (some 5) false (.s 5)⟩,
      ⟨(some 29), none, .call 90 [(.s 28)] []⟩,
      ⟨(some 10), none, .mv true (.s 29)⟩]) (
  f_custodylaw09_WotsReveals_r6)
def f_custodylaw09_WotsReveals_r4 : ACode :=
  .seq (
    .region [4, 5, 7, 8, 9] [.norm [4, 5]] [
      ⟨(some 26), none, .load (some 16) (some 4) false (.s 4)⟩,
      ⟨(some 27), none, .call 90 [(.s 26)] []⟩,
      ⟨(some 9), none, .mv true (.s 27)⟩]) (
  f_custodylaw09_WotsReveals_r5)
def f_custodylaw09_WotsReveals_r3 : ACode :=
  .seq (
    .region [4, 5, 7, 8] [.norm [4, 5]] [
      ⟨(some 23), none, .mv false (.s 0)⟩,
      ⟨(some 24), none, .load (some 16) (some 5) false (.s 5)⟩,
      ⟨(some 25), none, .call 106 [(.s 23), (.s 24)] []⟩,
      ⟨(some 8), none, .mv false (.s 25)⟩]) (
  f_custodylaw09_WotsReveals_r4)
def f_custodylaw09_WotsReveals_r2 : ACode :=
  .seq (
    .region [4, 5, 7] [.norm [4, 5]] [
      ⟨(some 20), none, .mv false (.s 0)⟩,
      ⟨(some 21), none, .load (some 16) (some 4) false (.s 4)⟩,
      ⟨(some 22), none, .call 106 [(.s 20), (.s 21)] []⟩,
      ⟨(some 7), none, .mv false (.s 22)⟩]) (
  f_custodylaw09_WotsReveals_r3)
def f_custodylaw09_WotsReveals_r0 : ACode :=
  .seq (
    .seq (
      .region [4, 5, 18] [] [
        ⟨(some 16), none, .mv false (.s 0)⟩,
        ⟨(some 17), none, .len true (.s 16)⟩,
        ⟨(some 18), none, .bin .gtr (.s 17) (.c (i64 200))⟩]) (
    f_custodylaw09_WotsReveals_r1)) (
  f_custodylaw09_WotsReveals_r2)
def f_custodylaw09_WotsReveals : AFun :=
 { n := 3, wr := [], res := [.t 6], body :=
    .seq (
      .region [4, 5] [.norm [4, 5]] [
        ⟨(some 4), none, .box 4 (some 16) false (.s 1)⟩,
        ⟨(some 5), none, .box 5 (some 16) false (.s 2)⟩,
        ⟨(some 6), none, .mv false (.c (bo false))⟩]) (
    f_custodylaw09_WotsReveals_r0) }

/-- custody custodylaw09.sanity = 114; calls wots.Advance = 111, wots.Digits = 90, wots.Public = 100, wots.Recover = 93, wots.Sign = 106, wots.Verify = 108 -/
def f_custodylaw09_sanity_r3 : ACode :=
  .cond (.s 13) (
    .ghost (.keep [1, 2, 3]) .skip) (
    .ghost (.keep [1, 2]) (.exit 0))
def f_custodylaw09_sanity_r4 : ACode :=
  .seq (
    .block 1 (
      .region [1, 2, 3] [.norm [1, 2]] [
        ⟨(some 16), none, .mv false (.s 3)⟩,
        ⟨(some 17), none, .idxArr 16 1 (.s 2) (.s 16)⟩,
        ⟨none, none, .store none 2 false (.s 17) (.c (u8 255))⟩])) (
  .region [1, 2, 3] [] [
    ⟨(some 14), none, .mv false (.s 3)⟩,
    ⟨(some 15), none, .bin .add (.s 14) (.c (i64 1))⟩,
    ⟨(some 3), none, .mv false (.s 15)⟩])
def f_custodylaw09_sanity_l0 : ACode :=
  .seq (
    .seq (
      .region [1, 2, 3, 13] [] [
        ⟨(some 12), none, .mv false (.s 3)⟩,
        ⟨(some 13), none, .bin .lss (.s 12) (.c (i64 16))⟩]) (
    f_custodylaw09_sanity_r3)) (
  f_custodylaw09_sanity_r4)
def f_custodylaw09_sanity_r2 : ACode :=
  .block 0 (
    .loop f_custodylaw09_sanity_l0)
def f_custodylaw09_sanity_r11 : ACode :=
  .seq (
    .region [0] [.norm [1, 2, 7, 8, 10]] [
      ⟨(some 36), none, .mv false (.s 4)⟩,
      ⟨(some 37), none, .len false (.s 36)⟩,
      ⟨(some 38), none, .bin .eql (.s 37) (.c (i64 35))⟩,
      ⟨(some 39), none, .mv false (.s 38)⟩,
      ⟨(some 40), (some (39, true)), .mv false (.s 4)⟩,
      ⟨(some 41), (some (39, true)), .idxSl 1 (.s 40) (.c (i64 0))⟩,
      ⟨(some 42), (some (39, true)), .load none none false (.s 41)⟩,
      ⟨(some 43), (some (39, true)), .bin .eql (.s 42) (.c (i64 0))⟩,
      ⟨(some 44), none, .pick (.s 39) (.s 43) (.c (bo false))⟩,
      ⟨(some 45), none, .mv false (.s 44)⟩,
      ⟨(some 46), (some (45, true)), .mv false (.s 4)⟩,
      ⟨(some 47), (some (45, true)), .idxSl 1 (.s 46) (.c (i64 32))⟩,
      ⟨(some 48), (some (45, true)), .load none none false (.s 47)⟩,
      ⟨(some 49), (some (45, true)), .bin .eql (.s 48) (.c (i64 1))⟩,
      ⟨(some 50), none, .pick (.s 45) (.s 49) (.c (bo false))⟩,
      ⟨(some 51), none, .mv false (.s 50)⟩,
      ⟨(some 52), (some (51, true)), .mv false (.s 4)⟩,
      ⟨(some 53), (some (51, true)), .idxSl 1 (.s 52) (.c (i64 33))⟩,
      ⟨(some 54), (some (51, true)), .load none none false (.s 53)⟩,
      ⟨(some 55), (some (51, true)), .bin .eql (.s 54) (.c (i64 14))⟩,
      ⟨(some 56), none, .pick (.s 51) (.s 55) (.c (bo false))⟩,
      ⟨(some 57), none, .mv false (.s 56)⟩,
      ⟨(some 58), (some (57, true)), .mv false (.s 4)⟩,
      ⟨(some 59), (some (57, true)), .idxSl 1 (.s 58) (.c (i64 34))⟩,
      ⟨(some 60), (some (57, true)), .load none none false (.s 59)⟩,
      ⟨(some 61), (some (57, true)), .bin .eql (.s 60) (.c (i64 0))⟩,
      ⟨(some 62), none, .pick (.s 57) (.s 61) (.c (bo false))⟩,
      ⟨(some 63), none, .mv false (.s 62)⟩,
      ⟨(some 64), (some (63, true)), .mv false (.s 5)⟩,
      ⟨(some 65), (some (63, true)), .len false (.s 64)⟩,
      ⟨(some 66), (some (63, true)), .bin .eql (.s 65) (.c (i64 35))⟩,
      ⟨(some 67), none, .pick (.s 63) (.s 66) (.c (bo false))⟩,
      ⟨(some 68), none, .mv false (.s 67)⟩,
      ⟨(some 69), (some (68, true)), .mv false (.s 5)⟩,
      ⟨(some 70), (some (68, true)), .idxSl 1 (.s 69) (.c (i64 31))⟩,
      ⟨(some 71), (some (68, true)), .load none none false (.s 70)⟩,
      ⟨(some 72), (some (68, true)), .bin .eql (.s 71) (.c (i64 15))⟩,
      ⟨(some 73), none, .pick (.s 68) (.s 72) (.c (bo false))⟩,
      ⟨(some 74), none, .mv false (.s 73)⟩,
      ⟨(some 75), (some (74, true)), .mv false (.s 5)⟩,
      ⟨(some 76), (some (74, true)), .idxSl 1 (.s 75) (.c (i64 32))⟩,
      ⟨(some 77), (some (74, true)), .load none none false (.s 76)⟩,
      ⟨(some 78), (some (74, true)), .bin .eql (.s 77) (.c (i64 0))⟩,
      ⟨(some 79), none, .pick (.s 74) (.s 78) (.c (bo false))⟩,
      ⟨(some 80), none, .mv false (.s 79)⟩,
      ⟨(some 81), (some (80, true)), .mv false (.s 6)⟩,
      ⟨(some 82), (some (80, true)), .len true (.s 81)⟩,
      ⟨(some 83), (some (80, true)), .bin .eql (.s 82) (.c (i64 560))⟩,
      ⟨(some 84), none, .pick (.s 80) (.s 83) (.c (bo false))⟩,
      ⟨(some 85), none, .mv false (.s 84)⟩,
      ⟨(some 86), (some (85, true)), .mv false (.s 9)⟩,
      ⟨(some 87), (some (85, true)), .bin .eql (.s 86) (.c (i64 0))⟩,
      ⟨(some 88), none, .pick (.s 85) (.s 87) (.c (bo false))⟩,
      ⟨(some 89), none, .mv false (.s 88)⟩,
      ⟨(some 90), (some (89, true)), .load (some 16) (some 8) false (.s 8)⟩,
      ⟨(some 91), (some (89, true)), .load (some 16) (some 7) false (.s 7)⟩,
      ⟨(some 92), (some (89, true)), .eqF (ks8 16) false (.s 90) (.s 91)⟩,
      ⟨(some 93), none, .pick (.s 89) (.s 92) (.c (bo false))⟩,
      ⟨(some 94), none, .mv false (.s 93)⟩,
      ⟨(some 95), (some (94, true)), .mv false (.s 11)⟩,
      ⟨(some 96), (some (94, true)), .bin .eql (.s 95) (.c (i64 1))⟩,
      ⟨(some 97), none, .pick (.s 94) (.s 96) (.c (bo false))⟩,
      ⟨(some 98), none, .mv false (.s 97)⟩,
      ⟨(some 99), (some (98, true)), .load (some 16) (some 7) false (.s 7)⟩,
      ⟨(some 100), (some (98, true)), .load (some 16) (some 1) false (.s 1)⟩,
      ⟨(some 101), (some (98, true)), .mv false (.s 6)⟩,
      ⟨(some 102), (some (98, true)), .call 108 [(.s 99), (.s 100), (.s 101)] []⟩,
      ⟨(some 103), none, .pick (.s 98) (.s 102) (.c (bo false))⟩,
      ⟨(some 104), none, .mv false (.s 103)⟩,
      ⟨(some 105), (some (104, true)), .load (some 16) (some 7) false (.s 7)⟩,
      ⟨(some 106), (some (104, true)), .load (some 16) (some 2) false (.s 2)⟩,
      ⟨(some 107), (some (104, true)), .mv false (.s 6)⟩,
      ⟨(some 108), (some (104, true)), .call 108 [(.s 105), (.s 106), (.s 107)] []⟩,
      ⟨(some 109), (some (104, true)), .un .not (.s 108)⟩,
      ⟨(some 110), none, .pick (.s 104) (.s 109) (.c (bo false))⟩,
      ⟨(some 111), none, .mv false (.s 110)⟩,
      ⟨(some 112), (some (111, true)), .load (some 16) (some 1) false (.s 1)⟩,
      ⟨(some 113), (some (111, true)), .call 111 [(.c (i64 0)), (.c (i64 0)), (.c (i64 1)), (.s 112)] []⟩,
      ⟨(some 114), (some (111, true)), .load (some 16) (some 1) false (.s 1)⟩,
      ⟨(some 115), (some (111, true)), .eqF (ks8 16) true (.s 113) (.s 114)⟩,
      ⟨(some 116), none, .pick (.s 111) (.s 115) (.c (bo false))⟩,
      ⟨(some 0), none, .mv false (.s 116)⟩]) (
  .ret)
def f_custodylaw09_sanity_r10 : ACode :=
  .seq (
    .region [1, 2, 4, 5, 6, 7, 8, 9, 11] [.norm [1, 2, 7, 8, 10]] [
      ⟨(some 32), none, .load (some 16) (some 1) false (.s 1)⟩,
      ⟨(some 33), none, .call 93 [(.s 32), (.c (st []))] []⟩,
      ⟨(some 31), none, .mv false (.s 33)⟩,
      ⟨(some 34), none, .extract 0 (.s 31)⟩,
      ⟨(some 35), none, .extract 1 (.s 31)⟩,
      ⟨(some 10), none, .alloc 10 (bys (zeros 16))⟩,
      ⟨none, none, .store (some 16) 10 false (.s 10) (.s 34)⟩,
      ⟨(some 11), none, .mv false (.s 35)⟩]) (
  f_custodylaw09_sanity_r11)
def f_custodylaw09_sanity_r9 : ACode :=
  .seq (
    .region [1, 2, 4, 5, 6, 7, 8, 9] [.norm [1, 2, 7, 8]] [
      ⟨(some 26), none, .load (some 16) (some 1) false (.s 1)⟩,
      ⟨(some 27), none, .mv false (.s 6)⟩,
      ⟨(some 28), none, .call 93 [(.s 26), (.s 27)] []⟩,
      ⟨(some 25), none, .mv false (.s 28)⟩,
      ⟨(some 29), none, .extract 0 (.s 25)⟩,
      ⟨(some 30), none, .extract 1 (.s 25)⟩,
      ⟨(some 8), none, .alloc 8 (bys (zeros 16))⟩,
      ⟨none, none, .store (some 16) 8 false (.s 8) (.s 29)⟩,
      ⟨(some 9), none, .mv false (.s 30)⟩]) (
  f_custodylaw09_sanity_r10)
def f_custodylaw09_sanity_r8 : ACode :=
  .seq (
    .region [1, 2, 4, 5, 6, 7] [.norm [1, 2, 7]] [
      ⟨(some 24), none, .call 100 [(.c (st [115, 101, 101, 100]))] []⟩,
      ⟨(some 7), none, .alloc 7 (bys (zeros 16))⟩,
      ⟨none, none, .store (some 16) 7 false (.s 7) (.s 24)⟩]) (
  f_custodylaw09_sanity_r9)
def f_custodylaw09_sanity_r7 : ACode :=
  .seq (
    .region [1, 2, 4, 5, 6] [.norm [1, 2]] [
      ⟨(some 22), none, .load (some 16) (some 1) false (.s 1)⟩,
      ⟨(some 23), none, .call 106 [(.c (st [115, 101, 101, 100])), (.s 22)] []⟩,
      ⟨(some 6), none, .mv false (.s 23)⟩]) (
  f_custodylaw09_sanity_r8)
def f_custodylaw09_sanity_r6 : ACode :=
  .seq (
    .region [1, 2, 4, 5] [.norm [1, 2]] [
      ⟨(some 20), none, .load (some 16) (some 2) false (.s 2)⟩,
      ⟨(some 21), none, .call 90 [(.s 20)] []⟩,
      ⟨(some 5), none, .mv true (.s 21)⟩]) (
  f_custodylaw09_sanity_r7)
def f_custodylaw09_sanity_r5 : ACode :=
  .seq (
    .region [1, 2, 4] [.norm [1, 2]] [
      ⟨(some 18), none, .load (some 16) (some 1) false (.s 1)⟩,
      ⟨(some 19), none, .call 90 [(.s 18)] []⟩,
      ⟨(some 4), none, .mv true (.s 19)⟩]) (
  f_custodylaw09_sanity_r6)
def f_custodylaw09_sanity_r1 : ACode :=
  .seq (
    .seq (
      .region [1, 2, 3] [] [
        ⟨(some 3), none, .mv false (.c (i64 0))⟩]) (
    f_custodylaw09_sanity_r2)) (
  f_custodylaw09_sanity_r5)
def f_custodylaw09_sanity_r0 : ACode :=
  .seq (
    .region [1, 2] [.norm [1, 2]] [
      ⟨(some 1), none, .alloc 1 (bys (zeros 16))⟩,
      ⟨(some 2), none, .alloc 2 (bys (zeros 16))⟩]) (
  f_custodylaw09_sanity_r1)
def f_custodylaw09_sanity : AFun :=
 { n := 0, wr := [], res := [.t 0], body :=
    .seq (
      .region [] [] [
        ⟨(some 0), none, .mv false (.c (bo false))⟩]) (
    f_custodylaw09_sanity_r0) }

end Go.Abs
end

section
namespace Go.Abs
def lawWM : Contract := trueC fun ds => ∃ s d g p : List UInt8, d.length = 16 ∧ p.length = 16 ∧ ds = [st s, .agg (bys d), st g, .agg (bys p)]
def lawWA : Contract := trueC fun ds => ∃ (c f m t : Int) (v : List UInt8), isI64 c ∧ isI64 f ∧ isI64 m ∧ isI64 t ∧ v.length = 16 ∧ ds = [i64 c, i64 f, i64 m, i64 t, .agg (bys v)]
def lawWV : Contract := trueC fun ds => ∃ s d o : List UInt8, d.length = 16 ∧ o.length = 16 ∧ ds = [st s, .agg (bys d), .agg (bys o)]
def lawWD : Contract := trueC fun ds => ∃ a b : List UInt8, a.length = 16 ∧ b.length = 16 ∧ ds = [.agg (bys a), .agg (bys b)]
def lawWB : Contract := trueC fun ds => ∃ a s b t : List UInt8, a.length = 16 ∧ b.length = 16 ∧ ds = [.agg (bys a), st s, .agg (bys b), st t]
theorem rec_sig (s : List UInt8) {d : List UInt8} (hd : d.length = 16) : recD d (sigS s d) = pubD s := by rw [recD, if_pos (sigS_len _ _), endS_sig s hd, pubD]
theorem recE_sig (s d : List UInt8) : recE (sigS s d) = 0 := by rw [recE, if_pos (sigS_len _ _)]
def fll (i : Nat) : List UInt8 := List.replicate i 255 ++ zeros (16 - i)
theorem fll_len {i : Nat} (h : i ≤ 16) : (fll i).length = 16 := by simp [fll]; omega
theorem fll_set {i : Nat} (h : i < 16) : (fll i).set i 255 = fll (i + 1) := by
  rw [fll, zeros_64 h, set_mid (by simp), fll, List.replicate_succ', List.append_assoc, show 16 - 1 - i = 16 - (i + 1) by omega]; rfl
theorem fll_16 : fll 16 = fullD := rfl
theorem fullD_len : fullD.length = 16 := rfl
theorem dz (k : Nat) : atI (dgI (zeros 16)) k = atI [0, 0, 0, 0, 0, 0, 0, 0, 0, 0, 0, 0, 0, 0, 0, 0, 0, 0, 0, 0, 0, 0, 0, 0, 0, 0, 0, 0, 0, 0, 0, 0, 1, 14, 0] k := by rw [show zeros 16 = zeroD from rfl, dg_zero]
theorem df (k : Nat) : atI (dgI fullD) k = atI [15, 15, 15, 15, 15, 15, 15, 15, 15, 15, 15, 15, 15, 15, 15, 15, 15, 15, 15, 15, 15, 15, 15, 15, 15, 15, 15, 15, 15, 15, 15, 15, 0, 0, 0] k := by rw [dg_full]
/-! ### Digits of two digests -/
theorem dg_less {a b : List UInt8} (ha : a.length = 16) (hb : b.length = 16) : (∃ i, i < 35 ∧ atI (dgI a) i < atI (dgI b) i) ↔ a ≠ b := by
  constructor
  · rintro ⟨i, _, h⟩ rfl
    omega
  · intro h
    by_cases hh : ∃ i, i < 35 ∧ atI (dgI a) i < atI (dgI b) i
    · exact hh
    · refine absurd (dgt_mono hb ha fun i hi => ?_).symm h
      have : ¬ atI (dgI a) i < atI (dgI b) i := fun h => hh ⟨i, hi, h⟩
      rw [dgI_at, dgI_at] at this
      omega
/-- Whether one is less, in the first so many. -/
def lessB (a b : List UInt8) : Nat → Bool
  | 0 => false
  | i + 1 => lessB a b i || decide (atI (dgI a) i < atI (dgI b) i)
theorem lessB_iff (a b : List UInt8) : ∀ n, lessB a b n = true ↔ ∃ i, i < n ∧ atI (dgI a) i < atI (dgI b) i
  | 0 => by simp [lessB]
  | n + 1 => by
    simp only [lessB, Bool.or_eq_true, decide_eq_true_eq, lessB_iff a b n]
    constructor
    · rintro (⟨i, h1, h2⟩ | h)
      · exact ⟨i, by omega, h2⟩
      · exact ⟨n, by omega, h⟩
    · rintro ⟨i, h1, h2⟩
      by_cases e : i = n
      · subst e; exact .inr h2
      · exact .inl ⟨i, by omega, h2⟩
theorem lessB_all {a b : List UInt8} (ha : a.length = 16) (hb : b.length = 16) : lessB a b 35 = !decide (a = b) := by
  rw [Bool.eq_iff_iff, lessB_iff, dg_less ha hb]
  simp
theorem sumI {d : List UInt8} (h : d.length = 16) : (sumD d : Int) = 256 * atI (dgI d) 32 + 16 * atI (dgI d) 33 + atI (dgI d) 34 := by
  obtain ⟨c1, c2, c3⟩ := dgt_chk h
  rw [dgI_at, dgI_at, dgI_at, c1, c2, c3]
  have := sumD_le d
  omega
end Go.Abs
end

section
namespace Go.Abs
theorem lawWM_pre (as : List AVal) (h : hasA [.str, .arr 16 (.int .u8), .str, .arr 16 (.int .u8)] as) : lawWM.pre as := by
  simp only [hasA] at h
  obtain ⟨c0, _, rfl, h0, c1, _, rfl, h1, c2, _, rfl, h2, c3, _, rfl, h3, rfl⟩ := h
  obtain ⟨s, rfl⟩ := has_str h0
  obtain ⟨d, hd, rfl⟩ := has_arr8 h1
  obtain ⟨g, rfl⟩ := has_str h2
  obtain ⟨p, hp, rfl⟩ := has_arr8 h3
  exact ⟨s, d, g, p, hd, hp, rfl⟩
theorem lawWA_pre (as : List AVal) (h : hasA [.int .i64, .int .i64, .int .i64, .int .i64, .arr 16 (.int .u8)] as) : lawWA.pre as := by
  simp only [hasA] at h
  obtain ⟨c0, _, rfl, h0, c1, _, rfl, h1, c2, _, rfl, h2, c3, _, rfl, h3, c4, _, rfl, h4, rfl⟩ := h
  obtain ⟨c, a0, a1, rfl⟩ := has_i64 h0
  obtain ⟨f, b0, b1, rfl⟩ := has_i64 h1
  obtain ⟨m, d0, d1, rfl⟩ := has_i64 h2
  obtain ⟨t, e0, e1, rfl⟩ := has_i64 h3
  obtain ⟨v, hv, rfl⟩ := has_arr8 h4
  exact ⟨c, f, m, t, v, ⟨a0, a1⟩, ⟨b0, b1⟩, ⟨d0, d1⟩, ⟨e0, e1⟩, hv, rfl⟩
theorem lawWV_pre (as : List AVal) (h : hasA [.str, .arr 16 (.int .u8), .arr 16 (.int .u8)] as) : lawWV.pre as := by
  simp only [hasA] at h
  obtain ⟨c0, _, rfl, h0, c1, _, rfl, h1, c2, _, rfl, h2, rfl⟩ := h
  obtain ⟨s, rfl⟩ := has_str h0
  obtain ⟨d, hd, rfl⟩ := has_arr8 h1
  obtain ⟨o, ho, rfl⟩ := has_arr8 h2
  exact ⟨s, d, o, hd, ho, rfl⟩
theorem lawWD_pre (as : List AVal) (h : hasA [.arr 16 (.int .u8), .arr 16 (.int .u8)] as) : lawWD.pre as := by
  simp only [hasA] at h
  obtain ⟨c1, _, rfl, h1, c2, _, rfl, h2, rfl⟩ := h
  obtain ⟨a, ha, rfl⟩ := has_arr8 h1
  obtain ⟨b, hb, rfl⟩ := has_arr8 h2
  exact ⟨a, b, ha, hb, rfl⟩
theorem lawWB_pre (as : List AVal) (h : hasA [.arr 16 (.int .u8), .str, .arr 16 (.int .u8), .str] as) : lawWB.pre as := by
  simp only [hasA] at h
  obtain ⟨c0, _, rfl, h0, c1, _, rfl, h1, c2, _, rfl, h2, c3, _, rfl, h3, rfl⟩ := h
  obtain ⟨a, ha, rfl⟩ := has_arr8 h0
  obtain ⟨s, rfl⟩ := has_str h1
  obtain ⟨b, hb, rfl⟩ := has_arr8 h2
  obtain ⟨t, rfl⟩ := has_str h3
  exact ⟨a, s, b, t, ha, hb, rfl⟩
end Go.Abs
end
