/- Lemmas: an abstract interpreter, and what the functions compute. -/
import Derived.Test.YtofpocohihjddaaDoorD
import Derived.Test.YtofpocohihjddaaDoorH
import Derived.Test.YtofpocohihjddaaDoorE
set_option linter.unusedSimpArgs false
set_option linter.unusedVariables false
set_option linter.unusedSectionVars false
section
namespace Go.Abs
set_option maxRecDepth 100000
/-- custody custodylaw05.KdfDeriveMatchesSpec = 84; calls custodylaw05.sanity = 83, custodyref02.Few = 16, custodyref05.Derive = 78, kdf.Derive = 76 -/
def f_custodylaw05_KdfDeriveMatchesSpec_r2 : ACode :=
  .cond (.s 21) (
    .seq (
      .region [6] [] [
        ⟨(some 22), none, .mv false (.s 7)⟩,
        ⟨(some 6), none, .mv false (.s 22)⟩]) (
    .ret)) (
    .ghost (.keep [7]) .skip)
def f_custodylaw05_KdfDeriveMatchesSpec_r3 : ACode :=
  .seq (
    .region [6] [] [
      ⟨(some 23), none, .mv false (.s 7)⟩,
      ⟨(some 24), none, .mv false (.s 23)⟩,
      ⟨(some 25), (some (24, true)), .mv false (.s 0)⟩,
      ⟨(some 26), (some (24, true)), .mv false (.s 1)⟩,
      ⟨(some 27), (some (24, true)), .mv false (.s 2)⟩,
      ⟨(some 28), (some (24, true)), .call 76 [(.s 25), (.s 26), (.s 27)] []⟩,
      ⟨(some 29), (some (24, true)), .mv false (.s 0)⟩,
      ⟨(some 30), (some (24, true)), .mv false (.s 1)⟩,
      ⟨(some 31), (some (24, true)), .mv false (.s 2)⟩,
      ⟨(some 32), (some (24, true)), .call 78 [(.s 29), (.s 30), (.s 31)] []⟩,
      ⟨(some 33), (some (24, true)), .bin .eql (.s 28) (.s 32)⟩,
      ⟨(some 34), none, .pick (.s 24) (.s 33) (.c (bo false))⟩,
      ⟨(some 6), none, .mv false (.s 34)⟩]) (
  .ret)
def f_custodylaw05_KdfDeriveMatchesSpec_r1 : ACode :=
  .seq (
    .seq (
      .region [7, 21] [] [
        ⟨(some 9), none, .mv false (.s 0)⟩,
        ⟨(some 10), none, .len true (.s 9)⟩,
        ⟨(some 11), none, .bin .gtr (.s 10) (.c (i64 400))⟩,
        ⟨(some 12), none, .mv false (.s 11)⟩,
        ⟨(some 13), (some (12, false)), .mv false (.s 1)⟩,
        ⟨(some 14), (some (12, false)), .len true (.s 13)⟩,
        ⟨(some 15), (some (12, false)), .bin .gtr (.s 14) (.c (i64 400))⟩,
        ⟨(some 16), none, .pick (.s 12) (.c (bo true)) (.s 15)⟩,
        ⟨(some 17), none, .mv false (.s 16)⟩,
        ⟨(some 18), (some (17, false)), .mv false (.s 2)⟩,
        ⟨(some 19), (some (17, false)), .call 16 [(.s 18)] []⟩,
        ⟨(some 20), (some (17, false)), .un .not (.s 19)⟩,
        ⟨(some 21), none, .pick (.s 17) (.c (bo true)) (.s 20)⟩]) (
    f_custodylaw05_KdfDeriveMatchesSpec_r2)) (
  f_custodylaw05_KdfDeriveMatchesSpec_r3)
def f_custodylaw05_KdfDeriveMatchesSpec_r0 : ACode :=
  .seq (
    .region [7] [] [
      ⟨(some 8), none, .call 83 [] []⟩,
      ⟨(some 7), none, .mv false (.s 8)⟩]) (
  f_custodylaw05_KdfDeriveMatchesSpec_r1)
def f_custodylaw05_KdfDeriveMatchesSpec : AFun :=
 { n := 3, wr := [], res := [.t 6], body :=
    .seq (
      .region [] [] [
        ⟨(some 6), none, .mv false (.c (bo false))⟩]) (
    f_custodylaw05_KdfDeriveMatchesSpec_r0) }

/-- custody custodylaw05.KdfPathMatchesSpec = 85; calls custodylaw05.sanity = 83, custodyref02.Few = 16, custodyref05.Path = 80, kdf.Path = 79 -/
def f_custodylaw05_KdfPathMatchesSpec_r2 : ACode :=
  .cond (.s 18) (
    .seq (
      .region [6] [] [
        ⟨(some 19), none, .mv false (.s 7)⟩,
        ⟨(some 6), none, .mv false (.s 19)⟩]) (
    .ret)) (
    .ghost (.keep [7]) .skip)
def f_custodylaw05_KdfPathMatchesSpec_r5 : ACode :=
  .seq (
    .region [6] [] [
      ⟨(some 29), none, .mv false (.s 7)⟩,
      ⟨(some 30), none, .mv false (.s 29)⟩,
      ⟨(some 31), (some (30, true)), .mv false (.s 9)⟩,
      ⟨(some 32), (some (30, true)), .mv false (.s 0)⟩,
      ⟨(some 33), (some (30, true)), .mv false (.s 1)⟩,
      ⟨(some 34), (some (30, true)), .call 80 [(.s 32), (.s 33)] []⟩,
      ⟨(some 35), (some (30, true)), .bin .eql (.s 31) (.s 34)⟩,
      ⟨(some 36), none, .pick (.s 30) (.s 35) (.c (bo false))⟩,
      ⟨(some 37), none, .mv false (.s 36)⟩,
      ⟨(some 38), (some (37, true)), .mv false (.s 9)⟩,
      ⟨(some 39), (some (37, true)), .mv false (.s 0)⟩,
      ⟨(some 40), (some (37, true)), .mv false (.s 1)⟩,
      ⟨(some 41), (some (37, true)), .mv false (.s 8)⟩,
      ⟨(some 42), (some (37, true)), .slSl 1 (.s 40) none (some (.s 41)) none⟩,
      ⟨(some 43), (some (37, true)), .call 79 [(.s 39), (.s 42)] []⟩,
      ⟨(some 44), (some (37, true)), .mv false (.s 1)⟩,
      ⟨(some 45), (some (37, true)), .mv false (.s 8)⟩,
      ⟨(some 46), (some (37, true)), .slSl 1 (.s 44) (some (.s 45)) none none⟩,
      ⟨(some 47), (some (37, true)), .call 79 [(.s 43), (.s 46)] []⟩,
      ⟨(some 48), (some (37, true)), .bin .eql (.s 38) (.s 47)⟩,
      ⟨(some 49), none, .pick (.s 37) (.s 48) (.c (bo false))⟩,
      ⟨(some 6), none, .mv false (.s 49)⟩]) (
  .ret)
def f_custodylaw05_KdfPathMatchesSpec_r4 : ACode :=
  .seq (
    .region [7, 8, 9] [] [
      ⟨(some 26), none, .mv false (.s 0)⟩,
      ⟨(some 27), none, .mv false (.s 1)⟩,
      ⟨(some 28), none, .call 79 [(.s 26), (.s 27)] []⟩,
      ⟨(some 9), none, .mv false (.s 28)⟩]) (
  f_custodylaw05_KdfPathMatchesSpec_r5)
def f_custodylaw05_KdfPathMatchesSpec_r3 : ACode :=
  .seq (
    .region [7, 8] [] [
      ⟨(some 20), none, .mv false (.s 2)⟩,
      ⟨(some 21), none, .toInt .i64 (.s 20)⟩,
      ⟨(some 22), none, .mv false (.s 1)⟩,
      ⟨(some 23), none, .len false (.s 22)⟩,
      ⟨(some 24), none, .bin .add (.s 23) (.c (i64 1))⟩,
      ⟨(some 25), none, .bin .rem (.s 21) (.s 24)⟩,
      ⟨(some 8), none, .mv false (.s 25)⟩]) (
  f_custodylaw05_KdfPathMatchesSpec_r4)
def f_custodylaw05_KdfPathMatchesSpec_r1 : ACode :=
  .seq (
    .seq (
      .region [7, 18] [] [
        ⟨(some 11), none, .mv false (.s 0)⟩,
        ⟨(some 12), none, .len true (.s 11)⟩,
        ⟨(some 13), none, .bin .gtr (.s 12) (.c (i64 400))⟩,
        ⟨(some 14), none, .mv false (.s 13)⟩,
        ⟨(some 15), (some (14, false)), .mv false (.s 1)⟩,
        ⟨(some 16), (some (14, false)), .call 16 [(.s 15)] []⟩,
        ⟨(some 17), (some (14, false)), .un .not (.s 16)⟩,
        ⟨(some 18), none, .pick (.s 14) (.c (bo true)) (.s 17)⟩]) (
    f_custodylaw05_KdfPathMatchesSpec_r2)) (
  f_custodylaw05_KdfPathMatchesSpec_r3)
def f_custodylaw05_KdfPathMatchesSpec_r0 : ACode :=
  .seq (
    .region [7] [] [
      ⟨(some 10), none, .call 83 [] []⟩,
      ⟨(some 7), none, .mv false (.s 10)⟩]) (
  f_custodylaw05_KdfPathMatchesSpec_r1)
def f_custodylaw05_KdfPathMatchesSpec : AFun :=
 { n := 3, wr := [], res := [.t 6], body :=
    .seq (
      .region [] [] [
        ⟨(some 6), none, .mv false (.c (bo false))⟩]) (
    f_custodylaw05_KdfPathMatchesSpec_r0) }

/-- custody custodylaw05.KdfDeriveSeparates = 86; calls custodylaw05.sanity = 83, custodyref02.Few = 16, custodyref02.Mac = 18, custodyref05.Input = 77, kdf.Derive = 76 -/
def f_custodylaw05_KdfDeriveSeparates_r2 : ACode :=
  .cond (.s 38) (
    .seq (
      .region [6] [] [
        ⟨(some 39), none, .mv false (.s 7)⟩,
        ⟨(some 6), none, .mv false (.s 39)⟩]) (
    .ret)) (
    .ghost (.keep [7]) .skip)
def f_custodylaw05_KdfDeriveSeparates_r6 : ACode :=
  .cond (.s 51) (
    .ghost (.keep [7, 9]) .skip) (
    .ghost (.keep [7, 8]) (.exit 0))
def f_custodylaw05_KdfDeriveSeparates_r7 : ACode :=
  .seq (
    .block 1 (
      .region [7, 8, 9] [] [
        ⟨(some 54), none, .mv false (.s 1)⟩,
        ⟨(some 55), none, .mv false (.s 9)⟩,
        ⟨(some 56), none, .idxSl 1 (.s 54) (.s 55)⟩,
        ⟨(some 57), none, .load none none false (.s 56)⟩,
        ⟨(some 58), none, .mv false (.s 2)⟩,
        ⟨(some 59), none, .mv false (.s 9)⟩,
        ⟨(some 60), none, .idxSl 1 (.s 58) (.s 59)⟩,
        ⟨(some 61), none, .load none none false (.s 60)⟩,
        ⟨(some 62), none, .bin .eql (.s 57) (.s 61)⟩,
        ⟨(some 8), none, .mv false (.s 62)⟩])) (
  .region [7, 8, 9] [] [
    ⟨(some 52), none, .mv false (.s 9)⟩,
    ⟨(some 53), none, .bin .add (.s 52) (.c (i64 1))⟩,
    ⟨(some 9), none, .mv false (.s 53)⟩])
def f_custodylaw05_KdfDeriveSeparates_l0 : ACode :=
  .seq (
    .seq (
      .region [7, 8, 9, 51] [] [
        ⟨(some 45), none, .mv false (.s 9)⟩,
        ⟨(some 46), none, .mv false (.s 1)⟩,
        ⟨(some 47), none, .len false (.s 46)⟩,
        ⟨(some 48), none, .bin .lss (.s 45) (.s 47)⟩,
        ⟨(some 49), none, .mv false (.s 48)⟩,
        ⟨(some 50), (some (49, true)), .mv false (.s 8)⟩,
        ⟨(some 51), none, .pick (.s 49) (.s 50) (.c (bo false))⟩]) (
    f_custodylaw05_KdfDeriveSeparates_r6)) (
  f_custodylaw05_KdfDeriveSeparates_r7)
def f_custodylaw05_KdfDeriveSeparates_r5 : ACode :=
  .block 0 (
    .loop f_custodylaw05_KdfDeriveSeparates_l0)
def f_custodylaw05_KdfDeriveSeparates_r13 : ACode :=
  .seq (
    .region [6] [] [
      ⟨(some 96), none, .mv false (.s 7)⟩,
      ⟨(some 97), none, .mv false (.s 96)⟩,
      ⟨(some 98), (some (97, true)), .mv false (.s 8)⟩,
      ⟨(some 99), (some (97, true)), .mv false (.s 10)⟩,
      ⟨(some 100), (some (97, true)), .mv false (.s 11)⟩,
      ⟨(some 101), (some (97, true)), .bin .eql (.s 99) (.s 100)⟩,
      ⟨(some 102), (some (97, true)), .eqb false (.s 98) (.s 101)⟩,
      ⟨(some 103), none, .pick (.s 97) (.s 102) (.c (bo false))⟩,
      ⟨(some 104), none, .mv false (.s 103)⟩,
      ⟨(some 105), (some (104, true)), .mv false (.s 12)⟩,
      ⟨(some 106), (some (104, true)), .mv false (.s 13)⟩,
      ⟨(some 107), (some (104, true)), .bin .eql (.s 105) (.s 106)⟩,
      ⟨(some 108), (some (104, true)), .mv false (.s 14)⟩,
      ⟨(some 109), (some (104, true)), .eqb false (.s 107) (.s 108)⟩,
      ⟨(some 110), none, .pick (.s 104) (.s 109) (.c (bo false))⟩,
      ⟨(some 6), none, .mv false (.s 110)⟩]) (
  .ret)
def f_custodylaw05_KdfDeriveSeparates_r12 : ACode :=
  .seq (
    .region [7, 8, 10, 11, 12, 13, 14] [] [
      ⟨(some 89), none, .mv false (.s 0)⟩,
      ⟨(some 90), none, .mv false (.s 10)⟩,
      ⟨(some 91), none, .call 18 [(.s 89), (.s 90)] []⟩,
      ⟨(some 92), none, .mv false (.s 0)⟩,
      ⟨(some 93), none, .mv false (.s 11)⟩,
      ⟨(some 94), none, .call 18 [(.s 92), (.s 93)] []⟩,
      ⟨(some 95), none, .bin .eql (.s 91) (.s 94)⟩,
      ⟨(some 14), none, .mv false (.s 95)⟩]) (
  f_custodylaw05_KdfDeriveSeparates_r13)
def f_custodylaw05_KdfDeriveSeparates_r11 : ACode :=
  .seq (
    .region [7, 8, 10, 11, 12, 13] [] [
      ⟨(some 82), none, .mv false (.s 0)⟩,
      ⟨(some 83), none, .mv false (.s 2)⟩,
      ⟨(some 84), none, .idxSl 1 (.s 83) (.c (i64 0))⟩,
      ⟨(some 85), none, .load none none false (.s 84)⟩,
      ⟨(some 86), none, .mv false (.s 2)⟩,
      ⟨(some 87), none, .slSl 1 (.s 86) (some (.c (i64 1))) none none⟩,
      ⟨(some 88), none, .call 76 [(.s 82), (.s 85), (.s 87)] []⟩,
      ⟨(some 13), none, .mv false (.s 88)⟩]) (
  f_custodylaw05_KdfDeriveSeparates_r12)
def f_custodylaw05_KdfDeriveSeparates_r10 : ACode :=
  .seq (
    .region [7, 8, 10, 11, 12] [] [
      ⟨(some 75), none, .mv false (.s 0)⟩,
      ⟨(some 76), none, .mv false (.s 1)⟩,
      ⟨(some 77), none, .idxSl 1 (.s 76) (.c (i64 0))⟩,
      ⟨(some 78), none, .load none none false (.s 77)⟩,
      ⟨(some 79), none, .mv false (.s 1)⟩,
      ⟨(some 80), none, .slSl 1 (.s 79) (some (.c (i64 1))) none none⟩,
      ⟨(some 81), none, .call 76 [(.s 75), (.s 78), (.s 80)] []⟩,
      ⟨(some 12), none, .mv false (.s 81)⟩]) (
  f_custodylaw05_KdfDeriveSeparates_r11)
def f_custodylaw05_KdfDeriveSeparates_r9 : ACode :=
  .seq (
    .region [7, 8, 10, 11] [] [
      ⟨(some 69), none, .mv false (.s 2)⟩,
      ⟨(some 70), none, .idxSl 1 (.s 69) (.c (i64 0))⟩,
      ⟨(some 71), none, .load none none false (.s 70)⟩,
      ⟨(some 72), none, .mv false (.s 2)⟩,
      ⟨(some 73), none, .slSl 1 (.s 72) (some (.c (i64 1))) none none⟩,
      ⟨(some 74), none, .call 77 [(.s 71), (.s 73)] []⟩,
      ⟨(some 11), none, .mv false (.s 74)⟩]) (
  f_custodylaw05_KdfDeriveSeparates_r10)
def f_custodylaw05_KdfDeriveSeparates_r8 : ACode :=
  .seq (
    .region [7, 8, 10] [] [
      ⟨(some 63), none, .mv false (.s 1)⟩,
      ⟨(some 64), none, .idxSl 1 (.s 63) (.c (i64 0))⟩,
      ⟨(some 65), none, .load none none false (.s 64)⟩,
      ⟨(some 66), none, .mv false (.s 1)⟩,
      ⟨(some 67), none, .slSl 1 (.s 66) (some (.c (i64 1))) none none⟩,
      ⟨(some 68), none, .call 77 [(.s 65), (.s 67)] []⟩,
      ⟨(some 10), none, .mv false (.s 68)⟩]) (
  f_custodylaw05_KdfDeriveSeparates_r9)
def f_custodylaw05_KdfDeriveSeparates_r4 : ACode :=
  .seq (
    .seq (
      .region [7, 8, 9] [] [
        ⟨(some 9), none, .mv false (.c (i64 0))⟩]) (
    f_custodylaw05_KdfDeriveSeparates_r5)) (
  f_custodylaw05_KdfDeriveSeparates_r8)
def f_custodylaw05_KdfDeriveSeparates_r3 : ACode :=
  .seq (
    .region [7, 8] [] [
      ⟨(some 40), none, .mv false (.s 1)⟩,
      ⟨(some 41), none, .len false (.s 40)⟩,
      ⟨(some 42), none, .mv false (.s 2)⟩,
      ⟨(some 43), none, .len false (.s 42)⟩,
      ⟨(some 44), none, .bin .eql (.s 41) (.s 43)⟩,
      ⟨(some 8), none, .mv false (.s 44)⟩]) (
  f_custodylaw05_KdfDeriveSeparates_r4)
def f_custodylaw05_KdfDeriveSeparates_r1 : ACode :=
  .seq (
    .seq (
      .region [7, 38] [] [
        ⟨(some 16), none, .mv false (.s 0)⟩,
        ⟨(some 17), none, .len true (.s 16)⟩,
        ⟨(some 18), none, .bin .gtr (.s 17) (.c (i64 400))⟩,
        ⟨(some 19), none, .mv false (.s 18)⟩,
        ⟨(some 20), (some (19, false)), .mv false (.s 1)⟩,
        ⟨(some 21), (some (19, false)), .call 16 [(.s 20)] []⟩,
        ⟨(some 22), (some (19, false)), .un .not (.s 21)⟩,
        ⟨(some 23), none, .pick (.s 19) (.c (bo true)) (.s 22)⟩,
        ⟨(some 24), none, .mv false (.s 23)⟩,
        ⟨(some 25), (some (24, false)), .mv false (.s 2)⟩,
        ⟨(some 26), (some (24, false)), .call 16 [(.s 25)] []⟩,
        ⟨(some 27), (some (24, false)), .un .not (.s 26)⟩,
        ⟨(some 28), none, .pick (.s 24) (.c (bo true)) (.s 27)⟩,
        ⟨(some 29), none, .mv false (.s 28)⟩,
        ⟨(some 30), (some (29, false)), .mv false (.s 1)⟩,
        ⟨(some 31), (some (29, false)), .len false (.s 30)⟩,
        ⟨(some 32), (some (29, false)), .bin .eql (.s 31) (.c (i64 0))⟩,
        ⟨(some 33), none, .pick (.s 29) (.c (bo true)) (.s 32)⟩,
        ⟨(some 34), none, .mv false (.s 33)⟩,
        ⟨(some 35), (some (34, false)), .mv false (.s 2)⟩,
        ⟨(some 36), (some (34, false)), .len false (.s 35)⟩,
        ⟨(some 37), (some (34, false)), .bin .eql (.s 36) (.c (i64 0))⟩,
        ⟨(some 38), none, .pick (.s 34) (.c (bo true)) (.s 37)⟩]) (
    f_custodylaw05_KdfDeriveSeparates_r2)) (
  f_custodylaw05_KdfDeriveSeparates_r3)
def f_custodylaw05_KdfDeriveSeparates_r0 : ACode :=
  .seq (
    .region [7] [] [
      ⟨(some 15), none, .call 83 [] []⟩,
      ⟨(some 7), none, .mv false (.s 15)⟩]) (
  f_custodylaw05_KdfDeriveSeparates_r1)
def f_custodylaw05_KdfDeriveSeparates : AFun :=
 { n := 3, wr := [], res := [.t 6], body :=
    .seq (
      .region [] [] [
        ⟨(some 6), none, .mv false (.c (bo false))⟩]) (
    f_custodylaw05_KdfDeriveSeparates_r0) }

/-- custody custodylaw05.KdfRandomMatchesSpec = 87; calls custodyref05.Random).Bytes = 82, custodyref05.Random).Next = 81, kdf.Random).Bytes = 74, kdf.Random).Next = 75, custodylaw05.sanity = 83 -/
def f_custodylaw05_KdfRandomMatchesSpec_r2 : ACode :=
  .cond (.s 25) (
    .seq (
      .region [4] [] [
        ⟨(some 26), none, .mv false (.s 5)⟩,
        ⟨(some 4), none, .mv false (.s 26)⟩]) (
    .ret)) (
    .ghost (.keep [5]) .skip)
def f_custodylaw05_KdfRandomMatchesSpec_r7 : ACode :=
  .seq (
    .region [4] [.norm [7, 9, 11, 13]] [
      ⟨(some 53), none, .mv false (.s 5)⟩,
      ⟨(some 54), none, .mv false (.s 53)⟩,
      ⟨(some 55), (some (54, true)), .mv false (.s 6)⟩,
      ⟨(some 56), (some (54, true)), .mv false (.s 8)⟩,
      ⟨(some 57), (some (54, true)), .bin .eql (.s 55) (.s 56)⟩,
      ⟨(some 58), none, .pick (.s 54) (.s 57) (.c (bo false))⟩,
      ⟨(some 59), none, .mv false (.s 58)⟩,
      ⟨(some 60), (some (59, true)), .fieldAddr 0 (.s 7)⟩,
      ⟨(some 61), (some (59, true)), .load none (some 7) false (.s 60)⟩,
      ⟨(some 62), (some (59, true)), .fieldAddr 0 (.s 9)⟩,
      ⟨(some 63), (some (59, true)), .load none (some 9) false (.s 62)⟩,
      ⟨(some 64), (some (59, true)), .bin .eql (.s 61) (.s 63)⟩,
      ⟨(some 65), none, .pick (.s 59) (.s 64) (.c (bo false))⟩,
      ⟨(some 66), none, .mv false (.s 65)⟩,
      ⟨(some 67), (some (66, true)), .mv false (.s 10)⟩,
      ⟨(some 68), (some (66, true)), .mv false (.s 12)⟩,
      ⟨(some 69), (some (66, true)), .bin .eql (.s 67) (.s 68)⟩,
      ⟨(some 70), none, .pick (.s 66) (.s 69) (.c (bo false))⟩,
      ⟨(some 71), none, .mv false (.s 70)⟩,
      ⟨(some 72), (some (71, true)), .fieldAddr 0 (.s 11)⟩,
      ⟨(some 73), (some (71, true)), .load none (some 11) false (.s 72)⟩,
      ⟨(some 74), (some (71, true)), .fieldAddr 0 (.s 13)⟩,
      ⟨(some 75), (some (71, true)), .load none (some 13) false (.s 74)⟩,
      ⟨(some 76), (some (71, true)), .bin .eql (.s 73) (.s 75)⟩,
      ⟨(some 77), none, .pick (.s 71) (.s 76) (.c (bo false))⟩,
      ⟨(some 4), none, .mv false (.s 77)⟩]) (
  .ret)
def f_custodylaw05_KdfRandomMatchesSpec_r6 : ACode :=
  .seq (
    .region [5, 6, 7, 8, 9, 10, 11, 12, 13] [.norm [7, 9, 11, 13]] [
      ⟨(some 47), none, .mv false (.s 0)⟩,
      ⟨(some 48), none, .build [st []] [(0, 1, (.s 47))]⟩,
      ⟨(some 49), none, .mv false (.s 1)⟩,
      ⟨(some 50), none, .call 82 [(.s 48), (.s 49)] []⟩,
      ⟨(some 46), none, .mv false (.s 50)⟩,
      ⟨(some 51), none, .extract 0 (.s 46)⟩,
      ⟨(some 52), none, .extract 1 (.s 46)⟩,
      ⟨(some 13), none, .alloc 13 [st []]⟩,
      ⟨(some 12), none, .mv false (.s 51)⟩,
      ⟨none, none, .store (some 1) 13 false (.s 13) (.s 52)⟩]) (
  f_custodylaw05_KdfRandomMatchesSpec_r7)
def f_custodylaw05_KdfRandomMatchesSpec_r5 : ACode :=
  .seq (
    .region [5, 6, 7, 8, 9, 10, 11] [.norm [7, 9, 11]] [
      ⟨(some 40), none, .mv false (.s 0)⟩,
      ⟨(some 41), none, .build [st []] [(0, 1, (.s 40))]⟩,
      ⟨(some 42), none, .mv false (.s 1)⟩,
      ⟨(some 43), none, .call 74 [(.s 41), (.s 42)] []⟩,
      ⟨(some 39), none, .mv false (.s 43)⟩,
      ⟨(some 44), none, .extract 0 (.s 39)⟩,
      ⟨(some 45), none, .extract 1 (.s 39)⟩,
      ⟨(some 11), none, .alloc 11 [st []]⟩,
      ⟨(some 10), none, .mv false (.s 44)⟩,
      ⟨none, none, .store (some 1) 11 false (.s 11) (.s 45)⟩]) (
  f_custodylaw05_KdfRandomMatchesSpec_r6)
def f_custodylaw05_KdfRandomMatchesSpec_r4 : ACode :=
  .seq (
    .region [5, 6, 7, 8, 9] [.norm [7, 9]] [
      ⟨(some 34), none, .mv false (.s 0)⟩,
      ⟨(some 35), none, .build [st []] [(0, 1, (.s 34))]⟩,
      ⟨(some 36), none, .call 81 [(.s 35)] []⟩,
      ⟨(some 33), none, .mv false (.s 36)⟩,
      ⟨(some 37), none, .extract 0 (.s 33)⟩,
      ⟨(some 38), none, .extract 1 (.s 33)⟩,
      ⟨(some 9), none, .alloc 9 [st []]⟩,
      ⟨(some 8), none, .mv false (.s 37)⟩,
      ⟨none, none, .store (some 1) 9 false (.s 9) (.s 38)⟩]) (
  f_custodylaw05_KdfRandomMatchesSpec_r5)
def f_custodylaw05_KdfRandomMatchesSpec_r3 : ACode :=
  .seq (
    .region [5, 6, 7] [.norm [7]] [
      ⟨(some 28), none, .mv false (.s 0)⟩,
      ⟨(some 29), none, .build [st []] [(0, 1, (.s 28))]⟩,
      ⟨(some 30), none, .call 75 [(.s 29)] []⟩,
      ⟨(some 27), none, .mv false (.s 30)⟩,
      ⟨(some 31), none, .extract 0 (.s 27)⟩,
      ⟨(some 32), none, .extract 1 (.s 27)⟩,
      ⟨(some 7), none, .alloc 7 [st []]⟩,
      ⟨(some 6), none, .mv false (.s 31)⟩,
      ⟨none, none, .store (some 1) 7 false (.s 7) (.s 32)⟩]) (
  f_custodylaw05_KdfRandomMatchesSpec_r4)
def f_custodylaw05_KdfRandomMatchesSpec_r1 : ACode :=
  .seq (
    .seq (
      .region [5, 25] [] [
        ⟨(some 15), none, .mv false (.s 0)⟩,
        ⟨(some 16), none, .len true (.s 15)⟩,
        ⟨(some 17), none, .bin .gtr (.s 16) (.c (i64 400))⟩,
        ⟨(some 18), none, .mv false (.s 17)⟩,
        ⟨(some 19), (some (18, false)), .mv false (.s 1)⟩,
        ⟨(some 20), (some (18, false)), .bin .gtr (.s 19) (.c (i64 400))⟩,
        ⟨(some 21), (some (18, false)), .mv false (.s 20)⟩,
        ⟨(some 22), (some (21, true)), .mv false (.s 1)⟩,
        ⟨(some 23), (some (21, true)), .bin .leq (.s 22) (.c (i64 8000))⟩,
        ⟨(some 24), (some (18, false)), .pick (.s 21) (.s 23) (.c (bo false))⟩,
        ⟨(some 25), none, .pick (.s 18) (.c (bo true)) (.s 24)⟩]) (
    f_custodylaw05_KdfRandomMatchesSpec_r2)) (
  f_custodylaw05_KdfRandomMatchesSpec_r3)
def f_custodylaw05_KdfRandomMatchesSpec_r0 : ACode :=
  .seq (
    .region [5] [] [
      ⟨(some 14), none, .call 83 [] []⟩,
      ⟨(some 5), none, .mv false (.s 14)⟩]) (
  f_custodylaw05_KdfRandomMatchesSpec_r1)
def f_custodylaw05_KdfRandomMatchesSpec : AFun :=
 { n := 2, wr := [], res := [.t 4], body :=
    .seq (
      .region [] [] [
        ⟨(some 4), none, .mv false (.c (bo false))⟩]) (
    f_custodylaw05_KdfRandomMatchesSpec_r0) }

/-- custody custodylaw05.KdfBytesInParts = 88; calls kdf.Random).Bytes = 74, custodylaw05.sanity = 83 -/
def f_custodylaw05_KdfBytesInParts_r2 : ACode :=
  .cond (.s 18) (
    .seq (
      .region [6] [] [
        ⟨(some 19), none, .mv false (.s 7)⟩,
        ⟨(some 6), none, .mv false (.s 19)⟩]) (
    .ret)) (
    .ghost (.keep [7]) .skip)
def f_custodylaw05_KdfBytesInParts_r7 : ACode :=
  .seq (
    .region [6] [.norm [10, 12, 14]] [
      ⟨(some 48), none, .mv false (.s 7)⟩,
      ⟨(some 49), none, .mv false (.s 48)⟩,
      ⟨(some 50), (some (49, true)), .mv false (.s 9)⟩,
      ⟨(some 51), (some (49, true)), .mv false (.s 11)⟩,
      ⟨(some 52), (some (49, true)), .bin .add (.s 50) (.s 51)⟩,
      ⟨(some 53), (some (49, true)), .mv false (.s 13)⟩,
      ⟨(some 54), (some (49, true)), .bin .eql (.s 52) (.s 53)⟩,
      ⟨(some 55), none, .pick (.s 49) (.s 54) (.c (bo false))⟩,
      ⟨(some 56), none, .mv false (.s 55)⟩,
      ⟨(some 57), (some (56, true)), .fieldAddr 0 (.s 12)⟩,
      ⟨(some 58), (some (56, true)), .load none (some 12) false (.s 57)⟩,
      ⟨(some 59), (some (56, true)), .fieldAddr 0 (.s 14)⟩,
      ⟨(some 60), (some (56, true)), .load none (some 14) false (.s 59)⟩,
      ⟨(some 61), (some (56, true)), .bin .eql (.s 58) (.s 60)⟩,
      ⟨(some 62), none, .pick (.s 56) (.s 61) (.c (bo false))⟩,
      ⟨(some 63), none, .mv false (.s 62)⟩,
      ⟨(some 64), (some (63, true)), .mv false (.s 13)⟩,
      ⟨(some 65), (some (63, true)), .len true (.s 64)⟩,
      ⟨(some 66), (some (63, true)), .mv false (.s 8)⟩,
      ⟨(some 67), (some (63, true)), .mv false (.s 2)⟩,
      ⟨(some 68), (some (63, true)), .toInt .i64 (.s 67)⟩,
      ⟨(some 69), (some (63, true)), .bin .add (.s 66) (.s 68)⟩,
      ⟨(some 70), (some (63, true)), .bin .eql (.s 65) (.s 69)⟩,
      ⟨(some 71), none, .pick (.s 63) (.s 70) (.c (bo false))⟩,
      ⟨(some 6), none, .mv false (.s 71)⟩]) (
  .ret)
def f_custodylaw05_KdfBytesInParts_r6 : ACode :=
  .seq (
    .region [7, 8, 9, 11, 12, 13, 14] [.norm [10, 12, 14]] [
      ⟨(some 39), none, .mv false (.s 0)⟩,
      ⟨(some 40), none, .build [st []] [(0, 1, (.s 39))]⟩,
      ⟨(some 41), none, .mv false (.s 8)⟩,
      ⟨(some 42), none, .mv false (.s 2)⟩,
      ⟨(some 43), none, .toInt .i64 (.s 42)⟩,
      ⟨(some 44), none, .bin .add (.s 41) (.s 43)⟩,
      ⟨(some 45), none, .call 74 [(.s 40), (.s 44)] []⟩,
      ⟨(some 38), none, .mv false (.s 45)⟩,
      ⟨(some 46), none, .extract 0 (.s 38)⟩,
      ⟨(some 47), none, .extract 1 (.s 38)⟩,
      ⟨(some 14), none, .alloc 14 [st []]⟩,
      ⟨(some 13), none, .mv false (.s 46)⟩,
      ⟨none, none, .store (some 1) 14 false (.s 14) (.s 47)⟩]) (
  f_custodylaw05_KdfBytesInParts_r7)
def f_custodylaw05_KdfBytesInParts_r5 : ACode :=
  .seq (
    .region [7, 8, 9, 11, 12] [.norm [10, 12]] [
      ⟨(some 32), none, .load (some 1) (some 10) false (.s 10)⟩,
      ⟨(some 33), none, .mv false (.s 2)⟩,
      ⟨(some 34), none, .toInt .i64 (.s 33)⟩,
      ⟨(some 35), none, .call 74 [(.s 32), (.s 34)] []⟩,
      ⟨(some 31), none, .mv false (.s 35)⟩,
      ⟨(some 36), none, .extract 0 (.s 31)⟩,
      ⟨(some 37), none, .extract 1 (.s 31)⟩,
      ⟨(some 12), none, .alloc 12 [st []]⟩,
      ⟨(some 11), none, .mv false (.s 36)⟩,
      ⟨none, none, .store (some 1) 12 false (.s 12) (.s 37)⟩]) (
  f_custodylaw05_KdfBytesInParts_r6)
def f_custodylaw05_KdfBytesInParts_r4 : ACode :=
  .seq (
    .region [7, 8, 9, 10] [.norm [10]] [
      ⟨(some 25), none, .mv false (.s 0)⟩,
      ⟨(some 26), none, .build [st []] [(0, 1, (.s 25))]⟩,
      ⟨(some 27), none, .mv false (.s 8)⟩,
      ⟨(some 28), none, .call 74 [(.s 26), (.s 27)] []⟩,
      ⟨(some 24), none, .mv false (.s 28)⟩,
      ⟨(some 29), none, .extract 0 (.s 24)⟩,
      ⟨(some 30), none, .extract 1 (.s 24)⟩,
      ⟨(some 10), none, .alloc 10 [st []]⟩,
      ⟨(some 9), none, .mv false (.s 29)⟩,
      ⟨none, none, .store (some 1) 10 false (.s 10) (.s 30)⟩]) (
  f_custodylaw05_KdfBytesInParts_r5)
def f_custodylaw05_KdfBytesInParts_r3 : ACode :=
  .seq (
    .region [7, 8] [] [
      ⟨(some 20), none, .mv false (.s 1)⟩,
      ⟨(some 21), none, .bin .rem (.s 20) (.c (u8 8))⟩,
      ⟨(some 22), none, .toInt .i64 (.s 21)⟩,
      ⟨(some 23), none, .bin .mul (.c (i64 32)) (.s 22)⟩,
      ⟨(some 8), none, .mv false (.s 23)⟩]) (
  f_custodylaw05_KdfBytesInParts_r4)
def f_custodylaw05_KdfBytesInParts_r1 : ACode :=
  .seq (
    .seq (
      .region [7, 18] [] [
        ⟨(some 16), none, .mv false (.s 0)⟩,
        ⟨(some 17), none, .len true (.s 16)⟩,
        ⟨(some 18), none, .bin .gtr (.s 17) (.c (i64 400))⟩]) (
    f_custodylaw05_KdfBytesInParts_r2)) (
  f_custodylaw05_KdfBytesInParts_r3)
def f_custodylaw05_KdfBytesInParts_r0 : ACode :=
  .seq (
    .region [7] [] [
      ⟨(some 15), none, .call 83 [] []⟩,
      ⟨(some 7), none, .mv false (.s 15)⟩]) (
  f_custodylaw05_KdfBytesInParts_r1)
def f_custodylaw05_KdfBytesInParts : AFun :=
 { n := 3, wr := [], res := [.t 6], body :=
    .seq (
      .region [] [] [
        ⟨(some 6), none, .mv false (.c (bo false))⟩]) (
    f_custodylaw05_KdfBytesInParts_r0) }

/-- custody custodylaw05.KdfNextIsDerived = 89; calls kdf.Random).Next = 75, custodylaw05.sanity = 83, kdf.Path = 79 -/
def f_custodylaw05_KdfNextIsDerived_r2 : ACode :=
  .cond (.s 16) (
    .seq (
      .region [4] [] [
        ⟨(some 17), none, .mv false (.s 5)⟩,
        ⟨(some 4), none, .mv false (.s 17)⟩]) (
    .ret)) (
    .ghost (.keep [5]) .skip)
def f_custodylaw05_KdfNextIsDerived_r7 : ACode :=
  .cond (.s 24) (
    .ghost (.keep [5, 6, 7, 8]) .skip) (
    .ghost (.keep [5, 6, 7]) (.exit 0))
def f_custodylaw05_KdfNextIsDerived_r10 : ACode :=
  .region [5, 6, 7, 8] [] [
    ⟨(some 33), none, .mv true (.s 7)⟩,
    ⟨(some 34), none, .buildSl 1 1 [st []] [(0, 1, (.c (st [115, 101, 101, 100])))]⟩,
    ⟨(some 35), none, .append 1 16 false none none 33 (.s 34)⟩,
    ⟨(some 7), none, .mv true (.s 35)⟩]
def f_custodylaw05_KdfNextIsDerived_r9 : ACode :=
  .seq (
    .region [5, 6, 7, 8] [.norm [6, 10]] [
      ⟨(some 32), none, .load (some 1) (some 10) false (.s 10)⟩,
      ⟨none, none, .store (some 1) 6 false (.s 6) (.s 32)⟩]) (
  f_custodylaw05_KdfNextIsDerived_r10)
def f_custodylaw05_KdfNextIsDerived_r8 : ACode :=
  .seq (
    .block 1 (
      .seq (
        .region [5, 6, 7, 8, 10] [.norm [6, 10]] [
          ⟨(some 28), none, .load (some 1) (some 6) false (.s 6)⟩,
          ⟨(some 29), none, .call 75 [(.s 28)] []⟩,
          ⟨(some 27), none, .mv false (.s 29)⟩,
          ⟨(some 30), none, .extract 0 (.s 27)⟩,
          ⟨(some 31), none, .extract 1 (.s 27)⟩,
          ⟨(some 10), none, .alloc 10 [st []]⟩,
          ⟨(some 9), none, .mv false (.s 30)⟩,
          ⟨none, none, .store (some 1) 10 false (.s 10) (.s 31)⟩]) (
      f_custodylaw05_KdfNextIsDerived_r9))) (
  .region [5, 6, 7, 8] [.drop [10]] [
    ⟨(some 25), none, .mv false (.s 8)⟩,
    ⟨(some 26), none, .bin .add (.s 25) (.c (i64 1))⟩,
    ⟨(some 8), none, .mv false (.s 26)⟩])
def f_custodylaw05_KdfNextIsDerived_l0 : ACode :=
  .seq (
    .seq (
      .region [5, 6, 7, 8, 24] [] [
        ⟨(some 20), none, .mv false (.s 8)⟩,
        ⟨(some 21), none, .mv false (.s 1)⟩,
        ⟨(some 22), none, .bin .rem (.s 21) (.c (u8 21))⟩,
        ⟨(some 23), none, .toInt .i64 (.s 22)⟩,
        ⟨(some 24), none, .bin .lss (.s 20) (.s 23)⟩]) (
    f_custodylaw05_KdfNextIsDerived_r7)) (
  f_custodylaw05_KdfNextIsDerived_r8)
def f_custodylaw05_KdfNextIsDerived_r6 : ACode :=
  .block 0 (
    .loop f_custodylaw05_KdfNextIsDerived_l0)
def f_custodylaw05_KdfNextIsDerived_r13 : ACode :=
  .seq (
    .region [4] [] [
      ⟨(some 44), none, .mv false (.s 5)⟩,
      ⟨(some 45), none, .mv false (.s 44)⟩,
      ⟨(some 46), (some (45, true)), .mv false (.s 11)⟩,
      ⟨(some 47), (some (45, true)), .mv false (.s 0)⟩,
      ⟨(some 48), (some (45, true)), .mv true (.s 7)⟩,
      ⟨(some 49), (some (45, true)), .call 79 [(.s 47), (.s 48)] []⟩,
      ⟨(some 50), (some (45, true)), .bin .eql (.s 46) (.s 49)⟩,
      ⟨(some 51), none, .pick (.s 45) (.s 50) (.c (bo false))⟩,
      ⟨(some 4), none, .mv false (.s 51)⟩]) (
  .ret)
def f_custodylaw05_KdfNextIsDerived_r12 : ACode :=
  .seq (
    .region [5, 7, 11] [] [
      ⟨(some 41), none, .mv true (.s 7)⟩,
      ⟨(some 42), none, .buildSl 1 1 [st []] [(0, 1, (.c (st [118, 97, 108, 117, 101])))]⟩,
      ⟨(some 43), none, .append 1 16 false none none 41 (.s 42)⟩,
      ⟨(some 7), none, .mv true (.s 43)⟩]) (
  f_custodylaw05_KdfNextIsDerived_r13)
def f_custodylaw05_KdfNextIsDerived_r11 : ACode :=
  .seq (
    .region [5, 7, 11] [.norm [6, 10, 12]] [
      ⟨(some 37), none, .load (some 1) (some 6) false (.s 6)⟩,
      ⟨(some 38), none, .call 75 [(.s 37)] []⟩,
      ⟨(some 36), none, .mv false (.s 38)⟩,
      ⟨(some 39), none, .extract 0 (.s 36)⟩,
      ⟨(some 40), none, .extract 1 (.s 36)⟩,
      ⟨(some 12), none, .alloc 12 [st []]⟩,
      ⟨(some 11), none, .mv false (.s 39)⟩,
      ⟨none, none, .store (some 1) 12 false (.s 12) (.s 40)⟩]) (
  f_custodylaw05_KdfNextIsDerived_r12)
def f_custodylaw05_KdfNextIsDerived_r5 : ACode :=
  .seq (
    .seq (
      .region [5, 6, 7, 8] [] [
        ⟨(some 8), none, .mv false (.c (i64 0))⟩]) (
    f_custodylaw05_KdfNextIsDerived_r6)) (
  f_custodylaw05_KdfNextIsDerived_r11)
def f_custodylaw05_KdfNextIsDerived_r4 : ACode :=
  .seq (
    .region [5, 6, 7] [] [
      ⟨(some 7), none, .mv true (.c (.sl (.own 1) none 0 []))⟩]) (
  f_custodylaw05_KdfNextIsDerived_r5)
def f_custodylaw05_KdfNextIsDerived_r3 : ACode :=
  .seq (
    .region [5, 6] [.norm [6]] [
      ⟨(some 18), none, .mv false (.s 0)⟩,
      ⟨(some 19), none, .build [st []] [(0, 1, (.s 18))]⟩,
      ⟨(some 6), none, .alloc 6 [st []]⟩,
      ⟨none, none, .store (some 1) 6 false (.s 6) (.s 19)⟩]) (
  f_custodylaw05_KdfNextIsDerived_r4)
def f_custodylaw05_KdfNextIsDerived_r1 : ACode :=
  .seq (
    .seq (
      .region [5, 16] [] [
        ⟨(some 14), none, .mv false (.s 0)⟩,
        ⟨(some 15), none, .len true (.s 14)⟩,
        ⟨(some 16), none, .bin .gtr (.s 15) (.c (i64 400))⟩]) (
    f_custodylaw05_KdfNextIsDerived_r2)) (
  f_custodylaw05_KdfNextIsDerived_r3)
def f_custodylaw05_KdfNextIsDerived_r0 : ACode :=
  .seq (
    .region [5] [] [
      ⟨(some 13), none, .call 83 [] []⟩,
      ⟨(some 5), none, .mv false (.s 13)⟩]) (
  f_custodylaw05_KdfNextIsDerived_r1)
def f_custodylaw05_KdfNextIsDerived : AFun :=
 { n := 2, wr := [], res := [.t 4], body :=
    .seq (
      .region [] [] [
        ⟨(some 4), none, .mv false (.c (bo false))⟩]) (
    f_custodylaw05_KdfNextIsDerived_r0) }

/-- custody custodylaw05.sanity = 83; calls kdf.Random).Bytes = 74, kdf.Random).Next = 75, kdf.Derive = 76, kdf.Path = 79 -/
def f_custodylaw05_sanity_r4 : ACode :=
  .seq (
    .region [0] [.norm [4, 6]] [
      ⟨(some 20), none, .mv false (.s 1)⟩,
      ⟨(some 21), none, .len true (.s 20)⟩,
      ⟨(some 22), none, .bin .eql (.s 21) (.c (i64 32))⟩,
      ⟨(some 23), none, .mv false (.s 22)⟩,
      ⟨(some 24), (some (23, true)), .mv false (.s 2)⟩,
      ⟨(some 25), (some (23, true)), .mv false (.s 1)⟩,
      ⟨(some 26), (some (23, true)), .call 76 [(.s 25), (.c (st [98])), (.c (.lit (.slice none 0 0)))] []⟩,
      ⟨(some 27), (some (23, true)), .bin .eql (.s 24) (.s 26)⟩,
      ⟨(some 28), none, .pick (.s 23) (.s 27) (.c (bo false))⟩,
      ⟨(some 29), none, .mv false (.s 28)⟩,
      ⟨(some 30), (some (29, true)), .mv false (.s 3)⟩,
      ⟨(some 31), (some (29, true)), .len true (.s 30)⟩,
      ⟨(some 32), (some (29, true)), .bin .eql (.s 31) (.c (i64 32))⟩,
      ⟨(some 33), none, .pick (.s 29) (.s 32) (.c (bo false))⟩,
      ⟨(some 34), none, .mv false (.s 33)⟩,
      ⟨(some 35), (some (34, true)), .fieldAddr 0 (.s 4)⟩,
      ⟨(some 36), (some (34, true)), .load none (some 4) false (.s 35)⟩,
      ⟨(some 37), (some (34, true)), .len true (.s 36)⟩,
      ⟨(some 38), (some (34, true)), .bin .eql (.s 37) (.c (i64 32))⟩,
      ⟨(some 39), none, .pick (.s 34) (.s 38) (.c (bo false))⟩,
      ⟨(some 40), none, .mv false (.s 39)⟩,
      ⟨(some 41), (some (40, true)), .mv false (.s 5)⟩,
      ⟨(some 42), (some (40, true)), .len true (.s 41)⟩,
      ⟨(some 43), (some (40, true)), .bin .eql (.s 42) (.c (i64 40))⟩,
      ⟨(some 44), none, .pick (.s 40) (.s 43) (.c (bo false))⟩,
      ⟨(some 45), none, .mv false (.s 44)⟩,
      ⟨(some 46), (some (45, true)), .mv false (.s 5)⟩,
      ⟨(some 47), (some (45, true)), .slStr (.s 46) none (some (.c (i64 32)))⟩,
      ⟨(some 48), (some (45, true)), .mv false (.s 3)⟩,
      ⟨(some 49), (some (45, true)), .bin .eql (.s 47) (.s 48)⟩,
      ⟨(some 50), none, .pick (.s 45) (.s 49) (.c (bo false))⟩,
      ⟨(some 51), none, .mv false (.s 50)⟩,
      ⟨(some 52), (some (51, true)), .fieldAddr 0 (.s 6)⟩,
      ⟨(some 53), (some (51, true)), .load none (some 6) false (.s 52)⟩,
      ⟨(some 54), (some (51, true)), .len true (.s 53)⟩,
      ⟨(some 55), (some (51, true)), .bin .eql (.s 54) (.c (i64 32))⟩,
      ⟨(some 56), none, .pick (.s 51) (.s 55) (.c (bo false))⟩,
      ⟨(some 57), none, .mv false (.s 56)⟩,
      ⟨(some 58), (some (57, true)), .mv false (.s 1)⟩,
      ⟨(some 59), (some (57, true)), .mv false (.s 2)⟩,
      ⟨(some 60), (some (57, true)), .bin .neq (.s 58) (.s 59)⟩,
      ⟨(some 61), none, .pick (.s 57) (.s 60) (.c (bo false))⟩,
      ⟨(some 62), none, .mv false (.s 61)⟩,
      ⟨(some 63), (some (62, true)), .mv false (.s 3)⟩,
      ⟨(some 64), (some (62, true)), .fieldAddr 0 (.s 4)⟩,
      ⟨(some 65), (some (62, true)), .load none (some 4) false (.s 64)⟩,
      ⟨(some 66), (some (62, true)), .bin .neq (.s 63) (.s 65)⟩,
      ⟨(some 67), none, .pick (.s 62) (.s 66) (.c (bo false))⟩,
      ⟨(some 0), none, .mv false (.s 67)⟩]) (
  .ret)
def f_custodylaw05_sanity_r3 : ACode :=
  .seq (
    .region [1, 2, 3, 4, 5, 6] [.norm [4, 6]] [
      ⟨(some 16), none, .build [st []] [(0, 1, (.c (st [115])))]⟩,
      ⟨(some 17), none, .call 74 [(.s 16), (.c (i64 40))] []⟩,
      ⟨(some 15), none, .mv false (.s 17)⟩,
      ⟨(some 18), none, .extract 0 (.s 15)⟩,
      ⟨(some 19), none, .extract 1 (.s 15)⟩,
      ⟨(some 6), none, .alloc 6 [st []]⟩,
      ⟨(some 5), none, .mv false (.s 18)⟩,
      ⟨none, none, .store (some 1) 6 false (.s 6) (.s 19)⟩]) (
  f_custodylaw05_sanity_r4)
def f_custodylaw05_sanity_r2 : ACode :=
  .seq (
    .region [1, 2, 3, 4] [.norm [4]] [
      ⟨(some 11), none, .build [st []] [(0, 1, (.c (st [115])))]⟩,
      ⟨(some 12), none, .call 75 [(.s 11)] []⟩,
      ⟨(some 10), none, .mv false (.s 12)⟩,
      ⟨(some 13), none, .extract 0 (.s 10)⟩,
      ⟨(some 14), none, .extract 1 (.s 10)⟩,
      ⟨(some 4), none, .alloc 4 [st []]⟩,
      ⟨(some 3), none, .mv false (.s 13)⟩,
      ⟨none, none, .store (some 1) 4 false (.s 4) (.s 14)⟩]) (
  f_custodylaw05_sanity_r3)
def f_custodylaw05_sanity_r1 : ACode :=
  .seq (
    .region [1, 2] [] [
      ⟨(some 8), none, .buildSl 1 2 [st [], st []] [(0, 1, (.c (st [97]))), (1, 1, (.c (st [98])))]⟩,
      ⟨(some 9), none, .call 79 [(.c (st [107])), (.s 8)] []⟩,
      ⟨(some 2), none, .mv false (.s 9)⟩]) (
  f_custodylaw05_sanity_r2)
def f_custodylaw05_sanity_r0 : ACode :=
  .seq (
    .region [1] [] [
      ⟨(some 7), none, .call 76 [(.c (st [107])), (.c (st [97])), (.c (.lit (.slice none 0 0)))] []⟩,
      ⟨(some 1), none, .mv false (.s 7)⟩]) (
  f_custodylaw05_sanity_r1)
def f_custodylaw05_sanity : AFun :=
 { n := 0, wr := [], res := [.t 0], body :=
    .seq (
      .region [] [] [
        ⟨(some 0), none, .mv false (.c (bo false))⟩]) (
    f_custodylaw05_sanity_r0) }

end Go.Abs
end

section
namespace Go.Abs
def lawDer : Contract := trueC fun ds => ∃ (k l : List UInt8) (nl : Option Bool) (p : List (List UInt8)), ds = [st k, st l, .sl .plain nl p.length (sts p)]
def lawPth : Contract := trueC fun ds => ∃ (k : List UInt8) (nl : Option Bool) (p : List (List UInt8)) (c : UInt8), ds = [st k, .sl .plain nl p.length (sts p), u8 c]
def lawSepK : Contract := trueC fun ds => ∃ (k : List UInt8) (na nb : Option Bool) (a b : List (List UInt8)), ds = [st k, .sl .plain na a.length (sts a), .sl .plain nb b.length (sts b)]
def lawRnd : Contract := trueC fun ds => ∃ (s : List UInt8) (n : Int), isI64 n ∧ ds = [st s, i64 n]
def lawPrt : Contract := trueC fun ds => ∃ (s : List UInt8) (b n : UInt8), ds = [st s, u8 b, u8 n]
def lawNxt : Contract := trueC fun ds => ∃ (s : List UInt8) (n : UInt8), ds = [st s, u8 n]
theorem bysN_40 (s : List UInt8) : (bysN s 40).length = 40 ∧ (bysN s 40).take 32 = vlN s 0 := by
  have hb : blkN 40 = 2 := by decide
  have h0 : (vlN s 0).length = 32 := drv_len _ _ _
  have h1 : (vlN s 1).length = 32 := drv_len _ _ _
  have e : bysN s 40 = vlN s 0 ++ (vlN s 1).take 8 := by
    rw [bysN, if_neg (by decide), hb]
    show (([] ++ vlN s 0) ++ vlN s 1).take 40 = _
    rw [List.nil_append]
    exact take_two h0 (by decide)
  refine ⟨by rw [e]; simp [h0, h1], ?_⟩
  rw [e, List.take_append_of_le_length (by omega), ← h0, List.take_length]
theorem aftN_40 (s : List UInt8) : (aftN s 40).length = 32 := by
  rw [aftN, if_neg (by decide), show blkN 40 = 1 + 1 by decide]
  exact drv_len _ _ _
theorem san_ab : (drv [107] [97] [] == pth [107] [[97], [98]]) = false := by kernel_rfl
theorem san_vs : (drv [115] valL [] == drv [115] seedL []) = false := by kernel_rfl
theorem san_pth : pth [107] [[97], [98]] = drv (drv [107] [97] []) [98] [] := rfl
end Go.Abs
end

section
namespace Go.Abs
set_option maxHeartbeats 4000000 in
theorem san5_ok (E : Env) (h76 : E.G 76 = derC) (h79 : E.G 79 = pthC) (h75 : E.G 75 = nxtC) (h74 : E.G 74 = gbysC) : ∀ ds, sanC.pre ds → ds.length = f_custodylaw05_sanity.n ∧ awp E f_custodylaw05_sanity.body (retQ f_custodylaw05_sanity.res (sanC.post ds)) (initSt f_custodylaw05_sanity.wr ds) := by
  rintro _ rfl
  obtain ⟨h1, h2⟩ := bysN_40 [115]
  have h3 := aftN_40 [115]
  have hv : vlN [115] 0 = drv [115] valL [] := rfl
  rw [hv] at h2
  have n1 : drv [107] [97] [] ≠ drv (drv [107] [97] []) [98] [] := fun e => by
    have := san_ab
    rw [san_pth, ← e] at this
    simp at this
  have n2 : drv [115] valL [] ≠ drv [115] seedL [] := fun e => by
    have := san_vs
    rw [e] at this
    simp at this
  have hs : [st [97], st [98]] = sts [[97], [98]] := rfl
  have hp : ∀ nl, pthC.pre [st [107], .sl .plain nl 2 (sts [[97], [98]])] = True := fun nl => pth_pre (by decide) (by decide) rfl
  have hg : gbysC.pre [.agg [st [115]], i64 40] = True := gbys_pre (by decide) ⟨by decide, by decide⟩
  simp (maxSteps := 1000000) (disch := first | omega | (simp; done) | (simp; omega)) [W_id, bys_app, bys_snoc, f_custodylaw05_sanity, f_custodylaw05_sanity_r0, f_custodylaw05_sanity_r1, f_custodylaw05_sanity_r2, f_custodylaw05_sanity_r3, f_custodylaw05_sanity_r4, h76, der_pre0, h79, h75, nxt_pre, h74, hs, hp, san_pth, hg, h1, h2, h3, n1, n2, dT, dF, sanC, trueC]
set_option maxHeartbeats 4000000 in
theorem law_Der_ok (E : Env) (h83 : E.G 83 = sanC) (h16 : E.G 16 = fewC) (h76 : E.G 76 = derC) (h78 : E.G 78 = derC) : ∀ ds, lawDer.pre ds → ds.length = f_custodylaw05_KdfDeriveMatchesSpec.n ∧ awp E f_custodylaw05_KdfDeriveMatchesSpec.body (retQ f_custodylaw05_KdfDeriveMatchesSpec.res (lawDer.post ds)) (initSt f_custodylaw05_KdfDeriveMatchesSpec.wr ds) := by
  rintro _ ⟨k, l, nl, p, rfl⟩
  by_cases hk : 400 < k.length
  · simp (maxSteps := 1000000) (disch := first | omega | (simp; done) | (simp; omega)) [W_id, bys_app, bys_snoc, f_custodylaw05_KdfDeriveMatchesSpec, f_custodylaw05_KdfDeriveMatchesSpec_r0, f_custodylaw05_KdfDeriveMatchesSpec_r1, f_custodylaw05_KdfDeriveMatchesSpec_r2, h83, lawDer, trueC, kT, kF, dT, dF]
  by_cases hl : 400 < l.length
  · simp (maxSteps := 1000000) (disch := first | omega | (simp; done) | (simp; omega)) [W_id, bys_app, bys_snoc, f_custodylaw05_KdfDeriveMatchesSpec, f_custodylaw05_KdfDeriveMatchesSpec_r0, f_custodylaw05_KdfDeriveMatchesSpec_r1, f_custodylaw05_KdfDeriveMatchesSpec_r2, h83, lawDer, trueC, kT, kF, dT, dF]
  by_cases hf : few p = true
  rotate_left
  · have hf : few p = false := by simpa using hf
    simp (maxSteps := 1000000) (disch := first | omega | (simp; done) | (simp; omega)) [W_id, bys_app, bys_snoc, f_custodylaw05_KdfDeriveMatchesSpec, f_custodylaw05_KdfDeriveMatchesSpec_r0, f_custodylaw05_KdfDeriveMatchesSpec_r1, f_custodylaw05_KdfDeriveMatchesSpec_r2, h83, h16, few_pre, hf, lawDer, trueC, kT, kF, dT, dF]
  · have ht := few_tot hf
    simp (maxSteps := 1000000) (disch := first | omega | (simp; done) | (simp; omega)) [W_id, bys_app, bys_snoc, f_custodylaw05_KdfDeriveMatchesSpec, f_custodylaw05_KdfDeriveMatchesSpec_r0, f_custodylaw05_KdfDeriveMatchesSpec_r1, f_custodylaw05_KdfDeriveMatchesSpec_r2, f_custodylaw05_KdfDeriveMatchesSpec_r3, h83, h16, few_pre, hf, h76, h78, der_pre, lawDer, trueC, kT, kF, dT, dF]
set_option maxHeartbeats 4000000 in
theorem law_Rnd_ok (E : Env) (h83 : E.G 83 = sanC) (h75 : E.G 75 = nxtC) (h81 : E.G 81 = nxtC) (h74 : E.G 74 = gbysC) (h82 : E.G 82 = gbysC) : ∀ ds, lawRnd.pre ds → ds.length = f_custodylaw05_KdfRandomMatchesSpec.n ∧ awp E f_custodylaw05_KdfRandomMatchesSpec.body (retQ f_custodylaw05_KdfRandomMatchesSpec.res (lawRnd.post ds)) (initSt f_custodylaw05_KdfRandomMatchesSpec.wr ds) := by
  rintro _ ⟨s, n, hn, rfl⟩
  by_cases hk : 400 < s.length
  · simp (maxSteps := 1000000) (disch := first | omega | (simp; done) | (simp; omega)) [W_id, bys_app, bys_snoc, f_custodylaw05_KdfRandomMatchesSpec, f_custodylaw05_KdfRandomMatchesSpec_r0, f_custodylaw05_KdfRandomMatchesSpec_r1, f_custodylaw05_KdfRandomMatchesSpec_r2, h83, lawRnd, trueC, kT, kF, dT, dF]
  by_cases hl : 400 < n
  · by_cases hm : n ≤ 8000
    · simp (maxSteps := 1000000) (disch := first | omega | (simp; done) | (simp; omega)) [W_id, bys_app, bys_snoc, f_custodylaw05_KdfRandomMatchesSpec, f_custodylaw05_KdfRandomMatchesSpec_r0, f_custodylaw05_KdfRandomMatchesSpec_r1, f_custodylaw05_KdfRandomMatchesSpec_r2, h83, lawRnd, trueC, kT, kF, dT, dF]
    · simp (maxSteps := 1000000) (disch := first | omega | (simp; done) | (simp; omega)) [W_id, bys_app, bys_snoc, f_custodylaw05_KdfRandomMatchesSpec, f_custodylaw05_KdfRandomMatchesSpec_r0, f_custodylaw05_KdfRandomMatchesSpec_r1, f_custodylaw05_KdfRandomMatchesSpec_r2, f_custodylaw05_KdfRandomMatchesSpec_r3, f_custodylaw05_KdfRandomMatchesSpec_r4, f_custodylaw05_KdfRandomMatchesSpec_r5, f_custodylaw05_KdfRandomMatchesSpec_r6, f_custodylaw05_KdfRandomMatchesSpec_r7, h83, h75, h81, nxt_pre, h74, h82, gbys_pre, hn, lawRnd, trueC, kT, kF, dT, dF]
  · simp (maxSteps := 1000000) (disch := first | omega | (simp; done) | (simp; omega)) [W_id, bys_app, bys_snoc, f_custodylaw05_KdfRandomMatchesSpec, f_custodylaw05_KdfRandomMatchesSpec_r0, f_custodylaw05_KdfRandomMatchesSpec_r1, f_custodylaw05_KdfRandomMatchesSpec_r2, f_custodylaw05_KdfRandomMatchesSpec_r3, f_custodylaw05_KdfRandomMatchesSpec_r4, f_custodylaw05_KdfRandomMatchesSpec_r5, f_custodylaw05_KdfRandomMatchesSpec_r6, f_custodylaw05_KdfRandomMatchesSpec_r7, h83, h75, h81, nxt_pre, h74, h82, gbys_pre, hn, lawRnd, trueC, kT, kF, dT, dF]
end Go.Abs
end

section
namespace Go.Abs
theorem pth_app (k : List UInt8) (a b : List (List UInt8)) : pth (pth k a) b = pth k (a ++ b) := by simp [pth]
theorem totS_drop' (l : List (List UInt8)) (i : Nat) : totS (l.drop i) ≤ totS l := by
  induction l generalizing i with
  | nil => simp
  | cons x l ih =>
    cases i with
    | zero => simp
    | succ i => have := ih i; simp only [totS, List.drop_succ_cons, List.map_cons, List.sum_cons] at this ⊢; omega
@[simp] theorem sts_drop' (l : List (List UInt8)) (n : Nat) : (sts l).drop n = sts (l.drop n) := by simp [sts]
set_option maxHeartbeats 4000000 in
theorem law_Pth_ok (E : Env) (h83 : E.G 83 = sanC) (h16 : E.G 16 = fewC) (h79 : E.G 79 = pthC) (h80 : E.G 80 = pthC) : ∀ ds, lawPth.pre ds → ds.length = f_custodylaw05_KdfPathMatchesSpec.n ∧ awp E f_custodylaw05_KdfPathMatchesSpec.body (retQ f_custodylaw05_KdfPathMatchesSpec.res (lawPth.post ds)) (initSt f_custodylaw05_KdfPathMatchesSpec.wr ds) := by
  rintro _ ⟨k, nl, p, c, rfl⟩
  by_cases hk : 400 < k.length
  · simp (maxSteps := 1000000) (disch := first | omega | (simp; done) | (simp; omega)) [W_id, bys_app, bys_snoc, f_custodylaw05_KdfPathMatchesSpec, f_custodylaw05_KdfPathMatchesSpec_r0, f_custodylaw05_KdfPathMatchesSpec_r1, f_custodylaw05_KdfPathMatchesSpec_r2, h83, lawPth, trueC, kT, kF, dT, dF]
  by_cases hf : few p = true
  rotate_left
  · have hf : few p = false := by simpa using hf
    simp (maxSteps := 1000000) (disch := first | omega | (simp; done) | (simp; omega)) [W_id, bys_app, bys_snoc, f_custodylaw05_KdfPathMatchesSpec, f_custodylaw05_KdfPathMatchesSpec_r0, f_custodylaw05_KdfPathMatchesSpec_r1, f_custodylaw05_KdfPathMatchesSpec_r2, h83, h16, few_pre, hf, lawPth, trueC, kT, kF, dT, dF]
  have ht := few_tot hf
  have hpl := len_le_totS p
  obtain ⟨m, hm, hle⟩ : ∃ m : Nat, (c.toNat : Int).tmod ((p.length : Int) + 1) = (m : Int) ∧ m ≤ p.length := by
    refine ⟨c.toNat % (p.length + 1), ?_, ?_⟩
    · rw [Int.tmod_eq_emod_of_nonneg (by omega)]; rfl
    · have := Nat.mod_lt c.toNat (show 0 < p.length + 1 by omega); omega
  have h1 := totS_take' p m
  have h2 := totS_drop' p m
  have h3 := pth_len (k := k) (by omega) (p.take m)
  have e : pth (pth k (p.take m)) (p.drop m) = pth k p := by rw [pth_app, List.take_append_drop]
  have hc := c.toNat_lt
  have htk : (p.drop m).take (p.length - m) = p.drop m := List.take_of_length_le (by simp)
  simp (maxSteps := 1000000) (disch := first | omega | (simp; done) | (simp; omega)) [W_id, bys_app, bys_snoc, f_custodylaw05_KdfPathMatchesSpec, f_custodylaw05_KdfPathMatchesSpec_r0, f_custodylaw05_KdfPathMatchesSpec_r1, f_custodylaw05_KdfPathMatchesSpec_r2, f_custodylaw05_KdfPathMatchesSpec_r3, f_custodylaw05_KdfPathMatchesSpec_r4, f_custodylaw05_KdfPathMatchesSpec_r5, h83, h16, few_pre, hf, h79, h80, pth_pre, hm, e, htk, lawPth, trueC, kT, kF, dT, dF]
  omega
end Go.Abs
end

section
namespace Go.Abs
theorem sdN_add (s : List UInt8) (a : Nat) : ∀ b, sdN (sdN s a) b = sdN s (a + b)
  | 0 => rfl
  | b + 1 => by rw [← Nat.add_assoc, sdN, sdN_add s a b]; rfl
theorem vlN_add (s : List UInt8) (a b : Nat) : vlN (sdN s a) b = vlN s (a + b) := by rw [vlN, vlN, sdN_add]
theorem stN_add (s : List UInt8) (a : Nat) : ∀ b, stN s (a + b) = stN s a ++ stN (sdN s a) b
  | 0 => by simp [stN]
  | b + 1 => by rw [← Nat.add_assoc, stN, stN, stN_add s a b, vlN_add, List.append_assoc]
theorem bysN_at (s : List UInt8) {a : Nat} (h : a ≤ 7) : bysN s (32 * (a : Int)) = stN s a ∧ aftN s (32 * (a : Int)) = sdN s a := by
  by_cases hz : a = 0
  · subst hz; exact ⟨rfl, rfl⟩
  · have hb : blkN (32 * (a : Int)) = a := by unfold blkN; omega
    refine ⟨?_, by rw [aftN, if_neg (by omega), hb]⟩
    rw [bysN, if_neg (by omega), hb, List.take_of_length_le]
    rw [stN_len]; omega
theorem bysN_two (s : List UInt8) {a n : Nat} (h : a ≤ 7) (hn : n ≤ 255) : bysN s (32 * (a : Int) + (n : Int)) = stN s a ++ bysN (sdN s a) n ∧ aftN s (32 * (a : Int) + (n : Int)) = aftN (sdN s a) n ∧ (bysN s (32 * (a : Int) + (n : Int))).length = 32 * a + n := by
  by_cases hz : n = 0
  · subst hz
    have := bysN_at s h
    have hz1 : ((0 : Nat) : Int) = 0 := rfl
    rw [hz1, Int.add_zero, this.1, this.2]
    refine ⟨?_, rfl, by rw [stN_len]; rfl⟩
    rw [bysN, if_pos (.inl (Int.le_refl _)), List.append_nil]
  · have hb : blkN (32 * (a : Int) + (n : Int)) = a + blkN n := by unfold blkN; omega
    have hl := stN_len s a
    have e : bysN s (32 * (a : Int) + (n : Int)) = stN s a ++ bysN (sdN s a) n := by
      rw [bysN, if_neg (by omega), hb, stN_add, take_two hl (show (32 * (a : Int) + (n : Int)).toNat = 32 * a + n by omega), bysN, if_neg (by omega)]
      rfl
    refine ⟨e, by rw [aftN, if_neg (by omega), hb, aftN, if_neg (by omega), sdN_add], ?_⟩
    rw [e, List.length_append, hl, bysN, if_neg (by omega), List.length_take, stN_len]
    have : n ≤ 32 * blkN n := by unfold blkN; omega
    omega
set_option maxHeartbeats 4000000 in
theorem law_Prt_ok (E : Env) (h83 : E.G 83 = sanC) (h74 : E.G 74 = gbysC) : ∀ ds, lawPrt.pre ds → ds.length = f_custodylaw05_KdfBytesInParts.n ∧ awp E f_custodylaw05_KdfBytesInParts.body (retQ f_custodylaw05_KdfBytesInParts.res (lawPrt.post ds)) (initSt f_custodylaw05_KdfBytesInParts.wr ds) := by
  rintro _ ⟨s, b, n, rfl⟩
  by_cases hk : 400 < s.length
  · simp (maxSteps := 1000000) (disch := first | omega | (simp; done) | (simp; omega)) [W_id, bys_app, bys_snoc, f_custodylaw05_KdfBytesInParts, f_custodylaw05_KdfBytesInParts_r0, f_custodylaw05_KdfBytesInParts_r1, f_custodylaw05_KdfBytesInParts_r2, h83, lawPrt, trueC, kT, kF, dT, dF]
  obtain ⟨a, ha, hle⟩ : ∃ a : Nat, (b % 8).toNat = a ∧ a ≤ 7 := ⟨_, rfl, by have := Nat.mod_lt b.toNat (show 0 < 8 by decide); rw [UInt8.toNat_mod]; show b.toNat % 8 ≤ 7; omega⟩
  obtain ⟨m, hm, hml⟩ : ∃ m : Nat, n.toNat = m ∧ m ≤ 255 := ⟨_, rfl, by have := n.toNat_lt; omega⟩
  obtain ⟨e1, e2⟩ := bysN_at s hle
  obtain ⟨e3, e4, e5⟩ := bysN_two s hle hml
  have h7 : (sdN s a).length < 1000000000 := sdN_len (by omega) a
  have g1 : gbysC.pre [.agg [st s], i64 (32 * (a : Int))] = True := gbys_pre (by omega) ⟨by omega, by omega⟩
  have g2 : gbysC.pre [.agg [st (sdN s a)], i64 (m : Int)] = True := gbys_pre h7 ⟨by omega, by omega⟩
  have g3 : gbysC.pre [.agg [st s], i64 (32 * (a : Int) + (m : Int))] = True := gbys_pre (by omega) ⟨by omega, by omega⟩
  rw [e3] at e5
  simp (maxSteps := 1000000) (disch := first | omega | (simp; done) | (simp; omega)) [W_id, bys_app, bys_snoc, f_custodylaw05_KdfBytesInParts, f_custodylaw05_KdfBytesInParts_r0, f_custodylaw05_KdfBytesInParts_r1, f_custodylaw05_KdfBytesInParts_r2, f_custodylaw05_KdfBytesInParts_r3, f_custodylaw05_KdfBytesInParts_r4, f_custodylaw05_KdfBytesInParts_r5, f_custodylaw05_KdfBytesInParts_r6, f_custodylaw05_KdfBytesInParts_r7, h83, h74, ha, hm, g1, g2, g3, e1, e2, e3, e4, lawPrt, trueC, kT, kF, dT, dF]
  rw [List.length_append] at e5
  exact ⟨by omega, by omega⟩
theorem pth_seeds (s : List UInt8) : ∀ i, pth s (List.replicate i seedL) = sdN s i
  | 0 => rfl
  | i + 1 => by rw [List.replicate_succ', ← pth_app5, pth_seeds s i]; rfl
where
  pth_app5 (k : List UInt8) (a b : List (List UInt8)) : pth (pth k a) b = pth k (a ++ b) := by simp [pth]
end Go.Abs
end

section
namespace Go.Abs
theorem sts_tail (l : List (List UInt8)) : (sts l).tail = sts l.tail := by cases l <;> rfl
theorem totS_tail (l : List (List UInt8)) : totS l.tail ≤ totS l := by rw [← List.drop_one]; exact totS_drop' l 1
theorem inp_cons {a : List (List UInt8)} (h : a ≠ []) : inp (atS a 0) (a.tail) = a.flatMap encS := by
  cases a with
  | nil => exact absurd rfl h
  | cons x a => rfl
theorem few_lt {a : List (List UInt8)} (h : few a = true) : ∀ s ∈ a, s.length < 1099511627776 := fun s hs => by
  have := ((few_iff a).1 h).2 s hs
  omega
theorem eq_steps {a b : List (List UInt8)} {i : Nat} (ha : i < a.length) (hb : i < b.length) : a.take (i + 1) = b.take (i + 1) ↔ a.take i = b.take i ∧ atS a i = atS b i := by
  rw [takeS ha, takeS hb]
  constructor
  · intro e
    have := List.append_inj' e rfl
    exact ⟨this.1, by simpa using this.2⟩
  · rintro ⟨e1, e2⟩
    rw [e1, e2]
set_option maxHeartbeats 4000000 in
theorem law_SepK_ok (E : Env) (h83 : E.G 83 = sanC) (h16 : E.G 16 = fewC) (h18 : E.G 18 = rmacC) (h77 : E.G 77 = inpC) (h76 : E.G 76 = derC) : ∀ ds, lawSepK.pre ds → ds.length = f_custodylaw05_KdfDeriveSeparates.n ∧ awp E f_custodylaw05_KdfDeriveSeparates.body (retQ f_custodylaw05_KdfDeriveSeparates.res (lawSepK.post ds)) (initSt f_custodylaw05_KdfDeriveSeparates.wr ds) := by
  rintro _ ⟨k, na, nb, a, b, rfl⟩
  by_cases hk : 400 < k.length
  · simp (maxSteps := 1000000) (disch := first | omega | (simp; done) | (simp; omega)) [W_id, bys_app, bys_snoc, f_custodylaw05_KdfDeriveSeparates, f_custodylaw05_KdfDeriveSeparates_r0, f_custodylaw05_KdfDeriveSeparates_r1, f_custodylaw05_KdfDeriveSeparates_r2, h83, lawSepK, trueC, kT, kF, dT, dF]
  by_cases hfa : few a = true
  rotate_left
  · have hf : few a = false := by simpa using hfa
    simp (maxSteps := 1000000) (disch := first | omega | (simp; done) | (simp; omega)) [W_id, bys_app, bys_snoc, f_custodylaw05_KdfDeriveSeparates, f_custodylaw05_KdfDeriveSeparates_r0, f_custodylaw05_KdfDeriveSeparates_r1, f_custodylaw05_KdfDeriveSeparates_r2, h83, h16, few_pre, hf, lawSepK, trueC, kT, kF, dT, dF]
  by_cases hfb : few b = true
  rotate_left
  · have hf : few b = false := by simpa using hfb
    simp (maxSteps := 1000000) (disch := first | omega | (simp; done) | (simp; omega)) [W_id, bys_app, bys_snoc, f_custodylaw05_KdfDeriveSeparates, f_custodylaw05_KdfDeriveSeparates_r0, f_custodylaw05_KdfDeriveSeparates_r1, f_custodylaw05_KdfDeriveSeparates_r2, h83, h16, few_pre, hf, hfa, lawSepK, trueC, kT, kF, dT, dF]
  by_cases ha : a.length = 0
  · have za : ((a.length : Int) == 0) = true := by simp [ha]
    simp (maxSteps := 1000000) (disch := first | omega | (simp; done) | (simp; omega)) [W_id, bys_app, bys_snoc, f_custodylaw05_KdfDeriveSeparates, f_custodylaw05_KdfDeriveSeparates_r0, f_custodylaw05_KdfDeriveSeparates_r1, f_custodylaw05_KdfDeriveSeparates_r2, h83, h16, few_pre, hfb, hfa, za, lawSepK, trueC, kT, kF, dT, dF]
  have za : ((a.length : Int) == 0) = false := beq_eq_false_iff_ne.2 (by omega)
  by_cases hb : b.length = 0
  · have zb : ((b.length : Int) == 0) = true := by simp [hb]
    simp (maxSteps := 1000000) (disch := first | omega | (simp; done) | (simp; omega)) [W_id, bys_app, bys_snoc, f_custodylaw05_KdfDeriveSeparates, f_custodylaw05_KdfDeriveSeparates_r0, f_custodylaw05_KdfDeriveSeparates_r1, f_custodylaw05_KdfDeriveSeparates_r2, h83, h16, few_pre, hfb, hfa, za, zb, lawSepK, trueC, kT, kF, dT, dF]
  have zb : ((b.length : Int) == 0) = false := beq_eq_false_iff_ne.2 (by omega)
  have hta := few_tot hfa
  have htb := few_tot hfb
  have hla := len_le_totS a
  have hlb := len_le_totS b
  simp (maxSteps := 1000000) (disch := first | omega | (simp; done) | (simp; omega)) [W_id, bys_app, bys_snoc, f_custodylaw05_KdfDeriveSeparates, f_custodylaw05_KdfDeriveSeparates_r0, f_custodylaw05_KdfDeriveSeparates_r1, f_custodylaw05_KdfDeriveSeparates_r2, f_custodylaw05_KdfDeriveSeparates_r3, f_custodylaw05_KdfDeriveSeparates_r4, h83, h16, few_pre, hfb, hfa, za, zb, lawSepK, trueC, kT, kF, dT, dF]
  have xe : (inp (atS a 0) (a.tail) = inp (atS b 0) (b.tail)) ↔ a = b := by
    rw [inp_cons (fun e => ha (by rw [e]; rfl)), inp_cons (fun e => hb (by rw [e]; rfl))]
    exact ⟨flatMap_encS_inj (few_lt hfa) (few_lt hfb), fun e => by rw [e]⟩
  refine awp_name fun Q0 hQ0 => ?_
  have fin : Q0 .normal ⟨[(0, st k), (1, .sl .plain na a.length (sts a)), (2, .sl .plain nb b.length (sts b))], [(7, bo true), (8, bo (decide (a = b)))], []⟩ := by
    have da := atS_mem_tot (show 0 < a.length by omega)
    have db := atS_mem_tot (show 0 < b.length by omega)
    have ga := totS_tail a
    have gb := totS_tail b
    have ia := inp_len (l := atS a 0) (p := a.tail) (by omega) (by omega)
    have ib := inp_len (l := atS b 0) (p := b.tail) (by omega) (by omega)
    have ta : (a.tail).take (a.length - 1) = a.tail := List.take_of_length_le (by simp)
    have tb : (b.tail).take (b.length - 1) = b.tail := List.take_of_length_le (by simp)
    have ha1 : (a.tail).length = a.length - 1 := by simp
    have hb1 : (b.tail).length = b.length - 1 := by simp
    have hda : hdA (sts a) = st (atS a 0) := by have := hd_sts (l := a) (n := 0) (by omega); simpa using this
    have hdb : hdA (sts b) = st (atS b 0) := by have := hd_sts (l := b) (n := 0) (by omega); simpa using this
    have e1 : drv k (atS a 0) (a.tail) = mac k (inp (atS a 0) (a.tail)) := rfl
    have e2 : drv k (atS b 0) (b.tail) = mac k (inp (atS b 0) (b.tail)) := rfl
    have xb : (decide (a = b) == decide (inp (atS a 0) a.tail = inp (atS b 0) b.tail)) = true := by
      rw [beq_iff_eq, Bool.eq_iff_iff, decide_eq_true_eq, decide_eq_true_eq, xe]
    generalize hA : a.tail = A at *
    generalize hB : b.tail = B at *
    generalize atS a 0 = a0 at *
    generalize atS b 0 = b0 at *
    have xc : (mac k (inp a0 A) == mac k (inp b0 B)) = decide (mac k (inp a0 A) = mac k (inp b0 B)) := by rw [Bool.eq_iff_iff]; simp
    have xd : (inp a0 A == inp b0 B) = decide (inp a0 A = inp b0 B) := by rw [Bool.eq_iff_iff]; simp
    simp (maxSteps := 1000000) (disch := first | omega | (simp; done) | (simp; omega)) [W_id, bys_app, bys_snoc, hQ0, f_custodylaw05_KdfDeriveSeparates_r8, f_custodylaw05_KdfDeriveSeparates_r9, f_custodylaw05_KdfDeriveSeparates_r10, f_custodylaw05_KdfDeriveSeparates_r11, f_custodylaw05_KdfDeriveSeparates_r12, h77, h76, h18, inp_pre, der_pre, rmac_pre, sts_tail, hda, hdb, hA, hB, ta, tb, e1, e2, dT, dF]
    refine ⟨by omega, by omega, by omega, by omega, by omega, by omega, by omega, by omega, by omega, by omega, by omega, by omega, ?_⟩
    simp (maxSteps := 1000000) (disch := first | omega | (simp; done) | (simp; omega)) [W_id, bys_app, bys_snoc, f_custodylaw05_KdfDeriveSeparates_r13, xb, dT, dF]
  simp (maxSteps := 1000000) (disch := first | omega | (simp; done) | (simp; omega)) [W_id, bys_app, bys_snoc, f_custodylaw05_KdfDeriveSeparates_r5]
  refine awp_for (fun p : Nat × Bool => ⟨[(0, st k), (1, .sl .plain na a.length (sts a)), (2, .sl .plain nb b.length (sts b))], [(7, bo true), (8, bo p.2), (9, i64 p.1)], []⟩) (fun p => a.length - p.1) (fun p => p.1 ≤ a.length ∧ (p.2 = true ↔ a.length = b.length ∧ a.take p.1 = b.take p.1)) (0, (a.length : Int) == (b.length : Int)) (by simp) (by simp; omega) fun p hp => ?_
  obtain ⟨i, d⟩ := p
  obtain ⟨hi, hd⟩ := hp
  simp only at hi hd
  refine awp_name fun Q1 hQ1 => ?_
  by_cases hlt : i < a.length
  · cases d with
    | true =>
      obtain ⟨hl, he⟩ := hd.1 rfl
      have hlt' : i < b.length := by omega
      have hs := eq_steps hlt hlt'
      simp (maxSteps := 1000000) (disch := first | omega | (simp; done) | (simp; omega)) [W_id, bys_app, bys_snoc, f_custodylaw05_KdfDeriveSeparates_l0, f_custodylaw05_KdfDeriveSeparates_r6, f_custodylaw05_KdfDeriveSeparates_r7, kT, kF, dT, dF, hd_sts, hQ1]
      refine ⟨by omega, by omega, by omega, by omega, i + 1, by omega, ?_⟩
      rw [hs]
      by_cases hq : atS a i = atS b i
      · exact .inr ⟨⟨by omega, hl, he, hq⟩, hq, by simp⟩
      · exact .inl ⟨⟨by omega, fun h => hq h.2⟩, hq, by simp⟩
    | false =>
      have hne : ¬ a = b := fun e => by
        have := hd.2 ⟨by rw [e], by rw [e]⟩
        cases this
      have hf : decide (a = b) = false := by simpa using hne
      rw [hf] at fin
      simp (maxSteps := 1000000) (disch := first | omega | (simp; done) | (simp; omega)) [W_id, bys_app, bys_snoc, f_custodylaw05_KdfDeriveSeparates_l0, f_custodylaw05_KdfDeriveSeparates_r6, kT, kF, dT, dF, hQ1]
      exact fin
  · have hi' : i = a.length := by omega
    subst hi'
    have hdd : d = decide (a = b) := by
      rw [Bool.eq_iff_iff, hd, decide_eq_true_eq, List.take_length]
      constructor
      · rintro ⟨h1, h2⟩
        rw [h1, List.take_length] at h2
        exact h2
      · intro e
        rw [← e, List.take_length]
        exact ⟨rfl, rfl⟩
    subst hdd
    simp (maxSteps := 1000000) (disch := first | omega | (simp; done) | (simp; omega)) [W_id, bys_app, bys_snoc, f_custodylaw05_KdfDeriveSeparates_l0, f_custodylaw05_KdfDeriveSeparates_r6, kT, kF, dT, dF, hQ1]
    exact fin
end Go.Abs
end

section
namespace Go.Abs
theorem sts_snoc (l : List (List UInt8)) (x : List UInt8) : sts l ++ [st x] = sts (l ++ [x]) := by simp [sts]
theorem totS_seeds : ∀ i : Nat, totS (List.replicate i seedL) = 13 * i
  | 0 => rfl
  | i + 1 => by
    have := totS_seeds i
    simp only [totS, List.replicate_succ, List.map_cons, List.sum_cons, List.map_replicate] at this ⊢
    rw [this]
    simp [seedL]
    omega
theorem pth_all (s : List UInt8) (i : Nat) : pth s (List.replicate i seedL ++ [valL]) = vlN s i := by
  rw [← pth_seeds.pth_app5, pth_seeds]; rfl
set_option maxHeartbeats 4000000 in
theorem law_Nxt_ok (E : Env) (h83 : E.G 83 = sanC) (h75 : E.G 75 = nxtC) (h79 : E.G 79 = pthC) : ∀ ds, lawNxt.pre ds → ds.length = f_custodylaw05_KdfNextIsDerived.n ∧ awp E f_custodylaw05_KdfNextIsDerived.body (retQ f_custodylaw05_KdfNextIsDerived.res (lawNxt.post ds)) (initSt f_custodylaw05_KdfNextIsDerived.wr ds) := by
  rintro _ ⟨s, n, rfl⟩
  by_cases hk : 400 < s.length
  · simp (maxSteps := 1000000) (disch := first | omega | (simp; done) | (simp; omega)) [W_id, bys_app, bys_snoc, f_custodylaw05_KdfNextIsDerived, f_custodylaw05_KdfNextIsDerived_r0, f_custodylaw05_KdfNextIsDerived_r1, f_custodylaw05_KdfNextIsDerived_r2, h83, lawNxt, trueC, kT, kF, dT, dF]
  obtain ⟨m, hm, hle⟩ : ∃ m : Nat, (n % 21).toNat = m ∧ m ≤ 20 := ⟨_, rfl, by have := Nat.mod_lt n.toNat (show 0 < 21 by decide); rw [UInt8.toNat_mod]; show n.toNat % 21 ≤ 20; omega⟩
  simp (maxSteps := 1000000) (disch := first | omega | (simp; done) | (simp; omega)) [W_id, bys_app, bys_snoc, f_custodylaw05_KdfNextIsDerived, f_custodylaw05_KdfNextIsDerived_r0, f_custodylaw05_KdfNextIsDerived_r1, f_custodylaw05_KdfNextIsDerived_r2, f_custodylaw05_KdfNextIsDerived_r3, f_custodylaw05_KdfNextIsDerived_r4, f_custodylaw05_KdfNextIsDerived_r5, h83, lawNxt, trueC, kT, kF, dT, dF]
  refine awp_name fun Q0 hQ0 => ?_
  simp (maxSteps := 1000000) (disch := first | omega | (simp; done) | (simp; omega)) [W_id, bys_app, bys_snoc, f_custodylaw05_KdfNextIsDerived_r6]
  refine awp_for (fun i : Nat => ⟨[(0, st s), (1, u8 n)], [(5, bo true), (6, .bp 6 0), (7, .sl (.own 1) none i (sts (List.replicate i seedL))), (8, i64 i)], [(6, some [st (sdN s i)])]⟩) (fun i => m - i) (· ≤ m) 0 (by simp [sdN]) (by simp) fun i hi => ?_
  refine awp_name fun Q1 hQ1 => ?_
  have hsd := sdN_len (s := s) (by omega) i
  by_cases h : i < m
  · simp (maxSteps := 1000000) (disch := first | omega | (simp; done) | (simp; omega)) [W_id, bys_app, bys_snoc, f_custodylaw05_KdfNextIsDerived_l0, f_custodylaw05_KdfNextIsDerived_r7, f_custodylaw05_KdfNextIsDerived_r8, f_custodylaw05_KdfNextIsDerived_r9, f_custodylaw05_KdfNextIsDerived_r10, kT, kF, dT, dF, hm, h75, nxt_pre, hQ1]
    have e7 : sts (List.replicate i seedL) ++ [st [115, 101, 101, 100]] = sts (List.replicate (i + 1) seedL) := by rw [List.replicate_succ', ← sts_snoc]; rfl
    exact ⟨⟨by omega, by omega⟩, i + 1, by omega, by omega, ⟨⟨rfl, e7⟩, by simp⟩, rfl⟩
  · have e : i = m := by omega
    subst e
    have e8 : sts (List.replicate i seedL) ++ [st [118, 97, 108, 117, 101]] = sts (List.replicate i seedL ++ [valL]) := sts_snoc _ _
    have hp : pth s (List.replicate i seedL ++ [valL]) = drv (sdN s i) valL [] := pth_all s i
    have hlen : (List.replicate i seedL ++ [valL]).length = i + 1 := by simp
    have htot : totS (List.replicate i seedL ++ [valL]) < 1000000000 := by
      have := totS_seeds i
      simp only [totS, List.map_append, List.sum_append] at this ⊢
      rw [this]
      simp [valL]
      omega
    generalize List.replicate i seedL ++ [valL] = L at *
    simp (maxSteps := 1000000) (disch := first | omega | (simp; done) | (simp; omega)) [W_id, bys_app, bys_snoc, f_custodylaw05_KdfNextIsDerived_l0, f_custodylaw05_KdfNextIsDerived_r7, kT, kF, dT, dF, hm, hQ1, hQ0, f_custodylaw05_KdfNextIsDerived_r11, f_custodylaw05_KdfNextIsDerived_r12, f_custodylaw05_KdfNextIsDerived_r13, h75, nxt_pre, h79, e8, hp, hlen, pth_pre]
    exact ⟨by omega, by omega⟩
end Go.Abs
end

section
namespace Go.Abs
theorem lawDer_pre (as : List AVal) (h : hasA [.str, .str, .sl .str] as) : lawDer.pre as := by
  simp only [hasA] at h
  obtain ⟨c0, _, rfl, h0, c1, _, rfl, h1, c2, _, rfl, h2, rfl⟩ := h
  obtain ⟨a, rfl⟩ := has_str h0
  obtain ⟨b, rfl⟩ := has_str h1
  obtain ⟨l, rfl⟩ := has_strs h2
  exact ⟨a, b, none, l, rfl⟩
theorem lawPth_pre (as : List AVal) (h : hasA [.str, .sl .str, .int .u8] as) : lawPth.pre as := by
  simp only [hasA] at h
  obtain ⟨c0, _, rfl, h0, c1, _, rfl, h1, c2, _, rfl, h2, rfl⟩ := h
  obtain ⟨a, rfl⟩ := has_str h0
  obtain ⟨l, rfl⟩ := has_strs h1
  obtain ⟨c, rfl⟩ := has_u8 h2
  exact ⟨a, none, l, c, rfl⟩
theorem lawSepK_pre (as : List AVal) (h : hasA [.str, .sl .str, .sl .str] as) : lawSepK.pre as := by
  simp only [hasA] at h
  obtain ⟨c0, _, rfl, h0, c1, _, rfl, h1, c2, _, rfl, h2, rfl⟩ := h
  obtain ⟨a, rfl⟩ := has_str h0
  obtain ⟨l, rfl⟩ := has_strs h1
  obtain ⟨m, rfl⟩ := has_strs h2
  exact ⟨a, none, none, l, m, rfl⟩
theorem lawRnd_pre (as : List AVal) (h : hasA [.str, .int .i64] as) : lawRnd.pre as := by
  simp only [hasA] at h
  obtain ⟨c0, _, rfl, h0, c1, _, rfl, h1, rfl⟩ := h
  obtain ⟨a, rfl⟩ := has_str h0
  obtain ⟨n, n0, n1, rfl⟩ := has_i64 h1
  exact ⟨a, n, ⟨n0, n1⟩, rfl⟩
theorem lawPrt_pre (as : List AVal) (h : hasA [.str, .int .u8, .int .u8] as) : lawPrt.pre as := by
  simp only [hasA] at h
  obtain ⟨c0, _, rfl, h0, c1, _, rfl, h1, c2, _, rfl, h2, rfl⟩ := h
  obtain ⟨a, rfl⟩ := has_str h0
  obtain ⟨b, rfl⟩ := has_u8 h1
  obtain ⟨c, rfl⟩ := has_u8 h2
  exact ⟨a, b, c, rfl⟩
theorem lawNxt_pre (as : List AVal) (h : hasA [.str, .int .u8] as) : lawNxt.pre as := by
  simp only [hasA] at h
  obtain ⟨c0, _, rfl, h0, c1, _, rfl, h1, rfl⟩ := h
  obtain ⟨a, rfl⟩ := has_str h0
  obtain ⟨b, rfl⟩ := has_u8 h1
  exact ⟨a, b, rfl⟩
end Go.Abs
end
