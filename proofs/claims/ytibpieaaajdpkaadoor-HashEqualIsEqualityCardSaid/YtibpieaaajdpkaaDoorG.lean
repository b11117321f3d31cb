/- Lemmas: an abstract interpreter, and what the functions compute. -/
import Derived.Test.YtibpieaaajdpkaaDoorC
import Derived.Test.YtibpieaaajdpkaaDoorD
import Derived.KernelRfl
set_option linter.unusedSimpArgs false
set_option linter.unusedVariables false
set_option linter.unusedSectionVars false
section
namespace Go.Abs
set_option maxRecDepth 100000
/-- custody custodylaw02.HashSumMatchesSpec = 31; calls custodylaw02.sanity = 14, custodyref02.Sum = 15, hash.Sum = 3 -/
def f_custodylaw02_HashSumMatchesSpec_r0 : ACode :=
  .seq (
    .region [3, 4] [] [
      ⟨(some 11), none, .mv false (.s 0)⟩,
      ⟨(some 12), none, .toStr none (.s 11)⟩,
      ⟨(some 4), none, .mv false (.s 12)⟩]) (
  .seq (
    .region [3, 4, 5] [.norm [5]] [
      ⟨(some 13), none, .mv false (.s 0)⟩,
      ⟨(some 14), none, .call 3 [(.s 13)] []⟩,
      ⟨(some 5), none, .alloc 5 (bys (zeros 32))⟩,
      ⟨none, none, .store (some 32) 5 false (.s 5) (.s 14)⟩]) (
  .seq (
    .region [2] [.norm [5]] [
      ⟨(some 15), none, .mv false (.s 3)⟩,
      ⟨(some 16), none, .mv false (.s 15)⟩,
      ⟨(some 17), (some (16, true)), .load (some 32) (some 5) false (.s 5)⟩,
      ⟨(some 18), (some (16, true)), .mv false (.s 4)⟩,
      ⟨(some 19), (some (16, true)), .toBytes (.s 18)⟩,
      ⟨(some 20), (some (16, true)), .call 15 [(.s 19)] []⟩,
      ⟨(some 21), (some (16, true)), .eqF (ks8 32) false (.s 17) (.s 20)⟩,
      ⟨(some 22), none, .pick (.s 16) (.s 21) (.c (bo false))⟩,
      ⟨(some 23), none, .mv false (.s 22)⟩,
      ⟨(some 24), (some (23, true)), .mv false (.s 0)⟩,
      ⟨(some 25), (some (23, true)), .toStr none (.s 24)⟩,
      ⟨(some 26), (some (23, true)), .mv false (.s 4)⟩,
      ⟨(some 27), (some (23, true)), .bin .eql (.s 25) (.s 26)⟩,
      ⟨(some 28), none, .pick (.s 23) (.s 27) (.c (bo false))⟩,
      ⟨(some 2), none, .mv false (.s 28)⟩]) (
  .ret)))
def f_custodylaw02_HashSumMatchesSpec : AFun :=
 { n := 1, wr := [], res := [.t 2], body :=
    .seq (
      .region [] [] [
        ⟨(some 2), none, .mv false (.c (bo false))⟩]) (
    .seq (
      .region [3] [] [
        ⟨(some 6), none, .call 14 [] []⟩,
        ⟨(some 3), none, .mv false (.s 6)⟩]) (
    .seq (
      .seq (
        .region [3, 9] [] [
          ⟨(some 7), none, .mv false (.s 0)⟩,
          ⟨(some 8), none, .len false (.s 7)⟩,
          ⟨(some 9), none, .bin .gtr (.s 8) (.c (i64 1000))⟩]) (
      .cond (.s 9) (
        .seq (
          .region [2] [] [
            ⟨(some 10), none, .mv false (.s 3)⟩,
            ⟨(some 2), none, .mv false (.s 10)⟩]) (
        .ret)) (
        .ghost (.keep [3]) .skip))) (
    f_custodylaw02_HashSumMatchesSpec_r0))) }

/-- custody custodylaw02.HashStreamsAgree = 32; calls hash.Stream).Add = 1, hash.Stream).Sum = 2, custodylaw02.sanity = 14, custodyref02.Few = 16, custodyref02.Joined = 17, custodyref02.Sum = 15, hash.Begin = 0, hash.Sum = 3 -/
def f_custodylaw02_HashStreamsAgree_r1 : ACode :=
  .seq (
    .block 1 (
      .region [7, 8, 9, 10] [.norm [9]] [
        ⟨(some 38), none, .load (some 73) (some 9) false (.s 9)⟩,
        ⟨(some 39), none, .mv false (.s 0)⟩,
        ⟨(some 40), none, .mv false (.s 10)⟩,
        ⟨(some 41), none, .idxSl 1 (.s 39) (.s 40)⟩,
        ⟨(some 42), none, .load none none false (.s 41)⟩,
        ⟨(some 43), none, .call 1 [(.s 38), (.s 42)] []⟩,
        ⟨none, none, .store (some 73) 9 false (.s 9) (.s 43)⟩])) (
  .region [7, 8, 9, 10] [] [
    ⟨(some 36), none, .mv false (.s 10)⟩,
    ⟨(some 37), none, .bin .add (.s 36) (.c (i64 1))⟩,
    ⟨(some 10), none, .mv false (.s 37)⟩])
def f_custodylaw02_HashStreamsAgree_l0 : ACode :=
  .seq (
    .seq (
      .region [7, 8, 9, 10, 35] [] [
        ⟨(some 33), none, .mv false (.s 10)⟩,
        ⟨(some 34), none, .mv false (.s 8)⟩,
        ⟨(some 35), none, .bin .lss (.s 33) (.s 34)⟩]) (
    .cond (.s 35) (
      .ghost (.keep [7, 8, 9, 10]) .skip) (
      .ghost (.keep [7, 8, 9]) (.exit 0)))) (
  f_custodylaw02_HashStreamsAgree_r1)
def f_custodylaw02_HashStreamsAgree_r3 : ACode :=
  .seq (
    .block 3 (
      .region [7, 8, 9, 11, 12] [.norm [9, 11]] [
        ⟨(some 52), none, .load (some 73) (some 9) false (.s 9)⟩,
        ⟨(some 53), none, .mv false (.s 0)⟩,
        ⟨(some 54), none, .mv false (.s 12)⟩,
        ⟨(some 55), none, .idxSl 1 (.s 53) (.s 54)⟩,
        ⟨(some 56), none, .load none none false (.s 55)⟩,
        ⟨(some 57), none, .call 1 [(.s 52), (.s 56)] []⟩,
        ⟨none, none, .store (some 73) 9 false (.s 9) (.s 57)⟩])) (
  .region [7, 8, 9, 11, 12] [] [
    ⟨(some 50), none, .mv false (.s 12)⟩,
    ⟨(some 51), none, .bin .add (.s 50) (.c (i64 1))⟩,
    ⟨(some 12), none, .mv false (.s 51)⟩])
def f_custodylaw02_HashStreamsAgree_l1 : ACode :=
  .seq (
    .seq (
      .region [7, 8, 9, 11, 12, 49] [] [
        ⟨(some 46), none, .mv false (.s 12)⟩,
        ⟨(some 47), none, .mv false (.s 0)⟩,
        ⟨(some 48), none, .len false (.s 47)⟩,
        ⟨(some 49), none, .bin .lss (.s 46) (.s 48)⟩]) (
    .cond (.s 49) (
      .ghost (.keep [7, 8, 9, 11, 12]) .skip) (
      .ghost (.keep [7, 8, 9, 11]) (.exit 2)))) (
  f_custodylaw02_HashStreamsAgree_r3)
def f_custodylaw02_HashStreamsAgree_r4 : ACode :=
  .seq (
    .region [7, 8, 9, 11, 13] [.norm [9, 11, 13]] [
      ⟨(some 58), none, .load (some 73) (some 11) false (.s 11)⟩,
      ⟨(some 59), none, .mv false (.s 1)⟩,
      ⟨(some 60), none, .call 1 [(.s 58), (.s 59)] []⟩,
      ⟨(some 13), none, .alloc 13 (w32s (zeros32 8) ++ bys (zeros 64) ++ [u64 0])⟩,
      ⟨none, none, .store (some 73) 13 false (.s 13) (.s 60)⟩]) (
  .seq (
    .region [7, 8, 9, 11, 13, 14] [] [
      ⟨(some 61), none, .mv false (.s 0)⟩,
      ⟨(some 62), none, .call 17 [(.s 61)] []⟩,
      ⟨(some 14), none, .mv false (.s 62)⟩]) (
  .seq (
    .region [7, 9, 11, 13, 14, 15] [] [
      ⟨(some 63), none, .mv false (.s 0)⟩,
      ⟨(some 64), none, .mv false (.s 8)⟩,
      ⟨(some 65), none, .slSl 1 (.s 63) none (some (.s 64)) none⟩,
      ⟨(some 66), none, .call 17 [(.s 65)] []⟩,
      ⟨(some 15), none, .mv false (.s 66)⟩]) (
  .seq (
    .region [6] [.norm [9, 11, 13]] [
      ⟨(some 67), none, .mv false (.s 7)⟩,
      ⟨(some 68), none, .mv false (.s 67)⟩,
      ⟨(some 69), (some (68, true)), .load (some 73) (some 9) false (.s 9)⟩,
      ⟨(some 70), (some (68, true)), .call 2 [(.s 69)] []⟩,
      ⟨(some 71), (some (68, true)), .mv false (.s 14)⟩,
      ⟨(some 72), (some (68, true)), .toBytes (.s 71)⟩,
      ⟨(some 73), (some (68, true)), .call 15 [(.s 72)] []⟩,
      ⟨(some 74), (some (68, true)), .eqF (ks8 32) false (.s 70) (.s 73)⟩,
      ⟨(some 75), none, .pick (.s 68) (.s 74) (.c (bo false))⟩,
      ⟨(some 76), none, .mv false (.s 75)⟩,
      ⟨(some 77), (some (76, true)), .load (some 73) (some 11) false (.s 11)⟩,
      ⟨(some 78), (some (76, true)), .call 2 [(.s 77)] []⟩,
      ⟨(some 79), (some (76, true)), .mv false (.s 15)⟩,
      ⟨(some 80), (some (76, true)), .toBytes (.s 79)⟩,
      ⟨(some 81), (some (76, true)), .call 15 [(.s 80)] []⟩,
      ⟨(some 82), (some (76, true)), .eqF (ks8 32) false (.s 78) (.s 81)⟩,
      ⟨(some 83), none, .pick (.s 76) (.s 82) (.c (bo false))⟩,
      ⟨(some 84), none, .mv false (.s 83)⟩,
      ⟨(some 85), (some (84, true)), .load (some 73) (some 13) false (.s 13)⟩,
      ⟨(some 86), (some (84, true)), .call 2 [(.s 85)] []⟩,
      ⟨(some 87), (some (84, true)), .mv false (.s 15)⟩,
      ⟨(some 88), (some (84, true)), .mv false (.s 1)⟩,
      ⟨(some 89), (some (84, true)), .bin .add (.s 87) (.s 88)⟩,
      ⟨(some 90), (some (84, true)), .toBytes (.s 89)⟩,
      ⟨(some 91), (some (84, true)), .call 15 [(.s 90)] []⟩,
      ⟨(some 92), (some (84, true)), .eqF (ks8 32) false (.s 86) (.s 91)⟩,
      ⟨(some 93), none, .pick (.s 84) (.s 92) (.c (bo false))⟩,
      ⟨(some 94), none, .mv false (.s 93)⟩,
      ⟨(some 95), (some (94, true)), .load (some 73) (some 9) false (.s 9)⟩,
      ⟨(some 96), (some (94, true)), .call 2 [(.s 95)] []⟩,
      ⟨(some 97), (some (94, true)), .mv false (.s 14)⟩,
      ⟨(some 98), (some (94, true)), .toBytes (.s 97)⟩,
      ⟨(some 99), (some (94, true)), .call 3 [(.s 98)] []⟩,
      ⟨(some 100), (some (94, true)), .eqF (ks8 32) false (.s 96) (.s 99)⟩,
      ⟨(some 101), none, .pick (.s 94) (.s 100) (.c (bo false))⟩,
      ⟨(some 6), none, .mv false (.s 101)⟩]) (
  .ret))))
def f_custodylaw02_HashStreamsAgree_r2 : ACode :=
  .seq (
    .region [7, 8, 9, 11] [.norm [9, 11]] [
      ⟨(some 44), none, .load (some 73) (some 9) false (.s 9)⟩,
      ⟨(some 11), none, .alloc 11 (w32s (zeros32 8) ++ bys (zeros 64) ++ [u64 0])⟩,
      ⟨none, none, .store (some 73) 11 false (.s 11) (.s 44)⟩]) (
  .seq (
    .seq (
      .region [7, 8, 9, 11, 12] [] [
        ⟨(some 45), none, .mv false (.s 8)⟩,
        ⟨(some 12), none, .mv false (.s 45)⟩]) (
    .block 2 (
      .loop f_custodylaw02_HashStreamsAgree_l1))) (
  f_custodylaw02_HashStreamsAgree_r4))
def f_custodylaw02_HashStreamsAgree_r0 : ACode :=
  .seq (
    .region [7, 8] [] [
      ⟨(some 26), none, .mv false (.s 2)⟩,
      ⟨(some 27), none, .toInt .i64 (.s 26)⟩,
      ⟨(some 28), none, .mv false (.s 0)⟩,
      ⟨(some 29), none, .len false (.s 28)⟩,
      ⟨(some 30), none, .bin .add (.s 29) (.c (i64 1))⟩,
      ⟨(some 31), none, .bin .rem (.s 27) (.s 30)⟩,
      ⟨(some 8), none, .mv false (.s 31)⟩]) (
  .seq (
    .region [7, 8, 9] [.norm [9]] [
      ⟨(some 32), none, .call 0 [] []⟩,
      ⟨(some 9), none, .alloc 9 (w32s (zeros32 8) ++ bys (zeros 64) ++ [u64 0])⟩,
      ⟨none, none, .store (some 73) 9 false (.s 9) (.s 32)⟩]) (
  .seq (
    .seq (
      .region [7, 8, 9, 10] [] [
        ⟨(some 10), none, .mv false (.c (i64 0))⟩]) (
    .block 0 (
      .loop f_custodylaw02_HashStreamsAgree_l0))) (
  f_custodylaw02_HashStreamsAgree_r2)))
def f_custodylaw02_HashStreamsAgree : AFun :=
 { n := 3, wr := [], res := [.t 6], body :=
    .seq (
      .region [] [] [
        ⟨(some 6), none, .mv false (.c (bo false))⟩]) (
    .seq (
      .region [7] [] [
        ⟨(some 16), none, .call 14 [] []⟩,
        ⟨(some 7), none, .mv false (.s 16)⟩]) (
    .seq (
      .seq (
        .region [7, 24] [] [
          ⟨(some 17), none, .mv false (.s 0)⟩,
          ⟨(some 18), none, .call 16 [(.s 17)] []⟩,
          ⟨(some 19), none, .un .not (.s 18)⟩,
          ⟨(some 20), none, .mv false (.s 19)⟩,
          ⟨(some 21), (some (20, false)), .mv false (.s 1)⟩,
          ⟨(some 22), (some (20, false)), .len true (.s 21)⟩,
          ⟨(some 23), (some (20, false)), .bin .gtr (.s 22) (.c (i64 400))⟩,
          ⟨(some 24), none, .pick (.s 20) (.c (bo true)) (.s 23)⟩]) (
      .cond (.s 24) (
        .seq (
          .region [6] [] [
            ⟨(some 25), none, .mv false (.s 7)⟩,
            ⟨(some 6), none, .mv false (.s 25)⟩]) (
        .ret)) (
        .ghost (.keep [7]) .skip))) (
    f_custodylaw02_HashStreamsAgree_r0))) }

/-- custody custodylaw02.HashMacMatchesSpec = 33; calls custodylaw02.sanity = 14, custodyref02.Mac = 18, hash.Mac = 6 -/
def f_custodylaw02_HashMacMatchesSpec_r0 : ACode :=
  .seq (
    .region [4] [] [
      ⟨(some 16), none, .mv false (.s 5)⟩,
      ⟨(some 17), none, .mv false (.s 16)⟩,
      ⟨(some 18), (some (17, true)), .mv false (.s 0)⟩,
      ⟨(some 19), (some (17, true)), .mv false (.s 1)⟩,
      ⟨(some 20), (some (17, true)), .call 6 [(.s 18), (.s 19)] []⟩,
      ⟨(some 21), (some (17, true)), .mv false (.s 0)⟩,
      ⟨(some 22), (some (17, true)), .mv false (.s 1)⟩,
      ⟨(some 23), (some (17, true)), .call 18 [(.s 21), (.s 22)] []⟩,
      ⟨(some 24), (some (17, true)), .bin .eql (.s 20) (.s 23)⟩,
      ⟨(some 25), none, .pick (.s 17) (.s 24) (.c (bo false))⟩,
      ⟨(some 4), none, .mv false (.s 25)⟩]) (
  .ret)
def f_custodylaw02_HashMacMatchesSpec : AFun :=
 { n := 2, wr := [], res := [.t 4], body :=
    .seq (
      .region [] [] [
        ⟨(some 4), none, .mv false (.c (bo false))⟩]) (
    .seq (
      .region [5] [] [
        ⟨(some 6), none, .call 14 [] []⟩,
        ⟨(some 5), none, .mv false (.s 6)⟩]) (
    .seq (
      .seq (
        .region [5, 14] [] [
          ⟨(some 7), none, .mv false (.s 0)⟩,
          ⟨(some 8), none, .len true (.s 7)⟩,
          ⟨(some 9), none, .bin .gtr (.s 8) (.c (i64 400))⟩,
          ⟨(some 10), none, .mv false (.s 9)⟩,
          ⟨(some 11), (some (10, false)), .mv false (.s 1)⟩,
          ⟨(some 12), (some (10, false)), .len true (.s 11)⟩,
          ⟨(some 13), (some (10, false)), .bin .gtr (.s 12) (.c (i64 400))⟩,
          ⟨(some 14), none, .pick (.s 10) (.c (bo true)) (.s 13)⟩]) (
      .cond (.s 14) (
        .seq (
          .region [4] [] [
            ⟨(some 15), none, .mv false (.s 5)⟩,
            ⟨(some 4), none, .mv false (.s 15)⟩]) (
        .ret)) (
        .ghost (.keep [5]) .skip))) (
    f_custodylaw02_HashMacMatchesSpec_r0))) }

/-- custody custodylaw02.HashMacKeys = 34; calls custodylaw02.sanity = 14, custodyref02.Bytes32 = 19, hash.Mac = 6, hash.Sum = 3 -/
def f_custodylaw02_HashMacKeys_r2 : ACode :=
  .seq (
    .region [4] [] [
      ⟨(some 48), none, .mv false (.s 5)⟩,
      ⟨(some 49), none, .mv false (.s 48)⟩,
      ⟨(some 50), (some (49, true)), .mv false (.s 6)⟩,
      ⟨(some 51), (some (49, true)), .len true (.s 50)⟩,
      ⟨(some 52), (some (49, true)), .bin .eql (.s 51) (.c (i64 32))⟩,
      ⟨(some 53), none, .pick (.s 49) (.s 52) (.c (bo false))⟩,
      ⟨(some 4), none, .mv false (.s 53)⟩]) (
  .ret)
def f_custodylaw02_HashMacKeys_r1 : ACode :=
  .seq (
    .seq (
      .region [5, 6, 38] [] [
        ⟨(some 36), none, .mv false (.s 0)⟩,
        ⟨(some 37), none, .len true (.s 36)⟩,
        ⟨(some 38), none, .bin .lss (.s 37) (.c (i64 64))⟩]) (
    .cond (.s 38) (
      .seq (
        .region [4] [] [
          ⟨(some 39), none, .mv false (.s 5)⟩,
          ⟨(some 40), none, .mv false (.s 39)⟩,
          ⟨(some 41), (some (40, true)), .mv false (.s 6)⟩,
          ⟨(some 42), (some (40, true)), .mv false (.s 0)⟩,
          ⟨(some 43), (some (40, true)), .bin .add (.s 42) (.c (st [0]))⟩,
          ⟨(some 44), (some (40, true)), .mv false (.s 1)⟩,
          ⟨(some 45), (some (40, true)), .call 6 [(.s 43), (.s 44)] []⟩,
          ⟨(some 46), (some (40, true)), .bin .eql (.s 41) (.s 45)⟩,
          ⟨(some 47), none, .pick (.s 40) (.s 46) (.c (bo false))⟩,
          ⟨(some 4), none, .mv false (.s 47)⟩]) (
      .ret)) (
      .ghost (.keep [5, 6]) .skip))) (
  f_custodylaw02_HashMacKeys_r2)
def f_custodylaw02_HashMacKeys_r0 : ACode :=
  .seq (
    .region [5, 6] [] [
      ⟨(some 18), none, .mv false (.s 0)⟩,
      ⟨(some 19), none, .mv false (.s 1)⟩,
      ⟨(some 20), none, .call 6 [(.s 18), (.s 19)] []⟩,
      ⟨(some 6), none, .mv false (.s 20)⟩]) (
  .seq (
    .seq (
      .region [5, 6, 23] [] [
        ⟨(some 21), none, .mv false (.s 0)⟩,
        ⟨(some 22), none, .len true (.s 21)⟩,
        ⟨(some 23), none, .bin .gtr (.s 22) (.c (i64 64))⟩]) (
    .cond (.s 23) (
      .seq (
        .region [5, 6, 7] [] [
          ⟨(some 24), none, .mv false (.s 0)⟩,
          ⟨(some 25), none, .toBytes (.s 24)⟩,
          ⟨(some 26), none, .call 3 [(.s 25)] []⟩,
          ⟨(some 27), none, .call 19 [(.s 26)] []⟩,
          ⟨(some 7), none, .mv false (.s 27)⟩]) (
      .seq (
        .region [4] [] [
          ⟨(some 28), none, .mv false (.s 5)⟩,
          ⟨(some 29), none, .mv false (.s 28)⟩,
          ⟨(some 30), (some (29, true)), .mv false (.s 6)⟩,
          ⟨(some 31), (some (29, true)), .mv false (.s 7)⟩,
          ⟨(some 32), (some (29, true)), .mv false (.s 1)⟩,
          ⟨(some 33), (some (29, true)), .call 6 [(.s 31), (.s 32)] []⟩,
          ⟨(some 34), (some (29, true)), .bin .eql (.s 30) (.s 33)⟩,
          ⟨(some 35), none, .pick (.s 29) (.s 34) (.c (bo false))⟩,
          ⟨(some 4), none, .mv false (.s 35)⟩]) (
      .ret))) (
      .ghost (.keep [5, 6]) .skip))) (
  f_custodylaw02_HashMacKeys_r1))
def f_custodylaw02_HashMacKeys : AFun :=
 { n := 2, wr := [], res := [.t 4], body :=
    .seq (
      .region [] [] [
        ⟨(some 4), none, .mv false (.c (bo false))⟩]) (
    .seq (
      .region [5] [] [
        ⟨(some 8), none, .call 14 [] []⟩,
        ⟨(some 5), none, .mv false (.s 8)⟩]) (
    .seq (
      .seq (
        .region [5, 16] [] [
          ⟨(some 9), none, .mv false (.s 0)⟩,
          ⟨(some 10), none, .len true (.s 9)⟩,
          ⟨(some 11), none, .bin .gtr (.s 10) (.c (i64 400))⟩,
          ⟨(some 12), none, .mv false (.s 11)⟩,
          ⟨(some 13), (some (12, false)), .mv false (.s 1)⟩,
          ⟨(some 14), (some (12, false)), .len true (.s 13)⟩,
          ⟨(some 15), (some (12, false)), .bin .gtr (.s 14) (.c (i64 400))⟩,
          ⟨(some 16), none, .pick (.s 12) (.c (bo true)) (.s 15)⟩]) (
      .cond (.s 16) (
        .seq (
          .region [4] [] [
            ⟨(some 17), none, .mv false (.s 5)⟩,
            ⟨(some 4), none, .mv false (.s 17)⟩]) (
        .ret)) (
        .ghost (.keep [5]) .skip))) (
    f_custodylaw02_HashMacKeys_r0))) }

/-- custody custodylaw02.HashOfMatchesSpec = 35; calls custodylaw02.sanity = 14, custodyref02.Few = 16, custodyref02.Of = 20, hash.Of = 8 -/
def f_custodylaw02_HashOfMatchesSpec_r0 : ACode :=
  .seq (
    .region [5, 6] [.norm [6]] [
      ⟨(some 12), none, .mv false (.s 0)⟩,
      ⟨(some 13), none, .mv false (.s 1)⟩,
      ⟨(some 14), none, .call 8 [(.s 12), (.s 13)] []⟩,
      ⟨(some 6), none, .alloc 6 (bys (zeros 16))⟩,
      ⟨none, none, .store (some 16) 6 false (.s 6) (.s 14)⟩]) (
  .seq (
    .region [4] [.norm [6]] [
      ⟨(some 15), none, .mv false (.s 5)⟩,
      ⟨(some 16), none, .mv false (.s 15)⟩,
      ⟨(some 17), (some (16, true)), .load (some 16) (some 6) false (.s 6)⟩,
      ⟨(some 18), (some (16, true)), .mv false (.s 0)⟩,
      ⟨(some 19), (some (16, true)), .mv false (.s 1)⟩,
      ⟨(some 20), (some (16, true)), .call 20 [(.s 18), (.s 19)] []⟩,
      ⟨(some 21), (some (16, true)), .eqF (ks8 16) false (.s 17) (.s 20)⟩,
      ⟨(some 22), none, .pick (.s 16) (.s 21) (.c (bo false))⟩,
      ⟨(some 23), none, .mv false (.s 22)⟩,
      ⟨(some 24), (some (23, true)), .load (some 16) (some 6) false (.s 6)⟩,
      ⟨(some 25), (some (23, true)), .mv false (.s 0)⟩,
      ⟨(some 26), (some (23, true)), .bin .and (.s 25) (.c (i64 255))⟩,
      ⟨(some 27), (some (23, true)), .mv false (.s 1)⟩,
      ⟨(some 28), (some (23, true)), .call 8 [(.s 26), (.s 27)] []⟩,
      ⟨(some 29), (some (23, true)), .eqF (ks8 16) false (.s 24) (.s 28)⟩,
      ⟨(some 30), none, .pick (.s 23) (.s 29) (.c (bo false))⟩,
      ⟨(some 4), none, .mv false (.s 30)⟩]) (
  .ret))
def f_custodylaw02_HashOfMatchesSpec : AFun :=
 { n := 2, wr := [], res := [.t 4], body :=
    .seq (
      .region [] [] [
        ⟨(some 4), none, .mv false (.c (bo false))⟩]) (
    .seq (
      .region [5] [] [
        ⟨(some 7), none, .call 14 [] []⟩,
        ⟨(some 5), none, .mv false (.s 7)⟩]) (
    .seq (
      .seq (
        .region [5, 10] [] [
          ⟨(some 8), none, .mv false (.s 1)⟩,
          ⟨(some 9), none, .call 16 [(.s 8)] []⟩,
          ⟨(some 10), none, .un .not (.s 9)⟩]) (
      .cond (.s 10) (
        .seq (
          .region [4] [] [
            ⟨(some 11), none, .mv false (.s 5)⟩,
            ⟨(some 4), none, .mv false (.s 11)⟩]) (
        .ret)) (
        .ghost (.keep [5]) .skip))) (
    f_custodylaw02_HashOfMatchesSpec_r0))) }

/-- custody custodylaw02.HashOfSeparates = 36; calls custodylaw02.sanity = 14, custodyref02.Few = 16, custodyref02.Input = 21, hash.Of = 8, hash.Sum = 3 -/
def f_custodylaw02_HashOfSeparates_r1 : ACode :=
  .seq (
    .block 1 (
      .region [3, 7, 8, 9] [.norm [3]] [
        ⟨(some 49), none, .mv false (.s 1)⟩,
        ⟨(some 50), none, .mv false (.s 9)⟩,
        ⟨(some 51), none, .idxSl 1 (.s 49) (.s 50)⟩,
        ⟨(some 52), none, .load none none false (.s 51)⟩,
        ⟨(some 53), none, .mv false (.s 2)⟩,
        ⟨(some 54), none, .mv false (.s 9)⟩,
        ⟨(some 55), none, .idxSl 1 (.s 53) (.s 54)⟩,
        ⟨(some 56), none, .load none none false (.s 55)⟩,
        ⟨(some 57), none, .bin .eql (.s 52) (.s 56)⟩,
        ⟨(some 8), none, .mv false (.s 57)⟩])) (
  .region [3, 7, 8, 9] [] [
    ⟨(some 47), none, .mv false (.s 9)⟩,
    ⟨(some 48), none, .bin .add (.s 47) (.c (i64 1))⟩,
    ⟨(some 9), none, .mv false (.s 48)⟩])
def f_custodylaw02_HashOfSeparates_l0 : ACode :=
  .seq (
    .seq (
      .region [3, 7, 8, 9, 46] [] [
        ⟨(some 40), none, .mv false (.s 9)⟩,
        ⟨(some 41), none, .mv false (.s 1)⟩,
        ⟨(some 42), none, .len false (.s 41)⟩,
        ⟨(some 43), none, .bin .lss (.s 40) (.s 42)⟩,
        ⟨(some 44), none, .mv false (.s 43)⟩,
        ⟨(some 45), (some (44, true)), .mv false (.s 8)⟩,
        ⟨(some 46), none, .pick (.s 44) (.s 45) (.c (bo false))⟩]) (
    .cond (.s 46) (
      .ghost (.keep [3, 7, 9]) .skip) (
      .ghost (.keep [3, 7, 8]) (.exit 0)))) (
  f_custodylaw02_HashOfSeparates_r1)
def f_custodylaw02_HashOfSeparates_r4 : ACode :=
  .seq (
    .block 3 (
      .region [7, 10, 11, 12, 13, 14, 15, 16, 17] [.norm [3, 12, 13, 14, 15]] [
        ⟨(some 95), none, .mv false (.s 16)⟩,
        ⟨(some 96), none, .mv false (.s 95)⟩,
        ⟨(some 97), (some (96, true)), .mv false (.s 17)⟩,
        ⟨(some 98), (some (96, true)), .idxArr 32 1 (.s 14) (.s 97)⟩,
        ⟨(some 99), (some (96, true)), .load none (some 14) false (.s 98)⟩,
        ⟨(some 100), (some (96, true)), .mv false (.s 17)⟩,
        ⟨(some 101), (some (96, true)), .idxArr 32 1 (.s 15) (.s 100)⟩,
        ⟨(some 102), (some (96, true)), .load none (some 15) false (.s 101)⟩,
        ⟨(some 103), (some (96, true)), .bin .eql (.s 99) (.s 102)⟩,
        ⟨(some 104), none, .pick (.s 96) (.s 103) (.c (bo false))⟩,
        ⟨(some 16), none, .mv false (.s 104)⟩])) (
  .region [7, 10, 11, 12, 13, 14, 15, 16, 17] [] [
    ⟨(some 93), none, .mv false (.s 17)⟩,
    ⟨(some 94), none, .bin .add (.s 93) (.c (i64 1))⟩,
    ⟨(some 17), none, .mv false (.s 94)⟩])
def f_custodylaw02_HashOfSeparates_l1 : ACode :=
  .seq (
    .seq (
      .region [7, 10, 11, 12, 13, 14, 15, 16, 17, 92] [] [
        ⟨(some 91), none, .mv false (.s 17)⟩,
        ⟨(some 92), none, .bin .lss (.s 91) (.c (i64 16))⟩]) (
    .cond (.s 92) (
      .ghost (.keep [7, 10, 11, 12, 13, 14, 15, 16, 17]) .skip) (
      .ghost (.keep [7, 10, 11, 12, 13, 16]) (.exit 2)))) (
  f_custodylaw02_HashOfSeparates_r4)
def f_custodylaw02_HashOfSeparates_r5 : ACode :=
  .seq (
    .region [6] [.norm [3, 12, 13, 14, 15]] [
      ⟨(some 105), none, .mv false (.s 7)⟩,
      ⟨(some 106), none, .mv false (.s 105)⟩,
      ⟨(some 107), (some (106, true)), .mv true (.s 10)⟩,
      ⟨(some 108), (some (106, true)), .toStr none (.s 107)⟩,
      ⟨(some 109), (some (106, true)), .mv true (.s 11)⟩,
      ⟨(some 110), (some (106, true)), .toStr none (.s 109)⟩,
      ⟨(some 111), (some (106, true)), .bin .neq (.s 108) (.s 110)⟩,
      ⟨(some 112), none, .pick (.s 106) (.s 111) (.c (bo false))⟩,
      ⟨(some 113), none, .mv false (.s 112)⟩,
      ⟨(some 114), (some (113, true)), .load (some 16) (some 12) false (.s 12)⟩,
      ⟨(some 115), (some (113, true)), .load (some 16) (some 13) false (.s 13)⟩,
      ⟨(some 116), (some (113, true)), .eqF (ks8 16) false (.s 114) (.s 115)⟩,
      ⟨(some 117), (some (113, true)), .mv false (.s 16)⟩,
      ⟨(some 118), (some (113, true)), .eqb false (.s 116) (.s 117)⟩,
      ⟨(some 119), none, .pick (.s 113) (.s 118) (.c (bo false))⟩,
      ⟨(some 6), none, .mv false (.s 119)⟩]) (
  .ret)
def f_custodylaw02_HashOfSeparates_r3 : ACode :=
  .seq (
    .region [3, 7, 10, 11, 12] [.norm [3, 12]] [
      ⟨(some 77), none, .idxArr 2 1 (.s 3) (.c (i64 0))⟩,
      ⟨(some 78), none, .load none (some 3) false (.s 77)⟩,
      ⟨(some 79), none, .toInt .i64 (.s 78)⟩,
      ⟨(some 80), none, .mv false (.s 1)⟩,
      ⟨(some 81), none, .call 8 [(.s 79), (.s 80)] []⟩,
      ⟨(some 12), none, .alloc 12 (bys (zeros 16))⟩,
      ⟨none, none, .store (some 16) 12 false (.s 12) (.s 81)⟩]) (
  .seq (
    .region [7, 10, 11, 12, 13] [.norm [3, 12, 13]] [
      ⟨(some 82), none, .idxArr 2 1 (.s 3) (.c (i64 1))⟩,
      ⟨(some 83), none, .load none (some 3) false (.s 82)⟩,
      ⟨(some 84), none, .toInt .i64 (.s 83)⟩,
      ⟨(some 85), none, .mv false (.s 2)⟩,
      ⟨(some 86), none, .call 8 [(.s 84), (.s 85)] []⟩,
      ⟨(some 13), none, .alloc 13 (bys (zeros 16))⟩,
      ⟨none, none, .store (some 16) 13 false (.s 13) (.s 86)⟩]) (
  .seq (
    .region [7, 10, 11, 12, 13, 14] [.norm [3, 12, 13, 14]] [
      ⟨(some 87), none, .mv false (.s 10)⟩,
      ⟨(some 88), none, .call 3 [(.s 87)] []⟩,
      ⟨(some 14), none, .alloc 14 (bys (zeros 32))⟩,
      ⟨none, none, .store (some 32) 14 false (.s 14) (.s 88)⟩]) (
  .seq (
    .region [7, 10, 11, 12, 13, 14, 15] [.norm [3, 12, 13, 14, 15]] [
      ⟨(some 89), none, .mv false (.s 11)⟩,
      ⟨(some 90), none, .call 3 [(.s 89)] []⟩,
      ⟨(some 15), none, .alloc 15 (bys (zeros 32))⟩,
      ⟨none, none, .store (some 32) 15 false (.s 15) (.s 90)⟩]) (
  .seq (
    .region [7, 10, 11, 12, 13, 14, 15, 16] [] [
      ⟨(some 16), none, .mv false (.c (bo true))⟩]) (
  .seq (
    .seq (
      .region [7, 10, 11, 12, 13, 14, 15, 16, 17] [] [
        ⟨(some 17), none, .mv false (.c (i64 0))⟩]) (
    .block 2 (
      .loop f_custodylaw02_HashOfSeparates_l1))) (
  f_custodylaw02_HashOfSeparates_r5))))))
def f_custodylaw02_HashOfSeparates_r2 : ACode :=
  .seq (
    .region [3, 7, 8, 10] [.norm [3]] [
      ⟨(some 58), none, .idxArr 2 1 (.s 3) (.c (i64 0))⟩,
      ⟨(some 59), none, .load none (some 3) false (.s 58)⟩,
      ⟨(some 60), none, .toInt .i64 (.s 59)⟩,
      ⟨(some 61), none, .mv false (.s 1)⟩,
      ⟨(some 62), none, .call 21 [(.s 60), (.s 61)] []⟩,
      ⟨(some 10), none, .mv true (.s 62)⟩]) (
  .seq (
    .region [3, 7, 8, 10, 11] [.norm [3]] [
      ⟨(some 63), none, .idxArr 2 1 (.s 3) (.c (i64 1))⟩,
      ⟨(some 64), none, .load none (some 3) false (.s 63)⟩,
      ⟨(some 65), none, .toInt .i64 (.s 64)⟩,
      ⟨(some 66), none, .mv false (.s 2)⟩,
      ⟨(some 67), none, .call 21 [(.s 65), (.s 66)] []⟩,
      ⟨(some 11), none, .mv true (.s 67)⟩]) (
  .seq (
    .seq (
      .region [3, 7, 10, 11, 68] [] [
        ⟨(some 68), none, .mv false (.s 8)⟩]) (
    .cond (.s 68) (
      .seq (
        .region [6] [] [
          ⟨(some 69), none, .mv false (.s 7)⟩,
          ⟨(some 70), none, .mv false (.s 69)⟩,
          ⟨(some 71), (some (70, true)), .mv true (.s 10)⟩,
          ⟨(some 72), (some (70, true)), .toStr none (.s 71)⟩,
          ⟨(some 73), (some (70, true)), .mv true (.s 11)⟩,
          ⟨(some 74), (some (70, true)), .toStr none (.s 73)⟩,
          ⟨(some 75), (some (70, true)), .bin .eql (.s 72) (.s 74)⟩,
          ⟨(some 76), none, .pick (.s 70) (.s 75) (.c (bo false))⟩,
          ⟨(some 6), none, .mv false (.s 76)⟩]) (
      .ret)) (
      .ghost (.keep [3, 7, 10, 11]) .skip))) (
  f_custodylaw02_HashOfSeparates_r3)))
def f_custodylaw02_HashOfSeparates_r0 : ACode :=
  .seq (
    .region [3, 7, 8] [.norm [3]] [
      ⟨(some 28), none, .idxArr 2 1 (.s 3) (.c (i64 0))⟩,
      ⟨(some 29), none, .load none (some 3) false (.s 28)⟩,
      ⟨(some 30), none, .idxArr 2 1 (.s 3) (.c (i64 1))⟩,
      ⟨(some 31), none, .load none (some 3) false (.s 30)⟩,
      ⟨(some 32), none, .bin .eql (.s 29) (.s 31)⟩,
      ⟨(some 33), none, .mv false (.s 32)⟩,
      ⟨(some 34), (some (33, true)), .mv false (.s 1)⟩,
      ⟨(some 35), (some (33, true)), .len false (.s 34)⟩,
      ⟨(some 36), (some (33, true)), .mv false (.s 2)⟩,
      ⟨(some 37), (some (33, true)), .len false (.s 36)⟩,
      ⟨(some 38), (some (33, true)), .bin .eql (.s 35) (.s 37)⟩,
      ⟨(some 39), none, .pick (.s 33) (.s 38) (.c (bo false))⟩,
      ⟨(some 8), none, .mv false (.s 39)⟩]) (
  .seq (
    .seq (
      .region [3, 7, 8, 9] [] [
        ⟨(some 9), none, .mv false (.c (i64 0))⟩]) (
    .block 0 (
      .loop f_custodylaw02_HashOfSeparates_l0))) (
  f_custodylaw02_HashOfSeparates_r2))
def f_custodylaw02_HashOfSeparates : AFun :=
 { n := 3, wr := [], res := [.t 6], body :=
    .seq (
      .region [3] [.norm [3]] [
        ⟨(some 3), none, .box 3 (some 2) false (.s 0)⟩,
        ⟨(some 6), none, .mv false (.c (bo false))⟩]) (
    .seq (
      .region [3, 7] [] [
        ⟨(some 18), none, .call 14 [] []⟩,
        ⟨(some 7), none, .mv false (.s 18)⟩]) (
    .seq (
      .seq (
        .region [3, 7, 26] [] [
          ⟨(some 19), none, .mv false (.s 1)⟩,
          ⟨(some 20), none, .call 16 [(.s 19)] []⟩,
          ⟨(some 21), none, .un .not (.s 20)⟩,
          ⟨(some 22), none, .mv false (.s 21)⟩,
          ⟨(some 23), (some (22, false)), .mv false (.s 2)⟩,
          ⟨(some 24), (some (22, false)), .call 16 [(.s 23)] []⟩,
          ⟨(some 25), (some (22, false)), .un .not (.s 24)⟩,
          ⟨(some 26), none, .pick (.s 22) (.c (bo true)) (.s 25)⟩]) (
      .cond (.s 26) (
        .seq (
          .region [6] [] [
            ⟨(some 27), none, .mv false (.s 7)⟩,
            ⟨(some 6), none, .mv false (.s 27)⟩]) (
        .ret)) (
        .ghost (.keep [3, 7]) .skip))) (
    f_custodylaw02_HashOfSeparates_r0))) }

/-- custody custodylaw02.HashEqualIsEquality = 37; calls custodylaw02.sanity = 14, hash.Equal = 9 -/
def f_custodylaw02_HashEqualIsEquality_r0 : ACode :=
  .seq (
    .region [5, 6] [] [
      ⟨(some 19), none, .mv false (.s 0)⟩,
      ⟨(some 20), none, .mv false (.s 1)⟩,
      ⟨(some 21), none, .call 9 [(.s 19), (.s 20)] []⟩,
      ⟨(some 6), none, .mv false (.s 21)⟩]) (
  .seq (
    .region [5, 6, 7] [] [
      ⟨(some 22), none, .mv false (.s 1)⟩,
      ⟨(some 23), none, .mv false (.s 0)⟩,
      ⟨(some 24), none, .call 9 [(.s 22), (.s 23)] []⟩,
      ⟨(some 7), none, .mv false (.s 24)⟩]) (
  .seq (
    .region [5, 6, 7, 8] [] [
      ⟨(some 25), none, .mv false (.s 0)⟩,
      ⟨(some 26), none, .mv false (.s 0)⟩,
      ⟨(some 27), none, .bin .add (.s 26) (.c (st []))⟩,
      ⟨(some 28), none, .call 9 [(.s 25), (.s 27)] []⟩,
      ⟨(some 8), none, .mv false (.s 28)⟩]) (
  .seq (
    .region [4] [] [
      ⟨(some 29), none, .mv false (.s 5)⟩,
      ⟨(some 30), none, .mv false (.s 29)⟩,
      ⟨(some 31), (some (30, true)), .mv false (.s 6)⟩,
      ⟨(some 32), (some (30, true)), .mv false (.s 0)⟩,
      ⟨(some 33), (some (30, true)), .mv false (.s 1)⟩,
      ⟨(some 34), (some (30, true)), .bin .eql (.s 32) (.s 33)⟩,
      ⟨(some 35), (some (30, true)), .eqb false (.s 31) (.s 34)⟩,
      ⟨(some 36), none, .pick (.s 30) (.s 35) (.c (bo false))⟩,
      ⟨(some 37), none, .mv false (.s 36)⟩,
      ⟨(some 38), (some (37, true)), .mv false (.s 7)⟩,
      ⟨(some 39), (some (37, true)), .mv false (.s 6)⟩,
      ⟨(some 40), (some (37, true)), .eqb false (.s 38) (.s 39)⟩,
      ⟨(some 41), none, .pick (.s 37) (.s 40) (.c (bo false))⟩,
      ⟨(some 42), none, .mv false (.s 41)⟩,
      ⟨(some 43), (some (42, true)), .mv false (.s 8)⟩,
      ⟨(some 44), none, .pick (.s 42) (.s 43) (.c (bo false))⟩,
      ⟨(some 4), none, .mv false (.s 44)⟩]) (
  .ret))))
def f_custodylaw02_HashEqualIsEquality : AFun :=
 { n := 2, wr := [], res := [.t 4], body :=
    .seq (
      .region [] [] [
        ⟨(some 4), none, .mv false (.c (bo false))⟩]) (
    .seq (
      .region [5] [] [
        ⟨(some 9), none, .call 14 [] []⟩,
        ⟨(some 5), none, .mv false (.s 9)⟩]) (
    .seq (
      .seq (
        .region [5, 17] [] [
          ⟨(some 10), none, .mv false (.s 0)⟩,
          ⟨(some 11), none, .len true (.s 10)⟩,
          ⟨(some 12), none, .bin .gtr (.s 11) (.c (i64 400))⟩,
          ⟨(some 13), none, .mv false (.s 12)⟩,
          ⟨(some 14), (some (13, false)), .mv false (.s 1)⟩,
          ⟨(some 15), (some (13, false)), .len true (.s 14)⟩,
          ⟨(some 16), (some (13, false)), .bin .gtr (.s 15) (.c (i64 400))⟩,
          ⟨(some 17), none, .pick (.s 13) (.c (bo true)) (.s 16)⟩]) (
      .cond (.s 17) (
        .seq (
          .region [4] [] [
            ⟨(some 18), none, .mv false (.s 5)⟩,
            ⟨(some 4), none, .mv false (.s 18)⟩]) (
        .ret)) (
        .ghost (.keep [5]) .skip))) (
    f_custodylaw02_HashEqualIsEquality_r0))) }

/-- custody custodylaw02.sanity = 14; calls hash.Stream).Add = 1, hash.Stream).Sum = 2, custodylaw02.hex = 22, custodyref02.Bytes32 = 19, custodyref02.Text = 23, hash.Begin = 0, hash.Equal = 9, hash.Mac = 6, hash.Of = 8, hash.Sum = 3 -/
def f_custodylaw02_sanity : AFun :=
 { n := 0, wr := [], res := [.t 0], body :=
    .seq (
      .region [] [] [
        ⟨(some 0), none, .mv false (.c (bo false))⟩]) (
    .seq (
      .region [1] [.norm [1]] [
        ⟨(some 7), none, .buildSl 1 3 [u8 0, u8 0, u8 0] [(0, 1, (.c (u8 97))), (1, 1, (.c (u8 98))), (2, 1, (.c (u8 99)))]⟩,
        ⟨(some 8), none, .mark 7⟩,
        ⟨(some 9), none, .call 3 [(.s 8)] []⟩,
        ⟨(some 1), none, .alloc 1 (bys (zeros 32))⟩,
        ⟨none, none, .store (some 32) 1 false (.s 1) (.s 9)⟩]) (
    .seq (
      .region [1, 2] [.norm [1, 2]] [
        ⟨(some 10), none, .call 0 [] []⟩,
        ⟨(some 11), none, .call 1 [(.s 10), (.c (st [97]))] []⟩,
        ⟨(some 12), none, .call 1 [(.s 11), (.c (st [98, 99]))] []⟩,
        ⟨(some 13), none, .call 2 [(.s 12)] []⟩,
        ⟨(some 2), none, .alloc 2 (bys (zeros 32))⟩,
        ⟨none, none, .store (some 32) 2 false (.s 2) (.s 13)⟩]) (
    .seq (
      .region [1, 2, 3] [.norm [1, 2, 3]] [
        ⟨(some 14), none, .buildSl 1 2 [st [], st []] [(0, 1, (.c (st [97]))), (1, 1, (.c (st [])))]⟩,
        ⟨(some 15), none, .call 8 [(.c (i64 8)), (.s 14)] []⟩,
        ⟨(some 3), none, .alloc 3 (bys (zeros 16))⟩,
        ⟨none, none, .store (some 16) 3 false (.s 3) (.s 15)⟩]) (
    .seq (
      .region [1, 2, 3, 4] [] [
        ⟨(some 16), none, .call 6 [(.c (st [74, 101, 102, 101])), (.c (st [119, 104, 97, 116, 32, 100, 111, 32, 121, 97, 32, 119, 97, 110, 116, 32, 102, 111, 114, 32, 110, 111, 116, 104, 105, 110, 103, 63]))] []⟩,
        ⟨(some 4), none, .mv false (.s 16)⟩]) (
    .seq (
      .region [1, 2, 3, 4, 5] [] [
        ⟨(some 17), none, .call 9 [(.c (st [97, 98])), (.c (st [97, 98]))] []⟩,
        ⟨(some 5), none, .mv false (.s 17)⟩]) (
    .seq (
      .region [1, 2, 3, 4, 5, 6] [] [
        ⟨(some 18), none, .call 9 [(.c (st [97, 98])), (.c (st [97, 99]))] []⟩,
        ⟨(some 19), none, .mv false (.s 18)⟩,
        ⟨(some 20), (some (19, false)), .call 9 [(.c (st [])), (.c (st [97]))] []⟩,
        ⟨(some 21), none, .pick (.s 19) (.c (bo true)) (.s 20)⟩,
        ⟨(some 6), none, .mv false (.s 21)⟩]) (
    .seq (
      .region [0] [.norm [1, 2, 3]] [
        ⟨(some 22), none, .load (some 32) (some 1) false (.s 1)⟩,
        ⟨(some 23), none, .call 19 [(.s 22)] []⟩,
        ⟨(some 24), none, .call 22 [(.s 23)] []⟩,
        ⟨(some 25), none, .bin .eql (.s 24) (.c (st [98, 97, 55, 56, 49, 54, 98, 102, 56, 102, 48, 49, 99, 102, 101, 97, 52, 49, 52, 49, 52, 48, 100, 101, 53, 100, 97, 101, 50, 50, 50, 51, 98, 48, 48, 51, 54, 49, 97, 51, 57, 54, 49, 55, 55, 97, 57, 99, 98, 52, 49, 48, 102, 102, 54, 49, 102, 50, 48, 48, 49, 53, 97, 100]))⟩,
        ⟨(some 26), none, .mv false (.s 25)⟩,
        ⟨(some 27), (some (26, true)), .load (some 32) (some 1) false (.s 1)⟩,
        ⟨(some 28), (some (26, true)), .load (some 32) (some 2) false (.s 2)⟩,
        ⟨(some 29), (some (26, true)), .eqF (ks8 32) false (.s 27) (.s 28)⟩,
        ⟨(some 30), none, .pick (.s 26) (.s 29) (.c (bo false))⟩,
        ⟨(some 31), none, .mv false (.s 30)⟩,
        ⟨(some 32), (some (31, true)), .mv false (.s 4)⟩,
        ⟨(some 33), (some (31, true)), .call 22 [(.s 32)] []⟩,
        ⟨(some 34), (some (31, true)), .bin .eql (.s 33) (.c (st [53, 98, 100, 99, 99, 49, 52, 54, 98, 102, 54, 48, 55, 53, 52, 101, 54, 97, 48, 52, 50, 52, 50, 54, 48, 56, 57, 53, 55, 53, 99, 55, 53, 97, 48, 48, 51, 102, 48, 56, 57, 100, 50, 55, 51, 57, 56, 51, 57, 100, 101, 99, 53, 56, 98, 57, 54, 52, 101, 99, 51, 56, 52, 51]))⟩,
        ⟨(some 35), none, .pick (.s 31) (.s 34) (.c (bo false))⟩,
        ⟨(some 36), none, .mv false (.s 35)⟩,
        ⟨(some 37), (some (36, true)), .load (some 16) (some 3) false (.s 3)⟩,
        ⟨(some 38), (some (36, true)), .call 23 [(.s 37)] []⟩,
        ⟨(some 39), (some (36, true)), .call 22 [(.s 38)] []⟩,
        ⟨(some 40), (some (36, true)), .bin .eql (.s 39) (.c (st [51, 54, 99, 100, 53, 48, 56, 53, 48, 51, 50, 57, 102, 56, 56, 52, 48, 54, 101, 51, 49, 98, 98, 56, 97, 55, 100, 56, 102, 98, 54, 50]))⟩,
        ⟨(some 41), none, .pick (.s 36) (.s 40) (.c (bo false))⟩,
        ⟨(some 42), none, .mv false (.s 41)⟩,
        ⟨(some 43), (some (42, true)), .mv false (.s 5)⟩,
        ⟨(some 44), none, .pick (.s 42) (.s 43) (.c (bo false))⟩,
        ⟨(some 45), none, .mv false (.s 44)⟩,
        ⟨(some 46), (some (45, true)), .mv false (.s 6)⟩,
        ⟨(some 47), (some (45, true)), .un .not (.s 46)⟩,
        ⟨(some 48), none, .pick (.s 45) (.s 47) (.c (bo false))⟩,
        ⟨(some 0), none, .mv false (.s 48)⟩]) (
    .ret)))))))) }

/-- custody custodylaw02.hex = 22; calls  -/
def f_custodylaw02_hex_r0 : ACode :=
  .seq (
    .block 1 (
      .region [3, 4, 5] [] [
        ⟨(some 12), none, .mv true (.s 4)⟩,
        ⟨(some 13), none, .mv false (.s 3)⟩,
        ⟨(some 14), none, .mv false (.s 0)⟩,
        ⟨(some 15), none, .mv false (.s 5)⟩,
        ⟨(some 16), none, .idxStr (.s 14) (.s 15)⟩,
        ⟨(some 17), none, .bin .quo (.s 16) (.c (u8 16))⟩,
        ⟨(some 18), none, .idxStr (.s 13) (.s 17)⟩,
        ⟨(some 19), none, .mv false (.s 3)⟩,
        ⟨(some 20), none, .mv false (.s 0)⟩,
        ⟨(some 21), none, .mv false (.s 5)⟩,
        ⟨(some 22), none, .idxStr (.s 20) (.s 21)⟩,
        ⟨(some 23), none, .bin .rem (.s 22) (.c (u8 16))⟩,
        ⟨(some 24), none, .idxStr (.s 19) (.s 23)⟩,
        ⟨(some 25), none, .buildSl 1 2 [u8 0, u8 0] [(0, 1, (.s 18)), (1, 1, (.s 24))]⟩,
        ⟨(some 26), none, .append 1 1 false none none 12 (.s 25)⟩,
        ⟨(some 4), none, .mv true (.s 26)⟩])) (
  .region [3, 4, 5] [] [
    ⟨(some 10), none, .mv false (.s 5)⟩,
    ⟨(some 11), none, .bin .add (.s 10) (.c (i64 1))⟩,
    ⟨(some 5), none, .mv false (.s 11)⟩])
def f_custodylaw02_hex_l0 : ACode :=
  .seq (
    .seq (
      .region [3, 4, 5, 9] [] [
        ⟨(some 6), none, .mv false (.s 5)⟩,
        ⟨(some 7), none, .mv false (.s 0)⟩,
        ⟨(some 8), none, .len true (.s 7)⟩,
        ⟨(some 9), none, .bin .lss (.s 6) (.s 8)⟩]) (
    .cond (.s 9) (
      .ghost (.keep [3, 4, 5]) .skip) (
      .ghost (.keep [4]) (.exit 0)))) (
  f_custodylaw02_hex_r0)
def f_custodylaw02_hex_r1 : ACode :=
  .seq (
    .region [2] [] [
      ⟨(some 27), none, .mv true (.s 4)⟩,
      ⟨(some 28), none, .toStr none (.s 27)⟩,
      ⟨(some 2), none, .mv false (.s 28)⟩]) (
  .ret)
def f_custodylaw02_hex : AFun :=
 { n := 1, wr := [], res := [.t 2], body :=
    .seq (
      .region [] [] [
        ⟨(some 2), none, .mv false (.c (st []))⟩]) (
    .seq (
      .region [3] [] [
        ⟨(some 3), none, .mv false (.c (st [48, 49, 50, 51, 52, 53, 54, 55, 56, 57, 97, 98, 99, 100, 101, 102]))⟩]) (
    .seq (
      .region [3, 4] [] [
        ⟨(some 4), none, .mv true (.c (.sl (.own 1) none 0 []))⟩]) (
    .seq (
      .seq (
        .region [3, 4, 5] [] [
          ⟨(some 5), none, .mv false (.c (i64 0))⟩]) (
      .block 0 (
        .loop f_custodylaw02_hex_l0))) (
    f_custodylaw02_hex_r1)))) }

end Go.Abs
end

section
namespace Go.Abs
theorem law_Equal_ok (E : Env) (h14 : E.G 14 = sanC) (h9 : E.G 9 = equalC) : ∀ ds, lawEqual.pre ds → ds.length = f_custodylaw02_HashEqualIsEquality.n ∧ awp E f_custodylaw02_HashEqualIsEquality.body (retQ f_custodylaw02_HashEqualIsEquality.res (lawEqual.post ds)) (initSt f_custodylaw02_HashEqualIsEquality.wr ds) := by
  rintro _ ⟨a, b, rfl⟩
  by_cases ha : 400 < a.length
  · simp (disch := first | omega | (simp; done) | (simp; omega)) [W_id, bys_app, bys_snoc, f_custodylaw02_HashEqualIsEquality, h14, lawEqual, trueC, dT, dF]
    rw [awp_cond]
    refine ⟨by simp, fun h => ?_, fun h => ?_⟩ <;> simp at h
    simp
  by_cases hb : 400 < b.length
  · simp (disch := first | omega | (simp; done) | (simp; omega)) [W_id, bys_app, bys_snoc, f_custodylaw02_HashEqualIsEquality, h14, lawEqual, trueC, dT, dF]
    rw [awp_cond]
    refine ⟨by simp, fun h => ?_, fun h => ?_⟩ <;> simp at h
    simp
  simp (disch := first | omega | (simp; done) | (simp; omega)) [W_id, bys_app, bys_snoc, f_custodylaw02_HashEqualIsEquality, h14, lawEqual, trueC, dT, dF]
  rw [awp_cond]
  refine ⟨by simp, fun h => ?_, fun h => ?_⟩ <;> simp at h
  by_cases hab : a = b
  · subst hab
    simp (disch := first | omega | (simp; done) | (simp; omega)) [W_id, bys_app, bys_snoc, f_custodylaw02_HashEqualIsEquality_r0, h9, equal_pre]
    omega
  · have h1 : (a == b) = false := by simpa using hab
    have h2 : (b == a) = false := by simp; exact fun e => hab e.symm
    simp (disch := first | omega | (simp; done) | (simp; omega)) [W_id, bys_app, bys_snoc, f_custodylaw02_HashEqualIsEquality_r0, h9, equal_pre, h1, h2, hab]
    omega
theorem law_Mac_ok (E : Env) (h14 : E.G 14 = sanC) (h6 : E.G 6 = macC) (h18 : E.G 18 = rmacC) : ∀ ds, lawMac.pre ds → ds.length = f_custodylaw02_HashMacMatchesSpec.n ∧ awp E f_custodylaw02_HashMacMatchesSpec.body (retQ f_custodylaw02_HashMacMatchesSpec.res (lawMac.post ds)) (initSt f_custodylaw02_HashMacMatchesSpec.wr ds) := by
  rintro _ ⟨a, b, rfl⟩
  by_cases ha : 400 < a.length
  · simp (disch := first | omega | (simp; done) | (simp; omega)) [W_id, bys_app, bys_snoc, f_custodylaw02_HashMacMatchesSpec, h14, lawMac, trueC, dT, dF]
    rw [awp_cond]
    refine ⟨by simp, fun h => ?_, fun h => ?_⟩ <;> simp at h
    simp
  by_cases hb : 400 < b.length
  · simp (disch := first | omega | (simp; done) | (simp; omega)) [W_id, bys_app, bys_snoc, f_custodylaw02_HashMacMatchesSpec, h14, lawMac, trueC, dT, dF]
    rw [awp_cond]
    refine ⟨by simp, fun h => ?_, fun h => ?_⟩ <;> simp at h
    simp
  simp (disch := first | omega | (simp; done) | (simp; omega)) [W_id, bys_app, bys_snoc, f_custodylaw02_HashMacMatchesSpec, h14, lawMac, trueC, dT, dF]
  rw [awp_cond]
  refine ⟨by simp, fun h => ?_, fun h => ?_⟩ <;> simp at h
  simp (disch := first | omega | (simp; done) | (simp; omega)) [W_id, bys_app, bys_snoc, f_custodylaw02_HashMacMatchesSpec_r0, h6, h18, mac_pre, rmac_pre]
theorem law_Sum_ok (E : Env) (h14 : E.G 14 = sanC) (h3 : E.G 3 = hsumC) (h15 : E.G 15 = rsumC) : ∀ ds, lawSum.pre ds → ds.length = f_custodylaw02_HashSumMatchesSpec.n ∧ awp E f_custodylaw02_HashSumMatchesSpec.body (retQ f_custodylaw02_HashSumMatchesSpec.res (lawSum.post ds)) (initSt f_custodylaw02_HashSumMatchesSpec.wr ds) := by
  rintro _ ⟨nl, b, rfl⟩
  simp (disch := first | omega | (simp; done) | (simp; omega)) [W_id, bys_app, bys_snoc, f_custodylaw02_HashSumMatchesSpec, h14, lawSum, trueC]
  rw [awp_cond]
  refine ⟨by simp, fun h => ?_, fun h => ?_⟩ <;> simp at h
  · simp
  simp (disch := first | omega | (simp; done) | (simp; omega)) [W_id, bys_app, bys_snoc, f_custodylaw02_HashSumMatchesSpec_r0, h3, h15, hsum_pre, rsum_pre, splice_bys0, List.take_of_length_le, eqCells_ks8]
theorem hex_ok (E : Env) : ∀ ds, hexC.pre ds → ds.length = f_custodylaw02_hex.n ∧ awp E f_custodylaw02_hex.body (retQ f_custodylaw02_hex.res (hexC.post ds)) (initSt f_custodylaw02_hex.wr ds) := by
  rintro _ ⟨s, hs, rfl⟩
  simp (disch := first | omega | (simp; done) | (simp; omega)) [W_id, bys_app, bys_snoc, f_custodylaw02_hex]
  refine awp_name fun Q0 hQ0 => ?_
  refine awp_for (fun i : Nat => ⟨[(0, st s)], [(3, st [48, 49, 50, 51, 52, 53, 54, 55, 56, 57, 97, 98, 99, 100, 101, 102]), (4, .sl (.own 1) none (hexOf (s.take i)).length (bys (hexOf (s.take i)))), (5, i64 i)], []⟩)
    (fun i => s.length - i) (· ≤ s.length) 0 rfl (by simp) fun i hi => ?_
  refine awp_name fun Q1 hQ1 => ?_
  simp (disch := first | omega | (simp; done) | (simp; omega)) [W_id, bys_app, bys_snoc, f_custodylaw02_hex_l0]
  rw [awp_cond]
  refine ⟨by simp, fun h => ?_, fun h => ?_⟩ <;> simp at h
  · have hi' : i < s.length := by omega
    have h1 : (hexOf (s.take i)).length = 2 * i := by rw [hexOf_len, List.length_take]; omega
    have h2 : hexOf (s.take (i + 1)) = hexOf (s.take i) ++ [dig (at8 s i / 16), dig (at8 s i % 16)] := by
      rw [hexOf, hexOf, flatMap_take_succ _ _ 0 hi']; rfl
    simp (disch := first | omega | (simp; done) | (simp; omega)) [W_id, bys_app, bys_snoc, f_custodylaw02_hex_r0]
    have hc := (at8 s i).toNat_lt
    simp only [getD_at8, getElem_at8, hQ1]
    repeat' (first | omega | apply And.intro)
    have e1 : (((at8 s i).toNat : Int) / 16).toNat = (at8 s i / 16).toNat := by rw [UInt8.toNat_div, show (16 : UInt8).toNat = 16 from rfl]; omega
    have e2 : (((at8 s i).toNat : Int) % 16).toNat = (at8 s i % 16).toNat := by rw [UInt8.toNat_mod, show (16 : UInt8).toNat = 16 from rfl]; omega
    simp
    refine ⟨i + 1, by omega, by omega, ?_, by omega⟩
    rw [h2, e1, e2, bys_append]
    simp [bys, dig]
  · have e : i = s.length := by omega
    subst e
    simp [hQ1, hQ0, f_custodylaw02_hex_r1]
end Go.Abs
end

section
namespace Go.Abs
theorem keyOf_len (k : List UInt8) : (keyOf k).length ≤ 64 := by
  unfold keyOf; split
  · simp
  · omega
theorem mac_long {a : List UInt8} (b : List UInt8) (h : 64 < a.length) : mac (sha a) b = mac a b := by
  have e : keyOf (sha a) = keyOf a := by
    have hs := sha_len a
    rw [keyOf, if_neg (by omega), keyOf, if_pos h]
  rw [mac, mac, e]
theorem mac_short {a : List UInt8} (b : List UInt8) (h : a.length < 64) : mac (a ++ [0]) b = mac a b := by
  have e : ∀ w, padK (keyOf (a ++ [0])) w = padK (keyOf a) w := fun w => by
    rw [keyOf, if_neg (by simp; omega), keyOf, if_neg (by omega), padK, padK, List.take_of_length_le (by simp; omega), List.take_of_length_le (by omega), List.append_assoc]
    congr 2
    rw [show 64 - a.length = (64 - (a ++ [0]).length) + 1 by simp; omega]
    rfl
  simp only [mac, e]
theorem mac_len (a b : List UInt8) : (mac a b).length = 32 := sha_len _
theorem and255 (n : Int) : andI n 255 = n % 256 := by
  unfold andI
  have h : (BitVec.ofInt 64 n &&& BitVec.ofInt 64 255).toNat = (n % 18446744073709551616).toNat % 256 := by
    rw [BitVec.toNat_and, BitVec.toNat_ofInt]
    have : (BitVec.ofInt 64 255).toNat = 2 ^ 8 - 1 := by decide
    rw [this, Nat.and_two_pow_sub_one_eq_mod]
    rfl
  rw [h, W_id (by omega) (by omega)]
  omega
theorem digOf_and (tag : Int) (l : List (List UInt8)) : digOf (andI tag 255) l = digOf tag l := by
  have : UInt8.ofInt (tag % 256) = UInt8.ofInt tag := by
    apply UInt8.toNat_inj.1
    rw [ofInt8, ofInt8]
    omega
  simp only [digOf, inpOf, and255, this]
theorem law_MacKeys_ok (E : Env) (h14 : E.G 14 = sanC) (h6 : E.G 6 = macC) (h3 : E.G 3 = hsumC) (h19 : E.G 19 = text32C) : ∀ ds, lawMac.pre ds → ds.length = f_custodylaw02_HashMacKeys.n ∧ awp E f_custodylaw02_HashMacKeys.body (retQ f_custodylaw02_HashMacKeys.res (lawMac.post ds)) (initSt f_custodylaw02_HashMacKeys.wr ds) := by
  rintro _ ⟨a, b, rfl⟩
  by_cases ha : 400 < a.length
  · simp (disch := first | omega | (simp; done) | (simp; omega)) [W_id, bys_app, bys_snoc, f_custodylaw02_HashMacKeys, h14, lawMac, trueC, dT, dF]
    rw [awp_cond]
    refine ⟨by simp, fun h => ?_, fun h => ?_⟩ <;> simp at h
    simp
  by_cases hb : 400 < b.length
  · simp (disch := first | omega | (simp; done) | (simp; omega)) [W_id, bys_app, bys_snoc, f_custodylaw02_HashMacKeys, h14, lawMac, trueC, dT, dF]
    rw [awp_cond]
    refine ⟨by simp, fun h => ?_, fun h => ?_⟩ <;> simp at h
    simp
  simp (disch := first | omega | (simp; done) | (simp; omega)) [W_id, bys_app, bys_snoc, f_custodylaw02_HashMacKeys, h14, lawMac, trueC, dT, dF]
  rw [awp_cond]
  refine ⟨by simp, fun h => ?_, fun h => ?_⟩ <;> simp at h
  simp (disch := first | omega | (simp; done) | (simp; omega)) [W_id, bys_app, bys_snoc, f_custodylaw02_HashMacKeys_r0, h6, mac_pre]
  rw [awp_cond]
  refine ⟨by simp, fun h2 => ?_, fun h2 => ?_⟩ <;> simp at h2
  · simp (disch := first | omega | (simp; done) | (simp; omega)) [W_id, bys_app, bys_snoc, h3, h19, hsum_pre, text32_pre, h6, mac_pre, mac_long b (show 64 < a.length by omega)]
  · simp (disch := first | omega | (simp; done) | (simp; omega)) [W_id, bys_app, bys_snoc, f_custodylaw02_HashMacKeys_r1]
    rw [awp_cond]
    refine ⟨by simp, fun h4 => ?_, fun h4 => ?_⟩ <;> simp at h4
    · simp (disch := first | omega | (simp; done) | (simp; omega)) [W_id, bys_app, bys_snoc, h6, mac_pre, mac_short b (show a.length < 64 by omega)]
      omega
    · simp (disch := first | omega | (simp; done) | (simp; omega)) [W_id, bys_app, bys_snoc, f_custodylaw02_HashMacKeys_r2, mac_len]
theorem law_Of_ok (E : Env) (h14 : E.G 14 = sanC) (h8 : E.G 8 = ofC) (h16 : E.G 16 = fewC) (h20 : E.G 20 = rofC) : ∀ ds, lawOf.pre ds → ds.length = f_custodylaw02_HashOfMatchesSpec.n ∧ awp E f_custodylaw02_HashOfMatchesSpec.body (retQ f_custodylaw02_HashOfMatchesSpec.res (lawOf.post ds)) (initSt f_custodylaw02_HashOfMatchesSpec.wr ds) := by
  rintro _ ⟨tag, nl, l, ht0, ht1, rfl⟩
  simp (disch := first | omega | (simp; done) | (simp; omega)) [W_id, bys_app, bys_snoc, f_custodylaw02_HashOfMatchesSpec, h14, lawOf, trueC, h16, few_pre]
  rw [awp_cond]
  refine ⟨by simp, fun h => ?_, fun h => ?_⟩ <;> simp at h
  · simp
  have ht := few_tot h
  simp (disch := first | omega | (simp; done) | (simp; omega)) [W_id, bys_app, bys_snoc, f_custodylaw02_HashOfMatchesSpec_r0, h8, h20, of_pre, rof_pre, splice_bys0, List.take_of_length_le, eqCells_ks8, digOf_and]
theorem ev_a : hexOf (sha [97, 98, 99]) = [98, 97, 55, 56, 49, 54, 98, 102, 56, 102, 48, 49, 99, 102, 101, 97, 52, 49, 52, 49, 52, 48, 100, 101, 53, 100, 97, 101, 50, 50, 50, 51, 98, 48, 48, 51, 54, 49, 97, 51, 57, 54, 49, 55, 55, 97, 57, 99, 98, 52, 49, 48, 102, 102, 54, 49, 102, 50, 48, 48, 49, 53, 97, 100] := by kernel_rfl
theorem ev_m : hexOf (mac [74, 101, 102, 101] [119, 104, 97, 116, 32, 100, 111, 32, 121, 97, 32, 119, 97, 110, 116, 32, 102, 111, 114, 32, 110, 111, 116, 104, 105, 110, 103, 63]) = [53, 98, 100, 99, 99, 49, 52, 54, 98, 102, 54, 48, 55, 53, 52, 101, 54, 97, 48, 52, 50, 52, 50, 54, 48, 56, 57, 53, 55, 53, 99, 55, 53, 97, 48, 48, 51, 102, 48, 56, 57, 100, 50, 55, 51, 57, 56, 51, 57, 100, 101, 99, 53, 56, 98, 57, 54, 52, 101, 99, 51, 56, 52, 51] := by kernel_rfl
theorem ev_d : hexOf (digOf 8 [[97], []]) = [51, 54, 99, 100, 53, 48, 56, 53, 48, 51, 50, 57, 102, 56, 56, 52, 48, 54, 101, 51, 49, 98, 98, 56, 97, 55, 100, 56, 102, 98, 54, 50] := by kernel_rfl
set_option maxHeartbeats 4000000 in
theorem san_ok (E : Env) (h1 : E.G 1 = addC) (h2 : E.G 2 = sumC) (h22 : E.G 22 = hexC) (h19 : E.G 19 = text32C) (h23 : E.G 23 = text16C) (h0 : E.G 0 = beginC) (h9 : E.G 9 = equalC) (h6 : E.G 6 = macC) (h8 : E.G 8 = ofC) (h3 : E.G 3 = hsumC) : ∀ ds, sanC.pre ds → ds.length = f_custodylaw02_sanity.n ∧ awp E f_custodylaw02_sanity.body (retQ f_custodylaw02_sanity.res (sanC.post ds)) (initSt f_custodylaw02_sanity.wr ds) := by
  rintro _ rfl
  have l3 : [u8 97, u8 98, u8 99] = bys [97, 98, 99] := rfl
  have l2 : [st [97], st []] = sts [[97], []] := rfl
  have l2' : splice (sts [[97], []]) 1 [st []] = sts [[97], []] := rfl
  have ht : totS [[97], []] < 1099511000000 := by decide
  have hl := mac_len [74, 101, 102, 101] [119, 104, 97, 116, 32, 100, 111, 32, 121, 97, 32, 119, 97, 110, 116, 32, 102, 111, 114, 32, 110, 111, 116, 104, 105, 110, 103, 63]
  simp (disch := first | omega | (simp; done) | (simp; omega)) [W_id, bys_app, bys_snoc, f_custodylaw02_sanity, h1, h2, h22, h19, h23, h0, h9, h6, h8, h3, l3, l2, l2', ht, hsum_pre, sum_pre, text32_pre, text16_pre, hex_pre, mac_pre, of_pre, equal_pre, splice_bys0, List.take_of_length_le, eqCells_ks8, ev_a, ev_m, ev_d, hl]
  trivial
end Go.Abs
end

section
namespace Go.Abs
theorem inpOf_inj {t u : UInt8} {a b : List (List UInt8)} (ha : few a = true) (hb : few b = true) (h : inpOf t.toNat a = inpOf u.toNat b) : t = u ∧ a = b := by
  simp only [inpOf, List.cons.injEq] at h
  obtain ⟨h1, h2⟩ := h
  have e : ∀ x : UInt8, UInt8.ofInt (x.toNat : Int) = x := fun x => by
    apply UInt8.toNat_inj.1
    rw [ofInt8]
    have := x.toNat_lt
    omega
  rw [e, e] at h1
  refine ⟨h1, flatMap_encS_inj (fun s hs => ?_) (fun s hs => ?_) h2⟩
  · have := ((few_iff a).1 ha).2 s hs; omega
  · have := ((few_iff b).1 hb).2 s hs; omega
theorem take_snoc_eq {a b : List UInt8} {i : Nat} (ha : i < a.length) (hb : i < b.length) : decide (a.take (i + 1) = b.take (i + 1)) = (decide (a.take i = b.take i) && (at8 a i == at8 b i)) := by
  rw [Bool.eq_iff_iff]
  simp only [decide_eq_true_eq, Bool.and_eq_true, beq_iff_eq]
  rw [take8 ha, take8 hb]
  constructor
  · intro e
    have := List.append_inj' e rfl
    exact ⟨this.1, by simpa using this.2⟩
  · rintro ⟨e1, e2⟩
    rw [e1, e2]
set_option maxHeartbeats 4000000 in
theorem law_Sep_ok (E : Env) (h14 : E.G 14 = sanC) (h8 : E.G 8 = ofC) (h16 : E.G 16 = fewC) (h21 : E.G 21 = inputC) (h3 : E.G 3 = hsumC) : ∀ ds, lawSep.pre ds → ds.length = f_custodylaw02_HashOfSeparates.n ∧ awp E f_custodylaw02_HashOfSeparates.body (retQ f_custodylaw02_HashOfSeparates.res (lawSep.post ds)) (initSt f_custodylaw02_HashOfSeparates.wr ds) := by
  rintro _ ⟨t, na, nb, a, b, ht, rfl⟩
  obtain ⟨t0, t1, rfl⟩ : ∃ t0 t1, t = [t0, t1] := by
    match t, ht with
    | [x, y], _ => exact ⟨x, y, rfl⟩
  by_cases ha : few a = true
  case neg =>
    have ha' : few a = false := by simpa using ha
    simp (maxSteps := 1000000) (disch := first | omega | (simp; done) | (simp; omega)) [W_id, bys_app, bys_snoc, f_custodylaw02_HashOfSeparates, h14, lawSep, trueC, h16, few_pre, ha']
    rw [awp_cond]
    refine ⟨by simp, fun h => ?_, fun h => ?_⟩ <;> simp at h
    simp
  by_cases hb : few b = true
  case neg =>
    have hb' : few b = false := by simpa using hb
    simp (maxSteps := 1000000) (disch := first | omega | (simp; done) | (simp; omega)) [W_id, bys_app, bys_snoc, f_custodylaw02_HashOfSeparates, h14, lawSep, trueC, h16, few_pre, ha, hb']
    rw [awp_cond]
    refine ⟨by simp, fun h => ?_, fun h => ?_⟩ <;> simp at h
    simp
  simp (maxSteps := 1000000) (disch := first | omega | (simp; done) | (simp; omega)) [W_id, bys_app, bys_snoc, f_custodylaw02_HashOfSeparates, h14, lawSep, trueC, h16, few_pre, ha, hb]
  rw [awp_cond]
  refine ⟨by simp, fun h => ?_, fun h => ?_⟩ <;> simp at h
  have hta := few_tot ha
  have htb := few_tot hb
  have hal := ((few_iff a).1 ha).1
  have hbl := ((few_iff b).1 hb).1
  have key : ∀ s : Bool, (s = true → t0 = t1 ∧ a.length = b.length) → (t0 = t1 ∧ a = b → s = true) → awp E f_custodylaw02_HashOfSeparates_l0.loop (blockQ 0 (thenQ (awp E f_custodylaw02_HashOfSeparates_r2 (retQ [ARes.t 6] (bo true))) (retQ [ARes.t 6] (bo true))))
      ⟨[(0, .agg (bys [t0, t1])), (1, .sl .plain na a.length (sts a)), (2, .sl .plain nb b.length (sts b))], [(3, .bp 3 0), (7, bo true), (8, bo s), (9, i64 0)], [(3, some (bys [t0, t1]))]⟩ := by
    intro s hs1 hs2
    refine awp_name fun Q0 hQ0 => ?_
    refine awp_for (fun p : Nat × Bool => ⟨[(0, .agg (bys [t0, t1])), (1, .sl .plain na a.length (sts a)), (2, .sl .plain nb b.length (sts b))], [(3, .bp 3 0), (7, bo true), (8, bo p.2), (9, i64 p.1)], [(3, some (bys [t0, t1]))]⟩)
      (fun p => a.length - p.1) (fun p => p.1 ≤ a.length ∧ (p.2 = true → t0 = t1 ∧ a.length = b.length ∧ a.take p.1 = b.take p.1) ∧ (t0 = t1 ∧ a = b → p.2 = true)) (0, s) rfl (by simp; exact ⟨hs1, fun h1 h2 => hs2 ⟨h1, h2⟩⟩) fun p hp => ?_
    obtain ⟨i, s⟩ := p
    obtain ⟨hi, hp1, hp2⟩ := hp
    simp only at hi hp1 hp2
    clear hs1 hs2
    have fin : s = false ∨ i = a.length → Q0 (.exit 0) ⟨[(0, .agg (bys [t0, t1])), (1, .sl .plain na a.length (sts a)), (2, .sl .plain nb b.length (sts b))], [(3, .bp 3 0), (7, bo true), (8, bo s)], [(3, some (bys [t0, t1]))]⟩ := by
      intro hf
      have hx := len_flatMap_encS (l := a) (by omega)
      have hy := len_flatMap_encS (l := b) (by omega)
      have hx' : (inpOf t0.toNat a).length ≤ 5001 := by simp only [inpOf, List.length_cons]; omega
      have hy' : (inpOf t1.toNat b).length ≤ 5001 := by simp only [inpOf, List.length_cons]; omega
      simp (maxSteps := 1000000) (disch := first | omega | (simp; done) | (simp; omega)) [W_id, bys_app, bys_snoc, hQ0, f_custodylaw02_HashOfSeparates_r2, h21, input_pre]
      cases s with
      | true =>
        have e : i = a.length := by simpa using hf
        obtain ⟨e1, e2, e3⟩ := hp1 rfl
        rw [e, List.take_length, e2, List.take_length] at e3
        subst e1
        subst e3
        rw [awp_cond]
        refine ⟨by simp, fun h5 => ?_, fun h5 => ?_⟩ <;> simp at h5
        simp
      | false =>
        have hne : inpOf t0.toNat a ≠ inpOf t1.toNat b := fun h => by
          have := hp2 (inpOf_inj ha hb h)
          cases this
        rw [awp_cond]
        refine ⟨by simp, fun h5 => ?_, fun h5 => ?_⟩ <;> simp at h5
        have hs1 := sha_len (inpOf t0.toNat a)
        have hs2 := sha_len (inpOf t1.toNat b)
        have hd1 : ∀ t : UInt8, ∀ a, digOf t.toNat a = (sha (inpOf t.toNat a)).take 16 := fun t a => rfl
        simp (maxSteps := 1000000) (disch := first | omega | (simp; done) | (simp; omega)) [W_id, bys_app, bys_snoc, f_custodylaw02_HashOfSeparates_r3, h8, of_pre, h3, hsum_pre, splice_bys0]
        generalize hX : sha (inpOf t0.toNat a) = X at *
        generalize hY : sha (inpOf t1.toNat b) = Y at *
        refine awp_name fun Q3 hQ3 => ?_
        refine awp_for (fun j : Nat => ⟨[(0, .agg (bys [t0, t1])), (1, .sl .plain na a.length (sts a)), (2, .sl .plain nb b.length (sts b))],
            [(7, bo true), (10, .sl (.own 1) (some false) (inpOf t0.toNat a).length (bys (inpOf t0.toNat a))), (11, .sl (.own 1) (some false) (inpOf t1.toNat b).length (bys (inpOf t1.toNat b))), (12, .bp 12 0), (13, .bp 13 0), (14, .bp 14 0), (15, .bp 15 0), (16, bo (decide (X.take j = Y.take j))), (17, i64 j)],
            [(3, some (bys [t0, t1])), (12, some (bys (digOf t0.toNat a))), (13, some (bys (digOf t1.toNat b))), (14, some (bys X)), (15, some (bys Y))]⟩)
          (fun j => 16 - j) (· ≤ 16) 0 (by simp) (by simp) fun j hj => ?_
        refine awp_name fun Q4 hQ4 => ?_
        simp (maxSteps := 1000000) (disch := first | omega | (simp; done) | (simp; omega)) [W_id, bys_app, bys_snoc, f_custodylaw02_HashOfSeparates_l1]
        rw [awp_cond]
        refine ⟨by simp, fun h6 => ?_, fun h6 => ?_⟩ <;> simp at h6
        · have hstep := take_snoc_eq (a := X) (b := Y) (i := j) (by omega) (by omega)
          by_cases hc : X.take j = Y.take j
          · rw [decide_eq_true hc] at hstep ⊢
            simp (maxSteps := 1000000) (disch := first | omega | (simp; done) | (simp; omega)) [W_id, bys_app, bys_snoc, f_custodylaw02_HashOfSeparates_r4, hd_bys]
            repeat' (first | omega | apply And.intro)
            rw [hQ4]
            simp
            refine ⟨j + 1, by omega, by omega, ?_, by omega⟩
            rw [hstep, Bool.true_and]
          · rw [decide_eq_false hc] at hstep ⊢
            simp (maxSteps := 1000000) (disch := first | omega | (simp; done) | (simp; omega)) [W_id, bys_app, bys_snoc, f_custodylaw02_HashOfSeparates_r4, hd_bys]
            rw [hQ4]
            simp
            refine ⟨j + 1, by omega, by omega, ?_, by omega⟩
            intro h
            exact hc (by rw [take8 (by omega), take8 (by omega)] at h; exact (List.append_inj' h rfl).1)
        · have e : j = 16 := by omega
          subst e
          simp (maxSteps := 1000000) (disch := first | omega | (simp; done) | (simp; omega)) [W_id, bys_app, bys_snoc, hQ4, hQ3, f_custodylaw02_HashOfSeparates_r5, hne, List.take_of_length_le, eqCells_ks8, hd1, hX, hY]
    refine awp_name fun Q1 hQ1 => ?_
    simp (maxSteps := 1000000) (disch := first | omega | (simp; done) | (simp; omega)) [W_id, bys_app, bys_snoc, f_custodylaw02_HashOfSeparates_l0]
    by_cases hlt : i < a.length
    · simp (maxSteps := 1000000) (disch := first | omega | (simp; done) | (simp; omega)) [W_id, bys_app, bys_snoc, dT]
      rw [awp_cond]
      refine ⟨by simp, fun h3 => ?_, fun h3 => ?_⟩ <;> simp at h3
      · subst h3
        obtain ⟨e1, e2, e3⟩ := hp1 rfl
        have hb' : i < b.length := by omega
        simp (maxSteps := 1000000) (disch := first | omega | (simp; done) | (simp; omega)) [W_id, bys_app, bys_snoc, f_custodylaw02_HashOfSeparates_r1, hd_sts]
        refine ⟨by omega, by omega, by omega, by omega, ?_⟩
        rw [hQ1]
        simp only [thenQ]
        refine ⟨(i + 1, decide (atS a i = atS b i)), by simp; omega, ⟨by simp; omega, ?_, ?_⟩, by simp⟩
        · intro h
          refine ⟨e1, e2, ?_⟩
          rw [takeS hlt, takeS hb', e3, of_decide_eq_true h]
        · rintro ⟨_, e⟩
          simp [e]
      · simp (maxSteps := 1000000) (disch := first | omega | (simp; done) | (simp; omega)) [W_id, bys_app, bys_snoc, hQ1]
        exact fin (.inl (by simpa using h3))
    · simp (maxSteps := 1000000) (disch := first | omega | (simp; done) | (simp; omega)) [W_id, bys_app, bys_snoc, dF]
      rw [awp_cond]
      refine ⟨by simp, fun h3 => ?_, fun h3 => ?_⟩ <;> simp at h3
      simp (maxSteps := 1000000) (disch := first | omega | (simp; done) | (simp; omega)) [W_id, bys_app, bys_snoc, hQ1]
      exact fin (.inr (by omega))
  by_cases h01 : t0 = t1
  · by_cases hlen : a.length = b.length
    · subst h01
      have hlen' : ((a.length : Int) == (b.length : Int)) = true := by simp [hlen]
      simp (maxSteps := 1000000) (disch := first | omega | (simp; done) | (simp; omega)) [W_id, bys_app, bys_snoc, f_custodylaw02_HashOfSeparates_r0, hlen']
      exact key true (fun _ => ⟨rfl, hlen⟩) (fun _ => rfl)
    · have hlen' : ((a.length : Int) == (b.length : Int)) = false := by simp; omega
      subst h01
      simp (maxSteps := 1000000) (disch := first | omega | (simp; done) | (simp; omega)) [W_id, bys_app, bys_snoc, f_custodylaw02_HashOfSeparates_r0, hlen']
      exact key false (by simp) (fun h => absurd (congrArg List.length h.2) hlen)
  · have h01' : (t0 == t1) = false := by simpa using h01
    simp (maxSteps := 1000000) (disch := first | omega | (simp; done) | (simp; omega)) [W_id, bys_app, bys_snoc, f_custodylaw02_HashOfSeparates_r0, h01']
    exact key false (by simp) (fun h => absurd h.1 h01)
theorem law_Streams_ok (E : Env) (h1 : E.G 1 = addC) (h2 : E.G 2 = sumC) (h14 : E.G 14 = sanC) (h16 : E.G 16 = fewC) (h17 : E.G 17 = joinC) (h15 : E.G 15 = rsumC) (h0 : E.G 0 = beginC) (h3 : E.G 3 = hsumC) : ∀ ds, lawStreams.pre ds → ds.length = f_custodylaw02_HashStreamsAgree.n ∧ awp E f_custodylaw02_HashStreamsAgree.body (retQ f_custodylaw02_HashStreamsAgree.res (lawStreams.post ds)) (initSt f_custodylaw02_HashStreamsAgree.wr ds) := by
  rintro _ ⟨nl, l, other, c, rfl⟩
  by_cases hf : few l = true
  case neg =>
    have hf' : few l = false := by simpa using hf
    simp (maxSteps := 1000000) (disch := first | omega | (simp; done) | (simp; omega)) [W_id, bys_app, bys_snoc, f_custodylaw02_HashStreamsAgree, h14, lawStreams, trueC, h16, few_pre, hf']
    rw [awp_cond]
    refine ⟨by simp, fun h => ?_, fun h => ?_⟩ <;> simp at h
    simp
  by_cases ho : 400 < other.length
  · simp (maxSteps := 1000000) (disch := first | omega | (simp; done) | (simp; omega)) [W_id, bys_app, bys_snoc, f_custodylaw02_HashStreamsAgree, h14, lawStreams, trueC, h16, few_pre, hf, dT, dF]
    rw [awp_cond]
    refine ⟨by simp, fun h => ?_, fun h => ?_⟩ <;> simp at h
    simp
  simp (maxSteps := 1000000) (disch := first | omega | (simp; done) | (simp; omega)) [W_id, bys_app, bys_snoc, f_custodylaw02_HashStreamsAgree, h14, lawStreams, trueC, h16, few_pre, hf, dT, dF]
  rw [awp_cond]
  refine ⟨by simp, fun h => ?_, fun h => ?_⟩ <;> simp at h
  have ht := few_tot hf
  have h12 := ((few_iff l).1 hf).1
  have hcl := c.toNat_lt
  have ek : (c.toNat : Int).tmod (l.length + 1) = ((c.toNat % (l.length + 1) : Nat) : Int) := by rw [Int.tmod_eq_emod_of_nonneg (by omega)]; rfl
  have hkl : c.toNat % (l.length + 1) ≤ l.length := Nat.le_of_lt_succ (Nat.mod_lt _ (by omega))
  generalize c.toNat % (l.length + 1) = k at *
  simp (maxSteps := 1000000) (disch := first | omega | (simp; done) | (simp; omega)) [W_id, bys_app, bys_snoc, f_custodylaw02_HashStreamsAgree_r0, h0, ek]
  refine ⟨by omega, ?_⟩
  refine awp_name fun Q0 hQ0 => ?_
  refine awp_for (fun i : Nat => ⟨[(0, .sl .plain nl l.length (sts l)), (1, st other), (2, u8 c)], [(7, bo true), (8, i64 k), (9, .bp 9 0), (10, i64 i)], [(9, some (svc (l.take i).flatten))]⟩)
    (fun i => k - i) (· ≤ k) 0 (by simp) (by simp) fun i hi => ?_
  refine awp_name fun Q1 hQ1 => ?_
  simp (maxSteps := 1000000) (disch := first | omega | (simp; done) | (simp; omega)) [W_id, bys_app, bys_snoc, f_custodylaw02_HashStreamsAgree_l0]
  rw [awp_cond]
  refine ⟨by simp, fun h4 => ?_, fun h4 => ?_⟩ <;> simp at h4
  · simp (maxSteps := 1000000) (disch := first | omega | (simp; done) | (simp; omega)) [W_id, bys_app, bys_snoc, f_custodylaw02_HashStreamsAgree_r1, h1, hd_sts]
    refine ⟨by omega, by omega, ?_⟩
    rw [hQ1]
    simp
    refine ⟨i + 1, by omega, by omega, by omega, ?_⟩
    rw [flatS (by omega)]
  · have e : i = k := by omega
    subst e
    simp (maxSteps := 1000000) (disch := first | omega | (simp; done) | (simp; omega)) [W_id, bys_app, bys_snoc, hQ1, hQ0, f_custodylaw02_HashStreamsAgree_r2]
    refine awp_name fun Q2 hQ2 => ?_
    refine awp_for (fun j : Nat => ⟨[(0, .sl .plain nl l.length (sts l)), (1, st other), (2, u8 c)], [(7, bo true), (8, i64 i), (9, .bp 9 0), (11, .bp 11 0), (12, i64 j)], [(9, some (svc (l.take j).flatten)), (11, some (svc (l.take i).flatten))]⟩)
      (fun j => l.length - j) (fun j => j ≤ l.length) i (by simp) (by omega) fun j hj => ?_
    refine awp_name fun Q3 hQ3 => ?_
    simp (maxSteps := 1000000) (disch := first | omega | (simp; done) | (simp; omega)) [W_id, bys_app, bys_snoc, f_custodylaw02_HashStreamsAgree_l1]
    rw [awp_cond]
    refine ⟨by simp, fun h5 => ?_, fun h5 => ?_⟩ <;> simp at h5
    · simp (maxSteps := 1000000) (disch := first | omega | (simp; done) | (simp; omega)) [W_id, bys_app, bys_snoc, f_custodylaw02_HashStreamsAgree_r3, h1, hd_sts]
      refine ⟨by omega, by omega, ?_⟩
      rw [hQ3]
      simp
      refine ⟨j + 1, by omega, by omega, by omega, ?_⟩
      rw [flatS (by omega)]
    · have e : j = l.length := by omega
      subst e
      have hf1 := flat_le_tot l
      have hf2 := flat_le_tot (l.take i)
      have hf3 := totS_take l i
      have hs : ∀ x, (sha x).length = 32 := sha_len
      have hA : ((l.take i).flatten ++ other).length ≤ 5400 := by rw [List.length_append]; omega
      have hA' := hA
      simp at hA'
      simp (maxSteps := 1000000) (disch := first | omega | (simp; done) | (simp; omega)) [W_id, bys_app, bys_snoc, hQ3, hQ2, f_custodylaw02_HashStreamsAgree_r4, h1, h2, h17, h15, h3, join_pre, sum_pre, rsum_pre, hsum_pre, eqCells_ks8, List.take_of_length_le]
      omega
end Go.Abs
end
