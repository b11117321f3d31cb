/- Lemmas: an abstract interpreter, and what the functions compute. -/
import Derived.Test.YtdmindmelaemjaaC
import Derived.Test.YtdmindmelaemjaaD
set_option linter.unusedSimpArgs false
set_option linter.unusedVariables false
set_option linter.unusedSectionVars false
section
namespace Go.Abs
set_option maxRecDepth 100000
/-- custody custodyref01.Same = 38; calls  -/
def f_custodyref01_Same_r1 : ACode :=
  .seq (
    .block 1 (
      .seq (
        .region [5, 25] [] [
          ⟨(some 17), none, .mv false (.s 0)⟩,
          ⟨(some 18), none, .mv false (.s 5)⟩,
          ⟨(some 19), none, .idxSl 1 (.s 17) (.s 18)⟩,
          ⟨(some 20), none, .load none none false (.s 19)⟩,
          ⟨(some 21), none, .mv false (.s 1)⟩,
          ⟨(some 22), none, .mv false (.s 5)⟩,
          ⟨(some 23), none, .idxSl 1 (.s 21) (.s 22)⟩,
          ⟨(some 24), none, .load none none false (.s 23)⟩,
          ⟨(some 25), none, .bin .neq (.s 20) (.s 24)⟩]) (
      .cond (.s 25) (
        .seq (
          .region [4] [] [
            ⟨(some 4), none, .mv false (.c (bo false))⟩]) (
        .ret)) (
        .ghost (.keep [5]) .skip)))) (
  .region [5] [] [
    ⟨(some 15), none, .mv false (.s 5)⟩,
    ⟨(some 16), none, .bin .add (.s 15) (.c (i64 1))⟩,
    ⟨(some 5), none, .mv false (.s 16)⟩])
def f_custodyref01_Same_l0 : ACode :=
  .seq (
    .seq (
      .region [5, 14] [] [
        ⟨(some 11), none, .mv false (.s 5)⟩,
        ⟨(some 12), none, .mv false (.s 0)⟩,
        ⟨(some 13), none, .len false (.s 12)⟩,
        ⟨(some 14), none, .bin .lss (.s 11) (.s 13)⟩]) (
    .cond (.s 14) (
      .ghost (.keep [5]) .skip) (
      .ghost (.keep []) (.exit 0)))) (
  f_custodyref01_Same_r1)
def f_custodyref01_Same_r2 : ACode :=
  .seq (
    .region [4] [] [
      ⟨(some 4), none, .mv false (.c (bo true))⟩]) (
  .ret)
def f_custodyref01_Same_r0 : ACode :=
  .seq (
    .seq (
      .region [5] [] [
        ⟨(some 5), none, .mv false (.c (i64 0))⟩]) (
    .block 0 (
      .loop f_custodyref01_Same_l0))) (
  f_custodyref01_Same_r2)
def f_custodyref01_Same : AFun :=
 { n := 2, wr := [], res := [.t 4], body :=
    .seq (
      .region [] [] [
        ⟨(some 4), none, .mv false (.c (bo false))⟩]) (
    .seq (
      .seq (
        .region [10] [] [
          ⟨(some 6), none, .mv false (.s 0)⟩,
          ⟨(some 7), none, .len false (.s 6)⟩,
          ⟨(some 8), none, .mv false (.s 1)⟩,
          ⟨(some 9), none, .len false (.s 8)⟩,
          ⟨(some 10), none, .bin .neq (.s 7) (.s 9)⟩]) (
      .cond (.s 10) (
        .seq (
          .region [4] [] [
            ⟨(some 4), none, .mv false (.c (bo false))⟩]) (
        .ret)) (
        .ghost (.keep []) .skip))) (
    f_custodyref01_Same_r0)) }

/-- custody wire.Ints = 39; calls wire.Int = 12 -/
def f_wire_Ints_r0 : ACode :=
  .seq (
    .block 1 (
      .seq (
        .region [3, 5, 9, 10, 11] [] [
          ⟨(some 13), none, .idxSl 1 (.s 9) (.s 11)⟩,
          ⟨(some 14), none, .load none none false (.s 13)⟩,
          ⟨(some 5), none, .mv false (.s 14)⟩]) (
      .region [3, 9, 10, 11] [] [
        ⟨(some 15), none, .mv true (.s 3)⟩,
        ⟨(some 16), none, .mv false (.s 5)⟩,
        ⟨(some 17), none, .call 12 [(.s 16)] []⟩,
        ⟨(some 18), none, .append 1 1 false (some false) none 15 (.s 17)⟩,
        ⟨(some 3), none, .mv true (.s 18)⟩]))) (
  .region [3, 9, 10, 11] [] [
    ⟨(some 19), none, .bin .add (.s 11) (.c (i64 1))⟩,
    ⟨(some 11), none, .mv false (.s 19)⟩])
def f_wire_Ints_l0 : ACode :=
  .seq (
    .region [3, 9, 10, 11, 12] [] [
      ⟨(some 12), none, .bin .lss (.s 11) (.s 10)⟩]) (
  .seq (
    .cond (.s 12) (
      .ghost (.keep [3, 9, 10, 11]) .skip) (
      .ghost (.keep [3]) (.exit 0))) (
  f_wire_Ints_r0))
def f_wire_Ints_r1 : ACode :=
  .seq (
    .region [2] [] [
      ⟨(some 20), none, .mv true (.s 3)⟩,
      ⟨(some 2), none, .mv true (.s 20)⟩]) (
  .ret)
def f_wire_Ints : AFun :=
 { n := 1, wr := [], res := [.t 2], body :=
    .seq (
      .region [] [] [
        ⟨(some 2), none, .mv true (.c (.sl (.own 1) none 0 []))⟩]) (
    .seq (
      .region [3] [] [
        ⟨(some 6), none, .mv false (.s 0)⟩,
        ⟨(some 7), none, .len false (.s 6)⟩,
        ⟨(some 8), none, .call 12 [(.s 7)] []⟩,
        ⟨(some 3), none, .mv true (.s 8)⟩]) (
    .seq (
      .seq (
        .region [3, 9, 10, 11] [] [
          ⟨(some 9), none, .mv false (.s 0)⟩,
          ⟨(some 10), none, .len false (.s 9)⟩,
          ⟨(some 11), none, .mv false (.c (i64 0))⟩]) (
      .block 0 (
        .loop f_wire_Ints_l0))) (
    f_wire_Ints_r1))) }

/-- custody custodyref01.Ints = 40; calls custodyref01.Int = 30 -/
def f_custodyref01_Ints_r0 : ACode :=
  .seq (
    .block 1 (
      .region [3, 4] [] [
        ⟨(some 14), none, .mv true (.s 3)⟩,
        ⟨(some 15), none, .mv false (.s 0)⟩,
        ⟨(some 16), none, .mv false (.s 4)⟩,
        ⟨(some 17), none, .idxSl 1 (.s 15) (.s 16)⟩,
        ⟨(some 18), none, .load none none false (.s 17)⟩,
        ⟨(some 19), none, .call 30 [(.s 18)] []⟩,
        ⟨(some 20), none, .append 1 1 false none none 14 (.s 19)⟩,
        ⟨(some 3), none, .mv true (.s 20)⟩])) (
  .region [3, 4] [] [
    ⟨(some 12), none, .mv false (.s 4)⟩,
    ⟨(some 13), none, .bin .add (.s 12) (.c (i64 1))⟩,
    ⟨(some 4), none, .mv false (.s 13)⟩])
def f_custodyref01_Ints_l0 : ACode :=
  .seq (
    .seq (
      .region [3, 4, 11] [] [
        ⟨(some 8), none, .mv false (.s 4)⟩,
        ⟨(some 9), none, .mv false (.s 0)⟩,
        ⟨(some 10), none, .len false (.s 9)⟩,
        ⟨(some 11), none, .bin .lss (.s 8) (.s 10)⟩]) (
    .cond (.s 11) (
      .ghost (.keep [3, 4]) .skip) (
      .ghost (.keep [3]) (.exit 0)))) (
  f_custodyref01_Ints_r0)
def f_custodyref01_Ints_r1 : ACode :=
  .seq (
    .region [2] [] [
      ⟨(some 21), none, .mv true (.s 3)⟩,
      ⟨(some 2), none, .mv true (.s 21)⟩]) (
  .ret)
def f_custodyref01_Ints : AFun :=
 { n := 1, wr := [], res := [.t 2], body :=
    .seq (
      .region [] [] [
        ⟨(some 2), none, .mv true (.c (.sl (.own 1) none 0 []))⟩]) (
    .seq (
      .region [3] [] [
        ⟨(some 5), none, .mv false (.s 0)⟩,
        ⟨(some 6), none, .len false (.s 5)⟩,
        ⟨(some 7), none, .call 30 [(.s 6)] []⟩,
        ⟨(some 3), none, .mv true (.s 7)⟩]) (
    .seq (
      .seq (
        .region [3, 4] [] [
          ⟨(some 4), none, .mv false (.c (i64 0))⟩]) (
      .block 0 (
        .loop f_custodyref01_Ints_l0))) (
    f_custodyref01_Ints_r1))) }

/-- custody wire.Strings = 41; calls wire.Bytes = 7, wire.Int = 12 -/
def f_wire_Strings_r0 : ACode :=
  .seq (
    .block 1 (
      .seq (
        .region [3, 5, 9, 10, 11] [] [
          ⟨(some 13), none, .idxSl 1 (.s 9) (.s 11)⟩,
          ⟨(some 14), none, .load none none false (.s 13)⟩,
          ⟨(some 5), none, .mv false (.s 14)⟩]) (
      .region [3, 9, 10, 11] [] [
        ⟨(some 15), none, .mv true (.s 3)⟩,
        ⟨(some 16), none, .mv false (.s 5)⟩,
        ⟨(some 17), none, .call 7 [(.s 16)] []⟩,
        ⟨(some 18), none, .append 1 1 false (some false) none 15 (.s 17)⟩,
        ⟨(some 3), none, .mv true (.s 18)⟩]))) (
  .region [3, 9, 10, 11] [] [
    ⟨(some 19), none, .bin .add (.s 11) (.c (i64 1))⟩,
    ⟨(some 11), none, .mv false (.s 19)⟩])
def f_wire_Strings_l0 : ACode :=
  .seq (
    .region [3, 9, 10, 11, 12] [] [
      ⟨(some 12), none, .bin .lss (.s 11) (.s 10)⟩]) (
  .seq (
    .cond (.s 12) (
      .ghost (.keep [3, 9, 10, 11]) .skip) (
      .ghost (.keep [3]) (.exit 0))) (
  f_wire_Strings_r0))
def f_wire_Strings_r1 : ACode :=
  .seq (
    .region [2] [] [
      ⟨(some 20), none, .mv true (.s 3)⟩,
      ⟨(some 2), none, .mv true (.s 20)⟩]) (
  .ret)
def f_wire_Strings : AFun :=
 { n := 1, wr := [], res := [.t 2], body :=
    .seq (
      .region [] [] [
        ⟨(some 2), none, .mv true (.c (.sl (.own 1) none 0 []))⟩]) (
    .seq (
      .region [3] [] [
        ⟨(some 6), none, .mv false (.s 0)⟩,
        ⟨(some 7), none, .len false (.s 6)⟩,
        ⟨(some 8), none, .call 12 [(.s 7)] []⟩,
        ⟨(some 3), none, .mv true (.s 8)⟩]) (
    .seq (
      .seq (
        .region [3, 9, 10, 11] [] [
          ⟨(some 9), none, .mv false (.s 0)⟩,
          ⟨(some 10), none, .len false (.s 9)⟩,
          ⟨(some 11), none, .mv false (.c (i64 0))⟩]) (
      .block 0 (
        .loop f_wire_Strings_l0))) (
    f_wire_Strings_r1))) }

/-- custody custodyref01.Strings = 42; calls custodyref01.Bytes = 29, custodyref01.Int = 30 -/
def f_custodyref01_Strings_r0 : ACode :=
  .seq (
    .block 1 (
      .region [3, 4] [] [
        ⟨(some 14), none, .mv true (.s 3)⟩,
        ⟨(some 15), none, .mv false (.s 0)⟩,
        ⟨(some 16), none, .mv false (.s 4)⟩,
        ⟨(some 17), none, .idxSl 1 (.s 15) (.s 16)⟩,
        ⟨(some 18), none, .load none none false (.s 17)⟩,
        ⟨(some 19), none, .call 29 [(.s 18)] []⟩,
        ⟨(some 20), none, .append 1 1 false none none 14 (.s 19)⟩,
        ⟨(some 3), none, .mv true (.s 20)⟩])) (
  .region [3, 4] [] [
    ⟨(some 12), none, .mv false (.s 4)⟩,
    ⟨(some 13), none, .bin .add (.s 12) (.c (i64 1))⟩,
    ⟨(some 4), none, .mv false (.s 13)⟩])
def f_custodyref01_Strings_l0 : ACode :=
  .seq (
    .seq (
      .region [3, 4, 11] [] [
        ⟨(some 8), none, .mv false (.s 4)⟩,
        ⟨(some 9), none, .mv false (.s 0)⟩,
        ⟨(some 10), none, .len false (.s 9)⟩,
        ⟨(some 11), none, .bin .lss (.s 8) (.s 10)⟩]) (
    .cond (.s 11) (
      .ghost (.keep [3, 4]) .skip) (
      .ghost (.keep [3]) (.exit 0)))) (
  f_custodyref01_Strings_r0)
def f_custodyref01_Strings_r1 : ACode :=
  .seq (
    .region [2] [] [
      ⟨(some 21), none, .mv true (.s 3)⟩,
      ⟨(some 2), none, .mv true (.s 21)⟩]) (
  .ret)
def f_custodyref01_Strings : AFun :=
 { n := 1, wr := [], res := [.t 2], body :=
    .seq (
      .region [] [] [
        ⟨(some 2), none, .mv true (.c (.sl (.own 1) none 0 []))⟩]) (
    .seq (
      .region [3] [] [
        ⟨(some 5), none, .mv false (.s 0)⟩,
        ⟨(some 6), none, .len false (.s 5)⟩,
        ⟨(some 7), none, .call 30 [(.s 6)] []⟩,
        ⟨(some 3), none, .mv true (.s 7)⟩]) (
    .seq (
      .seq (
        .region [3, 4] [] [
          ⟨(some 4), none, .mv false (.c (i64 0))⟩]) (
      .block 0 (
        .loop f_custodyref01_Strings_l0))) (
    f_custodyref01_Strings_r1))) }

/-- custody wire.Digests = 43; calls wire.Int = 12 -/
def f_wire_Digests_r0 : ACode :=
  .seq (
    .block 1 (
      .seq (
        .region [3, 5, 9, 10, 11] [.norm [5]] [
          ⟨(some 13), none, .idxSl 16 (.s 9) (.s 11)⟩,
          ⟨(some 14), none, .load (some 16) none false (.s 13)⟩,
          ⟨(some 5), none, .alloc 5 (bys (zeros 16))⟩,
          ⟨none, none, .store (some 16) 5 false (.s 5) (.s 14)⟩]) (
      .region [3, 9, 10, 11] [] [
        ⟨(some 15), none, .mv true (.s 3)⟩,
        ⟨(some 16), none, .slArr 16 1 (.s 5) none none none⟩,
        ⟨(some 17), none, .append 1 1 false (some false) (some 5) 15 (.s 16)⟩,
        ⟨(some 3), none, .mv true (.s 17)⟩]))) (
  .region [3, 9, 10, 11] [.drop [5]] [
    ⟨(some 18), none, .bin .add (.s 11) (.c (i64 1))⟩,
    ⟨(some 11), none, .mv false (.s 18)⟩])
def f_wire_Digests_l0 : ACode :=
  .seq (
    .region [3, 9, 10, 11, 12] [] [
      ⟨(some 12), none, .bin .lss (.s 11) (.s 10)⟩]) (
  .seq (
    .cond (.s 12) (
      .ghost (.keep [3, 9, 10, 11]) .skip) (
      .ghost (.keep [3]) (.exit 0))) (
  f_wire_Digests_r0))
def f_wire_Digests_r1 : ACode :=
  .seq (
    .region [2] [] [
      ⟨(some 19), none, .mv true (.s 3)⟩,
      ⟨(some 2), none, .mv true (.s 19)⟩]) (
  .ret)
def f_wire_Digests : AFun :=
 { n := 1, wr := [], res := [.t 2], body :=
    .seq (
      .region [] [] [
        ⟨(some 2), none, .mv true (.c (.sl (.own 1) none 0 []))⟩]) (
    .seq (
      .region [3] [] [
        ⟨(some 6), none, .mv false (.s 0)⟩,
        ⟨(some 7), none, .len false (.s 6)⟩,
        ⟨(some 8), none, .call 12 [(.s 7)] []⟩,
        ⟨(some 3), none, .mv true (.s 8)⟩]) (
    .seq (
      .seq (
        .region [3, 9, 10, 11] [] [
          ⟨(some 9), none, .mv false (.s 0)⟩,
          ⟨(some 10), none, .len false (.s 9)⟩,
          ⟨(some 11), none, .mv false (.c (i64 0))⟩]) (
      .block 0 (
        .loop f_wire_Digests_l0))) (
    f_wire_Digests_r1))) }

/-- custody custodyref01.Digests = 44; calls custodyref01.Int = 30 -/
def f_custodyref01_Digests_r1 : ACode :=
  .seq (
    .block 3 (
      .region [3, 4, 5] [] [
        ⟨(some 19), none, .mv true (.s 3)⟩,
        ⟨(some 20), none, .mv false (.s 0)⟩,
        ⟨(some 21), none, .mv false (.s 4)⟩,
        ⟨(some 22), none, .mv false (.s 5)⟩,
        ⟨(some 23), none, .idxSl 16 (.s 20) (.s 21)⟩,
        ⟨(some 24), none, .idxArr 16 1 (.s 23) (.s 22)⟩,
        ⟨(some 25), none, .load none none false (.s 24)⟩,
        ⟨(some 26), none, .buildSl 1 1 [u8 0] [(0, 1, (.s 25))]⟩,
        ⟨(some 27), none, .append 1 1 false none none 19 (.s 26)⟩,
        ⟨(some 3), none, .mv true (.s 27)⟩])) (
  .region [3, 4, 5] [] [
    ⟨(some 17), none, .mv false (.s 5)⟩,
    ⟨(some 18), none, .bin .add (.s 17) (.c (i64 1))⟩,
    ⟨(some 5), none, .mv false (.s 18)⟩])
def f_custodyref01_Digests_l1 : ACode :=
  .seq (
    .seq (
      .region [3, 4, 5, 16] [] [
        ⟨(some 15), none, .mv false (.s 5)⟩,
        ⟨(some 16), none, .bin .lss (.s 15) (.c (i64 16))⟩]) (
    .cond (.s 16) (
      .ghost (.keep [3, 4, 5]) .skip) (
      .ghost (.keep [3, 4]) (.exit 2)))) (
  f_custodyref01_Digests_r1)
def f_custodyref01_Digests_r0 : ACode :=
  .seq (
    .block 1 (
      .seq (
        .region [3, 4, 5] [] [
          ⟨(some 5), none, .mv false (.c (i64 0))⟩]) (
      .block 2 (
        .loop f_custodyref01_Digests_l1)))) (
  .region [3, 4] [] [
    ⟨(some 13), none, .mv false (.s 4)⟩,
    ⟨(some 14), none, .bin .add (.s 13) (.c (i64 1))⟩,
    ⟨(some 4), none, .mv false (.s 14)⟩])
def f_custodyref01_Digests_l0 : ACode :=
  .seq (
    .seq (
      .region [3, 4, 12] [] [
        ⟨(some 9), none, .mv false (.s 4)⟩,
        ⟨(some 10), none, .mv false (.s 0)⟩,
        ⟨(some 11), none, .len false (.s 10)⟩,
        ⟨(some 12), none, .bin .lss (.s 9) (.s 11)⟩]) (
    .cond (.s 12) (
      .ghost (.keep [3, 4]) .skip) (
      .ghost (.keep [3]) (.exit 0)))) (
  f_custodyref01_Digests_r0)
def f_custodyref01_Digests_r2 : ACode :=
  .seq (
    .region [2] [] [
      ⟨(some 28), none, .mv true (.s 3)⟩,
      ⟨(some 2), none, .mv true (.s 28)⟩]) (
  .ret)
def f_custodyref01_Digests : AFun :=
 { n := 1, wr := [], res := [.t 2], body :=
    .seq (
      .region [] [] [
        ⟨(some 2), none, .mv true (.c (.sl (.own 1) none 0 []))⟩]) (
    .seq (
      .region [3] [] [
        ⟨(some 6), none, .mv false (.s 0)⟩,
        ⟨(some 7), none, .len false (.s 6)⟩,
        ⟨(some 8), none, .call 30 [(.s 7)] []⟩,
        ⟨(some 3), none, .mv true (.s 8)⟩]) (
    .seq (
      .seq (
        .region [3, 4] [] [
          ⟨(some 4), none, .mv false (.c (i64 0))⟩]) (
      .block 0 (
        .loop f_custodyref01_Digests_l0))) (
    f_custodyref01_Digests_r2))) }

/-- custody wire.GetInt = 45; calls  -/
def f_wire_GetInt_r3 : ACode :=
  .seq (
    .block 2 (
      .seq (
        .region [5, 6, 7, 9, 46, 47, 48] [] [
          ⟨(some 50), none, .idxSl 1 (.s 46) (.s 48)⟩,
          ⟨(some 51), none, .load none none false (.s 50)⟩,
          ⟨(some 9), none, .mv false (.s 51)⟩]) (
      .region [5, 6, 7, 46, 47, 48] [] [
        ⟨(some 52), none, .mv false (.s 7)⟩,
        ⟨(some 53), none, .bin .shl (.s 52) (.c (u64 8))⟩,
        ⟨(some 54), none, .mv false (.s 9)⟩,
        ⟨(some 55), none, .mv false (.s 5)⟩,
        ⟨(some 56), none, .bin .xor (.s 54) (.s 55)⟩,
        ⟨(some 57), none, .toInt .u64 (.s 56)⟩,
        ⟨(some 58), none, .bin .or (.s 53) (.s 57)⟩,
        ⟨(some 7), none, .mv false (.s 58)⟩]))) (
  .region [5, 6, 7, 46, 47, 48] [] [
    ⟨(some 59), none, .bin .add (.s 48) (.c (i64 1))⟩,
    ⟨(some 48), none, .mv false (.s 59)⟩])
def f_wire_GetInt_l0 : ACode :=
  .seq (
    .region [5, 6, 7, 46, 47, 48, 49] [] [
      ⟨(some 49), none, .bin .lss (.s 48) (.s 47)⟩]) (
  .seq (
    .cond (.s 49) (
      .ghost (.keep [5, 6, 7, 46, 47, 48]) .skip) (
      .ghost (.keep [5, 6, 7]) (.exit 1))) (
  f_wire_GetInt_r3))
def f_wire_GetInt_r6 : ACode :=
  .seq (
    .region [2, 3, 4] [] [
      ⟨(some 67), none, .mv false (.s 7)⟩,
      ⟨(some 68), none, .toInt .i64 (.s 67)⟩,
      ⟨(some 69), none, .mv false (.s 6)⟩,
      ⟨(some 70), none, .bin .add (.s 69) (.c (i64 1))⟩,
      ⟨(some 2), none, .mv false (.s 68)⟩,
      ⟨(some 3), none, .mv false (.s 70)⟩,
      ⟨(some 4), none, .mv false (.c (i64 0))⟩]) (
  .ret)
def f_wire_GetInt_r5 : ACode :=
  .seq (
    .seq (
      .region [6, 7, 64] [] [
        ⟨(some 63), none, .mv false (.s 5)⟩,
        ⟨(some 64), none, .bin .gtr (.s 63) (.c (u8 0))⟩]) (
    .cond (.s 64) (
      .region [6, 7] [] [
        ⟨(some 65), none, .mv false (.s 7)⟩,
        ⟨(some 66), none, .un .xor (.s 65)⟩,
        ⟨(some 7), none, .mv false (.s 66)⟩]) (
      .ghost (.keep [6, 7]) .skip))) (
  f_wire_GetInt_r6)
def f_wire_GetInt_r4 : ACode :=
  .seq (
    .seq (
      .region [5, 6, 7, 62] [] [
        ⟨(some 60), none, .mv false (.s 7)⟩,
        ⟨(some 61), none, .bin .shr (.s 60) (.c (u64 63))⟩,
        ⟨(some 62), none, .bin .gtr (.s 61) (.c (u64 0))⟩]) (
    .cond (.s 62) (
      .seq (
        .region [2, 3, 4] [] [
          ⟨(some 2), none, .mv false (.c (i64 0))⟩,
          ⟨(some 3), none, .mv false (.c (i64 0))⟩,
          ⟨(some 4), none, .mv false (.c (i64 6))⟩]) (
      .ret)) (
      .ghost (.keep [5, 6, 7]) .skip))) (
  f_wire_GetInt_r5)
def f_wire_GetInt_r2 : ACode :=
  .seq (
    .region [5, 6, 7] [] [
      ⟨(some 7), none, .mv false (.c (u64 0))⟩]) (
  .seq (
    .seq (
      .region [5, 6, 7, 46, 47, 48] [] [
        ⟨(some 43), none, .mv false (.s 0)⟩,
        ⟨(some 44), none, .mv false (.s 6)⟩,
        ⟨(some 45), none, .bin .add (.s 44) (.c (i64 1))⟩,
        ⟨(some 46), none, .slSl 1 (.s 43) (some (.c (i64 1))) (some (.s 45)) none⟩,
        ⟨(some 47), none, .len false (.s 46)⟩,
        ⟨(some 48), none, .mv false (.c (i64 0))⟩]) (
    .block 1 (
      .loop f_wire_GetInt_l0))) (
  f_wire_GetInt_r4))
def f_wire_GetInt_r1 : ACode :=
  .seq (
    .region [5, 6] [] [
      ⟨(some 17), none, .mv false (.s 0)⟩,
      ⟨(some 18), none, .idxSl 1 (.s 17) (.c (i64 0))⟩,
      ⟨(some 19), none, .load none none false (.s 18)⟩,
      ⟨(some 20), none, .mv false (.s 5)⟩,
      ⟨(some 21), none, .bin .xor (.s 19) (.s 20)⟩,
      ⟨(some 22), none, .toInt .i64 (.s 21)⟩,
      ⟨(some 23), none, .bin .sub (.s 22) (.c (i64 128))⟩,
      ⟨(some 6), none, .mv false (.s 23)⟩]) (
  .seq (
    .block 0 (
      .seq (
        .region [5, 6, 24] [] [
          ⟨(some 25), none, .mv false (.s 6)⟩,
          ⟨(some 26), none, .bin .gtr (.s 25) (.c (i64 8))⟩,
          ⟨(some 24), none, .mv false (.s 26)⟩]) (
      .cond (.s 24) (
        .seq (
          .region [2, 3, 4] [] [
            ⟨(some 2), none, .mv false (.c (i64 0))⟩,
            ⟨(some 3), none, .mv false (.c (i64 0))⟩,
            ⟨(some 4), none, .mv false (.c (i64 6))⟩]) (
        .ret)) (
        .seq (
          .region [5, 6, 27] [] [
            ⟨(some 28), none, .mv false (.s 0)⟩,
            ⟨(some 29), none, .len false (.s 28)⟩,
            ⟨(some 30), none, .mv false (.s 6)⟩,
            ⟨(some 31), none, .bin .leq (.s 29) (.s 30)⟩,
            ⟨(some 27), none, .mv false (.s 31)⟩]) (
        .cond (.s 27) (
          .seq (
            .region [2, 3, 4] [] [
              ⟨(some 2), none, .mv false (.c (i64 0))⟩,
              ⟨(some 3), none, .mv false (.c (i64 0))⟩,
              ⟨(some 4), none, .mv false (.c (i64 5))⟩]) (
          .ret)) (
          .seq (
            .region [5, 6, 32] [] [
              ⟨(some 33), none, .mv false (.s 6)⟩,
              ⟨(some 34), none, .bin .gtr (.s 33) (.c (i64 0))⟩,
              ⟨(some 35), none, .mv false (.s 34)⟩,
              ⟨(some 36), (some (35, true)), .mv false (.s 0)⟩,
              ⟨(some 37), (some (35, true)), .idxSl 1 (.s 36) (.c (i64 1))⟩,
              ⟨(some 38), (some (35, true)), .load none none false (.s 37)⟩,
              ⟨(some 39), (some (35, true)), .mv false (.s 5)⟩,
              ⟨(some 40), (some (35, true)), .bin .xor (.s 38) (.s 39)⟩,
              ⟨(some 41), (some (35, true)), .bin .eql (.s 40) (.c (u8 0))⟩,
              ⟨(some 42), none, .pick (.s 35) (.s 41) (.c (bo false))⟩,
              ⟨(some 32), none, .mv false (.s 42)⟩]) (
          .cond (.s 32) (
            .seq (
              .region [2, 3, 4] [] [
                ⟨(some 2), none, .mv false (.c (i64 0))⟩,
                ⟨(some 3), none, .mv false (.c (i64 0))⟩,
                ⟨(some 4), none, .mv false (.c (i64 6))⟩]) (
            .ret)) (
            .ghost (.keep [5, 6]) .skip)))))))) (
  f_wire_GetInt_r2))
def f_wire_GetInt_r0 : ACode :=
  .seq (
    .region [5] [] [
      ⟨(some 5), none, .mv false (.c (u8 0))⟩]) (
  .seq (
    .seq (
      .region [5, 16] [] [
        ⟨(some 13), none, .mv false (.s 0)⟩,
        ⟨(some 14), none, .idxSl 1 (.s 13) (.c (i64 0))⟩,
        ⟨(some 15), none, .load none none false (.s 14)⟩,
        ⟨(some 16), none, .bin .lss (.s 15) (.c (u8 128))⟩]) (
    .cond (.s 16) (
      .region [5] [] [
        ⟨(some 5), none, .mv false (.c (u8 255))⟩]) (
      .ghost (.keep [5]) .skip))) (
  f_wire_GetInt_r1))
def f_wire_GetInt : AFun :=
 { n := 1, wr := [], res := [.t 2, .t 3, .t 4], body :=
    .seq (
      .region [] [] [
        ⟨(some 2), none, .mv false (.c (i64 0))⟩,
        ⟨(some 3), none, .mv false (.c (i64 0))⟩,
        ⟨(some 4), none, .mv false (.c (i64 0))⟩]) (
    .seq (
      .seq (
        .region [12] [] [
          ⟨(some 10), none, .mv false (.s 0)⟩,
          ⟨(some 11), none, .len false (.s 10)⟩,
          ⟨(some 12), none, .bin .eql (.s 11) (.c (i64 0))⟩]) (
      .cond (.s 12) (
        .seq (
          .region [2, 3, 4] [] [
            ⟨(some 2), none, .mv false (.c (i64 0))⟩,
            ⟨(some 3), none, .mv false (.c (i64 0))⟩,
            ⟨(some 4), none, .mv false (.c (i64 5))⟩]) (
        .ret)) (
        .ghost (.keep []) .skip))) (
    f_wire_GetInt_r0)) }

/-- custody custodyref01.GetInt = 46; calls custodyref01.Int = 30, custodyref01.Same = 38 -/
def f_custodyref01_GetInt_r6 : ACode :=
  .region [5, 6, 7, 8] [] [
    ⟨(some 51), none, .mv false (.s 7)⟩,
    ⟨(some 52), none, .bin .mul (.c (i64 256)) (.s 51)⟩,
    ⟨(some 53), none, .mv false (.s 9)⟩,
    ⟨(some 54), none, .bin .add (.s 52) (.s 53)⟩,
    ⟨(some 7), none, .mv false (.s 54)⟩]
def f_custodyref01_GetInt_r5 : ACode :=
  .seq (
    .seq (
      .region [5, 6, 7, 8, 9, 50] [] [
        ⟨(some 49), none, .mv false (.s 7)⟩,
        ⟨(some 50), none, .bin .gtr (.s 49) (.c (i64 36028797018963967))⟩]) (
    .cond (.s 50) (
      .seq (
        .region [2, 3, 4] [] [
          ⟨(some 2), none, .mv false (.c (i64 0))⟩,
          ⟨(some 3), none, .mv false (.c (i64 0))⟩,
          ⟨(some 4), none, .mv false (.c (i64 6))⟩]) (
      .ret)) (
      .ghost (.keep [5, 6, 7, 8, 9]) .skip))) (
  f_custodyref01_GetInt_r6)
def f_custodyref01_GetInt_r4 : ACode :=
  .seq (
    .block 1 (
      .seq (
        .region [5, 6, 7, 8, 9] [] [
          ⟨(some 40), none, .mv false (.s 0)⟩,
          ⟨(some 41), none, .mv false (.s 8)⟩,
          ⟨(some 42), none, .idxSl 1 (.s 40) (.s 41)⟩,
          ⟨(some 43), none, .load none none false (.s 42)⟩,
          ⟨(some 44), none, .toInt .i64 (.s 43)⟩,
          ⟨(some 9), none, .mv false (.s 44)⟩]) (
      .seq (
        .seq (
          .region [5, 6, 7, 8, 9, 46] [] [
            ⟨(some 45), none, .mv false (.s 5)⟩,
            ⟨(some 46), none, .bin .lss (.s 45) (.c (i64 128))⟩]) (
        .cond (.s 46) (
          .region [5, 6, 7, 8, 9] [] [
            ⟨(some 47), none, .mv false (.s 9)⟩,
            ⟨(some 48), none, .bin .sub (.c (i64 255)) (.s 47)⟩,
            ⟨(some 9), none, .mv false (.s 48)⟩]) (
          .ghost (.keep [5, 6, 7, 8, 9]) .skip))) (
      f_custodyref01_GetInt_r5)))) (
  .region [5, 6, 7, 8] [] [
    ⟨(some 38), none, .mv false (.s 8)⟩,
    ⟨(some 39), none, .bin .add (.s 38) (.c (i64 1))⟩,
    ⟨(some 8), none, .mv false (.s 39)⟩])
def f_custodyref01_GetInt_l0 : ACode :=
  .seq (
    .seq (
      .region [5, 6, 7, 8, 37] [] [
        ⟨(some 35), none, .mv false (.s 8)⟩,
        ⟨(some 36), none, .mv false (.s 6)⟩,
        ⟨(some 37), none, .bin .leq (.s 35) (.s 36)⟩]) (
    .cond (.s 37) (
      .ghost (.keep [5, 6, 7, 8]) .skip) (
      .ghost (.keep [5, 6, 7]) (.exit 0)))) (
  f_custodyref01_GetInt_r4)
def f_custodyref01_GetInt_r9 : ACode :=
  .seq (
    .region [2, 3, 4] [] [
      ⟨(some 68), none, .mv false (.s 10)⟩,
      ⟨(some 69), none, .mv false (.s 6)⟩,
      ⟨(some 70), none, .bin .add (.s 69) (.c (i64 1))⟩,
      ⟨(some 2), none, .mv false (.s 68)⟩,
      ⟨(some 3), none, .mv false (.s 70)⟩,
      ⟨(some 4), none, .mv false (.c (i64 0))⟩]) (
  .ret)
def f_custodyref01_GetInt_r8 : ACode :=
  .seq (
    .seq (
      .region [6, 10, 67] [] [
        ⟨(some 60), none, .mv false (.s 10)⟩,
        ⟨(some 61), none, .call 30 [(.s 60)] []⟩,
        ⟨(some 62), none, .mv false (.s 0)⟩,
        ⟨(some 63), none, .mv false (.s 6)⟩,
        ⟨(some 64), none, .bin .add (.s 63) (.c (i64 1))⟩,
        ⟨(some 65), none, .slSl 1 (.s 62) none (some (.s 64)) none⟩,
        ⟨(some 66), none, .call 38 [(.s 61), (.s 65)] []⟩,
        ⟨(some 67), none, .un .not (.s 66)⟩]) (
    .cond (.s 67) (
      .seq (
        .region [2, 3, 4] [] [
          ⟨(some 2), none, .mv false (.c (i64 0))⟩,
          ⟨(some 3), none, .mv false (.c (i64 0))⟩,
          ⟨(some 4), none, .mv false (.c (i64 6))⟩]) (
      .ret)) (
      .ghost (.keep [6, 10]) .skip))) (
  f_custodyref01_GetInt_r9)
def f_custodyref01_GetInt_r7 : ACode :=
  .seq (
    .region [5, 6, 7, 10] [] [
      ⟨(some 55), none, .mv false (.s 7)⟩,
      ⟨(some 10), none, .mv false (.s 55)⟩]) (
  .seq (
    .seq (
      .region [6, 7, 10, 57] [] [
        ⟨(some 56), none, .mv false (.s 5)⟩,
        ⟨(some 57), none, .bin .lss (.s 56) (.c (i64 128))⟩]) (
    .cond (.s 57) (
      .region [6, 10] [] [
        ⟨(some 58), none, .mv false (.s 7)⟩,
        ⟨(some 59), none, .bin .sub (.c (i64 (-1))) (.s 58)⟩,
        ⟨(some 10), none, .mv false (.s 59)⟩]) (
      .ghost (.keep [6, 10]) .skip))) (
  f_custodyref01_GetInt_r8))
def f_custodyref01_GetInt_r3 : ACode :=
  .seq (
    .region [5, 6, 7] [] [
      ⟨(some 7), none, .mv false (.c (i64 0))⟩]) (
  .seq (
    .seq (
      .region [5, 6, 7, 8] [] [
        ⟨(some 8), none, .mv false (.c (i64 1))⟩]) (
    .block 0 (
      .loop f_custodyref01_GetInt_l0))) (
  f_custodyref01_GetInt_r7))
def f_custodyref01_GetInt_r2 : ACode :=
  .seq (
    .seq (
      .region [5, 6, 34] [] [
        ⟨(some 30), none, .mv false (.s 0)⟩,
        ⟨(some 31), none, .len false (.s 30)⟩,
        ⟨(some 32), none, .mv false (.s 6)⟩,
        ⟨(some 33), none, .bin .add (.s 32) (.c (i64 1))⟩,
        ⟨(some 34), none, .bin .lss (.s 31) (.s 33)⟩]) (
    .cond (.s 34) (
      .seq (
        .region [2, 3, 4] [] [
          ⟨(some 2), none, .mv false (.c (i64 0))⟩,
          ⟨(some 3), none, .mv false (.c (i64 0))⟩,
          ⟨(some 4), none, .mv false (.c (i64 5))⟩]) (
      .ret)) (
      .ghost (.keep [5, 6]) .skip))) (
  f_custodyref01_GetInt_r3)
def f_custodyref01_GetInt_r1 : ACode :=
  .seq (
    .region [5, 6] [] [
      ⟨(some 24), none, .mv false (.s 5)⟩,
      ⟨(some 25), none, .bin .sub (.s 24) (.c (i64 128))⟩,
      ⟨(some 6), none, .mv false (.s 25)⟩]) (
  .seq (
    .seq (
      .region [5, 6, 27] [] [
        ⟨(some 26), none, .mv false (.s 5)⟩,
        ⟨(some 27), none, .bin .lss (.s 26) (.c (i64 128))⟩]) (
    .cond (.s 27) (
      .region [5, 6] [] [
        ⟨(some 28), none, .mv false (.s 5)⟩,
        ⟨(some 29), none, .bin .sub (.c (i64 127)) (.s 28)⟩,
        ⟨(some 6), none, .mv false (.s 29)⟩]) (
      .ghost (.keep [5, 6]) .skip))) (
  f_custodyref01_GetInt_r2))
def f_custodyref01_GetInt_r0 : ACode :=
  .seq (
    .region [5] [] [
      ⟨(some 14), none, .mv false (.s 0)⟩,
      ⟨(some 15), none, .idxSl 1 (.s 14) (.c (i64 0))⟩,
      ⟨(some 16), none, .load none none false (.s 15)⟩,
      ⟨(some 17), none, .toInt .i64 (.s 16)⟩,
      ⟨(some 5), none, .mv false (.s 17)⟩]) (
  .seq (
    .seq (
      .region [5, 23] [] [
        ⟨(some 18), none, .mv false (.s 5)⟩,
        ⟨(some 19), none, .bin .lss (.s 18) (.c (i64 119))⟩,
        ⟨(some 20), none, .mv false (.s 19)⟩,
        ⟨(some 21), (some (20, false)), .mv false (.s 5)⟩,
        ⟨(some 22), (some (20, false)), .bin .gtr (.s 21) (.c (i64 136))⟩,
        ⟨(some 23), none, .pick (.s 20) (.c (bo true)) (.s 22)⟩]) (
    .cond (.s 23) (
      .seq (
        .region [2, 3, 4] [] [
          ⟨(some 2), none, .mv false (.c (i64 0))⟩,
          ⟨(some 3), none, .mv false (.c (i64 0))⟩,
          ⟨(some 4), none, .mv false (.c (i64 6))⟩]) (
      .ret)) (
      .ghost (.keep [5]) .skip))) (
  f_custodyref01_GetInt_r1))
def f_custodyref01_GetInt : AFun :=
 { n := 1, wr := [], res := [.t 2, .t 3, .t 4], body :=
    .seq (
      .region [] [] [
        ⟨(some 2), none, .mv false (.c (i64 0))⟩,
        ⟨(some 3), none, .mv false (.c (i64 0))⟩,
        ⟨(some 4), none, .mv false (.c (i64 0))⟩]) (
    .seq (
      .seq (
        .region [13] [] [
          ⟨(some 11), none, .mv false (.s 0)⟩,
          ⟨(some 12), none, .len false (.s 11)⟩,
          ⟨(some 13), none, .bin .eql (.s 12) (.c (i64 0))⟩]) (
      .cond (.s 13) (
        .seq (
          .region [2, 3, 4] [] [
            ⟨(some 2), none, .mv false (.c (i64 0))⟩,
            ⟨(some 3), none, .mv false (.c (i64 0))⟩,
            ⟨(some 4), none, .mv false (.c (i64 5))⟩]) (
        .ret)) (
        .ghost (.keep []) .skip))) (
    f_custodyref01_GetInt_r0)) }

/-- custody wire.GetBytes = 48; calls wire.count = 47 -/
def f_wire_GetBytes_r0 : ACode :=
  .seq (
    .region [2, 3, 4] [] [
      ⟨(some 17), none, .mv false (.s 0)⟩,
      ⟨(some 18), none, .mv false (.s 6)⟩,
      ⟨(some 19), none, .mv false (.s 6)⟩,
      ⟨(some 20), none, .mv false (.s 5)⟩,
      ⟨(some 21), none, .bin .add (.s 19) (.s 20)⟩,
      ⟨(some 22), none, .slSl 1 (.s 17) (some (.s 18)) (some (.s 21)) none⟩,
      ⟨(some 23), none, .toStr none (.s 22)⟩,
      ⟨(some 24), none, .mv false (.s 6)⟩,
      ⟨(some 25), none, .mv false (.s 5)⟩,
      ⟨(some 26), none, .bin .add (.s 24) (.s 25)⟩,
      ⟨(some 2), none, .mv false (.s 23)⟩,
      ⟨(some 3), none, .mv false (.s 26)⟩,
      ⟨(some 4), none, .mv false (.c (i64 0))⟩]) (
  .ret)
def f_wire_GetBytes : AFun :=
 { n := 1, wr := [], res := [.t 2, .t 3, .t 4], body :=
    .seq (
      .region [] [] [
        ⟨(some 2), none, .mv false (.c (st []))⟩,
        ⟨(some 3), none, .mv false (.c (i64 0))⟩,
        ⟨(some 4), none, .mv false (.c (i64 0))⟩]) (
    .seq (
      .region [5, 6, 7] [] [
        ⟨(some 9), none, .mv false (.s 0)⟩,
        ⟨(some 10), none, .call 47 [(.s 9), (.c (i64 1))] []⟩,
        ⟨(some 8), none, .mv false (.s 10)⟩,
        ⟨(some 11), none, .extract 0 (.s 8)⟩,
        ⟨(some 12), none, .extract 1 (.s 8)⟩,
        ⟨(some 13), none, .extract 2 (.s 8)⟩,
        ⟨(some 5), none, .mv false (.s 11)⟩,
        ⟨(some 6), none, .mv false (.s 12)⟩,
        ⟨(some 7), none, .mv false (.s 13)⟩]) (
    .seq (
      .seq (
        .region [5, 6, 7, 15] [] [
          ⟨(some 14), none, .mv false (.s 7)⟩,
          ⟨(some 15), none, .bin .neq (.s 14) (.c (i64 0))⟩]) (
      .cond (.s 15) (
        .seq (
          .region [2, 3, 4] [] [
            ⟨(some 16), none, .mv false (.s 7)⟩,
            ⟨(some 2), none, .mv false (.c (st []))⟩,
            ⟨(some 3), none, .mv false (.c (i64 0))⟩,
            ⟨(some 4), none, .mv false (.s 16)⟩]) (
        .ret)) (
        .ghost (.keep [5, 6]) .skip))) (
    f_wire_GetBytes_r0))) }

/-- custody custodyref01.GetBytes = 50; calls custodyref01.count = 49 -/
def f_custodyref01_GetBytes_r0 : ACode :=
  .seq (
    .region [2, 3, 4] [] [
      ⟨(some 17), none, .mv false (.s 0)⟩,
      ⟨(some 18), none, .mv false (.s 6)⟩,
      ⟨(some 19), none, .mv false (.s 6)⟩,
      ⟨(some 20), none, .mv false (.s 5)⟩,
      ⟨(some 21), none, .bin .add (.s 19) (.s 20)⟩,
      ⟨(some 22), none, .slSl 1 (.s 17) (some (.s 18)) (some (.s 21)) none⟩,
      ⟨(some 23), none, .toStr none (.s 22)⟩,
      ⟨(some 24), none, .mv false (.s 6)⟩,
      ⟨(some 25), none, .mv false (.s 5)⟩,
      ⟨(some 26), none, .bin .add (.s 24) (.s 25)⟩,
      ⟨(some 2), none, .mv false (.s 23)⟩,
      ⟨(some 3), none, .mv false (.s 26)⟩,
      ⟨(some 4), none, .mv false (.c (i64 0))⟩]) (
  .ret)
def f_custodyref01_GetBytes : AFun :=
 { n := 1, wr := [], res := [.t 2, .t 3, .t 4], body :=
    .seq (
      .region [] [] [
        ⟨(some 2), none, .mv false (.c (st []))⟩,
        ⟨(some 3), none, .mv false (.c (i64 0))⟩,
        ⟨(some 4), none, .mv false (.c (i64 0))⟩]) (
    .seq (
      .region [5, 6, 7] [] [
        ⟨(some 9), none, .mv false (.s 0)⟩,
        ⟨(some 10), none, .call 49 [(.s 9), (.c (i64 1))] []⟩,
        ⟨(some 8), none, .mv false (.s 10)⟩,
        ⟨(some 11), none, .extract 0 (.s 8)⟩,
        ⟨(some 12), none, .extract 1 (.s 8)⟩,
        ⟨(some 13), none, .extract 2 (.s 8)⟩,
        ⟨(some 5), none, .mv false (.s 11)⟩,
        ⟨(some 6), none, .mv false (.s 12)⟩,
        ⟨(some 7), none, .mv false (.s 13)⟩]) (
    .seq (
      .seq (
        .region [5, 6, 7, 15] [] [
          ⟨(some 14), none, .mv false (.s 7)⟩,
          ⟨(some 15), none, .bin .neq (.s 14) (.c (i64 0))⟩]) (
      .cond (.s 15) (
        .seq (
          .region [2, 3, 4] [] [
            ⟨(some 16), none, .mv false (.s 7)⟩,
            ⟨(some 2), none, .mv false (.c (st []))⟩,
            ⟨(some 3), none, .mv false (.c (i64 0))⟩,
            ⟨(some 4), none, .mv false (.s 16)⟩]) (
        .ret)) (
        .ghost (.keep [5, 6]) .skip))) (
    f_custodyref01_GetBytes_r0))) }

/-- custody wire.GetInts = 52; calls wire.count = 47, wire.reader = 51, wire.reader$1 = 61 -/
def f_wire_GetInts_r2 : ACode :=
  .region [6, 8, 9, 25, 26] [] [
    ⟨(some 37), none, .mv true (.s 9)⟩,
    ⟨(some 38), none, .mv false (.s 10)⟩,
    ⟨(some 39), none, .buildSl 1 1 [i64 0] [(0, 1, (.s 38))]⟩,
    ⟨(some 40), none, .append 1 8 false none none 37 (.s 39)⟩,
    ⟨(some 41), none, .mv false (.s 11)⟩,
    ⟨(some 9), none, .mv true (.s 40)⟩,
    ⟨(some 6), none, .mv false (.s 41)⟩]
def f_wire_GetInts_r1 : ACode :=
  .seq (
    .block 1 (
      .seq (
        .region [8, 9, 10, 11, 12, 25, 26] [.norm [24, 1024]] [
          ⟨(some 29), none, .mv false (.s 8)⟩,
          ⟨(some 30), none, .callm 61 (some (.s 29)) [] [(0, 24), (1, 1024)] []⟩,
          ⟨(some 28), none, .mv false (.s 30)⟩,
          ⟨(some 31), none, .extract 0 (.s 28)⟩,
          ⟨(some 32), none, .extract 1 (.s 28)⟩,
          ⟨(some 33), none, .extract 2 (.s 28)⟩,
          ⟨(some 10), none, .mv false (.s 31)⟩,
          ⟨(some 11), none, .mv false (.s 32)⟩,
          ⟨(some 12), none, .mv false (.s 33)⟩]) (
      .seq (
        .seq (
          .region [8, 9, 10, 11, 12, 25, 26, 35] [] [
            ⟨(some 34), none, .mv false (.s 12)⟩,
            ⟨(some 35), none, .bin .neq (.s 34) (.c (i64 0))⟩]) (
        .cond (.s 35) (
          .seq (
            .region [2, 3, 4] [] [
              ⟨(some 36), none, .mv false (.s 12)⟩,
              ⟨(some 2), none, .mv true (.c (.sl (.own 1) none 0 []))⟩,
              ⟨(some 3), none, .mv false (.c (i64 0))⟩,
              ⟨(some 4), none, .mv false (.s 36)⟩]) (
          .ret)) (
          .ghost (.keep [8, 9, 10, 11, 25, 26]) .skip))) (
      f_wire_GetInts_r2)))) (
  .region [6, 8, 9, 25, 26] [] [
    ⟨(some 42), none, .bin .add (.s 26) (.c (i64 1))⟩,
    ⟨(some 26), none, .mv false (.s 42)⟩])
def f_wire_GetInts_l0 : ACode :=
  .seq (
    .region [6, 8, 9, 25, 26, 27] [] [
      ⟨(some 27), none, .bin .lss (.s 26) (.s 25)⟩]) (
  .seq (
    .cond (.s 27) (
      .ghost (.keep [8, 9, 25, 26]) .skip) (
      .ghost (.keep [6, 9]) (.exit 0))) (
  f_wire_GetInts_r1))
def f_wire_GetInts_r3 : ACode :=
  .seq (
    .region [2, 3, 4] [] [
      ⟨(some 43), none, .mv true (.s 9)⟩,
      ⟨(some 44), none, .mv false (.s 6)⟩,
      ⟨(some 2), none, .mv true (.s 43)⟩,
      ⟨(some 3), none, .mv false (.s 44)⟩,
      ⟨(some 4), none, .mv false (.c (i64 0))⟩]) (
  .ret)
def f_wire_GetInts_r0 : ACode :=
  .seq (
    .region [5, 6, 8] [.norm [24, 1024]] [
      ⟨(some 22), none, .mv false (.s 0)⟩,
      ⟨(some 23), none, .mv false (.s 6)⟩,
      ⟨(some 24), none, .callm 51 none [(.s 22), (.s 23)] [] [(2, 24), (3, 1024)]⟩,
      ⟨(some 8), none, .mv false (.s 24)⟩]) (
  .seq (
    .region [5, 6, 8, 9] [] [
      ⟨(some 9), none, .mv true (.c (.sl (.own 1) none 0 []))⟩]) (
  .seq (
    .seq (
      .region [6, 8, 9, 25, 26] [] [
        ⟨(some 25), none, .mv false (.s 5)⟩,
        ⟨(some 26), none, .mv false (.c (i64 0))⟩]) (
    .block 0 (
      .loop f_wire_GetInts_l0))) (
  f_wire_GetInts_r3)))
def f_wire_GetInts : AFun :=
 { n := 1, wr := [], res := [.t 2, .t 3, .t 4], body :=
    .seq (
      .region [] [] [
        ⟨(some 2), none, .mv true (.c (.sl (.own 1) none 0 []))⟩,
        ⟨(some 3), none, .mv false (.c (i64 0))⟩,
        ⟨(some 4), none, .mv false (.c (i64 0))⟩]) (
    .seq (
      .region [5, 6, 7] [] [
        ⟨(some 14), none, .mv false (.s 0)⟩,
        ⟨(some 15), none, .call 47 [(.s 14), (.c (i64 1))] []⟩,
        ⟨(some 13), none, .mv false (.s 15)⟩,
        ⟨(some 16), none, .extract 0 (.s 13)⟩,
        ⟨(some 17), none, .extract 1 (.s 13)⟩,
        ⟨(some 18), none, .extract 2 (.s 13)⟩,
        ⟨(some 5), none, .mv false (.s 16)⟩,
        ⟨(some 6), none, .mv false (.s 17)⟩,
        ⟨(some 7), none, .mv false (.s 18)⟩]) (
    .seq (
      .seq (
        .region [5, 6, 7, 20] [] [
          ⟨(some 19), none, .mv false (.s 7)⟩,
          ⟨(some 20), none, .bin .neq (.s 19) (.c (i64 0))⟩]) (
      .cond (.s 20) (
        .seq (
          .region [2, 3, 4] [] [
            ⟨(some 21), none, .mv false (.s 7)⟩,
            ⟨(some 2), none, .mv true (.c (.sl (.own 1) none 0 []))⟩,
            ⟨(some 3), none, .mv false (.c (i64 0))⟩,
            ⟨(some 4), none, .mv false (.s 21)⟩]) (
        .ret)) (
        .ghost (.keep [5, 6]) .skip))) (
    f_wire_GetInts_r0))) }

/-- custody custodyref01.GetInts = 53; calls custodyref01.GetInt = 46, custodyref01.count = 49 -/
def f_custodyref01_GetInts_r2 : ACode :=
  .seq (
    .region [5, 6, 8, 9, 11] [] [
      ⟨(some 38), none, .mv true (.s 8)⟩,
      ⟨(some 39), none, .mv false (.s 10)⟩,
      ⟨(some 40), none, .buildSl 1 1 [i64 0] [(0, 1, (.s 39))]⟩,
      ⟨(some 41), none, .append 1 8 false none none 38 (.s 40)⟩,
      ⟨(some 8), none, .mv true (.s 41)⟩]) (
  .region [5, 6, 8, 9] [] [
    ⟨(some 42), none, .mv false (.s 6)⟩,
    ⟨(some 43), none, .mv false (.s 11)⟩,
    ⟨(some 44), none, .bin .add (.s 42) (.s 43)⟩,
    ⟨(some 6), none, .mv false (.s 44)⟩])
def f_custodyref01_GetInts_r1 : ACode :=
  .seq (
    .block 1 (
      .seq (
        .region [5, 6, 8, 9, 10, 11, 12] [] [
          ⟨(some 28), none, .mv false (.s 0)⟩,
          ⟨(some 29), none, .mv false (.s 6)⟩,
          ⟨(some 30), none, .slSl 1 (.s 28) (some (.s 29)) none none⟩,
          ⟨(some 31), none, .call 46 [(.s 30)] []⟩,
          ⟨(some 27), none, .mv false (.s 31)⟩,
          ⟨(some 32), none, .extract 0 (.s 27)⟩,
          ⟨(some 33), none, .extract 1 (.s 27)⟩,
          ⟨(some 34), none, .extract 2 (.s 27)⟩,
          ⟨(some 10), none, .mv false (.s 32)⟩,
          ⟨(some 11), none, .mv false (.s 33)⟩,
          ⟨(some 12), none, .mv false (.s 34)⟩]) (
      .seq (
        .seq (
          .region [5, 6, 8, 9, 10, 11, 12, 36] [] [
            ⟨(some 35), none, .mv false (.s 12)⟩,
            ⟨(some 36), none, .bin .neq (.s 35) (.c (i64 0))⟩]) (
        .cond (.s 36) (
          .seq (
            .region [2, 3, 4] [] [
              ⟨(some 37), none, .mv false (.s 12)⟩,
              ⟨(some 2), none, .mv true (.c (.sl (.own 1) none 0 []))⟩,
              ⟨(some 3), none, .mv false (.c (i64 0))⟩,
              ⟨(some 4), none, .mv false (.s 37)⟩]) (
          .ret)) (
          .ghost (.keep [5, 6, 8, 9, 10, 11]) .skip))) (
      f_custodyref01_GetInts_r2)))) (
  .region [5, 6, 8, 9] [] [
    ⟨(some 25), none, .mv false (.s 9)⟩,
    ⟨(some 26), none, .bin .add (.s 25) (.c (i64 1))⟩,
    ⟨(some 9), none, .mv false (.s 26)⟩])
def f_custodyref01_GetInts_l0 : ACode :=
  .seq (
    .seq (
      .region [5, 6, 8, 9, 24] [] [
        ⟨(some 22), none, .mv false (.s 9)⟩,
        ⟨(some 23), none, .mv false (.s 5)⟩,
        ⟨(some 24), none, .bin .lss (.s 22) (.s 23)⟩]) (
    .cond (.s 24) (
      .ghost (.keep [5, 6, 8, 9]) .skip) (
      .ghost (.keep [6, 8]) (.exit 0)))) (
  f_custodyref01_GetInts_r1)
def f_custodyref01_GetInts_r3 : ACode :=
  .seq (
    .region [2, 3, 4] [] [
      ⟨(some 45), none, .mv true (.s 8)⟩,
      ⟨(some 46), none, .mv false (.s 6)⟩,
      ⟨(some 2), none, .mv true (.s 45)⟩,
      ⟨(some 3), none, .mv false (.s 46)⟩,
      ⟨(some 4), none, .mv false (.c (i64 0))⟩]) (
  .ret)
def f_custodyref01_GetInts_r0 : ACode :=
  .seq (
    .region [5, 6, 8] [] [
      ⟨(some 8), none, .mv true (.c (.sl (.own 1) none 0 []))⟩]) (
  .seq (
    .seq (
      .region [5, 6, 8, 9] [] [
        ⟨(some 9), none, .mv false (.c (i64 0))⟩]) (
    .block 0 (
      .loop f_custodyref01_GetInts_l0))) (
  f_custodyref01_GetInts_r3))
def f_custodyref01_GetInts : AFun :=
 { n := 1, wr := [], res := [.t 2, .t 3, .t 4], body :=
    .seq (
      .region [] [] [
        ⟨(some 2), none, .mv true (.c (.sl (.own 1) none 0 []))⟩,
        ⟨(some 3), none, .mv false (.c (i64 0))⟩,
        ⟨(some 4), none, .mv false (.c (i64 0))⟩]) (
    .seq (
      .region [5, 6, 7] [] [
        ⟨(some 14), none, .mv false (.s 0)⟩,
        ⟨(some 15), none, .call 49 [(.s 14), (.c (i64 1))] []⟩,
        ⟨(some 13), none, .mv false (.s 15)⟩,
        ⟨(some 16), none, .extract 0 (.s 13)⟩,
        ⟨(some 17), none, .extract 1 (.s 13)⟩,
        ⟨(some 18), none, .extract 2 (.s 13)⟩,
        ⟨(some 5), none, .mv false (.s 16)⟩,
        ⟨(some 6), none, .mv false (.s 17)⟩,
        ⟨(some 7), none, .mv false (.s 18)⟩]) (
    .seq (
      .seq (
        .region [5, 6, 7, 20] [] [
          ⟨(some 19), none, .mv false (.s 7)⟩,
          ⟨(some 20), none, .bin .neq (.s 19) (.c (i64 0))⟩]) (
      .cond (.s 20) (
        .seq (
          .region [2, 3, 4] [] [
            ⟨(some 21), none, .mv false (.s 7)⟩,
            ⟨(some 2), none, .mv true (.c (.sl (.own 1) none 0 []))⟩,
            ⟨(some 3), none, .mv false (.c (i64 0))⟩,
            ⟨(some 4), none, .mv false (.s 21)⟩]) (
        .ret)) (
        .ghost (.keep [5, 6]) .skip))) (
    f_custodyref01_GetInts_r0))) }

/-- custody custodyref01.SameInts = 54; calls  -/
def f_custodyref01_SameInts_r1 : ACode :=
  .seq (
    .block 1 (
      .seq (
        .region [5, 25] [] [
          ⟨(some 17), none, .mv false (.s 0)⟩,
          ⟨(some 18), none, .mv false (.s 5)⟩,
          ⟨(some 19), none, .idxSl 1 (.s 17) (.s 18)⟩,
          ⟨(some 20), none, .load none none false (.s 19)⟩,
          ⟨(some 21), none, .mv false (.s 1)⟩,
          ⟨(some 22), none, .mv false (.s 5)⟩,
          ⟨(some 23), none, .idxSl 1 (.s 21) (.s 22)⟩,
          ⟨(some 24), none, .load none none false (.s 23)⟩,
          ⟨(some 25), none, .bin .neq (.s 20) (.s 24)⟩]) (
      .cond (.s 25) (
        .seq (
          .region [4] [] [
            ⟨(some 4), none, .mv false (.c (bo false))⟩]) (
        .ret)) (
        .ghost (.keep [5]) .skip)))) (
  .region [5] [] [
    ⟨(some 15), none, .mv false (.s 5)⟩,
    ⟨(some 16), none, .bin .add (.s 15) (.c (i64 1))⟩,
    ⟨(some 5), none, .mv false (.s 16)⟩])
def f_custodyref01_SameInts_l0 : ACode :=
  .seq (
    .seq (
      .region [5, 14] [] [
        ⟨(some 11), none, .mv false (.s 5)⟩,
        ⟨(some 12), none, .mv false (.s 0)⟩,
        ⟨(some 13), none, .len false (.s 12)⟩,
        ⟨(some 14), none, .bin .lss (.s 11) (.s 13)⟩]) (
    .cond (.s 14) (
      .ghost (.keep [5]) .skip) (
      .ghost (.keep []) (.exit 0)))) (
  f_custodyref01_SameInts_r1)
def f_custodyref01_SameInts_r2 : ACode :=
  .seq (
    .region [4] [] [
      ⟨(some 4), none, .mv false (.c (bo true))⟩]) (
  .ret)
def f_custodyref01_SameInts_r0 : ACode :=
  .seq (
    .seq (
      .region [5] [] [
        ⟨(some 5), none, .mv false (.c (i64 0))⟩]) (
    .block 0 (
      .loop f_custodyref01_SameInts_l0))) (
  f_custodyref01_SameInts_r2)
def f_custodyref01_SameInts : AFun :=
 { n := 2, wr := [], res := [.t 4], body :=
    .seq (
      .region [] [] [
        ⟨(some 4), none, .mv false (.c (bo false))⟩]) (
    .seq (
      .seq (
        .region [10] [] [
          ⟨(some 6), none, .mv false (.s 0)⟩,
          ⟨(some 7), none, .len false (.s 6)⟩,
          ⟨(some 8), none, .mv false (.s 1)⟩,
          ⟨(some 9), none, .len false (.s 8)⟩,
          ⟨(some 10), none, .bin .neq (.s 7) (.s 9)⟩]) (
      .cond (.s 10) (
        .seq (
          .region [4] [] [
            ⟨(some 4), none, .mv false (.c (bo false))⟩]) (
        .ret)) (
        .ghost (.keep []) .skip))) (
    f_custodyref01_SameInts_r0)) }

/-- custody wire.GetStrings = 55; calls wire.GetBytes = 48, wire.count = 47 -/
def f_wire_GetStrings_r2 : ACode :=
  .region [6, 8, 21, 22] [] [
    ⟨(some 35), none, .mv true (.s 8)⟩,
    ⟨(some 36), none, .mv false (.s 9)⟩,
    ⟨(some 37), none, .buildSl 1 1 [st []] [(0, 1, (.s 36))]⟩,
    ⟨(some 38), none, .append 1 16 false none none 35 (.s 37)⟩,
    ⟨(some 39), none, .mv false (.s 6)⟩,
    ⟨(some 40), none, .mv false (.s 10)⟩,
    ⟨(some 41), none, .bin .add (.s 39) (.s 40)⟩,
    ⟨(some 8), none, .mv true (.s 38)⟩,
    ⟨(some 6), none, .mv false (.s 41)⟩]
def f_wire_GetStrings_r1 : ACode :=
  .seq (
    .block 1 (
      .seq (
        .region [6, 8, 9, 10, 11, 21, 22] [] [
          ⟨(some 25), none, .mv false (.s 0)⟩,
          ⟨(some 26), none, .mv false (.s 6)⟩,
          ⟨(some 27), none, .slSl 1 (.s 25) (some (.s 26)) none none⟩,
          ⟨(some 28), none, .call 48 [(.s 27)] []⟩,
          ⟨(some 24), none, .mv false (.s 28)⟩,
          ⟨(some 29), none, .extract 0 (.s 24)⟩,
          ⟨(some 30), none, .extract 1 (.s 24)⟩,
          ⟨(some 31), none, .extract 2 (.s 24)⟩,
          ⟨(some 9), none, .mv false (.s 29)⟩,
          ⟨(some 10), none, .mv false (.s 30)⟩,
          ⟨(some 11), none, .mv false (.s 31)⟩]) (
      .seq (
        .seq (
          .region [6, 8, 9, 10, 11, 21, 22, 33] [] [
            ⟨(some 32), none, .mv false (.s 11)⟩,
            ⟨(some 33), none, .bin .neq (.s 32) (.c (i64 0))⟩]) (
        .cond (.s 33) (
          .seq (
            .region [2, 3, 4] [] [
              ⟨(some 34), none, .mv false (.s 11)⟩,
              ⟨(some 2), none, .mv true (.c (.sl (.own 1) none 0 []))⟩,
              ⟨(some 3), none, .mv false (.c (i64 0))⟩,
              ⟨(some 4), none, .mv false (.s 34)⟩]) (
          .ret)) (
          .ghost (.keep [6, 8, 9, 10, 21, 22]) .skip))) (
      f_wire_GetStrings_r2)))) (
  .region [6, 8, 21, 22] [] [
    ⟨(some 42), none, .bin .add (.s 22) (.c (i64 1))⟩,
    ⟨(some 22), none, .mv false (.s 42)⟩])
def f_wire_GetStrings_l0 : ACode :=
  .seq (
    .region [6, 8, 21, 22, 23] [] [
      ⟨(some 23), none, .bin .lss (.s 22) (.s 21)⟩]) (
  .seq (
    .cond (.s 23) (
      .ghost (.keep [6, 8, 21, 22]) .skip) (
      .ghost (.keep [6, 8]) (.exit 0))) (
  f_wire_GetStrings_r1))
def f_wire_GetStrings_r3 : ACode :=
  .seq (
    .region [2, 3, 4] [] [
      ⟨(some 43), none, .mv true (.s 8)⟩,
      ⟨(some 44), none, .mv false (.s 6)⟩,
      ⟨(some 2), none, .mv true (.s 43)⟩,
      ⟨(some 3), none, .mv false (.s 44)⟩,
      ⟨(some 4), none, .mv false (.c (i64 0))⟩]) (
  .ret)
def f_wire_GetStrings_r0 : ACode :=
  .seq (
    .region [5, 6, 8] [] [
      ⟨(some 8), none, .mv true (.c (.sl (.own 1) none 0 []))⟩]) (
  .seq (
    .seq (
      .region [6, 8, 21, 22] [] [
        ⟨(some 21), none, .mv false (.s 5)⟩,
        ⟨(some 22), none, .mv false (.c (i64 0))⟩]) (
    .block 0 (
      .loop f_wire_GetStrings_l0))) (
  f_wire_GetStrings_r3))
def f_wire_GetStrings : AFun :=
 { n := 1, wr := [], res := [.t 2, .t 3, .t 4], body :=
    .seq (
      .region [] [] [
        ⟨(some 2), none, .mv true (.c (.sl (.own 1) none 0 []))⟩,
        ⟨(some 3), none, .mv false (.c (i64 0))⟩,
        ⟨(some 4), none, .mv false (.c (i64 0))⟩]) (
    .seq (
      .region [5, 6, 7] [] [
        ⟨(some 13), none, .mv false (.s 0)⟩,
        ⟨(some 14), none, .call 47 [(.s 13), (.c (i64 1))] []⟩,
        ⟨(some 12), none, .mv false (.s 14)⟩,
        ⟨(some 15), none, .extract 0 (.s 12)⟩,
        ⟨(some 16), none, .extract 1 (.s 12)⟩,
        ⟨(some 17), none, .extract 2 (.s 12)⟩,
        ⟨(some 5), none, .mv false (.s 15)⟩,
        ⟨(some 6), none, .mv false (.s 16)⟩,
        ⟨(some 7), none, .mv false (.s 17)⟩]) (
    .seq (
      .seq (
        .region [5, 6, 7, 19] [] [
          ⟨(some 18), none, .mv false (.s 7)⟩,
          ⟨(some 19), none, .bin .neq (.s 18) (.c (i64 0))⟩]) (
      .cond (.s 19) (
        .seq (
          .region [2, 3, 4] [] [
            ⟨(some 20), none, .mv false (.s 7)⟩,
            ⟨(some 2), none, .mv true (.c (.sl (.own 1) none 0 []))⟩,
            ⟨(some 3), none, .mv false (.c (i64 0))⟩,
            ⟨(some 4), none, .mv false (.s 20)⟩]) (
        .ret)) (
        .ghost (.keep [5, 6]) .skip))) (
    f_wire_GetStrings_r0))) }

/-- custody custodyref01.GetStrings = 56; calls custodyref01.GetBytes = 50, custodyref01.count = 49 -/
def f_custodyref01_GetStrings_r2 : ACode :=
  .seq (
    .region [5, 6, 8, 9, 11] [] [
      ⟨(some 38), none, .mv true (.s 8)⟩,
      ⟨(some 39), none, .mv false (.s 10)⟩,
      ⟨(some 40), none, .buildSl 1 1 [st []] [(0, 1, (.s 39))]⟩,
      ⟨(some 41), none, .append 1 16 false none none 38 (.s 40)⟩,
      ⟨(some 8), none, .mv true (.s 41)⟩]) (
  .region [5, 6, 8, 9] [] [
    ⟨(some 42), none, .mv false (.s 6)⟩,
    ⟨(some 43), none, .mv false (.s 11)⟩,
    ⟨(some 44), none, .bin .add (.s 42) (.s 43)⟩,
    ⟨(some 6), none, .mv false (.s 44)⟩])
def f_custodyref01_GetStrings_r1 : ACode :=
  .seq (
    .block 1 (
      .seq (
        .region [5, 6, 8, 9, 10, 11, 12] [] [
          ⟨(some 28), none, .mv false (.s 0)⟩,
          ⟨(some 29), none, .mv false (.s 6)⟩,
          ⟨(some 30), none, .slSl 1 (.s 28) (some (.s 29)) none none⟩,
          ⟨(some 31), none, .call 50 [(.s 30)] []⟩,
          ⟨(some 27), none, .mv false (.s 31)⟩,
          ⟨(some 32), none, .extract 0 (.s 27)⟩,
          ⟨(some 33), none, .extract 1 (.s 27)⟩,
          ⟨(some 34), none, .extract 2 (.s 27)⟩,
          ⟨(some 10), none, .mv false (.s 32)⟩,
          ⟨(some 11), none, .mv false (.s 33)⟩,
          ⟨(some 12), none, .mv false (.s 34)⟩]) (
      .seq (
        .seq (
          .region [5, 6, 8, 9, 10, 11, 12, 36] [] [
            ⟨(some 35), none, .mv false (.s 12)⟩,
            ⟨(some 36), none, .bin .neq (.s 35) (.c (i64 0))⟩]) (
        .cond (.s 36) (
          .seq (
            .region [2, 3, 4] [] [
              ⟨(some 37), none, .mv false (.s 12)⟩,
              ⟨(some 2), none, .mv true (.c (.sl (.own 1) none 0 []))⟩,
              ⟨(some 3), none, .mv false (.c (i64 0))⟩,
              ⟨(some 4), none, .mv false (.s 37)⟩]) (
          .ret)) (
          .ghost (.keep [5, 6, 8, 9, 10, 11]) .skip))) (
      f_custodyref01_GetStrings_r2)))) (
  .region [5, 6, 8, 9] [] [
    ⟨(some 25), none, .mv false (.s 9)⟩,
    ⟨(some 26), none, .bin .add (.s 25) (.c (i64 1))⟩,
    ⟨(some 9), none, .mv false (.s 26)⟩])
def f_custodyref01_GetStrings_l0 : ACode :=
  .seq (
    .seq (
      .region [5, 6, 8, 9, 24] [] [
        ⟨(some 22), none, .mv false (.s 9)⟩,
        ⟨(some 23), none, .mv false (.s 5)⟩,
        ⟨(some 24), none, .bin .lss (.s 22) (.s 23)⟩]) (
    .cond (.s 24) (
      .ghost (.keep [5, 6, 8, 9]) .skip) (
      .ghost (.keep [6, 8]) (.exit 0)))) (
  f_custodyref01_GetStrings_r1)
def f_custodyref01_GetStrings_r3 : ACode :=
  .seq (
    .region [2, 3, 4] [] [
      ⟨(some 45), none, .mv true (.s 8)⟩,
      ⟨(some 46), none, .mv false (.s 6)⟩,
      ⟨(some 2), none, .mv true (.s 45)⟩,
      ⟨(some 3), none, .mv false (.s 46)⟩,
      ⟨(some 4), none, .mv false (.c (i64 0))⟩]) (
  .ret)
def f_custodyref01_GetStrings_r0 : ACode :=
  .seq (
    .region [5, 6, 8] [] [
      ⟨(some 8), none, .mv true (.c (.sl (.own 1) none 0 []))⟩]) (
  .seq (
    .seq (
      .region [5, 6, 8, 9] [] [
        ⟨(some 9), none, .mv false (.c (i64 0))⟩]) (
    .block 0 (
      .loop f_custodyref01_GetStrings_l0))) (
  f_custodyref01_GetStrings_r3))
def f_custodyref01_GetStrings : AFun :=
 { n := 1, wr := [], res := [.t 2, .t 3, .t 4], body :=
    .seq (
      .region [] [] [
        ⟨(some 2), none, .mv true (.c (.sl (.own 1) none 0 []))⟩,
        ⟨(some 3), none, .mv false (.c (i64 0))⟩,
        ⟨(some 4), none, .mv false (.c (i64 0))⟩]) (
    .seq (
      .region [5, 6, 7] [] [
        ⟨(some 14), none, .mv false (.s 0)⟩,
        ⟨(some 15), none, .call 49 [(.s 14), (.c (i64 1))] []⟩,
        ⟨(some 13), none, .mv false (.s 15)⟩,
        ⟨(some 16), none, .extract 0 (.s 13)⟩,
        ⟨(some 17), none, .extract 1 (.s 13)⟩,
        ⟨(some 18), none, .extract 2 (.s 13)⟩,
        ⟨(some 5), none, .mv false (.s 16)⟩,
        ⟨(some 6), none, .mv false (.s 17)⟩,
        ⟨(some 7), none, .mv false (.s 18)⟩]) (
    .seq (
      .seq (
        .region [5, 6, 7, 20] [] [
          ⟨(some 19), none, .mv false (.s 7)⟩,
          ⟨(some 20), none, .bin .neq (.s 19) (.c (i64 0))⟩]) (
      .cond (.s 20) (
        .seq (
          .region [2, 3, 4] [] [
            ⟨(some 21), none, .mv false (.s 7)⟩,
            ⟨(some 2), none, .mv true (.c (.sl (.own 1) none 0 []))⟩,
            ⟨(some 3), none, .mv false (.c (i64 0))⟩,
            ⟨(some 4), none, .mv false (.s 21)⟩]) (
        .ret)) (
        .ghost (.keep [5, 6]) .skip))) (
    f_custodyref01_GetStrings_r0))) }

/-- custody custodyref01.SameTexts = 57; calls  -/
def f_custodyref01_SameTexts_r1 : ACode :=
  .seq (
    .block 1 (
      .seq (
        .region [5, 25] [] [
          ⟨(some 17), none, .mv false (.s 0)⟩,
          ⟨(some 18), none, .mv false (.s 5)⟩,
          ⟨(some 19), none, .idxSl 1 (.s 17) (.s 18)⟩,
          ⟨(some 20), none, .load none none false (.s 19)⟩,
          ⟨(some 21), none, .mv false (.s 1)⟩,
          ⟨(some 22), none, .mv false (.s 5)⟩,
          ⟨(some 23), none, .idxSl 1 (.s 21) (.s 22)⟩,
          ⟨(some 24), none, .load none none false (.s 23)⟩,
          ⟨(some 25), none, .bin .neq (.s 20) (.s 24)⟩]) (
      .cond (.s 25) (
        .seq (
          .region [4] [] [
            ⟨(some 4), none, .mv false (.c (bo false))⟩]) (
        .ret)) (
        .ghost (.keep [5]) .skip)))) (
  .region [5] [] [
    ⟨(some 15), none, .mv false (.s 5)⟩,
    ⟨(some 16), none, .bin .add (.s 15) (.c (i64 1))⟩,
    ⟨(some 5), none, .mv false (.s 16)⟩])
def f_custodyref01_SameTexts_l0 : ACode :=
  .seq (
    .seq (
      .region [5, 14] [] [
        ⟨(some 11), none, .mv false (.s 5)⟩,
        ⟨(some 12), none, .mv false (.s 0)⟩,
        ⟨(some 13), none, .len false (.s 12)⟩,
        ⟨(some 14), none, .bin .lss (.s 11) (.s 13)⟩]) (
    .cond (.s 14) (
      .ghost (.keep [5]) .skip) (
      .ghost (.keep []) (.exit 0)))) (
  f_custodyref01_SameTexts_r1)
def f_custodyref01_SameTexts_r2 : ACode :=
  .seq (
    .region [4] [] [
      ⟨(some 4), none, .mv false (.c (bo true))⟩]) (
  .ret)
def f_custodyref01_SameTexts_r0 : ACode :=
  .seq (
    .seq (
      .region [5] [] [
        ⟨(some 5), none, .mv false (.c (i64 0))⟩]) (
    .block 0 (
      .loop f_custodyref01_SameTexts_l0))) (
  f_custodyref01_SameTexts_r2)
def f_custodyref01_SameTexts : AFun :=
 { n := 2, wr := [], res := [.t 4], body :=
    .seq (
      .region [] [] [
        ⟨(some 4), none, .mv false (.c (bo false))⟩]) (
    .seq (
      .seq (
        .region [10] [] [
          ⟨(some 6), none, .mv false (.s 0)⟩,
          ⟨(some 7), none, .len false (.s 6)⟩,
          ⟨(some 8), none, .mv false (.s 1)⟩,
          ⟨(some 9), none, .len false (.s 8)⟩,
          ⟨(some 10), none, .bin .neq (.s 7) (.s 9)⟩]) (
      .cond (.s 10) (
        .seq (
          .region [4] [] [
            ⟨(some 4), none, .mv false (.c (bo false))⟩]) (
        .ret)) (
        .ghost (.keep []) .skip))) (
    f_custodyref01_SameTexts_r0)) }

/-- custody wire.GetDigests = 58; calls wire.count = 47 -/
def f_wire_GetDigests_r1 : ACode :=
  .seq (
    .block 1 (
      .seq (
        .region [6, 8, 18, 19] [] [
          ⟨(some 21), none, .mv true (.s 8)⟩,
          ⟨(some 22), none, .mv false (.s 0)⟩,
          ⟨(some 23), none, .mv false (.s 6)⟩,
          ⟨(some 24), none, .mv false (.s 6)⟩,
          ⟨(some 25), none, .bin .add (.s 24) (.c (i64 16))⟩,
          ⟨(some 26), none, .slSl 1 (.s 22) (some (.s 23)) (some (.s 25)) none⟩,
          ⟨(some 27), none, .s2ap 16 (.s 26)⟩,
          ⟨(some 28), none, .load (some 16) none false (.s 27)⟩,
          ⟨(some 29), none, .buildSl 16 1 (bys (zeros 16)) [(0, 16, (.s 28))]⟩,
          ⟨(some 30), none, .append 16 16 false none none 21 (.s 29)⟩,
          ⟨(some 8), none, .mv true (.s 30)⟩]) (
      .region [6, 8, 18, 19] [] [
        ⟨(some 31), none, .mv false (.s 6)⟩,
        ⟨(some 32), none, .bin .add (.s 31) (.c (i64 16))⟩,
        ⟨(some 6), none, .mv false (.s 32)⟩]))) (
  .region [6, 8, 18, 19] [] [
    ⟨(some 33), none, .bin .add (.s 19) (.c (i64 1))⟩,
    ⟨(some 19), none, .mv false (.s 33)⟩])
def f_wire_GetDigests_l0 : ACode :=
  .seq (
    .region [6, 8, 18, 19, 20] [] [
      ⟨(some 20), none, .bin .lss (.s 19) (.s 18)⟩]) (
  .seq (
    .cond (.s 20) (
      .ghost (.keep [6, 8, 18, 19]) .skip) (
      .ghost (.keep [6, 8]) (.exit 0))) (
  f_wire_GetDigests_r1))
def f_wire_GetDigests_r2 : ACode :=
  .seq (
    .region [2, 3, 4] [] [
      ⟨(some 34), none, .mv true (.s 8)⟩,
      ⟨(some 35), none, .mv false (.s 6)⟩,
      ⟨(some 2), none, .mv true (.s 34)⟩,
      ⟨(some 3), none, .mv false (.s 35)⟩,
      ⟨(some 4), none, .mv false (.c (i64 0))⟩]) (
  .ret)
def f_wire_GetDigests_r0 : ACode :=
  .seq (
    .region [5, 6, 8] [] [
      ⟨(some 8), none, .mv true (.c (.sl (.own 16) none 0 []))⟩]) (
  .seq (
    .seq (
      .region [6, 8, 18, 19] [] [
        ⟨(some 18), none, .mv false (.s 5)⟩,
        ⟨(some 19), none, .mv false (.c (i64 0))⟩]) (
    .block 0 (
      .loop f_wire_GetDigests_l0))) (
  f_wire_GetDigests_r2))
def f_wire_GetDigests : AFun :=
 { n := 1, wr := [], res := [.t 2, .t 3, .t 4], body :=
    .seq (
      .region [] [] [
        ⟨(some 2), none, .mv true (.c (.sl (.own 16) none 0 []))⟩,
        ⟨(some 3), none, .mv false (.c (i64 0))⟩,
        ⟨(some 4), none, .mv false (.c (i64 0))⟩]) (
    .seq (
      .region [5, 6, 7] [] [
        ⟨(some 10), none, .mv false (.s 0)⟩,
        ⟨(some 11), none, .call 47 [(.s 10), (.c (i64 16))] []⟩,
        ⟨(some 9), none, .mv false (.s 11)⟩,
        ⟨(some 12), none, .extract 0 (.s 9)⟩,
        ⟨(some 13), none, .extract 1 (.s 9)⟩,
        ⟨(some 14), none, .extract 2 (.s 9)⟩,
        ⟨(some 5), none, .mv false (.s 12)⟩,
        ⟨(some 6), none, .mv false (.s 13)⟩,
        ⟨(some 7), none, .mv false (.s 14)⟩]) (
    .seq (
      .seq (
        .region [5, 6, 7, 16] [] [
          ⟨(some 15), none, .mv false (.s 7)⟩,
          ⟨(some 16), none, .bin .neq (.s 15) (.c (i64 0))⟩]) (
      .cond (.s 16) (
        .seq (
          .region [2, 3, 4] [] [
            ⟨(some 17), none, .mv false (.s 7)⟩,
            ⟨(some 2), none, .mv true (.c (.sl (.own 16) none 0 []))⟩,
            ⟨(some 3), none, .mv false (.c (i64 0))⟩,
            ⟨(some 4), none, .mv false (.s 17)⟩]) (
        .ret)) (
        .ghost (.keep [5, 6]) .skip))) (
    f_wire_GetDigests_r0))) }

/-- custody custodyref01.GetDigests = 59; calls custodyref01.count = 49 -/
def f_custodyref01_GetDigests_r2 : ACode :=
  .seq (
    .block 3 (
      .region [5, 6, 8, 9, 10, 11] [.norm [10]] [
        ⟨(some 30), none, .mv false (.s 11)⟩,
        ⟨(some 31), none, .mv false (.s 0)⟩,
        ⟨(some 32), none, .mv false (.s 6)⟩,
        ⟨(some 33), none, .mv false (.s 11)⟩,
        ⟨(some 34), none, .bin .add (.s 32) (.s 33)⟩,
        ⟨(some 35), none, .idxSl 1 (.s 31) (.s 34)⟩,
        ⟨(some 36), none, .load none none false (.s 35)⟩,
        ⟨(some 37), none, .idxArr 16 1 (.s 10) (.s 30)⟩,
        ⟨none, none, .store none 10 false (.s 37) (.s 36)⟩])) (
  .region [5, 6, 8, 9, 10, 11] [] [
    ⟨(some 28), none, .mv false (.s 11)⟩,
    ⟨(some 29), none, .bin .add (.s 28) (.c (i64 1))⟩,
    ⟨(some 11), none, .mv false (.s 29)⟩])
def f_custodyref01_GetDigests_l1 : ACode :=
  .seq (
    .seq (
      .region [5, 6, 8, 9, 10, 11, 27] [] [
        ⟨(some 26), none, .mv false (.s 11)⟩,
        ⟨(some 27), none, .bin .lss (.s 26) (.c (i64 16))⟩]) (
    .cond (.s 27) (
      .ghost (.keep [5, 6, 8, 9, 10, 11]) .skip) (
      .ghost (.keep [5, 6, 8, 9, 10]) (.exit 2)))) (
  f_custodyref01_GetDigests_r2)
def f_custodyref01_GetDigests_r3 : ACode :=
  .seq (
    .region [5, 6, 8, 9] [.norm [10]] [
      ⟨(some 38), none, .mv true (.s 8)⟩,
      ⟨(some 39), none, .load (some 16) (some 10) false (.s 10)⟩,
      ⟨(some 40), none, .buildSl 16 1 (bys (zeros 16)) [(0, 16, (.s 39))]⟩,
      ⟨(some 41), none, .append 16 16 false none none 38 (.s 40)⟩,
      ⟨(some 8), none, .mv true (.s 41)⟩]) (
  .region [5, 6, 8, 9] [] [
    ⟨(some 42), none, .mv false (.s 6)⟩,
    ⟨(some 43), none, .bin .add (.s 42) (.c (i64 16))⟩,
    ⟨(some 6), none, .mv false (.s 43)⟩])
def f_custodyref01_GetDigests_r1 : ACode :=
  .seq (
    .block 1 (
      .seq (
        .region [5, 6, 8, 9, 10] [.norm [10]] [
          ⟨(some 10), none, .alloc 10 (bys (zeros 16))⟩]) (
      .seq (
        .seq (
          .region [5, 6, 8, 9, 10, 11] [] [
            ⟨(some 11), none, .mv false (.c (i64 0))⟩]) (
        .block 2 (
          .loop f_custodyref01_GetDigests_l1))) (
      f_custodyref01_GetDigests_r3)))) (
  .region [5, 6, 8, 9] [.drop [10]] [
    ⟨(some 24), none, .mv false (.s 9)⟩,
    ⟨(some 25), none, .bin .add (.s 24) (.c (i64 1))⟩,
    ⟨(some 9), none, .mv false (.s 25)⟩])
def f_custodyref01_GetDigests_l0 : ACode :=
  .seq (
    .seq (
      .region [5, 6, 8, 9, 23] [] [
        ⟨(some 21), none, .mv false (.s 9)⟩,
        ⟨(some 22), none, .mv false (.s 5)⟩,
        ⟨(some 23), none, .bin .lss (.s 21) (.s 22)⟩]) (
    .cond (.s 23) (
      .ghost (.keep [5, 6, 8, 9]) .skip) (
      .ghost (.keep [6, 8]) (.exit 0)))) (
  f_custodyref01_GetDigests_r1)
def f_custodyref01_GetDigests_r4 : ACode :=
  .seq (
    .region [2, 3, 4] [] [
      ⟨(some 44), none, .mv true (.s 8)⟩,
      ⟨(some 45), none, .mv false (.s 6)⟩,
      ⟨(some 2), none, .mv true (.s 44)⟩,
      ⟨(some 3), none, .mv false (.s 45)⟩,
      ⟨(some 4), none, .mv false (.c (i64 0))⟩]) (
  .ret)
def f_custodyref01_GetDigests_r0 : ACode :=
  .seq (
    .region [5, 6, 8] [] [
      ⟨(some 8), none, .mv true (.c (.sl (.own 16) none 0 []))⟩]) (
  .seq (
    .seq (
      .region [5, 6, 8, 9] [] [
        ⟨(some 9), none, .mv false (.c (i64 0))⟩]) (
    .block 0 (
      .loop f_custodyref01_GetDigests_l0))) (
  f_custodyref01_GetDigests_r4))
def f_custodyref01_GetDigests : AFun :=
 { n := 1, wr := [], res := [.t 2, .t 3, .t 4], body :=
    .seq (
      .region [] [] [
        ⟨(some 2), none, .mv true (.c (.sl (.own 16) none 0 []))⟩,
        ⟨(some 3), none, .mv false (.c (i64 0))⟩,
        ⟨(some 4), none, .mv false (.c (i64 0))⟩]) (
    .seq (
      .region [5, 6, 7] [] [
        ⟨(some 13), none, .mv false (.s 0)⟩,
        ⟨(some 14), none, .call 49 [(.s 13), (.c (i64 16))] []⟩,
        ⟨(some 12), none, .mv false (.s 14)⟩,
        ⟨(some 15), none, .extract 0 (.s 12)⟩,
        ⟨(some 16), none, .extract 1 (.s 12)⟩,
        ⟨(some 17), none, .extract 2 (.s 12)⟩,
        ⟨(some 5), none, .mv false (.s 15)⟩,
        ⟨(some 6), none, .mv false (.s 16)⟩,
        ⟨(some 7), none, .mv false (.s 17)⟩]) (
    .seq (
      .seq (
        .region [5, 6, 7, 19] [] [
          ⟨(some 18), none, .mv false (.s 7)⟩,
          ⟨(some 19), none, .bin .neq (.s 18) (.c (i64 0))⟩]) (
      .cond (.s 19) (
        .seq (
          .region [2, 3, 4] [] [
            ⟨(some 20), none, .mv false (.s 7)⟩,
            ⟨(some 2), none, .mv true (.c (.sl (.own 16) none 0 []))⟩,
            ⟨(some 3), none, .mv false (.c (i64 0))⟩,
            ⟨(some 4), none, .mv false (.s 20)⟩]) (
        .ret)) (
        .ghost (.keep [5, 6]) .skip))) (
    f_custodyref01_GetDigests_r0))) }

/-- custody custodyref01.SameDigests = 60; calls  -/
def f_custodyref01_SameDigests_r1 : ACode :=
  .seq (
    .block 1 (
      .seq (
        .region [5, 25] [] [
          ⟨(some 17), none, .mv false (.s 0)⟩,
          ⟨(some 18), none, .mv false (.s 5)⟩,
          ⟨(some 19), none, .idxSl 16 (.s 17) (.s 18)⟩,
          ⟨(some 20), none, .load (some 16) none false (.s 19)⟩,
          ⟨(some 21), none, .mv false (.s 1)⟩,
          ⟨(some 22), none, .mv false (.s 5)⟩,
          ⟨(some 23), none, .idxSl 16 (.s 21) (.s 22)⟩,
          ⟨(some 24), none, .load (some 16) none false (.s 23)⟩,
          ⟨(some 25), none, .eqF (ks8 16) true (.s 20) (.s 24)⟩]) (
      .cond (.s 25) (
        .seq (
          .region [4] [] [
            ⟨(some 4), none, .mv false (.c (bo false))⟩]) (
        .ret)) (
        .ghost (.keep [5]) .skip)))) (
  .region [5] [] [
    ⟨(some 15), none, .mv false (.s 5)⟩,
    ⟨(some 16), none, .bin .add (.s 15) (.c (i64 1))⟩,
    ⟨(some 5), none, .mv false (.s 16)⟩])
def f_custodyref01_SameDigests_l0 : ACode :=
  .seq (
    .seq (
      .region [5, 14] [] [
        ⟨(some 11), none, .mv false (.s 5)⟩,
        ⟨(some 12), none, .mv false (.s 0)⟩,
        ⟨(some 13), none, .len false (.s 12)⟩,
        ⟨(some 14), none, .bin .lss (.s 11) (.s 13)⟩]) (
    .cond (.s 14) (
      .ghost (.keep [5]) .skip) (
      .ghost (.keep []) (.exit 0)))) (
  f_custodyref01_SameDigests_r1)
def f_custodyref01_SameDigests_r2 : ACode :=
  .seq (
    .region [4] [] [
      ⟨(some 4), none, .mv false (.c (bo true))⟩]) (
  .ret)
def f_custodyref01_SameDigests_r0 : ACode :=
  .seq (
    .seq (
      .region [5] [] [
        ⟨(some 5), none, .mv false (.c (i64 0))⟩]) (
    .block 0 (
      .loop f_custodyref01_SameDigests_l0))) (
  f_custodyref01_SameDigests_r2)
def f_custodyref01_SameDigests : AFun :=
 { n := 2, wr := [], res := [.t 4], body :=
    .seq (
      .region [] [] [
        ⟨(some 4), none, .mv false (.c (bo false))⟩]) (
    .seq (
      .seq (
        .region [10] [] [
          ⟨(some 6), none, .mv false (.s 0)⟩,
          ⟨(some 7), none, .len false (.s 6)⟩,
          ⟨(some 8), none, .mv false (.s 1)⟩,
          ⟨(some 9), none, .len false (.s 8)⟩,
          ⟨(some 10), none, .bin .neq (.s 7) (.s 9)⟩]) (
      .cond (.s 10) (
        .seq (
          .region [4] [] [
            ⟨(some 4), none, .mv false (.c (bo false))⟩]) (
        .ret)) (
        .ghost (.keep []) .skip))) (
    f_custodyref01_SameDigests_r0)) }

/-- custody wire.count = 47; calls wire.GetInt = 45 -/
def f_wire_count_r0 : ACode :=
  .seq (
    .region [4, 5, 6] [] [
      ⟨(some 28), none, .mv false (.s 4)⟩,
      ⟨(some 29), none, .mv false (.s 5)⟩,
      ⟨(some 30), none, .mv false (.s 6)⟩,
      ⟨(some 4), none, .mv false (.s 28)⟩,
      ⟨(some 5), none, .mv false (.s 29)⟩,
      ⟨(some 6), none, .mv false (.s 30)⟩]) (
  .ret)
def f_wire_count : AFun :=
 { n := 2, wr := [], res := [.t 4, .t 5, .t 6], body :=
    .seq (
      .region [] [] [
        ⟨(some 4), none, .mv false (.c (i64 0))⟩,
        ⟨(some 5), none, .mv false (.c (i64 0))⟩,
        ⟨(some 6), none, .mv false (.c (i64 0))⟩]) (
    .seq (
      .region [4, 5, 6] [] [
        ⟨(some 8), none, .mv false (.s 0)⟩,
        ⟨(some 9), none, .call 45 [(.s 8)] []⟩,
        ⟨(some 7), none, .mv false (.s 9)⟩,
        ⟨(some 10), none, .extract 0 (.s 7)⟩,
        ⟨(some 11), none, .extract 1 (.s 7)⟩,
        ⟨(some 12), none, .extract 2 (.s 7)⟩,
        ⟨(some 4), none, .mv false (.s 10)⟩,
        ⟨(some 5), none, .mv false (.s 11)⟩,
        ⟨(some 6), none, .mv false (.s 12)⟩]) (
    .seq (
      .block 0 (
        .seq (
          .region [4, 5, 6, 13] [] [
            ⟨(some 14), none, .mv false (.s 6)⟩,
            ⟨(some 15), none, .bin .neq (.s 14) (.c (i64 0))⟩,
            ⟨(some 13), none, .mv false (.s 15)⟩]) (
        .cond (.s 13) (
          .ghost (.keep [4, 5, 6]) .skip) (
          .seq (
            .region [4, 5, 6, 16] [] [
              ⟨(some 17), none, .mv false (.s 4)⟩,
              ⟨(some 18), none, .bin .lss (.s 17) (.c (i64 0))⟩,
              ⟨(some 16), none, .mv false (.s 18)⟩]) (
          .cond (.s 16) (
            .region [4, 5, 6] [] [
              ⟨(some 6), none, .mv false (.c (i64 6))⟩]) (
            .seq (
              .region [4, 5, 6, 19] [] [
                ⟨(some 20), none, .mv false (.s 4)⟩,
                ⟨(some 21), none, .mv false (.s 0)⟩,
                ⟨(some 22), none, .len false (.s 21)⟩,
                ⟨(some 23), none, .mv false (.s 5)⟩,
                ⟨(some 24), none, .bin .sub (.s 22) (.s 23)⟩,
                ⟨(some 25), none, .mv false (.s 1)⟩,
                ⟨(some 26), none, .bin .quo (.s 24) (.s 25)⟩,
                ⟨(some 27), none, .bin .gtr (.s 20) (.s 26)⟩,
                ⟨(some 19), none, .mv false (.s 27)⟩]) (
            .cond (.s 19) (
              .region [4, 5, 6] [] [
                ⟨(some 6), none, .mv false (.c (i64 5))⟩]) (
              .ghost (.keep [4, 5, 6]) .skip)))))))) (
    f_wire_count_r0))) }

/-- custody custodyref01.count = 49; calls custodyref01.GetInt = 46 -/
def f_custodyref01_count_r2 : ACode :=
  .seq (
    .region [4, 5, 6] [] [
      ⟨(some 35), none, .mv false (.s 7)⟩,
      ⟨(some 36), none, .mv false (.s 8)⟩,
      ⟨(some 4), none, .mv false (.s 35)⟩,
      ⟨(some 5), none, .mv false (.s 36)⟩,
      ⟨(some 6), none, .mv false (.c (i64 0))⟩]) (
  .ret)
def f_custodyref01_count_r1 : ACode :=
  .seq (
    .seq (
      .region [7, 8, 34] [] [
        ⟨(some 21), none, .mv false (.s 7)⟩,
        ⟨(some 22), none, .mv false (.s 0)⟩,
        ⟨(some 23), none, .len false (.s 22)⟩,
        ⟨(some 24), none, .bin .gtr (.s 21) (.s 23)⟩,
        ⟨(some 25), none, .mv false (.s 24)⟩,
        ⟨(some 26), (some (25, false)), .mv false (.s 7)⟩,
        ⟨(some 27), (some (25, false)), .mv false (.s 1)⟩,
        ⟨(some 28), (some (25, false)), .bin .mul (.s 26) (.s 27)⟩,
        ⟨(some 29), (some (25, false)), .mv false (.s 0)⟩,
        ⟨(some 30), (some (25, false)), .len false (.s 29)⟩,
        ⟨(some 31), (some (25, false)), .mv false (.s 8)⟩,
        ⟨(some 32), (some (25, false)), .bin .sub (.s 30) (.s 31)⟩,
        ⟨(some 33), (some (25, false)), .bin .gtr (.s 28) (.s 32)⟩,
        ⟨(some 34), none, .pick (.s 25) (.c (bo true)) (.s 33)⟩]) (
    .cond (.s 34) (
      .seq (
        .region [4, 5, 6] [] [
          ⟨(some 4), none, .mv false (.c (i64 0))⟩,
          ⟨(some 5), none, .mv false (.c (i64 0))⟩,
          ⟨(some 6), none, .mv false (.c (i64 5))⟩]) (
      .ret)) (
      .ghost (.keep [7, 8]) .skip))) (
  f_custodyref01_count_r2)
def f_custodyref01_count_r0 : ACode :=
  .seq (
    .seq (
      .region [7, 8, 20] [] [
        ⟨(some 19), none, .mv false (.s 7)⟩,
        ⟨(some 20), none, .bin .lss (.s 19) (.c (i64 0))⟩]) (
    .cond (.s 20) (
      .seq (
        .region [4, 5, 6] [] [
          ⟨(some 4), none, .mv false (.c (i64 0))⟩,
          ⟨(some 5), none, .mv false (.c (i64 0))⟩,
          ⟨(some 6), none, .mv false (.c (i64 6))⟩]) (
      .ret)) (
      .ghost (.keep [7, 8]) .skip))) (
  f_custodyref01_count_r1)
def f_custodyref01_count : AFun :=
 { n := 2, wr := [], res := [.t 4, .t 5, .t 6], body :=
    .seq (
      .region [] [] [
        ⟨(some 4), none, .mv false (.c (i64 0))⟩,
        ⟨(some 5), none, .mv false (.c (i64 0))⟩,
        ⟨(some 6), none, .mv false (.c (i64 0))⟩]) (
    .seq (
      .region [7, 8, 9] [] [
        ⟨(some 11), none, .mv false (.s 0)⟩,
        ⟨(some 12), none, .call 46 [(.s 11)] []⟩,
        ⟨(some 10), none, .mv false (.s 12)⟩,
        ⟨(some 13), none, .extract 0 (.s 10)⟩,
        ⟨(some 14), none, .extract 1 (.s 10)⟩,
        ⟨(some 15), none, .extract 2 (.s 10)⟩,
        ⟨(some 7), none, .mv false (.s 13)⟩,
        ⟨(some 8), none, .mv false (.s 14)⟩,
        ⟨(some 9), none, .mv false (.s 15)⟩]) (
    .seq (
      .seq (
        .region [7, 8, 9, 17] [] [
          ⟨(some 16), none, .mv false (.s 9)⟩,
          ⟨(some 17), none, .bin .neq (.s 16) (.c (i64 0))⟩]) (
      .cond (.s 17) (
        .seq (
          .region [4, 5, 6] [] [
            ⟨(some 18), none, .mv false (.s 9)⟩,
            ⟨(some 4), none, .mv false (.c (i64 0))⟩,
            ⟨(some 5), none, .mv false (.c (i64 0))⟩,
            ⟨(some 6), none, .mv false (.s 18)⟩]) (
        .ret)) (
        .ghost (.keep [7, 8]) .skip))) (
    f_custodyref01_count_r0))) }

/-- custody wire.reader (M) = 51; calls  -/
def f_wire_reader : AFun :=
 { n := 2, wr := [], res := [.t 4], body :=
    .seq (
      .region [2, 3] [.norm [2, 3]] [
        ⟨(some 2), none, .box 2 none true (.s 0)⟩,
        ⟨(some 3), none, .box 3 none false (.s 1)⟩,
        ⟨(some 4), none, .mv false (.c (.lit .nilFunc))⟩]) (
    .seq (
      .region [4] [] [
        ⟨(some 5), none, .mkfn 61 [] [(.s 2), (.s 3)]⟩,
        ⟨(some 4), none, .mv false (.s 5)⟩]) (
    .ret)) }

/-- custody wire.reader$1 (M) = 61; calls wire.GetInt = 45 -/
def f_wire_reader_1 : AFun :=
 { n := 2, wr := [], res := [.t 2, .t 3, .t 4], body :=
    .seq (
      .region [0, 1] [] [
        ⟨(some 2), none, .mv false (.c (i64 0))⟩,
        ⟨(some 3), none, .mv false (.c (i64 0))⟩,
        ⟨(some 4), none, .mv false (.c (i64 0))⟩]) (
    .seq (
      .region [0, 1, 5, 6, 7] [.norm [0, 1]] [
        ⟨(some 9), none, .load none (some 0) false (.s 0)⟩,
        ⟨(some 10), none, .load none (some 1) false (.s 1)⟩,
        ⟨(some 11), none, .slSl 1 (.s 9) (some (.s 10)) none none⟩,
        ⟨(some 12), none, .call 45 [(.s 11)] []⟩,
        ⟨(some 8), none, .mv false (.s 12)⟩,
        ⟨(some 13), none, .extract 0 (.s 8)⟩,
        ⟨(some 14), none, .extract 1 (.s 8)⟩,
        ⟨(some 15), none, .extract 2 (.s 8)⟩,
        ⟨(some 5), none, .mv false (.s 13)⟩,
        ⟨(some 6), none, .mv false (.s 14)⟩,
        ⟨(some 7), none, .mv false (.s 15)⟩]) (
    .seq (
      .region [0, 1, 5, 7] [.norm [0, 1]] [
        ⟨(some 16), none, .load none (some 1) false (.s 1)⟩,
        ⟨(some 17), none, .mv false (.s 6)⟩,
        ⟨(some 18), none, .bin .add (.s 16) (.s 17)⟩,
        ⟨none, none, .store none 1 false (.s 1) (.s 18)⟩]) (
    .seq (
      .region [0, 1, 2, 3, 4] [.norm [0, 1]] [
        ⟨(some 19), none, .mv false (.s 5)⟩,
        ⟨(some 20), none, .load none (some 1) false (.s 1)⟩,
        ⟨(some 21), none, .mv false (.s 7)⟩,
        ⟨(some 2), none, .mv false (.s 19)⟩,
        ⟨(some 3), none, .mv false (.s 20)⟩,
        ⟨(some 4), none, .mv false (.s 21)⟩]) (
    .ret)))) }

end Go.Abs
end

section
namespace Go.Abs
def fl (h c : UInt8) : UInt8 := if h < 128 then 255 - c else c
def kOf (h : UInt8) : Nat := (fl h h).toNat - 128
def valB (l : List UInt8) : Nat := l.foldl (fun a c => 256 * a + c.toNat) 0
/-- A whole number at the beginning: number, how many bytes, error. -/
def getI : List UInt8 → Int × Nat × Nat
  | [] => (0, 0, 5)
  | h :: t =>
    if 8 < kOf h then (0, 0, 6) else if t.length < kOf h then (0, 0, 5)
    else if 0 < kOf h ∧ fl h (at8 t 0) = 0 then (0, 0, 6)
    else if 2 ^ 63 ≤ valB ((t.take (kOf h)).map (fl h)) then (0, 0, 6)
    else (if h < 128 then -1 - (valB ((t.take (kOf h)).map (fl h)) : Int) else valB ((t.take (kOf h)).map (fl h)), kOf h + 1, 0)

theorem fl_fl (h c : UInt8) : fl h (fl h c) = c := by
  unfold fl
  split
  · apply UInt8.toNat_inj.1
    have := c.toNat_lt
    have h : (255 : UInt8).toNat = 255 := rfl
    rw [UInt8.toNat_sub, UInt8.toNat_sub, h]
    omega
  · rfl
theorem lt128 (h : UInt8) : h < 128 ↔ h.toNat < 128 := UInt8.lt_iff_toNat_lt
theorem sub255 (c : UInt8) : (255 - c).toNat = 255 - c.toNat := by
  have := c.toNat_lt
  have h : (255 : UInt8).toNat = 255 := rfl
  rw [UInt8.toNat_sub, h]; omega
theorem kOf_nat (h : UInt8) : kOf h = if h.toNat < 128 then 127 - h.toNat else h.toNat - 128 := by
  unfold kOf fl
  by_cases hh : h < 128
  · rw [if_pos hh, if_pos ((lt128 h).1 hh), sub255]; have := (lt128 h).1 hh; omega
  · rw [if_neg hh, if_neg (fun e => hh ((lt128 h).2 e))]
theorem valB_snoc (l : List UInt8) (c : UInt8) : valB (l ++ [c]) = 256 * valB l + c.toNat := by simp [valB]
theorem valB_rev : ∀ l : List UInt8, valB l.reverse = valD l
  | [] => rfl
  | x :: l => by rw [List.reverse_cons, valB_snoc, valB_rev l, valD]; omega
theorem valB_eq (l : List UInt8) : valB l = valD l.reverse := by rw [← valB_rev, List.reverse_reverse]
theorem valD_lt : ∀ l : List UInt8, valD l < 256 ^ l.length
  | [] => by simp [valD]
  | x :: l => by
    have := valD_lt l
    have hx := x.toNat_lt
    rw [valD, List.length_cons, Nat.pow_succ]
    omega
theorem valB_lt (l : List UInt8) : valB l < 256 ^ l.length := by rw [valB_eq]; have := valD_lt l.reverse; rwa [List.length_reverse] at this
theorem digs_valD : ∀ l : List UInt8, (∀ c, l.getLast? = some c → c ≠ 0) → digs (valD l) = l
  | [], _ => by simp [valD, digs_zero]
  | [x], h => by
    have hx : x ≠ 0 := h x rfl
    have hx' : x.toNat ≠ 0 := fun e => hx (UInt8.toNat_inj.1 e)
    have := x.toNat_lt
    simp only [valD]
    rw [digs_pos (by omega), show (x.toNat + 256 * 0) / 256 = 0 by omega, digs_zero]
    congr 1
    apply UInt8.toNat_inj.1
    rw [UInt8.toNat_ofNat']; omega
  | x :: y :: l, h => by
    have ih := digs_valD (y :: l) (fun c hc => h c (by simpa [List.getLast?_cons_cons] using hc))
    have hne : valD (y :: l) ≠ 0 := fun e => by rw [e, digs_zero] at ih; cases ih
    have := x.toNat_lt
    rw [valD, digs_pos (by omega), show (x.toNat + 256 * valD (y :: l)) / 256 = valD (y :: l) by omega, ih]
    congr 1
    apply UInt8.toNat_inj.1
    rw [UInt8.toNat_ofNat']; omega
theorem digs_valB {l : List UInt8} (h : l = [] ∨ at8 l 0 ≠ 0) : (digs (valB l)).reverse = l := by
  rw [valB_eq, digs_valD, List.reverse_reverse]
  intro c hc
  rw [List.getLast?_reverse] at hc
  cases l with
  | nil => simp at hc
  | cons x l =>
    simp only [List.head?_cons, Option.some.injEq] at hc
    subst hc
    simpa using h
theorem digs_last (n : Nat) : ∀ c, (digs n).getLast? = some c → c ≠ 0 := by
  induction n using Nat.strongRecOn with
  | _ n ih =>
    intro c hc
    by_cases h : n = 0
    · subst h; simp [digs_zero] at hc
    · rw [digs_pos h] at hc
      by_cases h2 : n / 256 = 0
      · rw [h2, digs_zero] at hc
        simp only [List.getLast?_singleton, Option.some.injEq] at hc
        subst hc
        intro e
        have := congrArg UInt8.toNat e
        rw [UInt8.toNat_ofNat'] at this
        have h0 : (0 : UInt8).toNat = 0 := rfl
        omega
      · have := ih (n / 256) (by omega) c
        rw [digs_pos h2] at this hc
        rw [List.getLast?_cons_cons] at hc
        exact this hc
theorem digs_head {n : Nat} (h : n ≠ 0) : at8 (digs n).reverse 0 ≠ 0 := by
  have hl := digs_last n
  cases hr : (digs n).reverse with
  | nil => rw [List.reverse_eq_nil_iff, digs_pos h] at hr; cases hr
  | cons x l =>
    refine hl x ?_
    rw [← List.head?_reverse, hr]; rfl
theorem valB_digs (n : Nat) : valB (digs n).reverse = n := by rw [valB_rev, val_digs]

theorem mag_lt {n : Int} (h : isI64 n) : mag n < 2 ^ 63 := by
  obtain ⟨h1, h2⟩ := h
  unfold mag
  split <;> omega
/-- The first byte. -/
theorem head_lt {n : Int} {k : Nat} (hk : k ≤ 8) : flp n (UInt8.ofNat (128 + k)) < 128 ↔ n < 0 := by
  rw [lt128, head_nat hk]
  split <;> omega
theorem head_k {n : Int} {k : Nat} (hk : k ≤ 8) : kOf (flp n (UInt8.ofNat (128 + k))) = k := by
  rw [kOf_nat, head_nat hk]
  split <;> split <;> omega
theorem fl_flp {n : Int} {k : Nat} (hk : k ≤ 8) (c : UInt8) : fl (flp n (UInt8.ofNat (128 + k))) c = flp n c := by
  unfold fl
  by_cases h : n < 0
  · rw [if_pos ((head_lt hk).2 h)]; simp [flp, h]
  · rw [if_neg (fun e => h ((head_lt hk).1 e))]; simp [flp, h]
theorem encI_length (n : Int) : (encI n).length = (digs (mag n)).length + 1 := by simp [encI]

/-- What was encoded is decoded. -/
theorem getI_enc {n : Int} (h : isI64 n) (r : List UInt8) : getI (encI n ++ r) = (n, (encI n).length, 0) := by
  have h8 := digs_len8 h
  have hm := mag_lt h
  rw [encI_length]
  rw [encI, List.cons_append, getI, head_k h8]
  have hl : ((digs (mag n)).reverse.map (flp n)).length = (digs (mag n)).length := by simp
  have ht : (((digs (mag n)).reverse.map (flp n) ++ r).take (digs (mag n)).length).map (fl (flp n (UInt8.ofNat (128 + (digs (mag n)).length)))) = (digs (mag n)).reverse := by
    rw [List.take_append_of_le_length (by omega), List.take_of_length_le (by omega), List.map_map]
    rw [show (fl (flp n (UInt8.ofNat (128 + (digs (mag n)).length))) ∘ flp n) = id from funext fun c => by show fl _ (flp n c) = c; rw [fl_flp h8, flp_flp]]
    simp
  rw [ht, valB_digs, if_neg (by omega), if_neg (by simp), if_neg, if_neg (by omega)]
  · congr 1
    by_cases hn : n < 0
    · rw [if_pos ((head_lt h8).2 hn)]; simp only [mag, if_pos hn]; omega
    · rw [if_neg (fun e => hn ((head_lt h8).1 e))]; simp only [mag, if_neg hn]; omega
  · rintro ⟨hp, h0⟩
    have hne : mag n ≠ 0 := fun e => by rw [e, digs_zero] at hp; simp at hp
    rw [at8_app (by omega), fl_flp h8] at h0
    have := digs_head hne
    apply this
    have e : at8 ((digs (mag n)).reverse.map (flp n)) 0 = flp n (at8 (digs (mag n)).reverse 0) := by
      cases hr : (digs (mag n)).reverse with
      | nil => rw [List.reverse_eq_nil_iff, digs_pos hne] at hr; cases hr
      | cons x l => rfl
    rw [e, flp_flp] at h0
    exact h0

/-- What is decoded was encoded. -/
theorem getI_ok {b : List UInt8} {n : Int} {u : Nat} (h : getI b = (n, u, 0)) : isI64 n ∧ u ≤ b.length ∧ b.take u = encI n ∧ u = (encI n).length := by
  cases b with
  | nil => simp [getI] at h
  | cons x t =>
    rw [getI] at h
    split at h
    · simp at h
    · rename_i h8
      split at h
      · simp at h
      · rename_i hl
        split at h
        · simp at h
        · rename_i hz
          split at h
          · simp at h
          · rename_i hm
            simp only [Prod.mk.injEq, and_true] at h
            obtain ⟨hn, hu⟩ := h
            generalize hds : (t.take (kOf x)).map (fl x) = ds at hm hn
            have hdl : ds.length = kOf x := by rw [← hds]; simp; omega
            have hcan : ds = [] ∨ at8 ds 0 ≠ 0 := by
              cases hd : ds with
              | nil => exact .inl rfl
              | cons y l =>
                right
                have hp : 0 < kOf x := by rw [← hdl, hd]; simp
                intro e
                apply hz
                refine ⟨hp, ?_⟩
                rw [hd] at hds
                cases t with
                | nil => simp at hl; omega
                | cons z t =>
                  obtain ⟨k, hk⟩ : ∃ k, kOf x = k + 1 := ⟨kOf x - 1, by omega⟩
                  rw [hk, List.take_succ_cons, List.map_cons] at hds
                  simp only [List.cons.injEq] at hds
                  simp only [at8_cons] at e ⊢
                  rw [hds.1, e]
            have hrev := digs_valB hcan
            have hmag : mag n = valB ds := by
              subst hn
              unfold mag
              split <;> split <;> omega
            have hneg : n < 0 ↔ x < 128 := by
              subst hn
              split <;> rename_i hx <;> simp [hx] <;> omega
            have hI : isI64 n := by
              subst hn
              unfold isI64
              split <;> omega
            have hk : kOf x ≤ 8 := by omega
            have henc : encI n = x :: t.take (kOf x) := by
              unfold encI
              rw [hmag, hrev]
              have e1 : (digs (valB ds)).length = kOf x := by rw [← List.length_reverse, hrev, hdl]
              rw [e1, List.cons.injEq]
              refine ⟨?_, ?_⟩
              · apply UInt8.toNat_inj.1
                rw [head_nat hk, kOf_nat]
                have := x.toNat_lt
                rw [kOf_nat] at hk
                have hx := lt128 x
                by_cases hh : x.toNat < 128
                · rw [if_pos (hneg.2 (hx.2 hh)), if_pos hh]; omega
                · rw [if_neg (fun e => hh (hx.1 (hneg.1 e))), if_neg hh]; omega
              · rw [← hds, List.map_map, show (flp n ∘ fl x) = id from funext fun c => by
                  simp only [Function.comp, flp, fl, id]
                  by_cases hx : x < 128
                  · rw [if_pos (hneg.2 hx), if_pos hx]
                    apply UInt8.toNat_inj.1
                    rw [sub255, sub255]; have := c.toNat_lt; omega
                  · rw [if_neg (fun e => hx (hneg.1 e)), if_neg hx]]
                simp
            refine ⟨hI, ?_, ?_, ?_⟩
            · rw [← hu, List.length_cons]; omega
            · rw [henc, ← hu, List.take_succ_cons]
            · rw [henc, ← hu, List.length_cons, List.length_take]; omega

/-- What is cut off is too short. -/
theorem getI_pre {n : Int} (h : isI64 n) {i : Nat} (hi : i < (encI n).length) : getI ((encI n).take i) = (0, 0, 5) := by
  have h8 := digs_len8 h
  rw [encI_length] at hi
  cases i with
  | zero => simp [getI]
  | succ i =>
    rw [encI, List.take_succ_cons, getI, head_k h8, if_neg (by omega), if_pos]
    simp; omega
theorem getI_err (b : List UInt8) : (∃ n u, getI b = (n, u, 0)) ∨ getI b = (0, 0, 5) ∨ getI b = (0, 0, 6) := by
  cases b with
  | nil => simp [getI]
  | cons x t =>
    rw [getI]
    split
    · simp
    · split
      · simp
      · split
        · simp
        · split
          · simp
          · exact .inl ⟨_, _, rfl⟩
end Go.Abs
end

section
namespace Go.Abs
def tri (v : AVal) (n e : Nat) : AVal := .tup [v, i64 n, i64 e]
@[simp] theorem dem_tri (v : AVal) (n e : Nat) : dem (tri v n e) = tri v n e := rfl
@[simp] theorem pureB_tri (v : AVal) (n e : Nat) : pureB (tri v n e) = pureB v := by simp [tri, pureL]
theorem tri_def (v : AVal) (n e : Nat) : tri v n e = .tup [v, i64 n, i64 e] := rfl
def big : Nat := 1000000000
def onB (f : List UInt8 → AVal) : Contract := ⟨fun ds => ∃ nl b, b.length ≤ 1000000000 ∧ ds = [.sl .plain nl b.length (bys b)], fun ds => f (gBs (gCs (nth ds 0)))⟩
theorem onB_pre {f : List UInt8 → AVal} {nl : Option Bool} {n : Nat} {b : List UInt8} (h : b.length ≤ 1000000000) (hn : n = b.length) : (onB f).pre [.sl .plain nl n (bys b)] = True := by
  subst hn; exact eq_true ⟨nl, b, h, rfl⟩
@[simp] theorem onB_post (f : List UInt8 → AVal) (m : Mode) (nl : Option Bool) (n : Nat) (b : List UInt8) : (onB f).post [.sl m nl n (bys b)] = f b := by simp [onB]
def vI (b : List UInt8) : AVal := tri (i64 (getI b).1) (getI b).2.1 (getI b).2.2
def getIntC : Contract := onB vI

theorem getI_cons (h : UInt8) (t : List UInt8) : getI (h :: t) = if 8 < kOf h then (0, 0, 6) else if t.length < kOf h then (0, 0, 5)
    else if 0 < kOf h ∧ fl h (at8 t 0) = 0 then (0, 0, 6)
    else if 2 ^ 63 ≤ valB ((t.take (kOf h)).map (fl h)) then (0, 0, 6)
    else (if h < 128 then -1 - (valB ((t.take (kOf h)).map (fl h)) : Int) else valB ((t.take (kOf h)).map (fl h)), kOf h + 1, 0) := rfl
theorem xor255 (c : UInt8) : c ^^^ 255 = 255 - c := by
  have h : ∀ n : Fin 256, UInt8.ofNat n.val ^^^ 255 = 255 - UInt8.ofNat n.val := by decide +kernel
  have := h ⟨c.toNat, c.toNat_lt⟩
  simpa using this
theorem xor0 (c : UInt8) : c ^^^ 0 = c := by simp
theorem fl_xor (h c : UInt8) : c ^^^ (if h < 128 then 255 else 0) = fl h c := by
  unfold fl
  split
  · exact xor255 c
  · exact xor0 c
theorem shl_or {m : UInt64} {N : Nat} (hm : m.toNat = N) (hN : N < 2 ^ 56) (c : UInt8) : (shl64 m 8 ||| c.toUInt64).toNat = 256 * N + c.toNat := by
  subst hm
  have hc := c.toNat_lt
  rw [UInt64.toNat_or]
  show ((m.toBitVec <<< 8).toNat ||| c.toUInt64.toNat) = _
  rw [BitVec.toNat_shiftLeft, UInt8.toNat_toUInt64]
  show (m.toNat <<< 8 % 2 ^ 64 ||| c.toNat) = _
  rw [Nat.mod_eq_of_lt (by rw [Nat.shiftLeft_eq]; omega), ← Nat.shiftLeft_add_eq_or_of_lt (by omega), Nat.shiftLeft_eq]
  omega
theorem valB_take {l : List UInt8} {i : Nat} (h : i < l.length) : valB (l.take (i + 1)) = 256 * valB (l.take i) + (at8 l i).toNat := by
  rw [List.take_succ_eq_append_getElem h, valB_snoc]
  simp [at8, List.getD, List.getElem?_eq_getElem h]
theorem valB_take_lt (l : List UInt8) (i k : Nat) (h : i ≤ k) : valB (l.take i) < 256 ^ k :=
  Nat.lt_of_lt_of_le (valB_lt _) (Nat.pow_le_pow_right (by decide) (by rw [List.length_take]; omega))
theorem valB_take_le {l : List UInt8} : ∀ {i j : Nat}, i ≤ j → valB (l.take i) ≤ valB (l.take j) := fun {i j} h => by
  induction j with
  | zero => have : i = 0 := by omega
            subst this; exact Nat.le_refl _
  | succ j ih =>
    by_cases hi : i = j + 1
    · subst hi; exact Nat.le_refl _
    · have h1 := ih (by omega)
      by_cases hj : j < l.length
      · rw [valB_take hj]; omega
      · rw [List.take_of_length_le (show l.length ≤ j + 1 by omega)]
        rwa [List.take_of_length_le (show l.length ≤ j by omega)] at h1
theorem getI_a {h : UInt8} {t : List UInt8} (h1 : 8 < kOf h) : getI (h :: t) = (0, 0, 6) := by rw [getI_cons, if_pos h1]
theorem getI_b {h : UInt8} {t : List UInt8} (h1 : ¬ 8 < kOf h) (h2 : t.length < kOf h) : getI (h :: t) = (0, 0, 5) := by rw [getI_cons, if_neg h1, if_pos h2]
theorem getI_c {h : UInt8} {t : List UInt8} (h1 : ¬ 8 < kOf h) (h2 : ¬ t.length < kOf h) (h3 : 0 < kOf h ∧ fl h (at8 t 0) = 0) : getI (h :: t) = (0, 0, 6) := by rw [getI_cons, if_neg h1, if_neg h2, if_pos h3]
theorem getI_d {h : UInt8} {t : List UInt8} (h1 : ¬ 8 < kOf h) (h2 : ¬ t.length < kOf h) (h4 : 2 ^ 63 ≤ valB ((t.take (kOf h)).map (fl h))) : getI (h :: t) = (0, 0, 6) := by
  rw [getI_cons, if_neg h1, if_neg h2, if_pos h4, ite_self]
theorem getI_e {h : UInt8} {t : List UInt8} (h1 : ¬ 8 < kOf h) (h2 : ¬ t.length < kOf h) (h3 : ¬ (0 < kOf h ∧ fl h (at8 t 0) = 0)) (h4 : ¬ 2 ^ 63 ≤ valB ((t.take (kOf h)).map (fl h))) :
    getI (h :: t) = (if h < 128 then -1 - (valB ((t.take (kOf h)).map (fl h)) : Int) else valB ((t.take (kOf h)).map (fl h)), kOf h + 1, 0) := by rw [getI_cons, if_neg h1, if_neg h2, if_neg h3, if_neg h4]

def sameC : Contract := ⟨fun ds => ∃ nl nl' a b, a.length ≤ 1000000000 ∧ ds = [.sl .plain nl a.length (bys a), .sl .plain nl' b.length (bys b)], fun ds => bo (gBs (gCs (nth ds 0)) == gBs (gCs (nth ds 1)))⟩
theorem same_pre {nl nl' : Option Bool} {n m : Nat} {a b : List UInt8} (h : a.length ≤ 1000000000) (hn : n = a.length) (hm : m = b.length) : sameC.pre [.sl .plain nl n (bys a), .sl .plain nl' m (bys b)] = True := by
  subst hn; subst hm; exact eq_true ⟨nl, nl', a, b, h, rfl⟩
@[simp] theorem same_post (m m' : Mode) (nl nl' : Option Bool) (n k : Nat) (a b : List UInt8) : sameC.post [.sl m nl n (bys a), .sl m' nl' k (bys b)] = bo (a == b) := by simp [sameC]
/-- The error of a length. -/
def cntE (b : List UInt8) (s : Nat) : Nat := if (getI b).2.2 ≠ 0 then (getI b).2.2 else if (getI b).1 < 0 then 6 else if (b.length - (getI b).2.1) / s < (getI b).1.toNat then 5 else 0
def onC (f : List UInt8 → Nat → AVal) : Contract := ⟨fun ds => ∃ nl b, ∃ s : Nat, b.length ≤ 1000000000 ∧ 0 < s ∧ s ≤ 1000 ∧ ds = [.sl .plain nl b.length (bys b), i64 s], fun ds => f (gBs (gCs (nth ds 0))) (asI (nth ds 1)).toNat⟩
theorem onC_pre {f : List UInt8 → Nat → AVal} {nl : Option Bool} {n : Nat} {b : List UInt8} {s : Int} (h : b.length ≤ 1000000000) (hn : n = b.length) (h0 : 0 < s) (h1 : s ≤ 1000) : (onC f).pre [.sl .plain nl n (bys b), i64 s] = True := by
  subst hn; exact eq_true ⟨nl, b, s.toNat, h, by omega, by omega, by rw [show ((s.toNat : Nat) : Int) = s by omega]⟩
@[simp] theorem onC_post (f : List UInt8 → Nat → AVal) (m : Mode) (nl : Option Bool) (n : Nat) (b : List UInt8) (s : Int) : (onC f).post [.sl m nl n (bys b), i64 s] = f b s.toNat := by simp [onC]
def cntC : Contract := onC fun b s => tri (i64 (getI b).1) (getI b).2.1 (cntE b s)
def rcntC : Contract := onC fun b s => if cntE b s = 0 then tri (i64 (getI b).1) (getI b).2.1 0 else tri (i64 0) 0 (cntE b s)
theorem cnt_cases (b : List UInt8) (s : Nat) (hs : 0 < s) : (cntE b s = 5 ∨ cntE b s = 6) ∨ (cntE b s = 0 ∧ ∃ n u : Nat, getI b = ((n : Int), u, 0) ∧ u ≤ b.length ∧ n * s ≤ b.length - u ∧ u ≤ 9) := by
  unfold cntE
  rcases getI_err b with ⟨n, u, h⟩ | h | h <;> rw [h] <;> simp only [ne_eq, not_true_eq_false, if_false, reduceCtorEq, not_false_eq_true, if_true]
  · by_cases hn : n < 0
    · simp [hn]
    · rw [if_neg hn]
      split
      · simp
      · rename_i hd
        obtain ⟨h1, h2, h3, h4⟩ := getI_ok h
        have := encI_len h1
        refine .inr ⟨rfl, n.toNat, u, by rw [show ((n.toNat : Nat) : Int) = n by omega], h2, ?_, by omega⟩
        have := (Nat.le_div_iff_mul_le hs).1 (Nat.not_lt.1 hd)
        exact this
  all_goals simp
/-- A string at the beginning. -/
def getS (b : List UInt8) : List UInt8 × Nat × Nat := if cntE b 1 = 0 then ((b.drop (getI b).2.1).take (getI b).1.toNat, (getI b).2.1 + (getI b).1.toNat, 0) else ([], 0, cntE b 1)
def getBytesC : Contract := onB fun b => tri (st (getS b).1) (getS b).2.1 (getS b).2.2
/-- So many elements. -/
def getL {α : Type} (f : List UInt8 → α × Nat × Nat) : Nat → List UInt8 → Nat → List α × Nat × Nat
  | 0, _, at' => ([], at', 0)
  | n + 1, b, at' => if (f (b.drop at')).2.2 ≠ 0 then ([], 0, (f (b.drop at')).2.2)
    else if (getL f n b (at' + (f (b.drop at')).2.1)).2.2 ≠ 0 then ([], 0, (getL f n b (at' + (f (b.drop at')).2.1)).2.2)
    else ((f (b.drop at')).1 :: (getL f n b (at' + (f (b.drop at')).2.1)).1, (getL f n b (at' + (f (b.drop at')).2.1)).2.1, 0)
def getLs {α : Type} (f : List UInt8 → α × Nat × Nat) (s : Nat) (b : List UInt8) : List α × Nat × Nat := if cntE b s = 0 then getL f (getI b).1.toNat b (getI b).2.1 else ([], 0, cntE b s)

/-! ### Lists of whole numbers as cells -/
def ints (l : List Int) : List AVal := l.map i64
def atI (l : List Int) (i : Nat) : Int := l.getD i 0
def gIs (l : List AVal) : List Int := l.map asI
@[simp] theorem ints_length (l : List Int) : (ints l).length = l.length := by simp [ints]
@[simp] theorem ints_nil : ints [] = [] := rfl
theorem ints_cons (x : Int) (l : List Int) : ints (x :: l) = i64 x :: ints l := rfl
theorem ints_app (l m : List Int) : ints l ++ ints m = ints (l ++ m) := by simp [ints]
theorem ints_snoc (l : List Int) (x : Int) : ints l ++ [i64 x] = ints (l ++ [x]) := by simp [ints]
@[simp] theorem ints_take (l : List Int) (n : Nat) : (ints l).take n = ints (l.take n) := by simp [ints]
@[simp] theorem ints_drop (l : List Int) (n : Nat) : (ints l).drop n = ints (l.drop n) := by simp [ints]
@[simp] theorem gIs_ints (l : List Int) : gIs (ints l) = l := by simp [gIs, ints, Function.comp_def]
theorem hd_ints {l : List Int} {n : Nat} (h : n < l.length) : hdA (ints (l.drop n)) = i64 (atI l n) := by
  rw [List.drop_eq_getElem_cons h, ints_cons]
  simp [atI, List.getD, List.getElem?_eq_getElem h]
theorem hd_ints0 {l : List Int} (h : 0 < l.length) : hdA (ints l) = i64 (atI l 0) := by rw [← hd_ints h, List.drop_zero]
theorem ints_mem {P : AVal → Prop} {l : List Int} (h : ∀ x, P (i64 x)) : ∀ c ∈ ints l, P c := fun c hc => by
  simp only [ints, List.mem_map] at hc
  obtain ⟨x, _, rfl⟩ := hc
  exact h x
@[simp] theorem ints_pure (l : List Int) : (∀ c ∈ ints l, pureB c = true) ↔ True := iff_true_intro (ints_mem (by simp))
@[simp] theorem pureL_ints (l : List Int) : pureL (ints l) = true := pureL_mem (ints_mem (by simp))
@[simp] theorem ints_cell (l : List Int) : (∀ c ∈ ints l, isCell c) ↔ True := iff_true_intro (ints_mem (by simp))
@[simp] theorem ints_own (l : List Int) : (∀ c ∈ ints l, ownTop c = false) ↔ True := iff_true_intro (ints_mem (by simp))
@[simp] theorem ints_pure_cell (l : List Int) : (∀ c ∈ ints l, pureB c = true ∧ isCell c) ↔ True := iff_true_intro (ints_mem (by simp))
@[simp] theorem refsL_ints (l : List Int) : refsL (ints l) = [] := by induction l <;> simp_all [ints]

/-- A closure that reads on. -/
def readC : CM := ⟨[], [2, 3], fun ds => ∃ nl b, ∃ i : Nat, b.length ≤ 1000000000 ∧ i ≤ b.length ∧ ds = [.sl .plain nl b.length (bys b), i64 i], fun _ => .fn 61 [] [.bp 2 0, .bp 3 0], fun ds j => if j = 2 then [nth ds 0] else [nth ds 1]⟩
def nxtB (ds : List AVal) : List UInt8 := gBs (gCs (hdA (gCs (nth ds 0))))
def nxtI (ds : List AVal) : Nat := (asI (hdA (gCs (nth ds 1)))).toNat
def nextC : CM := ⟨[0, 1], [], fun ds => ∃ nl b, ∃ i : Nat, b.length ≤ 1000000000 ∧ i ≤ b.length ∧ ds = [.ep [.sl .plain nl b.length (bys b)], .ep [i64 i]],
  fun ds => tri (i64 (getI ((nxtB ds).drop (nxtI ds))).1) (nxtI ds + (getI ((nxtB ds).drop (nxtI ds))).2.1) (getI ((nxtB ds).drop (nxtI ds))).2.2,
  fun ds j => if j = 0 then [hdA (gCs (nth ds 0))] else [i64 ((nxtI ds + (getI ((nxtB ds).drop (nxtI ds))).2.1 : Nat) : Int)]⟩
theorem getI_used (b : List UInt8) : (getI b).2.1 ≤ b.length ∧ (getI b).2.1 ≤ 9 ∧ isI64 (getI b).1 := by
  rcases getI_err b with ⟨n, u, h⟩ | h | h
  · obtain ⟨h1, h2, h3, h4⟩ := getI_ok h
    rw [h]
    exact ⟨h2, by have := encI_len h1; simp only; omega, h1⟩
  all_goals rw [h]; exact ⟨by simp, by simp, by unfold isI64; decide⟩
@[simp] theorem read_bx : readC.bx = [] := rfl
@[simp] theorem read_nb : readC.nb = [2, 3] := rfl
theorem read_pre {nl : Option Bool} {n : Nat} {b : List UInt8} {i : Int} (h : b.length ≤ 1000000000) (hn : n = b.length) (h0 : 0 ≤ i) (h1 : i ≤ b.length) : readC.pre [.sl .plain nl n (bys b), i64 i] = True := by
  subst hn; exact eq_true ⟨nl, b, i.toNat, h, by omega, by rw [show ((i.toNat : Nat) : Int) = i by omega]⟩
@[simp] theorem read_post (ds : List AVal) : readC.post ds = .fn 61 [] [.bp 2 0, .bp 3 0] := rfl
@[simp] theorem read_out2 (x y : AVal) : readC.out [x, y] 2 = [x] := rfl
@[simp] theorem read_out3 (x y : AVal) : readC.out [x, y] 3 = [y] := rfl
@[simp] theorem next_bx : nextC.bx = [0, 1] := rfl
@[simp] theorem next_nb : nextC.nb = [] := rfl
theorem next_pre {nl : Option Bool} {n : Nat} {b : List UInt8} {i : Int} (h : b.length ≤ 1000000000) (hn : n = b.length) (h0 : 0 ≤ i) (h1 : i ≤ b.length) : nextC.pre [.ep [.sl .plain nl n (bys b)], .ep [i64 i]] = True := by
  subst hn; exact eq_true ⟨nl, b, i.toNat, h, by omega, by rw [show ((i.toNat : Nat) : Int) = i by omega]⟩
@[simp] theorem next_post (m : Mode) (nl : Option Bool) (n : Nat) (b : List UInt8) (i : Int) : nextC.post [.ep [.sl m nl n (bys b)], .ep [i64 i]] = tri (i64 (getI (b.drop i.toNat)).1) (i.toNat + (getI (b.drop i.toNat)).2.1) (getI (b.drop i.toNat)).2.2 := by simp [nextC, nxtB, nxtI]
@[simp] theorem next_out0 (x : AVal) (y : AVal) : nextC.out [.ep [x], y] 0 = [x] := rfl
@[simp] theorem next_out1 (m : Mode) (nl : Option Bool) (n : Nat) (b : List UInt8) (i : Int) : nextC.out [.ep [.sl m nl n (bys b)], .ep [i64 i]] 1 = [i64 ((i.toNat + (getI (b.drop i.toNat)).2.1 : Nat) : Int)] := by simp [nextC, nxtB, nxtI]

/-! ### So many elements, one after the other -/
def pre {α : Type} (out : List α) (r : List α × Nat × Nat) : List α × Nat × Nat := if r.2.2 ≠ 0 then ([], 0, r.2.2) else (out ++ r.1, r.2.1, 0)
theorem getL_err {α : Type} (f : List UInt8 → α × Nat × Nat) : ∀ (n : Nat) (b : List UInt8) (i : Nat), (getL f n b i).2.2 = 0 ∨ getL f n b i = ([], 0, (getL f n b i).2.2)
  | 0, b, i => .inl rfl
  | n + 1, b, i => by
    rw [getL]
    split
    · exact .inr rfl
    · split
      · exact .inr rfl
      · exact .inl rfl
theorem pre_nil {α : Type} (f : List UInt8 → α × Nat × Nat) (n : Nat) (b : List UInt8) (i : Nat) : pre [] (getL f n b i) = getL f n b i := by
  unfold pre
  rcases getL_err f n b i with h | h
  · rw [if_neg (by simpa using h), List.nil_append]; exact Prod.ext rfl (Prod.ext rfl h.symm)
  · by_cases h0 : (getL f n b i).2.2 = 0
    · rw [if_neg (by simpa using h0), List.nil_append]; exact Prod.ext rfl (Prod.ext rfl h0.symm)
    · rw [if_pos h0]; exact h.symm
theorem pre_step {α : Type} {f : List UInt8 → α × Nat × Nat} {n : Nat} {b : List UInt8} {i : Nat} {out : List α} (h : (f (b.drop i)).2.2 = 0) : pre out (getL f (n + 1) b i) = pre (out ++ [(f (b.drop i)).1]) (getL f n b (i + (f (b.drop i)).2.1)) := by
  rw [getL, if_neg (by simpa using h)]
  generalize getL f n b (i + (f (b.drop i)).2.1) = r
  obtain ⟨r1, r2, r3⟩ := r
  unfold pre
  cases r3 with
  | zero => simp
  | succ k => simp
theorem pre_fail {α : Type} {f : List UInt8 → α × Nat × Nat} {n : Nat} {b : List UInt8} {i : Nat} {out : List α} (h : (f (b.drop i)).2.2 ≠ 0) : pre out (getL f (n + 1) b i) = ([], 0, (f (b.drop i)).2.2) := by
  rw [getL, if_pos h]
  unfold pre
  rw [if_pos h]
theorem pre_end {α : Type} (f : List UInt8 → α × Nat × Nat) (b : List UInt8) (i : Nat) (out : List α) : pre out (getL f 0 b i) = (out, i, 0) := by simp [pre, getL]
def vIs (r : List Int × Nat × Nat) : AVal := tri (.sl .plain none r.1.length (ints r.1)) r.2.1 r.2.2
def getIntsC : Contract := onB fun b => vIs (getLs getI 1 b)
theorem getS_used (b : List UInt8) : (getS b).2.1 ≤ b.length ∧ (getS b).1.length ≤ b.length := by
  unfold getS
  rcases cnt_cases b 1 (by decide) with (hE | hE) | ⟨hE, n, u, hg, hu, hn, hu9⟩
  · rw [hE]; simp
  · rw [hE]; simp
  · rw [if_pos hE, hg]; simp; omega
@[simp] theorem memFreeL_sts (l : List (List UInt8)) : memFreeL (sts l) = true := by induction l <;> simp_all [sts, memFreeL, memFree, st]
theorem sts_app (l m : List (List UInt8)) : sts l ++ sts m = sts (l ++ m) := (sts_append l m).symm
theorem sts_snoc (l : List (List UInt8)) (x : List UInt8) : sts l ++ [st x] = sts (l ++ [x]) := by simp [sts]
def vSs (r : List (List UInt8) × Nat × Nat) : AVal := tri (.sl .plain none r.1.length (sts r.1)) r.2.1 r.2.2
def getStrsC : Contract := onB fun b => vSs (getLs getS 1 b)
/-- Digests, laid one behind the other. -/
def getD16 (b : List UInt8) : List UInt8 × Nat × Nat := if cntE b 16 = 0 then ((b.drop (getI b).2.1).take ((getI b).1.toNat * 16), (getI b).2.1 + (getI b).1.toNat * 16, 0) else ([], 0, cntE b 16)
def vD (r : List UInt8 × Nat × Nat) : AVal := tri (.sl .plain none (r.1.length / 16) (bys r.1)) r.2.1 r.2.2
def getDigsC : Contract := onB fun b => vD (getD16 b)
end Go.Abs
end

section
namespace Go.Abs
def encIs (l : List Int) : List UInt8 := encI l.length ++ l.flatMap encI
def encSs (l : List (List UInt8)) : List UInt8 := encI l.length ++ l.flatMap encS
def encDs (n : Nat) (d : List UInt8) : List UInt8 := encI n ++ d
theorem isI64_nat {n : Nat} (h : n ≤ 9223372036854775807) : isI64 (n : Int) := ⟨by omega, by omega⟩
theorem len_flatMap_encI : ∀ {l : List Int}, (∀ x ∈ l, isI64 x) → (l.flatMap encI).length ≤ 9 * l.length
  | [], _ => by simp
  | x :: l, h => by
    have h1 := encI_len (h x (by simp))
    have h2 := len_flatMap_encI (l := l) fun y hy => h y (by simp [hy])
    simp only [List.flatMap_cons, List.length_append, List.length_cons]
    omega
theorem atI_mem {l : List Int} {i : Nat} (h : i < l.length) : atI l i ∈ l := by simp [atI, List.getD, List.getElem?_eq_getElem h]
def own1 (nf : Option Bool) (l : List UInt8) : AVal := .sl (.own 1) nf l.length (bys l)
def onIs (f : List Int → AVal) : Contract := ⟨fun ds => ∃ nl l, l.length ≤ 100000000 ∧ (∀ x ∈ l, isI64 x) ∧ ds = [.sl .plain nl l.length (ints l)], fun ds => f (gIs (gCs (nth ds 0)))⟩
theorem onIs_pre {f : List Int → AVal} {nl : Option Bool} {n : Nat} {l : List Int} (h : l.length ≤ 100000000) (hl : ∀ x ∈ l, isI64 x) (hn : n = l.length) : (onIs f).pre [.sl .plain nl n (ints l)] = True := by
  subst hn; exact eq_true ⟨nl, l, h, hl, rfl⟩
@[simp] theorem onIs_post (f : List Int → AVal) (m : Mode) (nl : Option Bool) (n : Nat) (l : List Int) : (onIs f).post [.sl m nl n (ints l)] = f l := by simp [onIs]
def onSs (f : List (List UInt8) → AVal) : Contract := ⟨fun ds => ∃ nl l, totS l ≤ 1000000000 ∧ ds = [.sl .plain nl l.length (sts l)], fun ds => f (gSs (gCs (nth ds 0)))⟩
theorem onSs_pre {f : List (List UInt8) → AVal} {nl : Option Bool} {n : Nat} {l : List (List UInt8)} (h : totS l ≤ 1000000000) (hn : n = l.length) : (onSs f).pre [.sl .plain nl n (sts l)] = True := by
  subst hn; exact eq_true ⟨nl, l, h, rfl⟩
@[simp] theorem onSs_post (f : List (List UInt8) → AVal) (m : Mode) (nl : Option Bool) (n : Nat) (l : List (List UInt8)) : (onSs f).post [.sl m nl n (sts l)] = f l := by simp [onSs]
def onDs (f : Nat → List UInt8 → AVal) : Contract := ⟨fun ds => ∃ nl n d, n ≤ 10000000 ∧ d.length = n * 16 ∧ ds = [.sl .plain nl n (bys d)], fun ds => f (slen (nth ds 0)) (gBs (gCs (nth ds 0)))⟩
theorem onDs_pre {f : Nat → List UInt8 → AVal} {nl : Option Bool} {n : Nat} {d : List UInt8} (h : n ≤ 10000000) (hd : d.length = n * 16) : (onDs f).pre [.sl .plain nl n (bys d)] = True := eq_true ⟨nl, n, d, h, hd, rfl⟩
@[simp] theorem onDs_post (f : Nat → List UInt8 → AVal) (m : Mode) (nl : Option Bool) (n : Nat) (d : List UInt8) : (onDs f).post [.sl m nl n (bys d)] = f n d := by simp [onDs]
def wIntsC : Contract := onIs fun l => own1 (some false) (encIs l)
def rIntsC : Contract := onIs fun l => own1 none (encIs l)
def wStrsC : Contract := onSs fun l => own1 (some false) (encSs l)
def rStrsC : Contract := onSs fun l => own1 none (encSs l)
def wDigsC : Contract := onDs fun n d => own1 (some false) (encDs n d)
def rDigsC : Contract := onDs fun n d => own1 none (encDs n d)
def sameIC : Contract := ⟨fun ds => ∃ nl nl' a b, a.length ≤ 1000000000 ∧ ds = [.sl .plain nl a.length (ints a), .sl .plain nl' b.length (ints b)], fun ds => bo (gIs (gCs (nth ds 0)) == gIs (gCs (nth ds 1)))⟩
theorem sameI_pre {nl nl' : Option Bool} {n m : Nat} {a b : List Int} (h : a.length ≤ 1000000000) (hn : n = a.length) (hm : m = b.length) : sameIC.pre [.sl .plain nl n (ints a), .sl .plain nl' m (ints b)] = True := by
  subst hn; subst hm; exact eq_true ⟨nl, nl', a, b, h, rfl⟩
@[simp] theorem sameI_post (m m' : Mode) (nl nl' : Option Bool) (n k : Nat) (a b : List Int) : sameIC.post [.sl m nl n (ints a), .sl m' nl' k (ints b)] = bo (a == b) := by simp [sameIC]
def sameSC : Contract := ⟨fun ds => ∃ nl nl' a b, a.length ≤ 1000000000 ∧ ds = [.sl .plain nl a.length (sts a), .sl .plain nl' b.length (sts b)], fun ds => bo (gSs (gCs (nth ds 0)) == gSs (gCs (nth ds 1)))⟩
theorem sameS_pre {nl nl' : Option Bool} {n m : Nat} {a b : List (List UInt8)} (h : a.length ≤ 1000000000) (hn : n = a.length) (hm : m = b.length) : sameSC.pre [.sl .plain nl n (sts a), .sl .plain nl' m (sts b)] = True := by
  subst hn; subst hm; exact eq_true ⟨nl, nl', a, b, h, rfl⟩
@[simp] theorem sameS_post (m m' : Mode) (nl nl' : Option Bool) (n k : Nat) (a b : List (List UInt8)) : sameSC.post [.sl m nl n (sts a), .sl m' nl' k (sts b)] = bo (a == b) := by simp [sameSC]
def sameDC : Contract := ⟨fun ds => ∃ nl nl' n m a b, n ≤ 10000000 ∧ a.length = n * 16 ∧ b.length = m * 16 ∧ ds = [.sl .plain nl n (bys a), .sl .plain nl' m (bys b)], fun ds => bo (gBs (gCs (nth ds 0)) == gBs (gCs (nth ds 1)))⟩
theorem sameD_pre {nl nl' : Option Bool} {n m : Nat} {a b : List UInt8} (h : n ≤ 10000000) (hn : a.length = n * 16) (hm : b.length = m * 16) : sameDC.pre [.sl .plain nl n (bys a), .sl .plain nl' m (bys b)] = True := eq_true ⟨nl, nl', n, m, a, b, h, hn, hm, rfl⟩
@[simp] theorem sameD_post (m m' : Mode) (nl nl' : Option Bool) (n k : Nat) (a b : List UInt8) : sameDC.post [.sl m nl n (bys a), .sl m' nl' k (bys b)] = bo (a == b) := by simp [sameDC]
end Go.Abs
end
