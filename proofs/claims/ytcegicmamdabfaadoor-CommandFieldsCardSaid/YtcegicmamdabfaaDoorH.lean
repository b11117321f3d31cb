/- Lemmas: an abstract interpreter, and what the functions compute. -/
import Derived.Test.YtcegicmamdabfaaDoorD
import Derived.Test.YtcegicmamdabfaaDoorE
set_option linter.unusedSimpArgs false
set_option linter.unusedVariables false
set_option linter.unusedSectionVars false
section
namespace Go.Abs
set_option maxRecDepth 100000
/-- custody custodyref01.Same = 38; calls  -/
def f_custodyref01_Same_r1 : ACode :=
  .seq (
    .block 1 (
      .seq (
        .region [5, 25] [] [
          ⟨(some 17), none, .mv false (.s 0)⟩,
          ⟨(some 18), none, .mv false (.s 5)⟩,
          ⟨(some 19), none, .idxSl 1 (.s 17) (.s 18)⟩,
          ⟨(some 20), none, .load none none false (.s 19)⟩,
          ⟨(some 21), none, .mv false (.s 1)⟩,
          ⟨(some 22), none, .mv false (.s 5)⟩,
          ⟨(some 23), none, .idxSl 1 (.s 21) (.s 22)⟩,
          ⟨(some 24), none, .load none none false (.s 23)⟩,
          ⟨(some 25), none, .bin .neq (.s 20) (.s 24)⟩]) (
      .cond (.s 25) (
        .seq (
          .region [4] [] [
            ⟨(some 4), none, .mv false (.c (bo false))⟩]) (
        .ret)) (
        .ghost (.keep [5]) .skip)))) (
  .region [5] [] [
    ⟨(some 15), none, .mv false (.s 5)⟩,
    ⟨(some 16), none, .bin .add (.s 15) (.c (i64 1))⟩,
    ⟨(some 5), none, .mv false (.s 16)⟩])
def f_custodyref01_Same_l0 : ACode :=
  .seq (
    .seq (
      .region [5, 14] [] [
        ⟨(some 11), none, .mv false (.s 5)⟩,
        ⟨(some 12), none, .mv false (.s 0)⟩,
        ⟨(some 13), none, .len false (.s 12)⟩,
        ⟨(some 14), none, .bin .lss (.s 11) (.s 13)⟩]) (
    .cond (.s 14) (
      .ghost (.keep [5]) .skip) (
      .ghost (.keep []) (.exit 0)))) (
  f_custodyref01_Same_r1)
def f_custodyref01_Same_r2 : ACode :=
  .seq (
    .region [4] [] [
      ⟨(some 4), none, .mv false (.c (bo true))⟩]) (
  .ret)
def f_custodyref01_Same_r0 : ACode :=
  .seq (
    .seq (
      .region [5] [] [
        ⟨(some 5), none, .mv false (.c (i64 0))⟩]) (
    .block 0 (
      .loop f_custodyref01_Same_l0))) (
  f_custodyref01_Same_r2)
def f_custodyref01_Same : AFun :=
 { n := 2, wr := [], res := [.t 4], body :=
    .seq (
      .region [] [] [
        ⟨(some 4), none, .mv false (.c (bo false))⟩]) (
    .seq (
      .seq (
        .region [10] [] [
          ⟨(some 6), none, .mv false (.s 0)⟩,
          ⟨(some 7), none, .len false (.s 6)⟩,
          ⟨(some 8), none, .mv false (.s 1)⟩,
          ⟨(some 9), none, .len false (.s 8)⟩,
          ⟨(some 10), none, .bin .neq (.s 7) (.s 9)⟩]) (
      .cond (.s 10) (
        .seq (
          .region [4] [] [
            ⟨(some 4), none, .mv false (.c (bo false))⟩]) (
        .ret)) (
        .ghost (.keep []) .skip))) (
    f_custodyref01_Same_r0)) }

/-- custody wire.Ints = 39; calls wire.Int = 12 -/
def f_wire_Ints_r0 : ACode :=
  .seq (
    .block 1 (
      .seq (
        .region [3, 5, 9, 10, 11] [] [
          ⟨(some 13), none, .idxSl 1 (.s 9) (.s 11)⟩,
          ⟨(some 14), none, .load none none false (.s 13)⟩,
          ⟨(some 5), none, .mv false (.s 14)⟩]) (
      .region [3, 9, 10, 11] [] [
        ⟨(some 15), none, .mv true (.s 3)⟩,
        ⟨(some 16), none, .mv false (.s 5)⟩,
        ⟨(some 17), none, .call 12 [(.s 16)] []⟩,
        ⟨(some 18), none, .append 1 1 false (some false) none 15 (.s 17)⟩,
        ⟨(some 3), none, .mv true (.s 18)⟩]))) (
  .region [3, 9, 10, 11] [] [
    ⟨(some 19), none, .bin .add (.s 11) (.c (i64 1))⟩,
    ⟨(some 11), none, .mv false (.s 19)⟩])
def f_wire_Ints_l0 : ACode :=
  .seq (
    .region [3, 9, 10, 11, 12] [] [
      ⟨(some 12), none, .bin .lss (.s 11) (.s 10)⟩]) (
  .seq (
    .cond (.s 12) (
      .ghost (.keep [3, 9, 10, 11]) .skip) (
      .ghost (.keep [3]) (.exit 0))) (
  f_wire_Ints_r0))
def f_wire_Ints_r1 : ACode :=
  .seq (
    .region [2] [] [
      ⟨(some 20), none, .mv true (.s 3)⟩,
      ⟨(some 2), none, .mv true (.s 20)⟩]) (
  .ret)
def f_wire_Ints : AFun :=
 { n := 1, wr := [], res := [.t 2], body :=
    .seq (
      .region [] [] [
        ⟨(some 2), none, .mv true (.c (.sl (.own 1) none 0 []))⟩]) (
    .seq (
      .region [3] [] [
        ⟨(some 6), none, .mv false (.s 0)⟩,
        ⟨(some 7), none, .len false (.s 6)⟩,
        ⟨(some 8), none, .call 12 [(.s 7)] []⟩,
        ⟨(some 3), none, .mv true (.s 8)⟩]) (
    .seq (
      .seq (
        .region [3, 9, 10, 11] [] [
          ⟨(some 9), none, .mv false (.s 0)⟩,
          ⟨(some 10), none, .len false (.s 9)⟩,
          ⟨(some 11), none, .mv false (.c (i64 0))⟩]) (
      .block 0 (
        .loop f_wire_Ints_l0))) (
    f_wire_Ints_r1))) }

/-- custody custodyref01.Ints = 40; calls custodyref01.Int = 30 -/
def f_custodyref01_Ints_r0 : ACode :=
  .seq (
    .block 1 (
      .region [3, 4] [] [
        ⟨(some 14), none, .mv true (.s 3)⟩,
        ⟨(some 15), none, .mv false (.s 0)⟩,
        ⟨(some 16), none, .mv false (.s 4)⟩,
        ⟨(some 17), none, .idxSl 1 (.s 15) (.s 16)⟩,
        ⟨(some 18), none, .load none none false (.s 17)⟩,
        ⟨(some 19), none, .call 30 [(.s 18)] []⟩,
        ⟨(some 20), none, .append 1 1 false none none 14 (.s 19)⟩,
        ⟨(some 3), none, .mv true (.s 20)⟩])) (
  .region [3, 4] [] [
    ⟨(some 12), none, .mv false (.s 4)⟩,
    ⟨(some 13), none, .bin .add (.s 12) (.c (i64 1))⟩,
    ⟨(some 4), none, .mv false (.s 13)⟩])
def f_custodyref01_Ints_l0 : ACode :=
  .seq (
    .seq (
      .region [3, 4, 11] [] [
        ⟨(some 8), none, .mv false (.s 4)⟩,
        ⟨(some 9), none, .mv false (.s 0)⟩,
        ⟨(some 10), none, .len false (.s 9)⟩,
        ⟨(some 11), none, .bin .lss (.s 8) (.s 10)⟩]) (
    .cond (.s 11) (
      .ghost (.keep [3, 4]) .skip) (
      .ghost (.keep [3]) (.exit 0)))) (
  f_custodyref01_Ints_r0)
def f_custodyref01_Ints_r1 : ACode :=
  .seq (
    .region [2] [] [
      ⟨(some 21), none, .mv true (.s 3)⟩,
      ⟨(some 2), none, .mv true (.s 21)⟩]) (
  .ret)
def f_custodyref01_Ints : AFun :=
 { n := 1, wr := [], res := [.t 2], body :=
    .seq (
      .region [] [] [
        ⟨(some 2), none, .mv true (.c (.sl (.own 1) none 0 []))⟩]) (
    .seq (
      .region [3] [] [
        ⟨(some 5), none, .mv false (.s 0)⟩,
        ⟨(some 6), none, .len false (.s 5)⟩,
        ⟨(some 7), none, .call 30 [(.s 6)] []⟩,
        ⟨(some 3), none, .mv true (.s 7)⟩]) (
    .seq (
      .seq (
        .region [3, 4] [] [
          ⟨(some 4), none, .mv false (.c (i64 0))⟩]) (
      .block 0 (
        .loop f_custodyref01_Ints_l0))) (
    f_custodyref01_Ints_r1))) }

/-- custody wire.Strings = 41; calls wire.Bytes = 7, wire.Int = 12 -/
def f_wire_Strings_r0 : ACode :=
  .seq (
    .block 1 (
      .seq (
        .region [3, 5, 9, 10, 11] [] [
          ⟨(some 13), none, .idxSl 1 (.s 9) (.s 11)⟩,
          ⟨(some 14), none, .load none none false (.s 13)⟩,
          ⟨(some 5), none, .mv false (.s 14)⟩]) (
      .region [3, 9, 10, 11] [] [
        ⟨(some 15), none, .mv true (.s 3)⟩,
        ⟨(some 16), none, .mv false (.s 5)⟩,
        ⟨(some 17), none, .call 7 [(.s 16)] []⟩,
        ⟨(some 18), none, .append 1 1 false (some false) none 15 (.s 17)⟩,
        ⟨(some 3), none, .mv true (.s 18)⟩]))) (
  .region [3, 9, 10, 11] [] [
    ⟨(some 19), none, .bin .add (.s 11) (.c (i64 1))⟩,
    ⟨(some 11), none, .mv false (.s 19)⟩])
def f_wire_Strings_l0 : ACode :=
  .seq (
    .region [3, 9, 10, 11, 12] [] [
      ⟨(some 12), none, .bin .lss (.s 11) (.s 10)⟩]) (
  .seq (
    .cond (.s 12) (
      .ghost (.keep [3, 9, 10, 11]) .skip) (
      .ghost (.keep [3]) (.exit 0))) (
  f_wire_Strings_r0))
def f_wire_Strings_r1 : ACode :=
  .seq (
    .region [2] [] [
      ⟨(some 20), none, .mv true (.s 3)⟩,
      ⟨(some 2), none, .mv true (.s 20)⟩]) (
  .ret)
def f_wire_Strings : AFun :=
 { n := 1, wr := [], res := [.t 2], body :=
    .seq (
      .region [] [] [
        ⟨(some 2), none, .mv true (.c (.sl (.own 1) none 0 []))⟩]) (
    .seq (
      .region [3] [] [
        ⟨(some 6), none, .mv false (.s 0)⟩,
        ⟨(some 7), none, .len false (.s 6)⟩,
        ⟨(some 8), none, .call 12 [(.s 7)] []⟩,
        ⟨(some 3), none, .mv true (.s 8)⟩]) (
    .seq (
      .seq (
        .region [3, 9, 10, 11] [] [
          ⟨(some 9), none, .mv false (.s 0)⟩,
          ⟨(some 10), none, .len false (.s 9)⟩,
          ⟨(some 11), none, .mv false (.c (i64 0))⟩]) (
      .block 0 (
        .loop f_wire_Strings_l0))) (
    f_wire_Strings_r1))) }

/-- custody custodyref01.Strings = 42; calls custodyref01.Bytes = 29, custodyref01.Int = 30 -/
def f_custodyref01_Strings_r0 : ACode :=
  .seq (
    .block 1 (
      .region [3, 4] [] [
        ⟨(some 14), none, .mv true (.s 3)⟩,
        ⟨(some 15), none, .mv false (.s 0)⟩,
        ⟨(some 16), none, .mv false (.s 4)⟩,
        ⟨(some 17), none, .idxSl 1 (.s 15) (.s 16)⟩,
        ⟨(some 18), none, .load none none false (.s 17)⟩,
        ⟨(some 19), none, .call 29 [(.s 18)] []⟩,
        ⟨(some 20), none, .append 1 1 false none none 14 (.s 19)⟩,
        ⟨(some 3), none, .mv true (.s 20)⟩])) (
  .region [3, 4] [] [
    ⟨(some 12), none, .mv false (.s 4)⟩,
    ⟨(some 13), none, .bin .add (.s 12) (.c (i64 1))⟩,
    ⟨(some 4), none, .mv false (.s 13)⟩])
def f_custodyref01_Strings_l0 : ACode :=
  .seq (
    .seq (
      .region [3, 4, 11] [] [
        ⟨(some 8), none, .mv false (.s 4)⟩,
        ⟨(some 9), none, .mv false (.s 0)⟩,
        ⟨(some 10), none, .len false (.s 9)⟩,
        ⟨(some 11), none, .bin .lss (.s 8) (.s 10)⟩]) (
    .cond (.s 11) (
      .ghost (.keep [3, 4]) .skip) (
      .ghost (.keep [3]) (.exit 0)))) (
  f_custodyref01_Strings_r0)
def f_custodyref01_Strings_r1 : ACode :=
  .seq (
    .region [2] [] [
      ⟨(some 21), none, .mv true (.s 3)⟩,
      ⟨(some 2), none, .mv true (.s 21)⟩]) (
  .ret)
def f_custodyref01_Strings : AFun :=
 { n := 1, wr := [], res := [.t 2], body :=
    .seq (
      .region [] [] [
        ⟨(some 2), none, .mv true (.c (.sl (.own 1) none 0 []))⟩]) (
    .seq (
      .region [3] [] [
        ⟨(some 5), none, .mv false (.s 0)⟩,
        ⟨(some 6), none, .len false (.s 5)⟩,
        ⟨(some 7), none, .call 30 [(.s 6)] []⟩,
        ⟨(some 3), none, .mv true (.s 7)⟩]) (
    .seq (
      .seq (
        .region [3, 4] [] [
          ⟨(some 4), none, .mv false (.c (i64 0))⟩]) (
      .block 0 (
        .loop f_custodyref01_Strings_l0))) (
    f_custodyref01_Strings_r1))) }

/-- custody wire.GetInt = 45; calls  -/
def f_wire_GetInt_r3 : ACode :=
  .seq (
    .block 2 (
      .seq (
        .region [5, 6, 7, 9, 46, 47, 48] [] [
          ⟨(some 50), none, .idxSl 1 (.s 46) (.s 48)⟩,
          ⟨(some 51), none, .load none none false (.s 50)⟩,
          ⟨(some 9), none, .mv false (.s 51)⟩]) (
      .region [5, 6, 7, 46, 47, 48] [] [
        ⟨(some 52), none, .mv false (.s 7)⟩,
        ⟨(some 53), none, .bin .shl (.s 52) (.c (u64 8))⟩,
        ⟨(some 54), none, .mv false (.s 9)⟩,
        ⟨(some 55), none, .mv false (.s 5)⟩,
        ⟨(some 56), none, .bin .xor (.s 54) (.s 55)⟩,
        ⟨(some 57), none, .toInt .u64 (.s 56)⟩,
        ⟨(some 58), none, .bin .or (.s 53) (.s 57)⟩,
        ⟨(some 7), none, .mv false (.s 58)⟩]))) (
  .region [5, 6, 7, 46, 47, 48] [] [
    ⟨(some 59), none, .bin .add (.s 48) (.c (i64 1))⟩,
    ⟨(some 48), none, .mv false (.s 59)⟩])
def f_wire_GetInt_l0 : ACode :=
  .seq (
    .region [5, 6, 7, 46, 47, 48, 49] [] [
      ⟨(some 49), none, .bin .lss (.s 48) (.s 47)⟩]) (
  .seq (
    .cond (.s 49) (
      .ghost (.keep [5, 6, 7, 46, 47, 48]) .skip) (
      .ghost (.keep [5, 6, 7]) (.exit 1))) (
  f_wire_GetInt_r3))
def f_wire_GetInt_r6 : ACode :=
  .seq (
    .region [2, 3, 4] [] [
      ⟨(some 67), none, .mv false (.s 7)⟩,
      ⟨(some 68), none, .toInt .i64 (.s 67)⟩,
      ⟨(some 69), none, .mv false (.s 6)⟩,
      ⟨(some 70), none, .bin .add (.s 69) (.c (i64 1))⟩,
      ⟨(some 2), none, .mv false (.s 68)⟩,
      ⟨(some 3), none, .mv false (.s 70)⟩,
      ⟨(some 4), none, .mv false (.c (i64 0))⟩]) (
  .ret)
def f_wire_GetInt_r5 : ACode :=
  .seq (
    .seq (
      .region [6, 7, 64] [] [
        ⟨(some 63), none, .mv false (.s 5)⟩,
        ⟨(some 64), none, .bin .gtr (.s 63) (.c (u8 0))⟩]) (
    .cond (.s 64) (
      .region [6, 7] [] [
        ⟨(some 65), none, .mv false (.s 7)⟩,
        ⟨(some 66), none, .un .xor (.s 65)⟩,
        ⟨(some 7), none, .mv false (.s 66)⟩]) (
      .ghost (.keep [6, 7]) .skip))) (
  f_wire_GetInt_r6)
def f_wire_GetInt_r4 : ACode :=
  .seq (
    .seq (
      .region [5, 6, 7, 62] [] [
        ⟨(some 60), none, .mv false (.s 7)⟩,
        ⟨(some 61), none, .bin .shr (.s 60) (.c (u64 63))⟩,
        ⟨(some 62), none, .bin .gtr (.s 61) (.c (u64 0))⟩]) (
    .cond (.s 62) (
      .seq (
        .region [2, 3, 4] [] [
          ⟨(some 2), none, .mv false (.c (i64 0))⟩,
          ⟨(some 3), none, .mv false (.c (i64 0))⟩,
          ⟨(some 4), none, .mv false (.c (i64 6))⟩]) (
      .ret)) (
      .ghost (.keep [5, 6, 7]) .skip))) (
  f_wire_GetInt_r5)
def f_wire_GetInt_r2 : ACode :=
  .seq (
    .region [5, 6, 7] [] [
      ⟨(some 7), none, .mv false (.c (u64 0))⟩]) (
  .seq (
    .seq (
      .region [5, 6, 7, 46, 47, 48] [] [
        ⟨(some 43), none, .mv false (.s 0)⟩,
        ⟨(some 44), none, .mv false (.s 6)⟩,
        ⟨(some 45), none, .bin .add (.s 44) (.c (i64 1))⟩,
        ⟨(some 46), none, .slSl 1 (.s 43) (some (.c (i64 1))) (some (.s 45)) none⟩,
        ⟨(some 47), none, .len false (.s 46)⟩,
        ⟨(some 48), none, .mv false (.c (i64 0))⟩]) (
    .block 1 (
      .loop f_wire_GetInt_l0))) (
  f_wire_GetInt_r4))
def f_wire_GetInt_r1 : ACode :=
  .seq (
    .region [5, 6] [] [
      ⟨(some 17), none, .mv false (.s 0)⟩,
      ⟨(some 18), none, .idxSl 1 (.s 17) (.c (i64 0))⟩,
      ⟨(some 19), none, .load none none false (.s 18)⟩,
      ⟨(some 20), none, .mv false (.s 5)⟩,
      ⟨(some 21), none, .bin .xor (.s 19) (.s 20)⟩,
      ⟨(some 22), none, .toInt .i64 (.s 21)⟩,
      ⟨(some 23), none, .bin .sub (.s 22) (.c (i64 128))⟩,
      ⟨(some 6), none, .mv false (.s 23)⟩]) (
  .seq (
    .block 0 (
      .seq (
        .region [5, 6, 24] [] [
          ⟨(some 25), none, .mv false (.s 6)⟩,
          ⟨(some 26), none, .bin .gtr (.s 25) (.c (i64 8))⟩,
          ⟨(some 24), none, .mv false (.s 26)⟩]) (
      .cond (.s 24) (
        .seq (
          .region [2, 3, 4] [] [
            ⟨(some 2), none, .mv false (.c (i64 0))⟩,
            ⟨(some 3), none, .mv false (.c (i64 0))⟩,
            ⟨(some 4), none, .mv false (.c (i64 6))⟩]) (
        .ret)) (
        .seq (
          .region [5, 6, 27] [] [
            ⟨(some 28), none, .mv false (.s 0)⟩,
            ⟨(some 29), none, .len false (.s 28)⟩,
            ⟨(some 30), none, .mv false (.s 6)⟩,
            ⟨(some 31), none, .bin .leq (.s 29) (.s 30)⟩,
            ⟨(some 27), none, .mv false (.s 31)⟩]) (
        .cond (.s 27) (
          .seq (
            .region [2, 3, 4] [] [
              ⟨(some 2), none, .mv false (.c (i64 0))⟩,
              ⟨(some 3), none, .mv false (.c (i64 0))⟩,
              ⟨(some 4), none, .mv false (.c (i64 5))⟩]) (
          .ret)) (
          .seq (
            .region [5, 6, 32] [] [
              ⟨(some 33), none, .mv false (.s 6)⟩,
              ⟨(some 34), none, .bin .gtr (.s 33) (.c (i64 0))⟩,
              ⟨(some 35), none, .mv false (.s 34)⟩,
              ⟨(some 36), (some (35, true)), .mv false (.s 0)⟩,
              ⟨(some 37), (some (35, true)), .idxSl 1 (.s 36) (.c (i64 1))⟩,
              ⟨(some 38), (some (35, true)), .load none none false (.s 37)⟩,
              ⟨(some 39), (some (35, true)), .mv false (.s 5)⟩,
              ⟨(some 40), (some (35, true)), .bin .xor (.s 38) (.s 39)⟩,
              ⟨(some 41), (some (35, true)), .bin .eql (.s 40) (.c (u8 0))⟩,
              ⟨(some 42), none, .pick (.s 35) (.s 41) (.c (bo false))⟩,
              ⟨(some 32), none, .mv false (.s 42)⟩]) (
          .cond (.s 32) (
            .seq (
              .region [2, 3, 4] [] [
                ⟨(some 2), none, .mv false (.c (i64 0))⟩,
                ⟨(some 3), none, .mv false (.c (i64 0))⟩,
                ⟨(some 4), none, .mv false (.c (i64 6))⟩]) (
            .ret)) (
            .ghost (.keep [5, 6]) .skip)))))))) (
  f_wire_GetInt_r2))
def f_wire_GetInt_r0 : ACode :=
  .seq (
    .region [5] [] [
      ⟨(some 5), none, .mv false (.c (u8 0))⟩]) (
  .seq (
    .seq (
      .region [5, 16] [] [
        ⟨(some 13), none, .mv false (.s 0)⟩,
        ⟨(some 14), none, .idxSl 1 (.s 13) (.c (i64 0))⟩,
        ⟨(some 15), none, .load none none false (.s 14)⟩,
        ⟨(some 16), none, .bin .lss (.s 15) (.c (u8 128))⟩]) (
    .cond (.s 16) (
      .region [5] [] [
        ⟨(some 5), none, .mv false (.c (u8 255))⟩]) (
      .ghost (.keep [5]) .skip))) (
  f_wire_GetInt_r1))
def f_wire_GetInt : AFun :=
 { n := 1, wr := [], res := [.t 2, .t 3, .t 4], body :=
    .seq (
      .region [] [] [
        ⟨(some 2), none, .mv false (.c (i64 0))⟩,
        ⟨(some 3), none, .mv false (.c (i64 0))⟩,
        ⟨(some 4), none, .mv false (.c (i64 0))⟩]) (
    .seq (
      .seq (
        .region [12] [] [
          ⟨(some 10), none, .mv false (.s 0)⟩,
          ⟨(some 11), none, .len false (.s 10)⟩,
          ⟨(some 12), none, .bin .eql (.s 11) (.c (i64 0))⟩]) (
      .cond (.s 12) (
        .seq (
          .region [2, 3, 4] [] [
            ⟨(some 2), none, .mv false (.c (i64 0))⟩,
            ⟨(some 3), none, .mv false (.c (i64 0))⟩,
            ⟨(some 4), none, .mv false (.c (i64 5))⟩]) (
        .ret)) (
        .ghost (.keep []) .skip))) (
    f_wire_GetInt_r0)) }

/-- custody custodyref01.GetInt = 46; calls custodyref01.Int = 30, custodyref01.Same = 38 -/
def f_custodyref01_GetInt_r6 : ACode :=
  .region [5, 6, 7, 8] [] [
    ⟨(some 51), none, .mv false (.s 7)⟩,
    ⟨(some 52), none, .bin .mul (.c (i64 256)) (.s 51)⟩,
    ⟨(some 53), none, .mv false (.s 9)⟩,
    ⟨(some 54), none, .bin .add (.s 52) (.s 53)⟩,
    ⟨(some 7), none, .mv false (.s 54)⟩]
def f_custodyref01_GetInt_r5 : ACode :=
  .seq (
    .seq (
      .region [5, 6, 7, 8, 9, 50] [] [
        ⟨(some 49), none, .mv false (.s 7)⟩,
        ⟨(some 50), none, .bin .gtr (.s 49) (.c (i64 36028797018963967))⟩]) (
    .cond (.s 50) (
      .seq (
        .region [2, 3, 4] [] [
          ⟨(some 2), none, .mv false (.c (i64 0))⟩,
          ⟨(some 3), none, .mv false (.c (i64 0))⟩,
          ⟨(some 4), none, .mv false (.c (i64 6))⟩]) (
      .ret)) (
      .ghost (.keep [5, 6, 7, 8, 9]) .skip))) (
  f_custodyref01_GetInt_r6)
def f_custodyref01_GetInt_r4 : ACode :=
  .seq (
    .block 1 (
      .seq (
        .region [5, 6, 7, 8, 9] [] [
          ⟨(some 40), none, .mv false (.s 0)⟩,
          ⟨(some 41), none, .mv false (.s 8)⟩,
          ⟨(some 42), none, .idxSl 1 (.s 40) (.s 41)⟩,
          ⟨(some 43), none, .load none none false (.s 42)⟩,
          ⟨(some 44), none, .toInt .i64 (.s 43)⟩,
          ⟨(some 9), none, .mv false (.s 44)⟩]) (
      .seq (
        .seq (
          .region [5, 6, 7, 8, 9, 46] [] [
            ⟨(some 45), none, .mv false (.s 5)⟩,
            ⟨(some 46), none, .bin .lss (.s 45) (.c (i64 128))⟩]) (
        .cond (.s 46) (
          .region [5, 6, 7, 8, 9] [] [
            ⟨(some 47), none, .mv false (.s 9)⟩,
            ⟨(some 48), none, .bin .sub (.c (i64 255)) (.s 47)⟩,
            ⟨(some 9), none, .mv false (.s 48)⟩]) (
          .ghost (.keep [5, 6, 7, 8, 9]) .skip))) (
      f_custodyref01_GetInt_r5)))) (
  .region [5, 6, 7, 8] [] [
    ⟨(some 38), none, .mv false (.s 8)⟩,
    ⟨(some 39), none, .bin .add (.s 38) (.c (i64 1))⟩,
    ⟨(some 8), none, .mv false (.s 39)⟩])
def f_custodyref01_GetInt_l0 : ACode :=
  .seq (
    .seq (
      .region [5, 6, 7, 8, 37] [] [
        ⟨(some 35), none, .mv false (.s 8)⟩,
        ⟨(some 36), none, .mv false (.s 6)⟩,
        ⟨(some 37), none, .bin .leq (.s 35) (.s 36)⟩]) (
    .cond (.s 37) (
      .ghost (.keep [5, 6, 7, 8]) .skip) (
      .ghost (.keep [5, 6, 7]) (.exit 0)))) (
  f_custodyref01_GetInt_r4)
def f_custodyref01_GetInt_r9 : ACode :=
  .seq (
    .region [2, 3, 4] [] [
      ⟨(some 68), none, .mv false (.s 10)⟩,
      ⟨(some 69), none, .mv false (.s 6)⟩,
      ⟨(some 70), none, .bin .add (.s 69) (.c (i64 1))⟩,
      ⟨(some 2), none, .mv false (.s 68)⟩,
      ⟨(some 3), none, .mv false (.s 70)⟩,
      ⟨(some 4), none, .mv false (.c (i64 0))⟩]) (
  .ret)
def f_custodyref01_GetInt_r8 : ACode :=
  .seq (
    .seq (
      .region [6, 10, 67] [] [
        ⟨(some 60), none, .mv false (.s 10)⟩,
        ⟨(some 61), none, .call 30 [(.s 60)] []⟩,
        ⟨(some 62), none, .mv false (.s 0)⟩,
        ⟨(some 63), none, .mv false (.s 6)⟩,
        ⟨(some 64), none, .bin .add (.s 63) (.c (i64 1))⟩,
        ⟨(some 65), none, .slSl 1 (.s 62) none (some (.s 64)) none⟩,
        ⟨(some 66), none, .call 38 [(.s 61), (.s 65)] []⟩,
        ⟨(some 67), none, .un .not (.s 66)⟩]) (
    .cond (.s 67) (
      .seq (
        .region [2, 3, 4] [] [
          ⟨(some 2), none, .mv false (.c (i64 0))⟩,
          ⟨(some 3), none, .mv false (.c (i64 0))⟩,
          ⟨(some 4), none, .mv false (.c (i64 6))⟩]) (
      .ret)) (
      .ghost (.keep [6, 10]) .skip))) (
  f_custodyref01_GetInt_r9)
def f_custodyref01_GetInt_r7 : ACode :=
  .seq (
    .region [5, 6, 7, 10] [] [
      ⟨(some 55), none, .mv false (.s 7)⟩,
      ⟨(some 10), none, .mv false (.s 55)⟩]) (
  .seq (
    .seq (
      .region [6, 7, 10, 57] [] [
        ⟨(some 56), none, .mv false (.s 5)⟩,
        ⟨(some 57), none, .bin .lss (.s 56) (.c (i64 128))⟩]) (
    .cond (.s 57) (
      .region [6, 10] [] [
        ⟨(some 58), none, .mv false (.s 7)⟩,
        ⟨(some 59), none, .bin .sub (.c (i64 (-1))) (.s 58)⟩,
        ⟨(some 10), none, .mv false (.s 59)⟩]) (
      .ghost (.keep [6, 10]) .skip))) (
  f_custodyref01_GetInt_r8))
def f_custodyref01_GetInt_r3 : ACode :=
  .seq (
    .region [5, 6, 7] [] [
      ⟨(some 7), none, .mv false (.c (i64 0))⟩]) (
  .seq (
    .seq (
      .region [5, 6, 7, 8] [] [
        ⟨(some 8), none, .mv false (.c (i64 1))⟩]) (
    .block 0 (
      .loop f_custodyref01_GetInt_l0))) (
  f_custodyref01_GetInt_r7))
def f_custodyref01_GetInt_r2 : ACode :=
  .seq (
    .seq (
      .region [5, 6, 34] [] [
        ⟨(some 30), none, .mv false (.s 0)⟩,
        ⟨(some 31), none, .len false (.s 30)⟩,
        ⟨(some 32), none, .mv false (.s 6)⟩,
        ⟨(some 33), none, .bin .add (.s 32) (.c (i64 1))⟩,
        ⟨(some 34), none, .bin .lss (.s 31) (.s 33)⟩]) (
    .cond (.s 34) (
      .seq (
        .region [2, 3, 4] [] [
          ⟨(some 2), none, .mv false (.c (i64 0))⟩,
          ⟨(some 3), none, .mv false (.c (i64 0))⟩,
          ⟨(some 4), none, .mv false (.c (i64 5))⟩]) (
      .ret)) (
      .ghost (.keep [5, 6]) .skip))) (
  f_custodyref01_GetInt_r3)
def f_custodyref01_GetInt_r1 : ACode :=
  .seq (
    .region [5, 6] [] [
      ⟨(some 24), none, .mv false (.s 5)⟩,
      ⟨(some 25), none, .bin .sub (.s 24) (.c (i64 128))⟩,
      ⟨(some 6), none, .mv false (.s 25)⟩]) (
  .seq (
    .seq (
      .region [5, 6, 27] [] [
        ⟨(some 26), none, .mv false (.s 5)⟩,
        ⟨(some 27), none, .bin .lss (.s 26) (.c (i64 128))⟩]) (
    .cond (.s 27) (
      .region [5, 6] [] [
        ⟨(some 28), none, .mv false (.s 5)⟩,
        ⟨(some 29), none, .bin .sub (.c (i64 127)) (.s 28)⟩,
        ⟨(some 6), none, .mv false (.s 29)⟩]) (
      .ghost (.keep [5, 6]) .skip))) (
  f_custodyref01_GetInt_r2))
def f_custodyref01_GetInt_r0 : ACode :=
  .seq (
    .region [5] [] [
      ⟨(some 14), none, .mv false (.s 0)⟩,
      ⟨(some 15), none, .idxSl 1 (.s 14) (.c (i64 0))⟩,
      ⟨(some 16), none, .load none none false (.s 15)⟩,
      ⟨(some 17), none, .toInt .i64 (.s 16)⟩,
      ⟨(some 5), none, .mv false (.s 17)⟩]) (
  .seq (
    .seq (
      .region [5, 23] [] [
        ⟨(some 18), none, .mv false (.s 5)⟩,
        ⟨(some 19), none, .bin .lss (.s 18) (.c (i64 119))⟩,
        ⟨(some 20), none, .mv false (.s 19)⟩,
        ⟨(some 21), (some (20, false)), .mv false (.s 5)⟩,
        ⟨(some 22), (some (20, false)), .bin .gtr (.s 21) (.c (i64 136))⟩,
        ⟨(some 23), none, .pick (.s 20) (.c (bo true)) (.s 22)⟩]) (
    .cond (.s 23) (
      .seq (
        .region [2, 3, 4] [] [
          ⟨(some 2), none, .mv false (.c (i64 0))⟩,
          ⟨(some 3), none, .mv false (.c (i64 0))⟩,
          ⟨(some 4), none, .mv false (.c (i64 6))⟩]) (
      .ret)) (
      .ghost (.keep [5]) .skip))) (
  f_custodyref01_GetInt_r1))
def f_custodyref01_GetInt : AFun :=
 { n := 1, wr := [], res := [.t 2, .t 3, .t 4], body :=
    .seq (
      .region [] [] [
        ⟨(some 2), none, .mv false (.c (i64 0))⟩,
        ⟨(some 3), none, .mv false (.c (i64 0))⟩,
        ⟨(some 4), none, .mv false (.c (i64 0))⟩]) (
    .seq (
      .seq (
        .region [13] [] [
          ⟨(some 11), none, .mv false (.s 0)⟩,
          ⟨(some 12), none, .len false (.s 11)⟩,
          ⟨(some 13), none, .bin .eql (.s 12) (.c (i64 0))⟩]) (
      .cond (.s 13) (
        .seq (
          .region [2, 3, 4] [] [
            ⟨(some 2), none, .mv false (.c (i64 0))⟩,
            ⟨(some 3), none, .mv false (.c (i64 0))⟩,
            ⟨(some 4), none, .mv false (.c (i64 5))⟩]) (
        .ret)) (
        .ghost (.keep []) .skip))) (
    f_custodyref01_GetInt_r0)) }

/-- custody wire.GetBytes = 48; calls wire.count = 47 -/
def f_wire_GetBytes_r0 : ACode :=
  .seq (
    .region [2, 3, 4] [] [
      ⟨(some 17), none, .mv false (.s 0)⟩,
      ⟨(some 18), none, .mv false (.s 6)⟩,
      ⟨(some 19), none, .mv false (.s 6)⟩,
      ⟨(some 20), none, .mv false (.s 5)⟩,
      ⟨(some 21), none, .bin .add (.s 19) (.s 20)⟩,
      ⟨(some 22), none, .slSl 1 (.s 17) (some (.s 18)) (some (.s 21)) none⟩,
      ⟨(some 23), none, .toStr none (.s 22)⟩,
      ⟨(some 24), none, .mv false (.s 6)⟩,
      ⟨(some 25), none, .mv false (.s 5)⟩,
      ⟨(some 26), none, .bin .add (.s 24) (.s 25)⟩,
      ⟨(some 2), none, .mv false (.s 23)⟩,
      ⟨(some 3), none, .mv false (.s 26)⟩,
      ⟨(some 4), none, .mv false (.c (i64 0))⟩]) (
  .ret)
def f_wire_GetBytes : AFun :=
 { n := 1, wr := [], res := [.t 2, .t 3, .t 4], body :=
    .seq (
      .region [] [] [
        ⟨(some 2), none, .mv false (.c (st []))⟩,
        ⟨(some 3), none, .mv false (.c (i64 0))⟩,
        ⟨(some 4), none, .mv false (.c (i64 0))⟩]) (
    .seq (
      .region [5, 6, 7] [] [
        ⟨(some 9), none, .mv false (.s 0)⟩,
        ⟨(some 10), none, .call 47 [(.s 9), (.c (i64 1))] []⟩,
        ⟨(some 8), none, .mv false (.s 10)⟩,
        ⟨(some 11), none, .extract 0 (.s 8)⟩,
        ⟨(some 12), none, .extract 1 (.s 8)⟩,
        ⟨(some 13), none, .extract 2 (.s 8)⟩,
        ⟨(some 5), none, .mv false (.s 11)⟩,
        ⟨(some 6), none, .mv false (.s 12)⟩,
        ⟨(some 7), none, .mv false (.s 13)⟩]) (
    .seq (
      .seq (
        .region [5, 6, 7, 15] [] [
          ⟨(some 14), none, .mv false (.s 7)⟩,
          ⟨(some 15), none, .bin .neq (.s 14) (.c (i64 0))⟩]) (
      .cond (.s 15) (
        .seq (
          .region [2, 3, 4] [] [
            ⟨(some 16), none, .mv false (.s 7)⟩,
            ⟨(some 2), none, .mv false (.c (st []))⟩,
            ⟨(some 3), none, .mv false (.c (i64 0))⟩,
            ⟨(some 4), none, .mv false (.s 16)⟩]) (
        .ret)) (
        .ghost (.keep [5, 6]) .skip))) (
    f_wire_GetBytes_r0))) }

/-- custody custodyref01.GetBytes = 50; calls custodyref01.count = 49 -/
def f_custodyref01_GetBytes_r0 : ACode :=
  .seq (
    .region [2, 3, 4] [] [
      ⟨(some 17), none, .mv false (.s 0)⟩,
      ⟨(some 18), none, .mv false (.s 6)⟩,
      ⟨(some 19), none, .mv false (.s 6)⟩,
      ⟨(some 20), none, .mv false (.s 5)⟩,
      ⟨(some 21), none, .bin .add (.s 19) (.s 20)⟩,
      ⟨(some 22), none, .slSl 1 (.s 17) (some (.s 18)) (some (.s 21)) none⟩,
      ⟨(some 23), none, .toStr none (.s 22)⟩,
      ⟨(some 24), none, .mv false (.s 6)⟩,
      ⟨(some 25), none, .mv false (.s 5)⟩,
      ⟨(some 26), none, .bin .add (.s 24) (.s 25)⟩,
      ⟨(some 2), none, .mv false (.s 23)⟩,
      ⟨(some 3), none, .mv false (.s 26)⟩,
      ⟨(some 4), none, .mv false (.c (i64 0))⟩]) (
  .ret)
def f_custodyref01_GetBytes : AFun :=
 { n := 1, wr := [], res := [.t 2, .t 3, .t 4], body :=
    .seq (
      .region [] [] [
        ⟨(some 2), none, .mv false (.c (st []))⟩,
        ⟨(some 3), none, .mv false (.c (i64 0))⟩,
        ⟨(some 4), none, .mv false (.c (i64 0))⟩]) (
    .seq (
      .region [5, 6, 7] [] [
        ⟨(some 9), none, .mv false (.s 0)⟩,
        ⟨(some 10), none, .call 49 [(.s 9), (.c (i64 1))] []⟩,
        ⟨(some 8), none, .mv false (.s 10)⟩,
        ⟨(some 11), none, .extract 0 (.s 8)⟩,
        ⟨(some 12), none, .extract 1 (.s 8)⟩,
        ⟨(some 13), none, .extract 2 (.s 8)⟩,
        ⟨(some 5), none, .mv false (.s 11)⟩,
        ⟨(some 6), none, .mv false (.s 12)⟩,
        ⟨(some 7), none, .mv false (.s 13)⟩]) (
    .seq (
      .seq (
        .region [5, 6, 7, 15] [] [
          ⟨(some 14), none, .mv false (.s 7)⟩,
          ⟨(some 15), none, .bin .neq (.s 14) (.c (i64 0))⟩]) (
      .cond (.s 15) (
        .seq (
          .region [2, 3, 4] [] [
            ⟨(some 16), none, .mv false (.s 7)⟩,
            ⟨(some 2), none, .mv false (.c (st []))⟩,
            ⟨(some 3), none, .mv false (.c (i64 0))⟩,
            ⟨(some 4), none, .mv false (.s 16)⟩]) (
        .ret)) (
        .ghost (.keep [5, 6]) .skip))) (
    f_custodyref01_GetBytes_r0))) }

/-- custody wire.GetInts = 52; calls wire.count = 47, wire.reader = 51, wire.reader$1 = 61 -/
def f_wire_GetInts_r2 : ACode :=
  .region [6, 8, 9, 25, 26] [] [
    ⟨(some 37), none, .mv true (.s 9)⟩,
    ⟨(some 38), none, .mv false (.s 10)⟩,
    ⟨(some 39), none, .buildSl 1 1 [i64 0] [(0, 1, (.s 38))]⟩,
    ⟨(some 40), none, .append 1 8 false none none 37 (.s 39)⟩,
    ⟨(some 41), none, .mv false (.s 11)⟩,
    ⟨(some 9), none, .mv true (.s 40)⟩,
    ⟨(some 6), none, .mv false (.s 41)⟩]
def f_wire_GetInts_r1 : ACode :=
  .seq (
    .block 1 (
      .seq (
        .region [8, 9, 10, 11, 12, 25, 26] [.norm [24, 1024]] [
          ⟨(some 29), none, .mv false (.s 8)⟩,
          ⟨(some 30), none, .callm 61 (some (.s 29)) [] [(0, 24), (1, 1024)] []⟩,
          ⟨(some 28), none, .mv false (.s 30)⟩,
          ⟨(some 31), none, .extract 0 (.s 28)⟩,
          ⟨(some 32), none, .extract 1 (.s 28)⟩,
          ⟨(some 33), none, .extract 2 (.s 28)⟩,
          ⟨(some 10), none, .mv false (.s 31)⟩,
          ⟨(some 11), none, .mv false (.s 32)⟩,
          ⟨(some 12), none, .mv false (.s 33)⟩]) (
      .seq (
        .seq (
          .region [8, 9, 10, 11, 12, 25, 26, 35] [] [
            ⟨(some 34), none, .mv false (.s 12)⟩,
            ⟨(some 35), none, .bin .neq (.s 34) (.c (i64 0))⟩]) (
        .cond (.s 35) (
          .seq (
            .region [2, 3, 4] [] [
              ⟨(some 36), none, .mv false (.s 12)⟩,
              ⟨(some 2), none, .mv true (.c (.sl (.own 1) none 0 []))⟩,
              ⟨(some 3), none, .mv false (.c (i64 0))⟩,
              ⟨(some 4), none, .mv false (.s 36)⟩]) (
          .ret)) (
          .ghost (.keep [8, 9, 10, 11, 25, 26]) .skip))) (
      f_wire_GetInts_r2)))) (
  .region [6, 8, 9, 25, 26] [] [
    ⟨(some 42), none, .bin .add (.s 26) (.c (i64 1))⟩,
    ⟨(some 26), none, .mv false (.s 42)⟩])
def f_wire_GetInts_l0 : ACode :=
  .seq (
    .region [6, 8, 9, 25, 26, 27] [] [
      ⟨(some 27), none, .bin .lss (.s 26) (.s 25)⟩]) (
  .seq (
    .cond (.s 27) (
      .ghost (.keep [8, 9, 25, 26]) .skip) (
      .ghost (.keep [6, 9]) (.exit 0))) (
  f_wire_GetInts_r1))
def f_wire_GetInts_r3 : ACode :=
  .seq (
    .region [2, 3, 4] [] [
      ⟨(some 43), none, .mv true (.s 9)⟩,
      ⟨(some 44), none, .mv false (.s 6)⟩,
      ⟨(some 2), none, .mv true (.s 43)⟩,
      ⟨(some 3), none, .mv false (.s 44)⟩,
      ⟨(some 4), none, .mv false (.c (i64 0))⟩]) (
  .ret)
def f_wire_GetInts_r0 : ACode :=
  .seq (
    .region [5, 6, 8] [.norm [24, 1024]] [
      ⟨(some 22), none, .mv false (.s 0)⟩,
      ⟨(some 23), none, .mv false (.s 6)⟩,
      ⟨(some 24), none, .callm 51 none [(.s 22), (.s 23)] [] [(2, 24), (3, 1024)]⟩,
      ⟨(some 8), none, .mv false (.s 24)⟩]) (
  .seq (
    .region [5, 6, 8, 9] [] [
      ⟨(some 9), none, .mv true (.c (.sl (.own 1) none 0 []))⟩]) (
  .seq (
    .seq (
      .region [6, 8, 9, 25, 26] [] [
        ⟨(some 25), none, .mv false (.s 5)⟩,
        ⟨(some 26), none, .mv false (.c (i64 0))⟩]) (
    .block 0 (
      .loop f_wire_GetInts_l0))) (
  f_wire_GetInts_r3)))
def f_wire_GetInts : AFun :=
 { n := 1, wr := [], res := [.t 2, .t 3, .t 4], body :=
    .seq (
      .region [] [] [
        ⟨(some 2), none, .mv true (.c (.sl (.own 1) none 0 []))⟩,
        ⟨(some 3), none, .mv false (.c (i64 0))⟩,
        ⟨(some 4), none, .mv false (.c (i64 0))⟩]) (
    .seq (
      .region [5, 6, 7] [] [
        ⟨(some 14), none, .mv false (.s 0)⟩,
        ⟨(some 15), none, .call 47 [(.s 14), (.c (i64 1))] []⟩,
        ⟨(some 13), none, .mv false (.s 15)⟩,
        ⟨(some 16), none, .extract 0 (.s 13)⟩,
        ⟨(some 17), none, .extract 1 (.s 13)⟩,
        ⟨(some 18), none, .extract 2 (.s 13)⟩,
        ⟨(some 5), none, .mv false (.s 16)⟩,
        ⟨(some 6), none, .mv false (.s 17)⟩,
        ⟨(some 7), none, .mv false (.s 18)⟩]) (
    .seq (
      .seq (
        .region [5, 6, 7, 20] [] [
          ⟨(some 19), none, .mv false (.s 7)⟩,
          ⟨(some 20), none, .bin .neq (.s 19) (.c (i64 0))⟩]) (
      .cond (.s 20) (
        .seq (
          .region [2, 3, 4] [] [
            ⟨(some 21), none, .mv false (.s 7)⟩,
            ⟨(some 2), none, .mv true (.c (.sl (.own 1) none 0 []))⟩,
            ⟨(some 3), none, .mv false (.c (i64 0))⟩,
            ⟨(some 4), none, .mv false (.s 21)⟩]) (
        .ret)) (
        .ghost (.keep [5, 6]) .skip))) (
    f_wire_GetInts_r0))) }

/-- custody custodyref01.GetInts = 53; calls custodyref01.GetInt = 46, custodyref01.count = 49 -/
def f_custodyref01_GetInts_r2 : ACode :=
  .seq (
    .region [5, 6, 8, 9, 11] [] [
      ⟨(some 38), none, .mv true (.s 8)⟩,
      ⟨(some 39), none, .mv false (.s 10)⟩,
      ⟨(some 40), none, .buildSl 1 1 [i64 0] [(0, 1, (.s 39))]⟩,
      ⟨(some 41), none, .append 1 8 false none none 38 (.s 40)⟩,
      ⟨(some 8), none, .mv true (.s 41)⟩]) (
  .region [5, 6, 8, 9] [] [
    ⟨(some 42), none, .mv false (.s 6)⟩,
    ⟨(some 43), none, .mv false (.s 11)⟩,
    ⟨(some 44), none, .bin .add (.s 42) (.s 43)⟩,
    ⟨(some 6), none, .mv false (.s 44)⟩])
def f_custodyref01_GetInts_r1 : ACode :=
  .seq (
    .block 1 (
      .seq (
        .region [5, 6, 8, 9, 10, 11, 12] [] [
          ⟨(some 28), none, .mv false (.s 0)⟩,
          ⟨(some 29), none, .mv false (.s 6)⟩,
          ⟨(some 30), none, .slSl 1 (.s 28) (some (.s 29)) none none⟩,
          ⟨(some 31), none, .call 46 [(.s 30)] []⟩,
          ⟨(some 27), none, .mv false (.s 31)⟩,
          ⟨(some 32), none, .extract 0 (.s 27)⟩,
          ⟨(some 33), none, .extract 1 (.s 27)⟩,
          ⟨(some 34), none, .extract 2 (.s 27)⟩,
          ⟨(some 10), none, .mv false (.s 32)⟩,
          ⟨(some 11), none, .mv false (.s 33)⟩,
          ⟨(some 12), none, .mv false (.s 34)⟩]) (
      .seq (
        .seq (
          .region [5, 6, 8, 9, 10, 11, 12, 36] [] [
            ⟨(some 35), none, .mv false (.s 12)⟩,
            ⟨(some 36), none, .bin .neq (.s 35) (.c (i64 0))⟩]) (
        .cond (.s 36) (
          .seq (
            .region [2, 3, 4] [] [
              ⟨(some 37), none, .mv false (.s 12)⟩,
              ⟨(some 2), none, .mv true (.c (.sl (.own 1) none 0 []))⟩,
              ⟨(some 3), none, .mv false (.c (i64 0))⟩,
              ⟨(some 4), none, .mv false (.s 37)⟩]) (
          .ret)) (
          .ghost (.keep [5, 6, 8, 9, 10, 11]) .skip))) (
      f_custodyref01_GetInts_r2)))) (
  .region [5, 6, 8, 9] [] [
    ⟨(some 25), none, .mv false (.s 9)⟩,
    ⟨(some 26), none, .bin .add (.s 25) (.c (i64 1))⟩,
    ⟨(some 9), none, .mv false (.s 26)⟩])
def f_custodyref01_GetInts_l0 : ACode :=
  .seq (
    .seq (
      .region [5, 6, 8, 9, 24] [] [
        ⟨(some 22), none, .mv false (.s 9)⟩,
        ⟨(some 23), none, .mv false (.s 5)⟩,
        ⟨(some 24), none, .bin .lss (.s 22) (.s 23)⟩]) (
    .cond (.s 24) (
      .ghost (.keep [5, 6, 8, 9]) .skip) (
      .ghost (.keep [6, 8]) (.exit 0)))) (
  f_custodyref01_GetInts_r1)
def f_custodyref01_GetInts_r3 : ACode :=
  .seq (
    .region [2, 3, 4] [] [
      ⟨(some 45), none, .mv true (.s 8)⟩,
      ⟨(some 46), none, .mv false (.s 6)⟩,
      ⟨(some 2), none, .mv true (.s 45)⟩,
      ⟨(some 3), none, .mv false (.s 46)⟩,
      ⟨(some 4), none, .mv false (.c (i64 0))⟩]) (
  .ret)
def f_custodyref01_GetInts_r0 : ACode :=
  .seq (
    .region [5, 6, 8] [] [
      ⟨(some 8), none, .mv true (.c (.sl (.own 1) none 0 []))⟩]) (
  .seq (
    .seq (
      .region [5, 6, 8, 9] [] [
        ⟨(some 9), none, .mv false (.c (i64 0))⟩]) (
    .block 0 (
      .loop f_custodyref01_GetInts_l0))) (
  f_custodyref01_GetInts_r3))
def f_custodyref01_GetInts : AFun :=
 { n := 1, wr := [], res := [.t 2, .t 3, .t 4], body :=
    .seq (
      .region [] [] [
        ⟨(some 2), none, .mv true (.c (.sl (.own 1) none 0 []))⟩,
        ⟨(some 3), none, .mv false (.c (i64 0))⟩,
        ⟨(some 4), none, .mv false (.c (i64 0))⟩]) (
    .seq (
      .region [5, 6, 7] [] [
        ⟨(some 14), none, .mv false (.s 0)⟩,
        ⟨(some 15), none, .call 49 [(.s 14), (.c (i64 1))] []⟩,
        ⟨(some 13), none, .mv false (.s 15)⟩,
        ⟨(some 16), none, .extract 0 (.s 13)⟩,
        ⟨(some 17), none, .extract 1 (.s 13)⟩,
        ⟨(some 18), none, .extract 2 (.s 13)⟩,
        ⟨(some 5), none, .mv false (.s 16)⟩,
        ⟨(some 6), none, .mv false (.s 17)⟩,
        ⟨(some 7), none, .mv false (.s 18)⟩]) (
    .seq (
      .seq (
        .region [5, 6, 7, 20] [] [
          ⟨(some 19), none, .mv false (.s 7)⟩,
          ⟨(some 20), none, .bin .neq (.s 19) (.c (i64 0))⟩]) (
      .cond (.s 20) (
        .seq (
          .region [2, 3, 4] [] [
            ⟨(some 21), none, .mv false (.s 7)⟩,
            ⟨(some 2), none, .mv true (.c (.sl (.own 1) none 0 []))⟩,
            ⟨(some 3), none, .mv false (.c (i64 0))⟩,
            ⟨(some 4), none, .mv false (.s 21)⟩]) (
        .ret)) (
        .ghost (.keep [5, 6]) .skip))) (
    f_custodyref01_GetInts_r0))) }

/-- custody custodyref01.SameInts = 54; calls  -/
def f_custodyref01_SameInts_r1 : ACode :=
  .seq (
    .block 1 (
      .seq (
        .region [5, 25] [] [
          ⟨(some 17), none, .mv false (.s 0)⟩,
          ⟨(some 18), none, .mv false (.s 5)⟩,
          ⟨(some 19), none, .idxSl 1 (.s 17) (.s 18)⟩,
          ⟨(some 20), none, .load none none false (.s 19)⟩,
          ⟨(some 21), none, .mv false (.s 1)⟩,
          ⟨(some 22), none, .mv false (.s 5)⟩,
          ⟨(some 23), none, .idxSl 1 (.s 21) (.s 22)⟩,
          ⟨(some 24), none, .load none none false (.s 23)⟩,
          ⟨(some 25), none, .bin .neq (.s 20) (.s 24)⟩]) (
      .cond (.s 25) (
        .seq (
          .region [4] [] [
            ⟨(some 4), none, .mv false (.c (bo false))⟩]) (
        .ret)) (
        .ghost (.keep [5]) .skip)))) (
  .region [5] [] [
    ⟨(some 15), none, .mv false (.s 5)⟩,
    ⟨(some 16), none, .bin .add (.s 15) (.c (i64 1))⟩,
    ⟨(some 5), none, .mv false (.s 16)⟩])
def f_custodyref01_SameInts_l0 : ACode :=
  .seq (
    .seq (
      .region [5, 14] [] [
        ⟨(some 11), none, .mv false (.s 5)⟩,
        ⟨(some 12), none, .mv false (.s 0)⟩,
        ⟨(some 13), none, .len false (.s 12)⟩,
        ⟨(some 14), none, .bin .lss (.s 11) (.s 13)⟩]) (
    .cond (.s 14) (
      .ghost (.keep [5]) .skip) (
      .ghost (.keep []) (.exit 0)))) (
  f_custodyref01_SameInts_r1)
def f_custodyref01_SameInts_r2 : ACode :=
  .seq (
    .region [4] [] [
      ⟨(some 4), none, .mv false (.c (bo true))⟩]) (
  .ret)
def f_custodyref01_SameInts_r0 : ACode :=
  .seq (
    .seq (
      .region [5] [] [
        ⟨(some 5), none, .mv false (.c (i64 0))⟩]) (
    .block 0 (
      .loop f_custodyref01_SameInts_l0))) (
  f_custodyref01_SameInts_r2)
def f_custodyref01_SameInts : AFun :=
 { n := 2, wr := [], res := [.t 4], body :=
    .seq (
      .region [] [] [
        ⟨(some 4), none, .mv false (.c (bo false))⟩]) (
    .seq (
      .seq (
        .region [10] [] [
          ⟨(some 6), none, .mv false (.s 0)⟩,
          ⟨(some 7), none, .len false (.s 6)⟩,
          ⟨(some 8), none, .mv false (.s 1)⟩,
          ⟨(some 9), none, .len false (.s 8)⟩,
          ⟨(some 10), none, .bin .neq (.s 7) (.s 9)⟩]) (
      .cond (.s 10) (
        .seq (
          .region [4] [] [
            ⟨(some 4), none, .mv false (.c (bo false))⟩]) (
        .ret)) (
        .ghost (.keep []) .skip))) (
    f_custodyref01_SameInts_r0)) }

/-- custody custodyref01.SameTexts = 57; calls  -/
def f_custodyref01_SameTexts_r1 : ACode :=
  .seq (
    .block 1 (
      .seq (
        .region [5, 25] [] [
          ⟨(some 17), none, .mv false (.s 0)⟩,
          ⟨(some 18), none, .mv false (.s 5)⟩,
          ⟨(some 19), none, .idxSl 1 (.s 17) (.s 18)⟩,
          ⟨(some 20), none, .load none none false (.s 19)⟩,
          ⟨(some 21), none, .mv false (.s 1)⟩,
          ⟨(some 22), none, .mv false (.s 5)⟩,
          ⟨(some 23), none, .idxSl 1 (.s 21) (.s 22)⟩,
          ⟨(some 24), none, .load none none false (.s 23)⟩,
          ⟨(some 25), none, .bin .neq (.s 20) (.s 24)⟩]) (
      .cond (.s 25) (
        .seq (
          .region [4] [] [
            ⟨(some 4), none, .mv false (.c (bo false))⟩]) (
        .ret)) (
        .ghost (.keep [5]) .skip)))) (
  .region [5] [] [
    ⟨(some 15), none, .mv false (.s 5)⟩,
    ⟨(some 16), none, .bin .add (.s 15) (.c (i64 1))⟩,
    ⟨(some 5), none, .mv false (.s 16)⟩])
def f_custodyref01_SameTexts_l0 : ACode :=
  .seq (
    .seq (
      .region [5, 14] [] [
        ⟨(some 11), none, .mv false (.s 5)⟩,
        ⟨(some 12), none, .mv false (.s 0)⟩,
        ⟨(some 13), none, .len false (.s 12)⟩,
        ⟨(some 14), none, .bin .lss (.s 11) (.s 13)⟩]) (
    .cond (.s 14) (
      .ghost (.keep [5]) .skip) (
      .ghost (.keep []) (.exit 0)))) (
  f_custodyref01_SameTexts_r1)
def f_custodyref01_SameTexts_r2 : ACode :=
  .seq (
    .region [4] [] [
      ⟨(some 4), none, .mv false (.c (bo true))⟩]) (
  .ret)
def f_custodyref01_SameTexts_r0 : ACode :=
  .seq (
    .seq (
      .region [5] [] [
        ⟨(some 5), none, .mv false (.c (i64 0))⟩]) (
    .block 0 (
      .loop f_custodyref01_SameTexts_l0))) (
  f_custodyref01_SameTexts_r2)
def f_custodyref01_SameTexts : AFun :=
 { n := 2, wr := [], res := [.t 4], body :=
    .seq (
      .region [] [] [
        ⟨(some 4), none, .mv false (.c (bo false))⟩]) (
    .seq (
      .seq (
        .region [10] [] [
          ⟨(some 6), none, .mv false (.s 0)⟩,
          ⟨(some 7), none, .len false (.s 6)⟩,
          ⟨(some 8), none, .mv false (.s 1)⟩,
          ⟨(some 9), none, .len false (.s 8)⟩,
          ⟨(some 10), none, .bin .neq (.s 7) (.s 9)⟩]) (
      .cond (.s 10) (
        .seq (
          .region [4] [] [
            ⟨(some 4), none, .mv false (.c (bo false))⟩]) (
        .ret)) (
        .ghost (.keep []) .skip))) (
    f_custodyref01_SameTexts_r0)) }

/-- custody wire.count = 47; calls wire.GetInt = 45 -/
def f_wire_count_r0 : ACode :=
  .seq (
    .region [4, 5, 6] [] [
      ⟨(some 28), none, .mv false (.s 4)⟩,
      ⟨(some 29), none, .mv false (.s 5)⟩,
      ⟨(some 30), none, .mv false (.s 6)⟩,
      ⟨(some 4), none, .mv false (.s 28)⟩,
      ⟨(some 5), none, .mv false (.s 29)⟩,
      ⟨(some 6), none, .mv false (.s 30)⟩]) (
  .ret)
def f_wire_count : AFun :=
 { n := 2, wr := [], res := [.t 4, .t 5, .t 6], body :=
    .seq (
      .region [] [] [
        ⟨(some 4), none, .mv false (.c (i64 0))⟩,
        ⟨(some 5), none, .mv false (.c (i64 0))⟩,
        ⟨(some 6), none, .mv false (.c (i64 0))⟩]) (
    .seq (
      .region [4, 5, 6] [] [
        ⟨(some 8), none, .mv false (.s 0)⟩,
        ⟨(some 9), none, .call 45 [(.s 8)] []⟩,
        ⟨(some 7), none, .mv false (.s 9)⟩,
        ⟨(some 10), none, .extract 0 (.s 7)⟩,
        ⟨(some 11), none, .extract 1 (.s 7)⟩,
        ⟨(some 12), none, .extract 2 (.s 7)⟩,
        ⟨(some 4), none, .mv false (.s 10)⟩,
        ⟨(some 5), none, .mv false (.s 11)⟩,
        ⟨(some 6), none, .mv false (.s 12)⟩]) (
    .seq (
      .block 0 (
        .seq (
          .region [4, 5, 6, 13] [] [
            ⟨(some 14), none, .mv false (.s 6)⟩,
            ⟨(some 15), none, .bin .neq (.s 14) (.c (i64 0))⟩,
            ⟨(some 13), none, .mv false (.s 15)⟩]) (
        .cond (.s 13) (
          .ghost (.keep [4, 5, 6]) .skip) (
          .seq (
            .region [4, 5, 6, 16] [] [
              ⟨(some 17), none, .mv false (.s 4)⟩,
              ⟨(some 18), none, .bin .lss (.s 17) (.c (i64 0))⟩,
              ⟨(some 16), none, .mv false (.s 18)⟩]) (
          .cond (.s 16) (
            .region [4, 5, 6] [] [
              ⟨(some 6), none, .mv false (.c (i64 6))⟩]) (
            .seq (
              .region [4, 5, 6, 19] [] [
                ⟨(some 20), none, .mv false (.s 4)⟩,
                ⟨(some 21), none, .mv false (.s 0)⟩,
                ⟨(some 22), none, .len false (.s 21)⟩,
                ⟨(some 23), none, .mv false (.s 5)⟩,
                ⟨(some 24), none, .bin .sub (.s 22) (.s 23)⟩,
                ⟨(some 25), none, .mv false (.s 1)⟩,
                ⟨(some 26), none, .bin .quo (.s 24) (.s 25)⟩,
                ⟨(some 27), none, .bin .gtr (.s 20) (.s 26)⟩,
                ⟨(some 19), none, .mv false (.s 27)⟩]) (
            .cond (.s 19) (
              .region [4, 5, 6] [] [
                ⟨(some 6), none, .mv false (.c (i64 5))⟩]) (
              .ghost (.keep [4, 5, 6]) .skip)))))))) (
    f_wire_count_r0))) }

/-- custody custodyref01.count = 49; calls custodyref01.GetInt = 46 -/
def f_custodyref01_count_r2 : ACode :=
  .seq (
    .region [4, 5, 6] [] [
      ⟨(some 35), none, .mv false (.s 7)⟩,
      ⟨(some 36), none, .mv false (.s 8)⟩,
      ⟨(some 4), none, .mv false (.s 35)⟩,
      ⟨(some 5), none, .mv false (.s 36)⟩,
      ⟨(some 6), none, .mv false (.c (i64 0))⟩]) (
  .ret)
def f_custodyref01_count_r1 : ACode :=
  .seq (
    .seq (
      .region [7, 8, 34] [] [
        ⟨(some 21), none, .mv false (.s 7)⟩,
        ⟨(some 22), none, .mv false (.s 0)⟩,
        ⟨(some 23), none, .len false (.s 22)⟩,
        ⟨(some 24), none, .bin .gtr (.s 21) (.s 23)⟩,
        ⟨(some 25), none, .mv false (.s 24)⟩,
        ⟨(some 26), (some (25, false)), .mv false (.s 7)⟩,
        ⟨(some 27), (some (25, false)), .mv false (.s 1)⟩,
        ⟨(some 28), (some (25, false)), .bin .mul (.s 26) (.s 27)⟩,
        ⟨(some 29), (some (25, false)), .mv false (.s 0)⟩,
        ⟨(some 30), (some (25, false)), .len false (.s 29)⟩,
        ⟨(some 31), (some (25, false)), .mv false (.s 8)⟩,
        ⟨(some 32), (some (25, false)), .bin .sub (.s 30) (.s 31)⟩,
        ⟨(some 33), (some (25, false)), .bin .gtr (.s 28) (.s 32)⟩,
        ⟨(some 34), none, .pick (.s 25) (.c (bo true)) (.s 33)⟩]) (
    .cond (.s 34) (
      .seq (
        .region [4, 5, 6] [] [
          ⟨(some 4), none, .mv false (.c (i64 0))⟩,
          ⟨(some 5), none, .mv false (.c (i64 0))⟩,
          ⟨(some 6), none, .mv false (.c (i64 5))⟩]) (
      .ret)) (
      .ghost (.keep [7, 8]) .skip))) (
  f_custodyref01_count_r2)
def f_custodyref01_count_r0 : ACode :=
  .seq (
    .seq (
      .region [7, 8, 20] [] [
        ⟨(some 19), none, .mv false (.s 7)⟩,
        ⟨(some 20), none, .bin .lss (.s 19) (.c (i64 0))⟩]) (
    .cond (.s 20) (
      .seq (
        .region [4, 5, 6] [] [
          ⟨(some 4), none, .mv false (.c (i64 0))⟩,
          ⟨(some 5), none, .mv false (.c (i64 0))⟩,
          ⟨(some 6), none, .mv false (.c (i64 6))⟩]) (
      .ret)) (
      .ghost (.keep [7, 8]) .skip))) (
  f_custodyref01_count_r1)
def f_custodyref01_count : AFun :=
 { n := 2, wr := [], res := [.t 4, .t 5, .t 6], body :=
    .seq (
      .region [] [] [
        ⟨(some 4), none, .mv false (.c (i64 0))⟩,
        ⟨(some 5), none, .mv false (.c (i64 0))⟩,
        ⟨(some 6), none, .mv false (.c (i64 0))⟩]) (
    .seq (
      .region [7, 8, 9] [] [
        ⟨(some 11), none, .mv false (.s 0)⟩,
        ⟨(some 12), none, .call 46 [(.s 11)] []⟩,
        ⟨(some 10), none, .mv false (.s 12)⟩,
        ⟨(some 13), none, .extract 0 (.s 10)⟩,
        ⟨(some 14), none, .extract 1 (.s 10)⟩,
        ⟨(some 15), none, .extract 2 (.s 10)⟩,
        ⟨(some 7), none, .mv false (.s 13)⟩,
        ⟨(some 8), none, .mv false (.s 14)⟩,
        ⟨(some 9), none, .mv false (.s 15)⟩]) (
    .seq (
      .seq (
        .region [7, 8, 9, 17] [] [
          ⟨(some 16), none, .mv false (.s 9)⟩,
          ⟨(some 17), none, .bin .neq (.s 16) (.c (i64 0))⟩]) (
      .cond (.s 17) (
        .seq (
          .region [4, 5, 6] [] [
            ⟨(some 18), none, .mv false (.s 9)⟩,
            ⟨(some 4), none, .mv false (.c (i64 0))⟩,
            ⟨(some 5), none, .mv false (.c (i64 0))⟩,
            ⟨(some 6), none, .mv false (.s 18)⟩]) (
        .ret)) (
        .ghost (.keep [7, 8]) .skip))) (
    f_custodyref01_count_r0))) }

/-- custody wire.reader (M) = 51; calls  -/
def f_wire_reader : AFun :=
 { n := 2, wr := [], res := [.t 4], body :=
    .seq (
      .region [2, 3] [.norm [2, 3]] [
        ⟨(some 2), none, .box 2 none true (.s 0)⟩,
        ⟨(some 3), none, .box 3 none false (.s 1)⟩,
        ⟨(some 4), none, .mv false (.c (.lit .nilFunc))⟩]) (
    .seq (
      .region [4] [] [
        ⟨(some 5), none, .mkfn 61 [] [(.s 2), (.s 3)]⟩,
        ⟨(some 4), none, .mv false (.s 5)⟩]) (
    .ret)) }

/-- custody wire.reader$1 (M) = 61; calls wire.GetInt = 45 -/
def f_wire_reader_1 : AFun :=
 { n := 2, wr := [], res := [.t 2, .t 3, .t 4], body :=
    .seq (
      .region [0, 1] [] [
        ⟨(some 2), none, .mv false (.c (i64 0))⟩,
        ⟨(some 3), none, .mv false (.c (i64 0))⟩,
        ⟨(some 4), none, .mv false (.c (i64 0))⟩]) (
    .seq (
      .region [0, 1, 5, 6, 7] [.norm [0, 1]] [
        ⟨(some 9), none, .load none (some 0) false (.s 0)⟩,
        ⟨(some 10), none, .load none (some 1) false (.s 1)⟩,
        ⟨(some 11), none, .slSl 1 (.s 9) (some (.s 10)) none none⟩,
        ⟨(some 12), none, .call 45 [(.s 11)] []⟩,
        ⟨(some 8), none, .mv false (.s 12)⟩,
        ⟨(some 13), none, .extract 0 (.s 8)⟩,
        ⟨(some 14), none, .extract 1 (.s 8)⟩,
        ⟨(some 15), none, .extract 2 (.s 8)⟩,
        ⟨(some 5), none, .mv false (.s 13)⟩,
        ⟨(some 6), none, .mv false (.s 14)⟩,
        ⟨(some 7), none, .mv false (.s 15)⟩]) (
    .seq (
      .region [0, 1, 5, 7] [.norm [0, 1]] [
        ⟨(some 16), none, .load none (some 1) false (.s 1)⟩,
        ⟨(some 17), none, .mv false (.s 6)⟩,
        ⟨(some 18), none, .bin .add (.s 16) (.s 17)⟩,
        ⟨none, none, .store none 1 false (.s 1) (.s 18)⟩]) (
    .seq (
      .region [0, 1, 2, 3, 4] [.norm [0, 1]] [
        ⟨(some 19), none, .mv false (.s 5)⟩,
        ⟨(some 20), none, .load none (some 1) false (.s 1)⟩,
        ⟨(some 21), none, .mv false (.s 7)⟩,
        ⟨(some 2), none, .mv false (.s 19)⟩,
        ⟨(some 3), none, .mv false (.s 20)⟩,
        ⟨(some 4), none, .mv false (.s 21)⟩]) (
    .ret)))) }

end Go.Abs
end

section
namespace Go.Abs
set_option maxRecDepth 20000
theorem notU {N : Nat} (hN : N < 2 ^ 63) : W (((18446744073709551615 - N : Nat)) : Int) = -1 - (N : Int) := by
  unfold W IntKind.wrap IntKind.bits IntKind.signed
  simp only [Bool.true_and]
  split <;> rename_i h <;> simp at h ⊢ <;> omega
theorem getint_ok (E : Env) : ∀ ds, getIntC.pre ds → ds.length = f_wire_GetInt.n ∧ awp E f_wire_GetInt.body (retQ f_wire_GetInt.res (getIntC.post ds)) (initSt f_wire_GetInt.wr ds) := by
  rintro _ ⟨nl, b, hb, rfl⟩
  rw [getIntC, onB_post]
  cases b with
  | nil =>
    simp (maxSteps := 1000000) (disch := first | omega | (simp; done) | (simp; omega)) [W_id, bys_app, bys_snoc, f_wire_GetInt, vI, getI, tri_def]
    rw [awp_cond]
    refine ⟨by simp, fun h => ?_, fun h => ?_⟩ <;> simp at h
    simp
  | cons h t =>
    simp only [List.length_cons] at hb
    simp (maxSteps := 1000000) (disch := first | omega | (simp; done) | (simp; omega)) [W_id, bys_app, bys_snoc, f_wire_GetInt]
    rw [awp_cond]
    refine ⟨by simp, fun h0 => ?_, fun h0 => ?_⟩ <;> simp at h0
    · omega
    simp (maxSteps := 1000000) (disch := first | omega | (simp; done) | (simp; omega)) [W_id, bys_app, bys_snoc, f_wire_GetInt_r0, hd_bys0]
    refine awp_name fun Q0 hQ0 => ?_
    have hk := kOf_nat h
    have hlt := h.toNat_lt
    have key : Q0 .normal ⟨[(0, .sl .plain nl (t.length + 1) (bys (h :: t)))], [(5, u8 (if h < 128 then 255 else 0))], []⟩ := by
      have hx : h ^^^ (if h < 128 then 255 else 0) = fl h h := fl_xor h h
      have hkn : ((fl h h).toNat : Int) - 128 = kOf h := by
        unfold kOf fl
        split
        · rename_i hh; have := (lt128 h).1 hh; rw [sub255]; omega
        · rename_i hh; have : ¬ h.toNat < 128 := fun e => hh ((lt128 h).2 e)
          omega
      have hx1 : at8 t 0 ^^^ (if h < 128 then 255 else 0) = fl h (at8 t 0) := fl_xor h _
      have hkb : kOf h ≤ 128 := by rw [hk]; split <;> omega
      generalize hfl : (if h < 128 then (255 : UInt8) else 0) = flip at *
      simp (maxSteps := 1000000) (disch := first | omega | (simp; done) | (simp; omega)) [W_id, bys_app, bys_snoc, hQ0, f_wire_GetInt_r1, hx, hd_bys0, hkn]
      rw [awp_cond]
      refine ⟨by simp, fun h1 => ?_, fun h1 => ?_⟩ <;> simp at h1
      · rw [vI, getI_a (by omega)]
        simp (maxSteps := 1000000) (disch := first | omega | (simp; done) | (simp; omega)) [W_id, bys_app, bys_snoc, tri_def]
      have h1' : ¬ 8 < kOf h := by omega
      simp (maxSteps := 1000000) (disch := first | omega | (simp; done) | (simp; omega)) [W_id, bys_app, bys_snoc]
      rw [awp_cond]
      refine ⟨by simp, fun h2 => ?_, fun h2 => ?_⟩ <;> simp at h2
      · rw [vI, getI_b h1' (by omega)]
        simp (maxSteps := 1000000) (disch := first | omega | (simp; done) | (simp; omega)) [W_id, bys_app, bys_snoc, tri_def]
      have h2' : ¬ t.length < kOf h := by omega
      have hfin : ¬ (0 < kOf h ∧ fl h (at8 t 0) = 0) → awp E f_wire_GetInt_r2 (retQ [.t 2, .t 3, .t 4] (vI (h :: t))) ⟨[(0, .sl .plain nl (t.length + 1) (bys (h :: t)))], [(5, u8 flip), (6, i64 (kOf h))], []⟩ := by
        intro h3
        generalize hds : (t.take (kOf h)).map (fl h) = ds
        have hdl : ds.length = kOf h := by rw [← hds]; simp; omega
        have hda : ∀ i, i < kOf h → at8 t i ^^^ flip = at8 ds i := fun i hi => by
          rw [← hfl, fl_xor, ← hds]
          simp only [at8, List.getD, List.getElem?_map, List.getElem?_take, if_pos hi, List.getElem?_eq_getElem (show i < t.length by omega)]
          rfl
        have hM : ∀ i, i ≤ 8 → (UInt64.ofNat (valB (ds.take i))).toNat = valB (ds.take i) := fun i hi => by
          have := valB_take_lt ds i 8 hi
          rw [UInt64.toNat_ofNat']; omega
        simp (maxSteps := 1000000) (disch := first | omega | (simp; done) | (simp; omega)) [W_id, bys_app, bys_snoc, f_wire_GetInt_r2]
        refine ⟨by omega, ?_⟩
        refine awp_name fun Q1 hQ1 => ?_
        refine awp_for (fun i : Nat => ⟨[(0, .sl .plain nl (t.length + 1) (bys (h :: t)))],
            [(5, u8 flip), (6, i64 (kOf h)), (7, u64 (UInt64.ofNat (valB (ds.take i)))), (46, .sl .plain nl (kOf h) (bys (t.take (kOf h)))), (47, i64 (kOf h)), (48, i64 i)], []⟩)
          (fun i => kOf h - i) (· ≤ kOf h) 0 rfl (by simp) fun i hi => ?_
        refine awp_name fun Q2 hQ2 => ?_
        simp (maxSteps := 1000000) (disch := first | omega | (simp; done) | (simp; omega)) [W_id, bys_app, bys_snoc, f_wire_GetInt_l0]
        rw [awp_cond]
        refine ⟨by simp, fun h5 => ?_, fun h5 => ?_⟩ <;> simp at h5
        · have hi' : i < kOf h := by omega
          have hi8 : i ≤ 7 := by omega
          have hstep : shl64 (UInt64.ofNat (valB (ds.take i))) 8 ||| (at8 ds i).toUInt64 = UInt64.ofNat (valB (ds.take (i + 1))) := by
            apply UInt64.toNat_inj.1
            rw [shl_or (hM i (by omega)) (valB_take_lt ds i 7 hi8), hM _ (by omega), valB_take (by omega)]
          have hda' := hda i hi'
          simp (maxSteps := 1000000) (disch := first | omega | (simp; done) | (simp; omega)) [W_id, bys_app, bys_snoc, f_wire_GetInt_r3, hd_bys, at8_take, hda', hstep, hQ2]
          refine ⟨by omega, by omega, i + 1, by omega, by omega, by simp⟩
        · have e : i = kOf h := by omega
          subst e
          have hT : ds.take (kOf h) = ds := List.take_of_length_le (by omega)
          have hM8 := hM (kOf h) (by omega)
          rw [hT] at hM8
          simp (maxSteps := 1000000) (disch := first | omega | (simp; done) | (simp; omega)) [W_id, bys_app, bys_snoc, hQ2, hQ1, f_wire_GetInt_r4, hT]
          have hpos := shr64_pos (m := 63) hM8
          generalize hV : valB ds = V at *
          generalize UInt64.ofNat V = U at *
          rw [awp_cond]
          refine ⟨by simp, fun h6 => ?_, fun h6 => ?_⟩ <;> simp at h6
          · rw [vI, getI_d h1' h2' (by rw [hds, hV]; exact hpos.1 h6)]
            simp (maxSteps := 1000000) (disch := first | omega | (simp; done) | (simp; omega)) [W_id, bys_app, bys_snoc, tri_def]
          · have h6' : ¬ 2 ^ 63 ≤ V := fun e => by have := hpos.2 e; rw [h6] at this; exact absurd this (by decide)
            rw [vI, getI_e h1' h2' h3 (by rw [hds, hV]; exact h6'), hds, hV]
            have hU := notU (N := V) (by omega)
            simp (maxSteps := 1000000) (disch := first | omega | (simp; done) | (simp; omega)) [W_id, bys_app, bys_snoc, f_wire_GetInt_r5]
            by_cases hh : h < 128
            · rw [if_pos hh] at hfl
              subst hfl
              rw [awp_cond]
              refine ⟨by simp, fun h7 => ?_, fun h7 => ?_⟩ <;> simp at h7
              simp (maxSteps := 1000000) (disch := first | omega | (simp; done) | (simp; omega)) [W_id, bys_app, bys_snoc, f_wire_GetInt_r6, hM8, hU, hh, tri_def]
            · rw [if_neg hh] at hfl
              subst hfl
              rw [awp_cond]
              refine ⟨by simp, fun h7 => ?_, fun h7 => ?_⟩ <;> simp at h7
              simp (maxSteps := 1000000) (disch := first | omega | (simp; done) | (simp; omega)) [W_id, bys_app, bys_snoc, f_wire_GetInt_r6, hM8, hU, hh, tri_def]
      by_cases hk0 : kOf h = 0
      · simp (maxSteps := 1000000) (disch := first | omega | (simp; done) | (simp; omega)) [W_id, bys_app, bys_snoc, dT, dF, hk0]
        rw [awp_cond]
        refine ⟨by simp, fun h3 => ?_, fun h3 => ?_⟩ <;> simp at h3
        simp
        rw [hk0] at hfin
        exact hfin (by simp)
      · simp (maxSteps := 1000000) (disch := first | omega | (simp; done) | (simp; omega)) [W_id, bys_app, bys_snoc, dT, dF, hd_bys0, hx1]
        refine ⟨by omega, by omega, ?_⟩
        rw [awp_cond]
        refine ⟨by simp, fun h3 => ?_, fun h3 => ?_⟩ <;> simp at h3
        · rw [vI, getI_c h1' h2' ⟨by omega, h3⟩]
          simp (maxSteps := 1000000) (disch := first | omega | (simp; done) | (simp; omega)) [W_id, bys_app, bys_snoc, tri_def]
        · simp
          exact hfin (by simp [h3])
    rw [awp_cond]
    refine ⟨by simp, fun hh => ?_, fun hh => ?_⟩ <;> simp at hh
    · rw [if_pos hh] at key
      simpa using key
    · rw [if_neg (by simpa using hh)] at key
      simpa using key
end Go.Abs
end

section
namespace Go.Abs
theorem rsame_ok (E : Env) : ∀ ds, sameC.pre ds → ds.length = f_custodyref01_Same.n ∧ awp E f_custodyref01_Same.body (retQ f_custodyref01_Same.res (sameC.post ds)) (initSt f_custodyref01_Same.wr ds) := by
  rintro _ ⟨nl, nl', a, b, ha, rfl⟩
  simp (maxSteps := 1000000) (disch := first | omega | (simp; done) | (simp; omega)) [W_id, bys_app, bys_snoc, f_custodyref01_Same]
  rw [awp_cond]
  refine ⟨by simp, fun h => ?_, fun h => ?_⟩ <;> simp at h
  · have : (a == b) = false := by simpa using fun e : a = b => h (by rw [e])
    simp (maxSteps := 1000000) (disch := first | omega | (simp; done) | (simp; omega)) [W_id, bys_app, bys_snoc, sameC, this]
  simp (maxSteps := 1000000) (disch := first | omega | (simp; done) | (simp; omega)) [W_id, bys_app, bys_snoc, f_custodyref01_Same_r0]
  have hl : a.length = b.length := by omega
  refine awp_name fun Q0 hQ0 => ?_
  refine awp_for (fun i : Nat => ⟨[(0, .sl .plain nl a.length (bys a)), (1, .sl .plain nl' b.length (bys b))], [(5, i64 i)], []⟩)
    (fun i => a.length - i) (fun i => i ≤ a.length ∧ a.take i = b.take i) 0 rfl (by simp) fun i hi => ?_
  obtain ⟨hi, he⟩ := hi
  refine awp_name fun Q1 hQ1 => ?_
  simp (maxSteps := 1000000) (disch := first | omega | (simp; done) | (simp; omega)) [W_id, bys_app, bys_snoc, f_custodyref01_Same_l0]
  rw [awp_cond]
  refine ⟨by simp, fun h1 => ?_, fun h1 => ?_⟩ <;> simp at h1
  · have h1' : i < a.length := by omega
    simp (maxSteps := 1000000) (disch := first | omega | (simp; done) | (simp; omega)) [W_id, bys_app, bys_snoc, f_custodyref01_Same_r1, hd_bys]
    refine ⟨by omega, by omega, by omega, by omega, ?_⟩
    rw [awp_cond]
    refine ⟨by simp, fun h2 => ?_, fun h2 => ?_⟩ <;> simp at h2
    · have : (a == b) = false := by simpa using fun e : a = b => h2 (by rw [e])
      simp (maxSteps := 1000000) (disch := first | omega | (simp; done) | (simp; omega)) [W_id, bys_app, bys_snoc, hQ1, hQ0, sameC, this]
    · simp (maxSteps := 1000000) (disch := first | omega | (simp; done) | (simp; omega)) [W_id, bys_app, bys_snoc, hQ1]
      refine ⟨i + 1, by omega, ⟨by omega, ?_⟩, by simp⟩
      have h3 : i < b.length := by omega
      have h4 : a[i] = b[i] := by simpa [at8, List.getD, List.getElem?_eq_getElem h1', List.getElem?_eq_getElem h3] using h2
      rw [List.take_succ_eq_append_getElem h1', List.take_succ_eq_append_getElem h3, he, h4]
  · have e : i = a.length := by omega
    subst e
    have : (a == b) = true := by
      rw [List.take_length, hl, List.take_length] at he
      simpa using he
    simp (maxSteps := 1000000) (disch := first | omega | (simp; done) | (simp; omega)) [W_id, bys_app, bys_snoc, hQ1, hQ0, f_custodyref01_Same_r2, sameC, this]
theorem cnt_ok (E : Env) (h45 : E.G 45 = getIntC) : ∀ ds, cntC.pre ds → ds.length = f_wire_count.n ∧ awp E f_wire_count.body (retQ f_wire_count.res (cntC.post ds)) (initSt f_wire_count.wr ds) := by
  rintro _ ⟨nl, b, s, hb, hs0, hs1, rfl⟩
  rw [cntC, onC_post, Int.toNat_natCast]
  rcases getI_err b with ⟨n, u, hg⟩ | hg | hg
  · obtain ⟨h1, h2, h3, h4⟩ := getI_ok hg
    have hq : ((b.length : Int) - u).tdiv s = (((b.length - u) / s : Nat) : Int) := by
      rw [Int.tdiv_eq_ediv_of_nonneg (by omega), show (b.length : Int) - u = ((b.length - u : Nat) : Int) by omega]; rfl
    have hq2 : (b.length - u) / s ≤ b.length := Nat.le_trans (Nat.div_le_self _ _) (by omega)
    have hE : cntE b s = if n < 0 then 6 else if (b.length - u) / s < n.toNat then 5 else 0 := by unfold cntE; rw [hg]; simp
    rw [hE, hg]
    generalize (b.length - u) / s = q at *
    have hu9 := encI_len h1
    simp (maxSteps := 1000000) (disch := first | omega | (simp; done) | (simp; omega)) [W_id, bys_app, bys_snoc, f_wire_count, h45, getIntC, onB_pre, vI, hg, tri_def, hq]
    rw [awp_cond]
    refine ⟨by simp, fun h => ?_, fun h => ?_⟩ <;> simp at h
    simp (maxSteps := 1000000) (disch := first | omega | (simp; done) | (simp; omega)) [W_id, bys_app, bys_snoc]
    rw [awp_cond]
    refine ⟨by simp, fun h5 => ?_, fun h5 => ?_⟩ <;> simp at h5
    · simp (maxSteps := 1000000) (disch := first | omega | (simp; done) | (simp; omega)) [W_id, bys_app, bys_snoc, h5, f_wire_count_r0]
    simp (maxSteps := 1000000) (disch := first | omega | (simp; done) | (simp; omega)) [W_id, bys_app, bys_snoc, hq]
    refine ⟨by omega, ?_⟩
    rw [awp_cond]
    refine ⟨by simp, fun h6 => ?_, fun h6 => ?_⟩ <;> simp at h6
    · have e1 : ¬ n < 0 := by omega
      simp (maxSteps := 1000000) (disch := first | omega | (simp; done) | (simp; omega)) [W_id, bys_app, bys_snoc, h6, f_wire_count_r0, e1]
    · have e1 : ¬ n < 0 := by omega
      have e2 : ¬ (q : Int) < n := by omega
      simp (maxSteps := 1000000) (disch := first | omega | (simp; done) | (simp; omega)) [W_id, bys_app, bys_snoc, h6, f_wire_count_r0, e1, e2]
  · simp (maxSteps := 1000000) (disch := first | omega | (simp; done) | (simp; omega)) [W_id, bys_app, bys_snoc, f_wire_count, h45, getIntC, onB_pre, vI, hg, cntE, tri_def]
    rw [awp_cond]
    refine ⟨by simp, fun h => ?_, fun h => ?_⟩ <;> simp at h
    simp (maxSteps := 1000000) (disch := first | omega | (simp; done) | (simp; omega)) [W_id, bys_app, bys_snoc, f_wire_count_r0]
  · simp (maxSteps := 1000000) (disch := first | omega | (simp; done) | (simp; omega)) [W_id, bys_app, bys_snoc, f_wire_count, h45, getIntC, onB_pre, vI, hg, cntE, tri_def]
    rw [awp_cond]
    refine ⟨by simp, fun h => ?_, fun h => ?_⟩ <;> simp at h
    simp (maxSteps := 1000000) (disch := first | omega | (simp; done) | (simp; omega)) [W_id, bys_app, bys_snoc, f_wire_count_r0]
theorem rcnt_ok (E : Env) (h46 : E.G 46 = getIntC) : ∀ ds, rcntC.pre ds → ds.length = f_custodyref01_count.n ∧ awp E f_custodyref01_count.body (retQ f_custodyref01_count.res (rcntC.post ds)) (initSt f_custodyref01_count.wr ds) := by
  rintro _ ⟨nl, b, s, hb, hs0, hs1, rfl⟩
  rw [rcntC, onC_post, Int.toNat_natCast]
  rcases getI_err b with ⟨n, u, hg⟩ | hg | hg
  · obtain ⟨h1, h2, h3, h4⟩ := getI_ok hg
    have hu9 := encI_len h1
    have hE : cntE b s = if n < 0 then 6 else if (b.length - u) / s < n.toNat then 5 else 0 := by unfold cntE; rw [hg]; simp
    rw [hg]
    generalize cntE b s = ce at *
    simp (maxSteps := 1000000) (disch := first | omega | (simp; done) | (simp; omega)) [W_id, bys_app, bys_snoc, f_custodyref01_count, h46, getIntC, onB_pre, vI, hg, tri_def]
    rw [awp_cond]
    refine ⟨by simp, fun h => ?_, fun h => ?_⟩ <;> simp at h
    simp (maxSteps := 1000000) (disch := first | omega | (simp; done) | (simp; omega)) [W_id, bys_app, bys_snoc, f_custodyref01_count_r0]
    rw [awp_cond]
    refine ⟨by simp, fun h5 => ?_, fun h5 => ?_⟩ <;> simp at h5
    · rw [if_pos h5] at hE
      simp (maxSteps := 1000000) (disch := first | omega | (simp; done) | (simp; omega)) [W_id, bys_app, bys_snoc, hE]
    have h5' : ¬ n < 0 := by omega
    rw [if_neg h5'] at hE
    simp (maxSteps := 1000000) (disch := first | omega | (simp; done) | (simp; omega)) [W_id, bys_app, bys_snoc, f_custodyref01_count_r1]
    by_cases h6 : (b.length : Int) < n
    · have e1 : ce = 5 := by
        rw [hE, if_pos]
        have := Nat.div_le_self (b.length - u) s
        omega
      simp (maxSteps := 1000000) (disch := first | omega | (simp; done) | (simp; omega)) [W_id, bys_app, bys_snoc, dT, dF, e1]
      rw [awp_cond]
      refine ⟨by simp, fun h7 => ?_, fun h7 => ?_⟩ <;> simp at h7
      simp (maxSteps := 1000000) (disch := first | omega | (simp; done) | (simp; omega)) [W_id, bys_app, bys_snoc]
    · have hm : n * (s : Int) ≤ 1000000000000 := by
        have := Int.mul_le_mul (show n ≤ 1000000000 by omega) (show (s : Int) ≤ 1000 by omega) (by omega) (by omega)
        omega
      have hm0 : 0 ≤ n * (s : Int) := Int.mul_nonneg (by omega) (by omega)
      have hd : (b.length - u) / s < n.toNat ↔ (b.length : Int) - u < n * s := by
        rw [Nat.div_lt_iff_lt_mul hs0]
        have : ((n.toNat * s : Nat) : Int) = n * s := by rw [Int.natCast_mul]; congr 1; omega
        omega
      have hW : W (n * (s : Int)) = n * s := by
        generalize n * (s : Int) = p at *
        exact W_id (by omega) (by omega)
      simp (maxSteps := 1000000) (disch := first | omega | (simp; done) | (simp; omega)) [W_id, bys_app, bys_snoc, dT, dF, hW]
      rw [awp_cond]
      refine ⟨by simp, fun h7 => ?_, fun h7 => ?_⟩ <;> simp at h7
      · have e1 : ce = 5 := by rw [hE, if_pos (hd.2 h7)]
        simp (maxSteps := 1000000) (disch := first | omega | (simp; done) | (simp; omega)) [W_id, bys_app, bys_snoc, e1]
      · have e1 : ce = 0 := by rw [hE, if_neg (fun e => by have := hd.1 e; omega)]
        simp (maxSteps := 1000000) (disch := first | omega | (simp; done) | (simp; omega)) [W_id, bys_app, bys_snoc, e1, f_custodyref01_count_r2]
  · have hE : cntE b s = 5 := by unfold cntE; rw [hg]; simp
    simp (maxSteps := 1000000) (disch := first | omega | (simp; done) | (simp; omega)) [W_id, bys_app, bys_snoc, f_custodyref01_count, h46, getIntC, onB_pre, vI, hg, hE, tri_def]
    rw [awp_cond]
    refine ⟨by simp, fun h => ?_, fun h => ?_⟩ <;> simp at h
    simp (maxSteps := 1000000) (disch := first | omega | (simp; done) | (simp; omega)) [W_id, bys_app, bys_snoc]
  · have hE : cntE b s = 6 := by unfold cntE; rw [hg]; simp
    simp (maxSteps := 1000000) (disch := first | omega | (simp; done) | (simp; omega)) [W_id, bys_app, bys_snoc, f_custodyref01_count, h46, getIntC, onB_pre, vI, hg, hE, tri_def]
    rw [awp_cond]
    refine ⟨by simp, fun h => ?_, fun h => ?_⟩ <;> simp at h
    simp (maxSteps := 1000000) (disch := first | omega | (simp; done) | (simp; omega)) [W_id, bys_app, bys_snoc]
theorem getbytes_ok (E : Env) (h47 : E.G 47 = cntC) : ∀ ds, getBytesC.pre ds → ds.length = f_wire_GetBytes.n ∧ awp E f_wire_GetBytes.body (retQ f_wire_GetBytes.res (getBytesC.post ds)) (initSt f_wire_GetBytes.wr ds) := by
  rintro _ ⟨nl, b, hb, rfl⟩
  rw [getBytesC, onB_post, getS]
  rcases cnt_cases b 1 (by decide) with (hE | hE) | ⟨hE, n, u, hg, hu, hn, hu9⟩
  · simp (maxSteps := 1000000) (disch := first | omega | (simp; done) | (simp; omega)) [W_id, bys_app, bys_snoc, f_wire_GetBytes, h47, cntC, onC_pre, hE, tri_def]
    rw [awp_cond]
    refine ⟨by simp, fun h => ?_, fun h => ?_⟩ <;> simp at h
    simp (maxSteps := 1000000) (disch := first | omega | (simp; done) | (simp; omega)) [W_id, bys_app, bys_snoc]
  · simp (maxSteps := 1000000) (disch := first | omega | (simp; done) | (simp; omega)) [W_id, bys_app, bys_snoc, f_wire_GetBytes, h47, cntC, onC_pre, hE, tri_def]
    rw [awp_cond]
    refine ⟨by simp, fun h => ?_, fun h => ?_⟩ <;> simp at h
    simp (maxSteps := 1000000) (disch := first | omega | (simp; done) | (simp; omega)) [W_id, bys_app, bys_snoc]
  · simp (maxSteps := 1000000) (disch := first | omega | (simp; done) | (simp; omega)) [W_id, bys_app, bys_snoc, f_wire_GetBytes, h47, cntC, onC_pre, hE, hg, tri_def]
    rw [awp_cond]
    refine ⟨by simp, fun h => ?_, fun h => ?_⟩ <;> simp at h
    simp (maxSteps := 1000000) (disch := first | omega | (simp; done) | (simp; omega)) [W_id, bys_app, bys_snoc, f_wire_GetBytes_r0]
    omega
theorem rgetbytes_ok (E : Env) (h49 : E.G 49 = rcntC) : ∀ ds, getBytesC.pre ds → ds.length = f_custodyref01_GetBytes.n ∧ awp E f_custodyref01_GetBytes.body (retQ f_custodyref01_GetBytes.res (getBytesC.post ds)) (initSt f_custodyref01_GetBytes.wr ds) := by
  rintro _ ⟨nl, b, hb, rfl⟩
  rw [getBytesC, onB_post, getS]
  rcases cnt_cases b 1 (by decide) with (hE | hE) | ⟨hE, n, u, hg, hu, hn, hu9⟩
  · simp (maxSteps := 1000000) (disch := first | omega | (simp; done) | (simp; omega)) [W_id, bys_app, bys_snoc, f_custodyref01_GetBytes, h49, rcntC, onC_pre, hE, tri_def]
    rw [awp_cond]
    refine ⟨by simp, fun h => ?_, fun h => ?_⟩ <;> simp at h
    simp (maxSteps := 1000000) (disch := first | omega | (simp; done) | (simp; omega)) [W_id, bys_app, bys_snoc]
  · simp (maxSteps := 1000000) (disch := first | omega | (simp; done) | (simp; omega)) [W_id, bys_app, bys_snoc, f_custodyref01_GetBytes, h49, rcntC, onC_pre, hE, tri_def]
    rw [awp_cond]
    refine ⟨by simp, fun h => ?_, fun h => ?_⟩ <;> simp at h
    simp (maxSteps := 1000000) (disch := first | omega | (simp; done) | (simp; omega)) [W_id, bys_app, bys_snoc]
  · simp (maxSteps := 1000000) (disch := first | omega | (simp; done) | (simp; omega)) [W_id, bys_app, bys_snoc, f_custodyref01_GetBytes, h49, rcntC, onC_pre, hE, hg, tri_def]
    rw [awp_cond]
    refine ⟨by simp, fun h => ?_, fun h => ?_⟩ <;> simp at h
    simp (maxSteps := 1000000) (disch := first | omega | (simp; done) | (simp; omega)) [W_id, bys_app, bys_snoc, f_custodyref01_GetBytes_r0]
    omega
end Go.Abs
end

section
namespace Go.Abs
theorem read_ok (E : Env) : ∀ ds p, readC.pre ds → ds.length = f_wire_reader.n ∧ awp E f_wire_reader.body (retM f_wire_reader.res readC p ds) (initM readC.bx p ds) := by
  rintro _ p ⟨nl, b, i, hb, hi, rfl⟩
  simp (maxSteps := 1000000) (disch := first | omega | (simp; done) | (simp; omega)) [W_id, bys_app, bys_snoc, f_wire_reader, readC]
theorem next_ok (E : Env) (h45 : E.G 45 = getIntC) : ∀ ds p, nextC.pre ds → ds.length = f_wire_reader_1.n ∧ awp E f_wire_reader_1.body (retM f_wire_reader_1.res nextC p ds) (initM nextC.bx p ds) := by
  rintro _ p ⟨nl, b, i, hb, hi, rfl⟩
  have hu := getI_used (b.drop i)
  rw [List.length_drop] at hu
  have ht : (b.drop i).take (b.length - i) = b.drop i := List.take_of_length_le (by simp)
  simp (maxSteps := 1000000) (disch := first | omega | (simp; done) | (simp; omega)) [W_id, bys_app, bys_snoc, f_wire_reader_1, nextC, nxtB, nxtI, h45, getIntC, onB_pre, vI, tri_def, ht]
  omega
theorem getints_ok (E : Env) (h47 : E.G 47 = cntC) (h51 : E.M 51 = readC) (h61 : E.M 61 = nextC) : ∀ ds, getIntsC.pre ds → ds.length = f_wire_GetInts.n ∧ awp E f_wire_GetInts.body (retQ f_wire_GetInts.res (getIntsC.post ds)) (initSt f_wire_GetInts.wr ds) := by
  rintro _ ⟨nl, b, hb, rfl⟩
  rw [getIntsC, onB_post, getLs]
  rcases cnt_cases b 1 (by decide) with (hE | hE) | ⟨hE, n, u, hg, hu, hn, hu9⟩
  · simp (maxSteps := 1000000) (disch := first | omega | (simp; done) | (simp; omega)) [W_id, bys_app, bys_snoc, f_wire_GetInts, h47, cntC, onC_pre, hE, tri_def, vIs]
    rw [awp_cond]
    refine ⟨by simp, fun h => ?_, fun h => ?_⟩ <;> simp at h
    simp (maxSteps := 1000000) (disch := first | omega | (simp; done) | (simp; omega)) [W_id, bys_app, bys_snoc]
  · simp (maxSteps := 1000000) (disch := first | omega | (simp; done) | (simp; omega)) [W_id, bys_app, bys_snoc, f_wire_GetInts, h47, cntC, onC_pre, hE, tri_def, vIs]
    rw [awp_cond]
    refine ⟨by simp, fun h => ?_, fun h => ?_⟩ <;> simp at h
    simp (maxSteps := 1000000) (disch := first | omega | (simp; done) | (simp; omega)) [W_id, bys_app, bys_snoc]
  · have hu' : (u : Int) ≤ b.length := by omega
    rw [if_pos hE, hg, Int.toNat_natCast]
    simp (maxSteps := 1000000) (disch := first | omega | (simp; done) | (simp; omega)) [W_id, bys_app, bys_snoc, f_wire_GetInts, h47, cntC, onC_pre, hE, hg, tri_def]
    rw [awp_cond]
    refine ⟨by simp, fun h => ?_, fun h => ?_⟩ <;> simp at h
    simp (maxSteps := 1000000) (disch := first | omega | (simp; done) | (simp; omega)) [W_id, bys_app, bys_snoc, f_wire_GetInts_r0, h51, read_pre]
    refine awp_name fun Q0 hQ0 => ?_
    refine awp_for (fun p : Nat × List Int × Nat => ⟨[(0, .sl .plain nl b.length (bys b))],
        [(6, i64 p.2.2), (8, .fn 61 [] [.bp 24 0, .bp 1024 0]), (9, .sl (.own 1) none p.2.1.length (ints p.2.1)), (25, i64 n), (26, i64 p.1)],
        [(24, some [.sl .plain nl b.length (bys b)]), (1024, some [i64 p.2.2])]⟩)
      (fun p => n - p.1) (fun p => p.1 ≤ n ∧ p.2.1.length = p.1 ∧ p.2.2 ≤ b.length ∧ pre p.2.1 (getL getI (n - p.1) b p.2.2) = getL getI n b u) (0, [], u) rfl ⟨by omega, rfl, hu, pre_nil _ _ _ _⟩ fun p hp => ?_
    obtain ⟨i, out, c⟩ := p
    obtain ⟨hi, hl, hc, hR⟩ := hp
    simp only at hi hl hc hR
    refine awp_name fun Q1 hQ1 => ?_
    simp (maxSteps := 1000000) (disch := first | omega | (simp; done) | (simp; omega)) [W_id, bys_app, bys_snoc, f_wire_GetInts_l0]
    rw [awp_cond]
    refine ⟨by simp, fun h1 => ?_, fun h1 => ?_⟩ <;> simp at h1
    · have h1' : i < n := by omega
      obtain ⟨k, hk⟩ : ∃ k, n - i = k + 1 := ⟨n - i - 1, by omega⟩
      rw [hk] at hR
      have hc' : (c : Int) ≤ b.length := by omega
      obtain ⟨g1, g2, g3⟩ := getI_used (b.drop c)
      rw [List.length_drop] at g1
      simp (maxSteps := 1000000) (disch := first | omega | (simp; done) | (simp; omega)) [W_id, bys_app, bys_snoc, f_wire_GetInts_r1, h61, next_pre, tri_def]
      rw [awp_cond]
      refine ⟨by simp, fun h2 => ?_, fun h2 => ?_⟩ <;> simp at h2
      · have h2' : (getI (b.drop c)).2.2 ≠ 0 := by omega
        rw [pre_fail h2'] at hR
        simp (maxSteps := 1000000) (disch := first | omega | (simp; done) | (simp; omega)) [W_id, bys_app, bys_snoc, hQ1, hQ0, ← hR, vIs, tri_def]
      · have h2' : (getI (b.drop c)).2.2 = 0 := by omega
        rw [pre_step h2'] at hR
        simp (maxSteps := 1000000) (disch := first | omega | (simp; done) | (simp; omega)) [W_id, bys_app, bys_snoc, f_wire_GetInts_r2, hQ1, ints_snoc]
        refine ⟨by omega, i + 1, by omega, out ++ [(getI (b.drop c)).1], c + (getI (b.drop c)).2.1, ⟨by omega, by simp; omega, by omega, ?_⟩, by simp⟩
        rw [show n - (i + 1) = k by omega]
        exact hR
    · have e : i = n := by omega
      subst e
      rw [Nat.sub_self, pre_end] at hR
      simp (maxSteps := 1000000) (disch := first | omega | (simp; done) | (simp; omega)) [W_id, bys_app, bys_snoc, hQ1, hQ0, f_wire_GetInts_r3, ← hR, vIs, tri_def]
theorem rgetints_ok (E : Env) (h46 : E.G 46 = getIntC) (h49 : E.G 49 = rcntC) : ∀ ds, getIntsC.pre ds → ds.length = f_custodyref01_GetInts.n ∧ awp E f_custodyref01_GetInts.body (retQ f_custodyref01_GetInts.res (getIntsC.post ds)) (initSt f_custodyref01_GetInts.wr ds) := by
  rintro _ ⟨nl, b, hb, rfl⟩
  rw [getIntsC, onB_post, getLs]
  rcases cnt_cases b 1 (by decide) with (hE | hE) | ⟨hE, n, u, hg, hu, hn, hu9⟩
  · simp (maxSteps := 1000000) (disch := first | omega | (simp; done) | (simp; omega)) [W_id, bys_app, bys_snoc, f_custodyref01_GetInts, h49, rcntC, onC_pre, hE, tri_def, vIs]
    rw [awp_cond]
    refine ⟨by simp, fun h => ?_, fun h => ?_⟩ <;> simp at h
    simp (maxSteps := 1000000) (disch := first | omega | (simp; done) | (simp; omega)) [W_id, bys_app, bys_snoc]
  · simp (maxSteps := 1000000) (disch := first | omega | (simp; done) | (simp; omega)) [W_id, bys_app, bys_snoc, f_custodyref01_GetInts, h49, rcntC, onC_pre, hE, tri_def, vIs]
    rw [awp_cond]
    refine ⟨by simp, fun h => ?_, fun h => ?_⟩ <;> simp at h
    simp (maxSteps := 1000000) (disch := first | omega | (simp; done) | (simp; omega)) [W_id, bys_app, bys_snoc]
  · have hu' : (u : Int) ≤ b.length := by omega
    rw [if_pos hE, hg, Int.toNat_natCast]
    simp (maxSteps := 1000000) (disch := first | omega | (simp; done) | (simp; omega)) [W_id, bys_app, bys_snoc, f_custodyref01_GetInts, h49, rcntC, onC_pre, hE, hg, tri_def]
    rw [awp_cond]
    refine ⟨by simp, fun h => ?_, fun h => ?_⟩ <;> simp at h
    simp (maxSteps := 1000000) (disch := first | omega | (simp; done) | (simp; omega)) [W_id, bys_app, bys_snoc, f_custodyref01_GetInts_r0]
    refine awp_name fun Q0 hQ0 => ?_
    refine awp_for (fun p : Nat × List Int × Nat => ⟨[(0, .sl .plain nl b.length (bys b))],
        [(5, i64 n), (6, i64 p.2.2), (8, .sl (.own 1) none p.2.1.length (ints p.2.1)), (9, i64 p.1)], []⟩)
      (fun p => n - p.1) (fun p => p.1 ≤ n ∧ p.2.1.length = p.1 ∧ p.2.2 ≤ b.length ∧ pre p.2.1 (getL getI (n - p.1) b p.2.2) = getL getI n b u) (0, [], u) rfl ⟨by omega, rfl, hu, pre_nil _ _ _ _⟩ fun p hp => ?_
    obtain ⟨i, out, c⟩ := p
    obtain ⟨hi, hl, hc, hR⟩ := hp
    simp only at hi hl hc hR
    refine awp_name fun Q1 hQ1 => ?_
    simp (maxSteps := 1000000) (disch := first | omega | (simp; done) | (simp; omega)) [W_id, bys_app, bys_snoc, f_custodyref01_GetInts_l0]
    rw [awp_cond]
    refine ⟨by simp, fun h1 => ?_, fun h1 => ?_⟩ <;> simp at h1
    · have h1' : i < n := by omega
      obtain ⟨k, hk⟩ : ∃ k, n - i = k + 1 := ⟨n - i - 1, by omega⟩
      rw [hk] at hR
      have hc' : (c : Int) ≤ b.length := by omega
      have ht : (b.drop c).take (b.length - c) = b.drop c := List.take_of_length_le (by simp)
      obtain ⟨g1, g2, g3⟩ := getI_used (b.drop c)
      rw [List.length_drop] at g1
      simp (maxSteps := 1000000) (disch := first | omega | (simp; done) | (simp; omega)) [W_id, bys_app, bys_snoc, f_custodyref01_GetInts_r1, h46, getIntC, onB_pre, vI, tri_def, ht]
      refine ⟨by omega, ?_⟩
      rw [awp_cond]
      refine ⟨by simp, fun h2 => ?_, fun h2 => ?_⟩ <;> simp at h2
      · have h2' : (getI (b.drop c)).2.2 ≠ 0 := by omega
        rw [pre_fail h2'] at hR
        simp (maxSteps := 1000000) (disch := first | omega | (simp; done) | (simp; omega)) [W_id, bys_app, bys_snoc, hQ1, hQ0, ← hR, vIs, tri_def]
      · have h2' : (getI (b.drop c)).2.2 = 0 := by omega
        rw [pre_step h2'] at hR
        simp (maxSteps := 1000000) (disch := first | omega | (simp; done) | (simp; omega)) [W_id, bys_app, bys_snoc, f_custodyref01_GetInts_r2, hQ1, ints_snoc]
        refine ⟨by omega, i + 1, by omega, out ++ [(getI (b.drop c)).1], c + (getI (b.drop c)).2.1, ⟨by omega, by simp; omega, by omega, ?_⟩, by simp⟩
        rw [show n - (i + 1) = k by omega]
        exact hR
    · have e : i = n := by omega
      subst e
      rw [Nat.sub_self, pre_end] at hR
      simp (maxSteps := 1000000) (disch := first | omega | (simp; done) | (simp; omega)) [W_id, bys_app, bys_snoc, hQ1, hQ0, f_custodyref01_GetInts_r3, ← hR, vIs, tri_def]
end Go.Abs
end
